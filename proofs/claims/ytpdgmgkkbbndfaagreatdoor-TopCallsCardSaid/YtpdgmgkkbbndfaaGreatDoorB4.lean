/- Part 5 of the proof: texts that the last one builds upon. Conditions: as each theorem says. -/
import Derived.Test.YtpdgmgkkbbndfaaGreatDoorB3
set_option linter.unusedSectionVars false
set_option linter.unusedSimpArgs false
set_option linter.unusedVariables false
set_option maxRecDepth 100000
set_option maxHeartbeats 1600000
namespace Go.Proofs.YtpdgmgkkbbndfaaGreatDoor
open Go Go.Proofs Go.Proofs.YtpdgmgkkbbndfaaGreatDoor.SX
def nmVia : List UInt8 := [86, 105, 97]
def nmCon : List UInt8 := [67, 111, 110, 116, 97, 99, 116]
def nmLen : List UInt8 := [67, 111, 110, 116, 101, 110, 116, 45, 76, 101, 110, 103, 116, 104]
def sgCall : List UInt8 := [73, 78, 86, 73, 84, 69, 32, 115, 105, 112, 58, 98, 32, 83, 73, 80, 47, 50, 46, 48]
def cVia (h : List UInt8) : List UInt8 := mkVia ++ (h ++ [59, 98, 114, 97, 110, 99, 104, 61, 49])
def cRows (h : List UInt8) (n : Nat) : List (List AV) := [[.str nmVia, .str (cVia h)], [.str nmCon, .str (v2 h)], [.str nmLen, .str (spItoa (n : Int))]]
def cO : List UInt8 := [111, 61, 97, 32, 49, 32, 49]
def cAud : List UInt8 := [97, 117, 100, 105, 111]
def cRtp : List UInt8 := [82, 84, 80, 47, 65, 86, 80, 32, 48]
def cMed (m : List UInt8) : List UInt8 := 109 :: 61 :: (cAud ++ 32 :: (m ++ 32 :: cRtp))
def cBody (h m : List UInt8) : List UInt8 := [118, 61, 48] ++ (crlf ++ ((cO ++ (sgOrig ++ h)) ++ (crlf ++ ((sgConn ++ h) ++ (crlf ++ (cMed m ++ (crlf ++ [])))))))
theorem lines_cons {l r : List UInt8} (h : ∀ c ∈ l, c ≠ 13) : spLines (l ++ (crlf ++ r)) = (l, [13, 10]) :: spLines r := by
  obtain ⟨k1, k2, k3⟩ := cut_over (a := 13) (t := [10]) (s := crlf ++ r) h
  obtain ⟨j1, j2, j3⟩ := cut_hit (s := crlf ++ r) (t := [13, 10]) (by decide) (by simp [crlf])
  have e1 : spFound (l ++ (crlf ++ r)) [13, 10] = true := k1.trans j1
  have e2 : spBefore (l ++ (crlf ++ r)) [13, 10] = l := by rw [k2, j2, List.append_nil]
  have e3 : spAfter (l ++ (crlf ++ r)) [13, 10] = r := by rw [k3, j3]; rfl
  have hl := congrArg List.length (cut_back e1)
  simp only [List.length_append, List.length_cons, List.length_nil] at hl
  unfold spLines
  rw [spLinesF, e1, cond_true, e2, e3]
  congr 1
  refine linesF_fuel _ _ _ ?_ (Nat.lt_succ_self _)
  have hc : crlf.length = 2 := rfl
  rw [List.length_append, List.length_append]; omega
theorem plain_13 {l : List UInt8} (h : ∀ c ∈ l, plainC c = true) : ∀ c ∈ l, c ≠ 13 := fun c hc => plain_ne (h c hc) (by decide)
theorem app13 {a b : List UInt8} (ha : ∀ c ∈ a, c ≠ 13) (hb : ∀ c ∈ b, c ≠ 13) : ∀ c ∈ a ++ b, c ≠ 13 := fun c hc => by
  rcases List.mem_append.1 hc with h | h
  · exact ha c h
  · exact hb c h
theorem cMed13 {m : List UInt8} (hm : ∀ c ∈ m, plainC c = true) : ∀ c ∈ cMed m, c ≠ 13 := by
  have e : cMed m = (109 :: 61 :: cAud ++ [32]) ++ (m ++ 32 :: cRtp) := by unfold cMed; simp
  rw [e]
  exact app13 (by decide) (app13 (plain_13 hm) (by decide))
theorem call_lines {h m : List UInt8} (hh : ∀ c ∈ h, plainC c = true) (hm : ∀ c ∈ m, plainC c = true) :
    spLines (cBody h m) = [([118, 61, 48], [13, 10]), (cO ++ (sgOrig ++ h), [13, 10]), (sgConn ++ h, [13, 10]), (cMed m, [13, 10]), ([], [])] := by
  unfold cBody
  rw [lines_cons (by decide), lines_cons (app13 (by decide) (app13 (by decide) (plain_13 hh))), lines_cons (app13 (by decide) (plain_13 hh)), lines_cons (cMed13 hm)]
  rfl
theorem medN_no {l : List UInt8} (h : spHasPre l [109, 61] = false) : spMedN l = 0 := by
  unfold spMedN
  cases hk : spMedK l with
  | false => rfl
  | true =>
    obtain ⟨_, h2, _⟩ := (med_cls l).1 hk
    rw [h2] at h; cases h
theorem med_call {n : Nat} (h1 : 1 ≤ n) (h2 : n ≤ 65535) : MedLine (cMed (spItoa (n : Int))) cAud n cRtp := by
  refine ⟨?_, by decide, by decide, h1, h2⟩
  unfold cMed
  rw [itoa_nat]
theorem v0_pre (c : UInt8) (t : List UInt8) (h : c ≠ 109) : spHasPre (c :: t) [109, 61] = false := by
  unfold spHasPre Lib.hasPrefix
  rw [pre_no h]
theorem call_ports {a : Int} {n : Nat} (h1 : 1 ≤ n) (h2 : n ≤ 65535) : spPorts a (cBody (spDotted a) (spItoa (n : Int))) = [[AV.int .u16 (n : Int)]] := by
  have hl := call_lines (dotted_plain a) (itoa_plain (n := (n : Int)) (by omega))
  have hm := (line_prog (med_call h1 h2)).1
  have n1 : spMedN [118, 61, 48] = 0 := medN_no (v0_pre _ _ (by decide))
  have n2 : spMedN (cO ++ (sgOrig ++ spDotted a)) = 0 := medN_no (v0_pre _ _ (by decide))
  have n3 : spMedN (sgConn ++ spDotted a) = 0 := medN_no (v0_pre _ _ (by decide))
  have n5 : spMedN [] = 0 := medN_no rfl
  unfold spPorts
  rw [hl]
  have hc : (List.map Prod.fst [([118, 61, 48], ([13, 10] : List UInt8)), (cO ++ (sgOrig ++ spDotted a), [13, 10]), (sgConn ++ spDotted a, [13, 10]), (cMed (spItoa (n : Int)), [13, 10]), ([], [])]).any (fun l => spConn l a) = true := by
    rw [List.any_eq_true]
    refine ⟨sgConn ++ spDotted a, by simp, ?_⟩
    unfold spConn
    exact beq_self_eq_true _
  rw [hc, cond_true]
  unfold spPortRows
  simp only [List.map_cons, List.map_nil, List.foldl_cons, List.foldl_nil]
  unfold addPort
  rw [n1, n2, n3, n5]
  have hd : decide (spMedN (cMed (spItoa (n : Int))) > 0) = true := decide_eq_true (by rw [hm]; omega)
  rw [hd]
  have hp : portN (cMed (spItoa (n : Int))) = (n : Int) := by unfold portN; rw [hm]; exact IntWalk.u16_in _ (by omega)
  rw [hp]
  rfl
theorem suf_app (x t : List UInt8) : spHasSuf (x ++ t) t = true ∧ spTrimSuf (x ++ t) t = x := by
  have h : t.isSuffixOf (x ++ t) = true := by rw [List.isSuffixOf_iff_suffix]; exact ⟨x, rfl⟩
  have hh : Lib.hasSuffix (x ++ t) t = true := h
  refine ⟨hh, ?_⟩
  unfold spTrimSuf Lib.trimSuffix
  rw [if_pos hh]
  simp
theorem call_body {a b : Int} {n m : Nat} (h1 : 1 ≤ n) (h2 : n ≤ 65535) (h3 : m ≤ 65535) :
    rwBody a b [[AV.int .u16 (n : Int), AV.int .u16 (m : Int)]] (byteRows (cBody (spDotted a) (spItoa (n : Int)))) = cBody (spDotted b) (spItoa (m : Int)) := by
  obtain ⟨g1, g2, g3⟩ := line_prog (med_call h1 h2)
  have hl := call_lines (dotted_plain a) (itoa_plain (n := (n : Int)) (by omega))
  have n1 : spMedN [118, 61, 48] = 0 := medN_no (v0_pre _ _ (by decide))
  have n5 : spMedN [] = 0 := medN_no rfl
  have hidx0 : spIdx [[AV.int .u16 (n : Int), AV.int .u16 (m : Int)]] 0 = -1 := rfl
  have hidx1 : spIdx [[AV.int .u16 (n : Int), AV.int .u16 (m : Int)]] (n : Int) = 0 := by
    have hw : wasOf [AV.int .u16 (n : Int), AV.int .u16 (m : Int)] = (n : Int) := by
      show IntKind.wrap .i64 (n : Int) = n
      exact IntWalk.i64_in _ (by omega)
    have hh : spHit (n : Int) [AV.int .u16 (n : Int), AV.int .u16 (m : Int)] = true := by
      unfold spHit
      rw [hw, decide_eq_true (by omega : (n : Int) > 0), beq_self_eq_true]; rfl
    unfold spIdx firstAt
    rw [hh]; rfl
  have his : isOf [AV.int .u16 (n : Int), AV.int .u16 (m : Int)] = (m : Int) := by
    show IntKind.wrap .i64 (m : Int) = m
    exact IntWalk.i64_in _ (by omega)
  have q1 : spLine (spDotted a) (spDotted b) [118, 61, 48] [[AV.int .u16 (n : Int), AV.int .u16 (m : Int)]] = [118, 61, 48] := by
    unfold spLine
    have e1 : (([118, 61, 48] : List UInt8) == sgConn ++ spDotted a) = false := rfl
    have e2 : spHasPre (spTrimSuf [118, 61, 48] (sgOrig ++ spDotted a)) [111, 61] = false := by
      have hs : (sgOrig ++ spDotted a).isSuffixOf ([118, 61, 48] : List UInt8) = false := by
        cases h : (sgOrig ++ spDotted a).isSuffixOf ([118, 61, 48] : List UInt8) with
        | false => rfl
        | true =>
          rw [List.isSuffixOf_iff_suffix] at h
          have := h.length_le
          rw [List.length_append] at this
          have h8 : sgOrig.length = 8 := rfl
          have h3 : ([118, 61, 48] : List UInt8).length = 3 := rfl
          omega
      have hh : Lib.hasSuffix [118, 61, 48] (sgOrig ++ spDotted a) = false := hs
      unfold spTrimSuf Lib.trimSuffix
      rw [if_neg (by rw [hh]; exact Bool.false_ne_true)]
      rfl
    rw [e1, cond_false, e2, Bool.and_false, cond_false, n1, hidx0]; rfl
  have q2 : spLine (spDotted a) (spDotted b) (cO ++ (sgOrig ++ spDotted a)) [[AV.int .u16 (n : Int), AV.int .u16 (m : Int)]] = cO ++ (sgOrig ++ spDotted b) := by
    unfold spLine
    have e1 : ((cO ++ (sgOrig ++ spDotted a)) == sgConn ++ spDotted a) = false := rfl
    obtain ⟨e2, e3⟩ := suf_app cO (sgOrig ++ spDotted a)
    rw [e1, cond_false, e2, e3, show spHasPre cO [111, 61] = true by decide]
    simp
  have q3 : spLine (spDotted a) (spDotted b) (sgConn ++ spDotted a) [[AV.int .u16 (n : Int), AV.int .u16 (m : Int)]] = sgConn ++ spDotted b := by
    unfold spLine
    rw [beq_self_eq_true, cond_true]
  have q4 : spLine (spDotted a) (spDotted b) (cMed (spItoa (n : Int))) [[AV.int .u16 (n : Int), AV.int .u16 (m : Int)]] = cMed (spItoa (m : Int)) := by
    unfold spLine
    have e1 : (cMed (spItoa (n : Int)) == sgConn ++ spDotted a) = false := rfl
    have e2 : spHasPre (spTrimSuf (cMed (spItoa (n : Int))) (sgOrig ++ spDotted a)) [111, 61] = false := by
      have hpre : spTrimSuf (cMed (spItoa (n : Int))) (sgOrig ++ spDotted a) = cMed (spItoa (n : Int)) ∨ ∃ k, spTrimSuf (cMed (spItoa (n : Int))) (sgOrig ++ spDotted a) = (cMed (spItoa (n : Int))).take k := by
        unfold spTrimSuf Lib.trimSuffix
        split
        · exact .inr ⟨_, rfl⟩
        · exact .inl rfl
      rcases hpre with e | ⟨k, e⟩
      · rw [e]; unfold spHasPre Lib.hasPrefix cMed; exact pre_no (by decide)
      · rw [e]
        cases k with
        | zero => rfl
        | succ k => unfold spHasPre Lib.hasPrefix cMed; rw [List.take_succ_cons]; exact pre_no (by decide)
    rw [e1, cond_false, e2, Bool.and_false, cond_false, g1, hidx1, g2, g3]
    have hd : decide ((0 : Int) < 0) = false := rfl
    have hg : isOf (List.getD [[AV.int .u16 (n : Int), AV.int .u16 (m : Int)]] (Int.toNat 0) []) = (m : Int) := his
    rw [hd, cond_false, hg]
    simp [cMed]
  have q5 : spLine (spDotted a) (spDotted b) [] [[AV.int .u16 (n : Int), AV.int .u16 (m : Int)]] = [] := by
    unfold spLine
    have e1 : (([] : List UInt8) == sgConn ++ spDotted a) = false := rfl
    have e2 : spHasPre (spTrimSuf [] (sgOrig ++ spDotted a)) [111, 61] = false := by
      unfold spTrimSuf Lib.trimSuffix
      split <;> simp [spHasPre, Lib.hasPrefix]
    rw [e1, cond_false, e2, Bool.and_false, cond_false, n5, hidx0]; rfl
  unfold rwBody
  rw [row_bytes_map, hl]
  unfold outB spLineOut
  simp only [List.map_cons, List.map_nil, q1, q2, q3, q4, q5]
  simp [cBody, crlf]
theorem via_call {a b p tp : Int} (h0 : 1 ≤ p) (h1 : p ≤ 65535) : spBehind (spDotted a) (spDotted b) (cVia (hp a p)) mkVia [59] p tp = cVia (hp b tp) := by
  have hpl := hp_plain (a := a) (p := p) (by omega)
  rw [show cVia (hp a p) = mkVia ++ (hp a p ++ 59 :: [98, 114, 97, 110, 99, 104, 61, 49]) from rfl, behind_of (h := hp a p) (c := 59) (r := [98, 114, 97, 110, 99, 104, 61, 49]) (cut_pre (t := mkVia) (r := hp a p ++ 59 :: [98, 114, 97, 110, 99, 104, 61, 49]) (by decide)) rfl (fun d hd => ?_) rfl, place_hp h0 h1]
  · unfold cVia; simp
  · have := plain_ne (hpl d hd) (show plainC 59 = false by decide)
    simp [this]
theorem hdr_viaC (hs ts : List UInt8) (p tp : Int) (m : Nat) (v : List UInt8) : spHdr hs ts p tp m [.str nmVia, .str v] = [.str nmVia, .str (spBehind hs ts v mkVia [59] p tp)] := by
  unfold spHdr
  rw [show (spLow (hN [.str nmVia, .str v]) == sgVia) = true by show (spLow nmVia == sgVia) = true; decide]
  rfl
theorem hdr_conC (hs ts : List UInt8) (p tp : Int) (m : Nat) (v : List UInt8) : spHdr hs ts p tp m [.str nmCon, .str v] = [.str nmCon, .str (spBehind hs ts v [64] [62, 59] p tp)] := by
  unfold spHdr
  rw [show (spLow (hN [.str nmCon, .str v]) == sgVia) = false by show (spLow nmCon == sgVia) = false; decide,
    show (spLow (hN [.str nmCon, .str v]) == sgContact) = true by show (spLow nmCon == sgContact) = true; decide]
  rfl
theorem call_right {h : List UInt8} {n : Nat} (hc : ∀ c ∈ h, plainC c = true) (hl : h.length ≤ 200) (hn : n ≤ 1000) : spRight sgCall (cRows h n) n = true := by
  have hb := not_crlf hc
  have hi := itoa_plain (n := (n : Int)) (by omega)
  have hib := not_crlf hi
  have b1 : spBroken (cVia h) = false := by unfold spBroken cVia; rw [List.any_append, List.any_append, hb]; rfl
  have b2 : spBroken (v2 h) = false := by unfold spBroken v2; simp only [List.any_append, List.any_cons, List.any_nil, hb]; rfl
  have b3 : spBroken (spItoa (n : Int)) = false := hib
  have t1 : spTrim (cVia h) [32] = cVia h := by
    have e : cVia h = 83 :: (([73, 80, 47, 50, 46, 48, 47, 85, 68, 80, 32] ++ (h ++ [59, 98, 114, 97, 110, 99, 104, 61])) ++ [49]) := by unfold cVia mkVia; simp
    rw [e]; exact trim_ends (by decide) (by decide)
  have t2 : spTrim (v2 h) [32] = v2 h := by
    have e : v2 h = 60 :: (([115, 105, 112, 58, 97] ++ 64 :: h) ++ [62]) := by unfold v2; simp
    rw [e]; exact trim_ends (by decide) (by decide)
  have t3 : (spTrim (spItoa (n : Int)) [32] == spItoa (n : Int)) = true := by
    rw [trim_edge]
    unfold edgeOK
    have hne := (itoa_dig n).2
    have h32 : ∀ c ∈ spItoa (n : Int), ((c.toNat : Nat) : Int) ≠ 32 := fun c hc e => by
      have := plain_ne (hi c hc) (show plainC 32 = false by decide)
      exact this (UInt8.toNat_inj.1 (by show c.toNat = 32; omega))
    cases hs : spItoa (n : Int) with
    | nil => exact absurd hs hne
    | cons c t =>
      have k1 := h32 c (by rw [hs]; exact List.mem_cons_self ..)
      have hlast : (c :: t).getD ((c :: t).length - 1) (0 : UInt8) ∈ spItoa (n : Int) := by
        rw [hs, List.getD_eq_getElem?_getD, List.getElem?_eq_getElem (by simp)]
        exact List.getElem_mem _
      have k2 := h32 _ hlast
      have k3 : (((((c :: t).getD 0 (0 : UInt8)).toNat : Nat) : Int) == 32) = false := by rw [beq_eq_false_iff_ne]; exact k1
      have k4 : (((((c :: t).getD ((c :: t).length - 1) (0 : UInt8)).toNat : Nat) : Int) == 32) = false := by rw [beq_eq_false_iff_ne]; exact k2
      rw [k3, k4]; simp
  have l1 : (cVia h).length = h.length + 21 := by unfold cVia mkVia; simp
  have l2 : (v2 h).length = h.length + 8 := by unfold v2; simp
  have l3 := len_itoa (n : Int) (by omega)
  have n1 : isLen [.str nmVia, .str (cVia h)] = false := by show (spLow nmVia == sgLen) = false; decide
  have n2 : isLen [.str nmCon, .str (v2 h)] = false := by show (spLow nmCon == sgLen) = false; decide
  have n3 : isLen [.str nmLen, .str (spItoa (n : Int))] = true := by show (spLow nmLen == sgLen) = true; decide
  have o1 : okHdr n [.str nmVia, .str (cVia h)] = true := by
    unfold okHdr; rw [n1]
    show (spIsName nmVia && (!spBroken (cVia h) && ((spTrim (cVia h) [32] == cVia h) && (!false || _)))) = true
    rw [b1, t1, show spIsName nmVia = true by decide]; simp
  have o2 : okHdr n [.str nmCon, .str (v2 h)] = true := by
    unfold okHdr; rw [n2]
    show (spIsName nmCon && (!spBroken (v2 h) && ((spTrim (v2 h) [32] == v2 h) && (!false || _)))) = true
    rw [b2, t2, show spIsName nmCon = true by decide]; simp
  have o3 : okHdr n [.str nmLen, .str (spItoa (n : Int))] = true := by
    unfold okHdr; rw [n3]
    show (spIsName nmLen && (!spBroken (spItoa (n : Int)) && ((spTrim (spItoa (n : Int)) [32] == spItoa (n : Int)) && (!true || (spItoa (n : Int) == spItoa (n : Int)))))) = true
    rw [b3, t3, show spIsName nmLen = true by decide]; simp
  unfold spRight cRows
  have hs : hSize [[.str nmVia, .str (cVia h)], [.str nmCon, .str (v2 h)], [.str nmLen, .str (spItoa (n : Int))]] = 3 + (cVia h).length + 4 + (7 + (v2 h).length + 4 + (14 + (spItoa (n : Int)).length + 4)) := rfl
  have hnl : nLens [[.str nmVia, .str (cVia h)], [.str nmCon, .str (v2 h)], [.str nmLen, .str (spItoa (n : Int))]] = 1 := by
    unfold nLens; simp only [List.filter_cons, n1, n2, n3]; rfl
  rw [hs, hnl, l1, l2]
  simp only [List.all_cons, List.all_nil, o1, o2, o3]
  have e : decide (sgCall.length + 4 + n + (3 + (h.length + 21) + 4 + (7 + (h.length + 8) + 4 + (14 + (spItoa (n : Int)).length + 4))) ≤ 4096) = true := decide_eq_true (by simp only [sgCall, List.length_cons, List.length_nil]; omega)
  rw [e]
  rfl
theorem cBody_len (h m : List UInt8) : (cBody h m).length = 2 * h.length + m.length + 53 := by
  simp only [cBody, cMed, cO, sgOrig, sgConn, cAud, cRtp, crlf, List.length_append, List.length_cons, List.length_nil]; omega
theorem itoa_len5 {n : Int} (h : 0 ≤ n ∧ n ≤ 65535) : (spItoa n).length ≤ 21 := len_itoa n (by omega)
def cN (a : Int) (m : Nat) : Nat := (cBody (spDotted a) (spItoa (m : Int))).length
theorem cN_le (a : Int) {m : Nat} (h : m ≤ 65535) : cN a m ≤ 300 := by
  unfold cN
  rw [cBody_len]
  have := len_dotted a
  have := itoa_len5 (n := (m : Int)) (by omega)
  omega
theorem call_rw {a b p q : Int} {n m : Nat} (hp0 : 1 ≤ p) (hp1 : p ≤ 65535) (hq0 : 1 ≤ q) (hq1 : q ≤ 65535) (h1 : 1 ≤ n) (h2 : n ≤ 65535) (h3 : m ≤ 65535) :
    spRwH sgCall a b p q [[AV.int .u16 (n : Int), AV.int .u16 (m : Int)]] (cRows (hp a p) (cN a n)) (byteRows (cBody (spDotted a) (spItoa (n : Int)))) = cRows (hp b q) (cN b m) ∧
    spRwB sgCall a b p q [[AV.int .u16 (n : Int), AV.int .u16 (m : Int)]] (cRows (hp a p) (cN a n)) (byteRows (cBody (spDotted a) (spItoa (n : Int)))) = byteRows (cBody (spDotted b) (spItoa (m : Int))) := by
  have w0 : IntKind.wrap .i64 p = p := IntWalk.i64_in _ (by omega)
  have w1 : IntKind.wrap .i64 q = q := IntWalk.i64_in _ (by omega)
  have eB := call_body (a := a) (b := b) h1 h2 h3
  have e1 : rwHdrs a b p q [[AV.int .u16 (n : Int), AV.int .u16 (m : Int)]] (cRows (hp a p) (cN a n)) (byteRows (cBody (spDotted a) (spItoa (n : Int)))) = cRows (hp b q) (cN b m) := by
    unfold rwHdrs
    rw [eB, w0, w1]
    unfold cRows
    simp only [List.map_cons, List.map_nil]
    rw [hdr_viaC, hdr_conC, via_call hp0 hp1, contact_hp hp0 hp1]
    have := hdr_len (spDotted a) (spDotted b) p q (cBody (spDotted b) (spItoa (m : Int))).length (spItoa ((cN a n : Nat) : Int))
    rw [show ([.str nmLen, .str (spItoa ((cN a n : Nat) : Int))] : List AV) = [.str [67, 111, 110, 116, 101, 110, 116, 45, 76, 101, 110, 103, 116, 104], .str (spItoa ((cN a n : Nat) : Int))] from rfl, this]
    rfl
  have r1 := call_right (n := cN a n) (hp_plain (a := a) (p := p) (by omega)) (by have := hp_len (a := a) (p := p) (by omega) hp1; omega) (by have := cN_le a h2; omega)
  have r2 := call_right (n := cN b m) (hp_plain (a := b) (p := q) (by omega)) (by have := hp_len (a := b) (p := q) (by omega) hq1; omega) (by have := cN_le b h3; omega)
  have e2 : rwOk sgCall a b p q [[AV.int .u16 (n : Int), AV.int .u16 (m : Int)]] (cRows (hp a p) (cN a n)) (byteRows (cBody (spDotted a) (spItoa (n : Int)))) = true := by
    unfold rwOk
    rw [e1, eB, byteRows_length]
    show (spRight sgCall (cRows (hp a p) (cN a n)) (cN a n) && spRight sgCall (cRows (hp b q) (cN b m)) (cN b m)) = true
    rw [r1, r2]; rfl
  unfold spRwH spRwB
  rw [e2, cond_true, cond_true, e1, eB]
  exact ⟨rfl, rfl⟩
end Go.Proofs.YtpdgmgkkbbndfaaGreatDoor

set_option maxRecDepth 100000
set_option maxHeartbeats 6400000
namespace Go.Proofs.YtpdgmgkkbbndfaaGreatDoor
open Go Go.Proofs Go.Proofs.YtpdgmgkkbbndfaaGreatDoor.SX
def Pc : Prims := addP Pr 63 q63
theorem Pc_ok : PrimsOK Tryz.prog Pc := addP_ok Pr_ok q63_ok
def lBody (h m : List UInt8) : List UInt8 := [118, 61, 48, 13, 10, 111, 61, 97, 32, 49, 32, 49, 32, 73, 78, 32, 73, 80, 52, 32] ++ h ++ [13, 10, 99, 61, 73, 78, 32, 73, 80, 52, 32] ++ h ++ [13, 10, 109, 61, 97, 117, 100, 105, 111, 32] ++ m ++ [32, 82, 84, 80, 47, 65, 86, 80, 32, 48, 13, 10]
theorem lBody_eq (h m : List UInt8) : lBody h m = cBody h m := by
  unfold lBody cBody cMed cO sgOrig sgConn cAud cRtp crlf
  simp
theorem c29_ (a : Int) (p : Int) (m : Int) :
 Path (runCallB Tryz.prog Pc 100 29 [AV.int IntKind.u32 a, AV.int IntKind.u16 p, AV.int IntKind.u16 m] (st0 [] ([]))) 0 [5, 6] (SL.mk [] [(0, .cells true [Kd.str, Kd.str] [[.str nmVia, .str (cVia ((sub (List.map rowByte (sub (List.map byteRow (spText (2 : Int) a (1 : Int))) 0 (List.length (List.map byteRow (spText (2 : Int) a (1 : Int)))))) 3 (Int.toNat (IntKind.wrap IntKind.i64 (((List.length (List.map rowByte (sub (List.map byteRow (spText (2 : Int) a (1 : Int))) 0 (List.length (List.map byteRow (spText (2 : Int) a (1 : Int)))))) : Nat) : Int) - (3 : Int))) - 3)) ++ [58] ++ (List.map rowByte (sub (List.map byteRow (spText (4 : Int) (0 : Int) p)) 0 (List.length (List.map byteRow (spText (4 : Int) (0 : Int) p)))))))], [.str nmCon, .str (v2 ((sub (List.map rowByte (sub (List.map byteRow (spText (2 : Int) a (1 : Int))) 0 (List.length (List.map byteRow (spText (2 : Int) a (1 : Int)))))) 3 (Int.toNat (IntKind.wrap IntKind.i64 (((List.length (List.map rowByte (sub (List.map byteRow (spText (2 : Int) a (1 : Int))) 0 (List.length (List.map byteRow (spText (2 : Int) a (1 : Int)))))) : Nat) : Int) - (3 : Int))) - 3)) ++ [58] ++ (List.map rowByte (sub (List.map byteRow (spText (4 : Int) (0 : Int) p)) 0 (List.length (List.map byteRow (spText (4 : Int) (0 : Int) p)))))))], [.str nmLen, .str (List.map rowByte (sub (List.map byteRow (spText (4 : Int) (0 : Int) (IntKind.wrap IntKind.u16 ((List.length (lBody (sub (List.map rowByte (sub (List.map byteRow (spText (2 : Int) a (1 : Int))) 0 (List.length (List.map byteRow (spText (2 : Int) a (1 : Int)))))) 3 (Int.toNat (IntKind.wrap IntKind.i64 (((List.length (List.map rowByte (sub (List.map byteRow (spText (2 : Int) a (1 : Int))) 0 (List.length (List.map byteRow (spText (2 : Int) a (1 : Int)))))) : Nat) : Int) - (3 : Int))) - 3)) (List.map rowByte (sub (List.map byteRow (spText (4 : Int) (0 : Int) m)) 0 (List.length (List.map byteRow (spText (4 : Int) (0 : Int) m)))))) : Nat) : Int)))) 0 (List.length (List.map byteRow (spText (4 : Int) (0 : Int) (IntKind.wrap IntKind.u16 ((List.length (lBody (sub (List.map rowByte (sub (List.map byteRow (spText (2 : Int) a (1 : Int))) 0 (List.length (List.map byteRow (spText (2 : Int) a (1 : Int)))))) 3 (Int.toNat (IntKind.wrap IntKind.i64 (((List.length (List.map rowByte (sub (List.map byteRow (spText (2 : Int) a (1 : Int))) 0 (List.length (List.map byteRow (spText (2 : Int) a (1 : Int)))))) : Nat) : Int) - (3 : Int))) - 3)) (List.map rowByte (sub (List.map byteRow (spText (4 : Int) (0 : Int) m)) 0 (List.length (List.map byteRow (spText (4 : Int) (0 : Int) m)))))) : Nat) : Int)))))))]]), (1, .cells true [Kd.int IntKind.u8] (List.map byteRow (lBody (sub (List.map rowByte (sub (List.map byteRow (spText (2 : Int) a (1 : Int))) 0 (List.length (List.map byteRow (spText (2 : Int) a (1 : Int)))))) 3 (Int.toNat (IntKind.wrap IntKind.i64 (((List.length (List.map rowByte (sub (List.map byteRow (spText (2 : Int) a (1 : Int))) 0 (List.length (List.map byteRow (spText (2 : Int) a (1 : Int)))))) : Nat) : Int) - (3 : Int))) - 3)) (List.map rowByte (sub (List.map byteRow (spText (4 : Int) (0 : Int) m)) 0 (List.length (List.map byteRow (spText (4 : Int) (0 : Int) m))))))))] 2) (Out.ret (ren (sig 0 [5, 6]) (AV.agg [AV.str sgCall, AV.sl (Loc.mk 0 0 0) 3 (Cap.known 3), AV.sl (Loc.mk 1 0 0) (List.length (lBody (sub (List.map rowByte (sub (List.map byteRow (spText (2 : Int) a (1 : Int))) 0 (List.length (List.map byteRow (spText (2 : Int) a (1 : Int)))))) 3 (Int.toNat (IntKind.wrap IntKind.i64 (((List.length (List.map rowByte (sub (List.map byteRow (spText (2 : Int) a (1 : Int))) 0 (List.length (List.map byteRow (spText (2 : Int) a (1 : Int)))))) : Nat) : Int) - (3 : Int))) - 3)) (List.map rowByte (sub (List.map byteRow (spText (4 : Int) (0 : Int) m)) 0 (List.length (List.map byteRow (spText (4 : Int) (0 : Int) m))))))) Cap.open_])))
 ((((((((((((((((((((((((((((((True ∧ (true = true)) ∧ (decide (0 + List.length (List.map byteRow (spText (2 : Int) a (1 : Int))) ≤ List.length (List.map byteRow (spText (2 : Int) a (1 : Int)))) = true)) ∧ (decide ((0 : Int) ≤ (3 : Int) ∧ (3 : Int) ≤ IntKind.wrap IntKind.i64 ((↑(List.length (List.map rowByte (sub (List.map byteRow (spText (2 : Int) a (1 : Int))) 0 (List.length (List.map byteRow (spText (2 : Int) a (1 : Int))))))) : Int) - (3 : Int)) ∧ IntKind.wrap IntKind.i64 ((↑(List.length (List.map rowByte (sub (List.map byteRow (spText (2 : Int) a (1 : Int))) 0 (List.length (List.map byteRow (spText (2 : Int) a (1 : Int))))))) : Int) - (3 : Int)) ≤ (↑(List.length (List.map rowByte (sub (List.map byteRow (spText (2 : Int) a (1 : Int))) 0 (List.length (List.map byteRow (spText (2 : Int) a (1 : Int))))))) : Int)) = true)) ∧ (decide (((4 : Int) = (2 : Int) ∨ (4 : Int) = (4 : Int)) ∧ (0 : Int) ≤ p ∧ p ≤ (65535 : Int)) = true)) ∧ (decide (0 + List.length (List.map byteRow (spText (4 : Int) (0 : Int) p)) ≤ List.length (List.map byteRow (spText (4 : Int) (0 : Int) p))) = true)) ∧ (decide (20 + List.length (sub (List.map rowByte (sub (List.map byteRow (spText (2 : Int) a (1 : Int))) 0 (List.length (List.map byteRow (spText (2 : Int) a (1 : Int)))))) 3 (Int.toNat (IntKind.wrap IntKind.i64 ((↑(List.length (List.map rowByte (sub (List.map byteRow (spText (2 : Int) a (1 : Int))) 0 (List.length (List.map byteRow (spText (2 : Int) a (1 : Int))))))) : Int) - (3 : Int))) - 3)) ≤ 9223372036854775807) = true)) ∧ (decide (List.length ((118 : UInt8) :: (61 : UInt8) :: (48 : UInt8) :: (13 : UInt8) :: (10 : UInt8) :: (111 : UInt8) :: (61 : UInt8) :: (97 : UInt8) :: (32 : UInt8) :: (49 : UInt8) :: (32 : UInt8) :: (49 : UInt8) :: (32 : UInt8) :: (73 : UInt8) :: (78 : UInt8) :: (32 : UInt8) :: (73 : UInt8) :: (80 : UInt8) :: (52 : UInt8) :: (32 : UInt8) :: sub (List.map rowByte (sub (List.map byteRow (spText (2 : Int) a (1 : Int))) 0 (List.length (List.map byteRow (spText (2 : Int) a (1 : Int)))))) 3 (Int.toNat (IntKind.wrap IntKind.i64 ((↑(List.length (List.map rowByte (sub (List.map byteRow (spText (2 : Int) a (1 : Int))) 0 (List.length (List.map byteRow (spText (2 : Int) a (1 : Int))))))) : Int) - (3 : Int))) - 3)) + 11 ≤ 9223372036854775807) = true)) ∧ (decide (List.length ((118 : UInt8) :: (61 : UInt8) :: (48 : UInt8) :: (13 : UInt8) :: (10 : UInt8) :: (111 : UInt8) :: (61 : UInt8) :: (97 : UInt8) :: (32 : UInt8) :: (49 : UInt8) :: (32 : UInt8) :: (49 : UInt8) :: (32 : UInt8) :: (73 : UInt8) :: (78 : UInt8) :: (32 : UInt8) :: (73 : UInt8) :: (80 : UInt8) :: (52 : UInt8) :: (32 : UInt8) :: (sub (List.map rowByte (sub (List.map byteRow (spText (2 : Int) a (1 : Int))) 0 (List.length (List.map byteRow (spText (2 : Int) a (1 : Int)))))) 3 (Int.toNat (IntKind.wrap IntKind.i64 ((↑(List.length (List.map rowByte (sub (List.map byteRow (spText (2 : Int) a (1 : Int))) 0 (List.length (List.map byteRow (spText (2 : Int) a (1 : Int))))))) : Int) - (3 : Int))) - 3) ++ [(13 : UInt8), (10 : UInt8), (99 : UInt8), (61 : UInt8), (73 : UInt8), (78 : UInt8), (32 : UInt8), (73 : UInt8), (80 : UInt8), (52 : UInt8), (32 : UInt8)])) + List.length (sub (List.map rowByte (sub (List.map byteRow (spText (2 : Int) a (1 : Int))) 0 (List.length (List.map byteRow (spText (2 : Int) a (1 : Int)))))) 3 (Int.toNat (IntKind.wrap IntKind.i64 ((↑(List.length (List.map rowByte (sub (List.map byteRow (spText (2 : Int) a (1 : Int))) 0 (List.length (List.map byteRow (spText (2 : Int) a (1 : Int))))))) : Int) - (3 : Int))) - 3)) ≤ 9223372036854775807) = true)) ∧ (decide (List.length ((118 : UInt8) :: (61 : UInt8) :: (48 : UInt8) :: (13 : UInt8) :: (10 : UInt8) :: (111 : UInt8) :: (61 : UInt8) :: (97 : UInt8) :: (32 : UInt8) :: (49 : UInt8) :: (32 : UInt8) :: (49 : UInt8) :: (32 : UInt8) :: (73 : UInt8) :: (78 : UInt8) :: (32 : UInt8) :: (73 : UInt8) :: (80 : UInt8) :: (52 : UInt8) :: (32 : UInt8) :: (sub (List.map rowByte (sub (List.map byteRow (spText (2 : Int) a (1 : Int))) 0 (List.length (List.map byteRow (spText (2 : Int) a (1 : Int)))))) 3 (Int.toNat (IntKind.wrap IntKind.i64 ((↑(List.length (List.map rowByte (sub (List.map byteRow (spText (2 : Int) a (1 : Int))) 0 (List.length (List.map byteRow (spText (2 : Int) a (1 : Int))))))) : Int) - (3 : Int))) - 3) ++ [(13 : UInt8), (10 : UInt8), (99 : UInt8), (61 : UInt8), (73 : UInt8), (78 : UInt8), (32 : UInt8), (73 : UInt8), (80 : UInt8), (52 : UInt8), (32 : UInt8)] ++ sub (List.map rowByte (sub (List.map byteRow (spText (2 : Int) a (1 : Int))) 0 (List.length (List.map byteRow (spText (2 : Int) a (1 : Int)))))) 3 (Int.toNat (IntKind.wrap IntKind.i64 ((↑(List.length (List.map rowByte (sub (List.map byteRow (spText (2 : Int) a (1 : Int))) 0 (List.length (List.map byteRow (spText (2 : Int) a (1 : Int))))))) : Int) - (3 : Int))) - 3))) + 10 ≤ 9223372036854775807) = true)) ∧ (decide (((4 : Int) = (2 : Int) ∨ (4 : Int) = (4 : Int)) ∧ (0 : Int) ≤ m ∧ m ≤ (65535 : Int)) = true)) ∧ (decide (0 + List.length (List.map byteRow (spText (4 : Int) (0 : Int) m)) ≤ List.length (List.map byteRow (spText (4 : Int) (0 : Int) m))) = true)) ∧ (decide (List.length ((118 : UInt8) :: (61 : UInt8) :: (48 : UInt8) :: (13 : UInt8) :: (10 : UInt8) :: (111 : UInt8) :: (61 : UInt8) :: (97 : UInt8) :: (32 : UInt8) :: (49 : UInt8) :: (32 : UInt8) :: (49 : UInt8) :: (32 : UInt8) :: (73 : UInt8) :: (78 : UInt8) :: (32 : UInt8) :: (73 : UInt8) :: (80 : UInt8) :: (52 : UInt8) :: (32 : UInt8) :: (sub (List.map rowByte (sub (List.map byteRow (spText (2 : Int) a (1 : Int))) 0 (List.length (List.map byteRow (spText (2 : Int) a (1 : Int)))))) 3 (Int.toNat (IntKind.wrap IntKind.i64 ((↑(List.length (List.map rowByte (sub (List.map byteRow (spText (2 : Int) a (1 : Int))) 0 (List.length (List.map byteRow (spText (2 : Int) a (1 : Int))))))) : Int) - (3 : Int))) - 3) ++ [(13 : UInt8), (10 : UInt8), (99 : UInt8), (61 : UInt8), (73 : UInt8), (78 : UInt8), (32 : UInt8), (73 : UInt8), (80 : UInt8), (52 : UInt8), (32 : UInt8)] ++ sub (List.map rowByte (sub (List.map byteRow (spText (2 : Int) a (1 : Int))) 0 (List.length (List.map byteRow (spText (2 : Int) a (1 : Int)))))) 3 (Int.toNat (IntKind.wrap IntKind.i64 ((↑(List.length (List.map rowByte (sub (List.map byteRow (spText (2 : Int) a (1 : Int))) 0 (List.length (List.map byteRow (spText (2 : Int) a (1 : Int))))))) : Int) - (3 : Int))) - 3) ++ [(13 : UInt8), (10 : UInt8), (109 : UInt8), (61 : UInt8), (97 : UInt8), (117 : UInt8), (100 : UInt8), (105 : UInt8), (111 : UInt8), (32 : UInt8)])) + List.length (List.map rowByte (sub (List.map byteRow (spText (4 : Int) (0 : Int) m)) 0 (List.length (List.map byteRow (spText (4 : Int) (0 : Int) m))))) ≤ 9223372036854775807) = true)) ∧ (decide (List.length ((118 : UInt8) :: (61 : UInt8) :: (48 : UInt8) :: (13 : UInt8) :: (10 : UInt8) :: (111 : UInt8) :: (61 : UInt8) :: (97 : UInt8) :: (32 : UInt8) :: (49 : UInt8) :: (32 : UInt8) :: (49 : UInt8) :: (32 : UInt8) :: (73 : UInt8) :: (78 : UInt8) :: (32 : UInt8) :: (73 : UInt8) :: (80 : UInt8) :: (52 : UInt8) :: (32 : UInt8) :: (sub (List.map rowByte (sub (List.map byteRow (spText (2 : Int) a (1 : Int))) 0 (List.length (List.map byteRow (spText (2 : Int) a (1 : Int)))))) 3 (Int.toNat (IntKind.wrap IntKind.i64 ((↑(List.length (List.map rowByte (sub (List.map byteRow (spText (2 : Int) a (1 : Int))) 0 (List.length (List.map byteRow (spText (2 : Int) a (1 : Int))))))) : Int) - (3 : Int))) - 3) ++ [(13 : UInt8), (10 : UInt8), (99 : UInt8), (61 : UInt8), (73 : UInt8), (78 : UInt8), (32 : UInt8), (73 : UInt8), (80 : UInt8), (52 : UInt8), (32 : UInt8)] ++ sub (List.map rowByte (sub (List.map byteRow (spText (2 : Int) a (1 : Int))) 0 (List.length (List.map byteRow (spText (2 : Int) a (1 : Int)))))) 3 (Int.toNat (IntKind.wrap IntKind.i64 ((↑(List.length (List.map rowByte (sub (List.map byteRow (spText (2 : Int) a (1 : Int))) 0 (List.length (List.map byteRow (spText (2 : Int) a (1 : Int))))))) : Int) - (3 : Int))) - 3) ++ [(13 : UInt8), (10 : UInt8), (109 : UInt8), (61 : UInt8), (97 : UInt8), (117 : UInt8), (100 : UInt8), (105 : UInt8), (111 : UInt8), (32 : UInt8)] ++ List.map rowByte (sub (List.map byteRow (spText (4 : Int) (0 : Int) m)) 0 (List.length (List.map byteRow (spText (4 : Int) (0 : Int) m)))))) + 12 ≤ 9223372036854775807) = true)) ∧ (decide (12 + List.length (sub (List.map rowByte (sub (List.map byteRow (spText (2 : Int) a (1 : Int))) 0 (List.length (List.map byteRow (spText (2 : Int) a (1 : Int)))))) 3 (Int.toNat (IntKind.wrap IntKind.i64 ((↑(List.length (List.map rowByte (sub (List.map byteRow (spText (2 : Int) a (1 : Int))) 0 (List.length (List.map byteRow (spText (2 : Int) a (1 : Int))))))) : Int) - (3 : Int))) - 3)) ≤ 9223372036854775807) = true)) ∧ (decide (List.length ((83 : UInt8) :: (73 : UInt8) :: (80 : UInt8) :: (47 : UInt8) :: (50 : UInt8) :: (46 : UInt8) :: (48 : UInt8) :: (47 : UInt8) :: (85 : UInt8) :: (68 : UInt8) :: (80 : UInt8) :: (32 : UInt8) :: sub (List.map rowByte (sub (List.map byteRow (spText (2 : Int) a (1 : Int))) 0 (List.length (List.map byteRow (spText (2 : Int) a (1 : Int)))))) 3 (Int.toNat (IntKind.wrap IntKind.i64 ((↑(List.length (List.map rowByte (sub (List.map byteRow (spText (2 : Int) a (1 : Int))) 0 (List.length (List.map byteRow (spText (2 : Int) a (1 : Int))))))) : Int) - (3 : Int))) - 3)) + 1 ≤ 9223372036854775807) = true)) ∧ (decide (List.length ((83 : UInt8) :: (73 : UInt8) :: (80 : UInt8) :: (47 : UInt8) :: (50 : UInt8) :: (46 : UInt8) :: (48 : UInt8) :: (47 : UInt8) :: (85 : UInt8) :: (68 : UInt8) :: (80 : UInt8) :: (32 : UInt8) :: (sub (List.map rowByte (sub (List.map byteRow (spText (2 : Int) a (1 : Int))) 0 (List.length (List.map byteRow (spText (2 : Int) a (1 : Int)))))) 3 (Int.toNat (IntKind.wrap IntKind.i64 ((↑(List.length (List.map rowByte (sub (List.map byteRow (spText (2 : Int) a (1 : Int))) 0 (List.length (List.map byteRow (spText (2 : Int) a (1 : Int))))))) : Int) - (3 : Int))) - 3) ++ [(58 : UInt8)])) + List.length (List.map rowByte (sub (List.map byteRow (spText (4 : Int) (0 : Int) p)) 0 (List.length (List.map byteRow (spText (4 : Int) (0 : Int) p))))) ≤ 9223372036854775807) = true)) ∧ (decide (List.length ((83 : UInt8) :: (73 : UInt8) :: (80 : UInt8) :: (47 : UInt8) :: (50 : UInt8) :: (46 : UInt8) :: (48 : UInt8) :: (47 : UInt8) :: (85 : UInt8) :: (68 : UInt8) :: (80 : UInt8) :: (32 : UInt8) :: (sub (List.map rowByte (sub (List.map byteRow (spText (2 : Int) a (1 : Int))) 0 (List.length (List.map byteRow (spText (2 : Int) a (1 : Int)))))) 3 (Int.toNat (IntKind.wrap IntKind.i64 ((↑(List.length (List.map rowByte (sub (List.map byteRow (spText (2 : Int) a (1 : Int))) 0 (List.length (List.map byteRow (spText (2 : Int) a (1 : Int))))))) : Int) - (3 : Int))) - 3) ++ [(58 : UInt8)] ++ List.map rowByte (sub (List.map byteRow (spText (4 : Int) (0 : Int) p)) 0 (List.length (List.map byteRow (spText (4 : Int) (0 : Int) p)))))) + 9 ≤ 9223372036854775807) = true)) ∧ (decide (7 + List.length (sub (List.map rowByte (sub (List.map byteRow (spText (2 : Int) a (1 : Int))) 0 (List.length (List.map byteRow (spText (2 : Int) a (1 : Int)))))) 3 (Int.toNat (IntKind.wrap IntKind.i64 ((↑(List.length (List.map rowByte (sub (List.map byteRow (spText (2 : Int) a (1 : Int))) 0 (List.length (List.map byteRow (spText (2 : Int) a (1 : Int))))))) : Int) - (3 : Int))) - 3)) ≤ 9223372036854775807) = true)) ∧ (decide (List.length ((60 : UInt8) :: (115 : UInt8) :: (105 : UInt8) :: (112 : UInt8) :: (58 : UInt8) :: (97 : UInt8) :: (64 : UInt8) :: sub (List.map rowByte (sub (List.map byteRow (spText (2 : Int) a (1 : Int))) 0 (List.length (List.map byteRow (spText (2 : Int) a (1 : Int)))))) 3 (Int.toNat (IntKind.wrap IntKind.i64 ((↑(List.length (List.map rowByte (sub (List.map byteRow (spText (2 : Int) a (1 : Int))) 0 (List.length (List.map byteRow (spText (2 : Int) a (1 : Int))))))) : Int) - (3 : Int))) - 3)) + 1 ≤ 9223372036854775807) = true)) ∧ (decide (List.length ((60 : UInt8) :: (115 : UInt8) :: (105 : UInt8) :: (112 : UInt8) :: (58 : UInt8) :: (97 : UInt8) :: (64 : UInt8) :: (sub (List.map rowByte (sub (List.map byteRow (spText (2 : Int) a (1 : Int))) 0 (List.length (List.map byteRow (spText (2 : Int) a (1 : Int)))))) 3 (Int.toNat (IntKind.wrap IntKind.i64 ((↑(List.length (List.map rowByte (sub (List.map byteRow (spText (2 : Int) a (1 : Int))) 0 (List.length (List.map byteRow (spText (2 : Int) a (1 : Int))))))) : Int) - (3 : Int))) - 3) ++ [(58 : UInt8)])) + List.length (List.map rowByte (sub (List.map byteRow (spText (4 : Int) (0 : Int) p)) 0 (List.length (List.map byteRow (spText (4 : Int) (0 : Int) p))))) ≤ 9223372036854775807) = true)) ∧ (decide (List.length ((60 : UInt8) :: (115 : UInt8) :: (105 : UInt8) :: (112 : UInt8) :: (58 : UInt8) :: (97 : UInt8) :: (64 : UInt8) :: (sub (List.map rowByte (sub (List.map byteRow (spText (2 : Int) a (1 : Int))) 0 (List.length (List.map byteRow (spText (2 : Int) a (1 : Int)))))) 3 (Int.toNat (IntKind.wrap IntKind.i64 ((↑(List.length (List.map rowByte (sub (List.map byteRow (spText (2 : Int) a (1 : Int))) 0 (List.length (List.map byteRow (spText (2 : Int) a (1 : Int))))))) : Int) - (3 : Int))) - 3) ++ [(58 : UInt8)] ++ List.map rowByte (sub (List.map byteRow (spText (4 : Int) (0 : Int) p)) 0 (List.length (List.map byteRow (spText (4 : Int) (0 : Int) p)))))) + 1 ≤ 9223372036854775807) = true)) ∧ (decide (((4 : Int) = (2 : Int) ∨ (4 : Int) = (4 : Int)) ∧ (0 : Int) ≤ IntKind.wrap IntKind.u16 (↑(List.length ((118 : UInt8) :: (61 : UInt8) :: (48 : UInt8) :: (13 : UInt8) :: (10 : UInt8) :: (111 : UInt8) :: (61 : UInt8) :: (97 : UInt8) :: (32 : UInt8) :: (49 : UInt8) :: (32 : UInt8) :: (49 : UInt8) :: (32 : UInt8) :: (73 : UInt8) :: (78 : UInt8) :: (32 : UInt8) :: (73 : UInt8) :: (80 : UInt8) :: (52 : UInt8) :: (32 : UInt8) :: (sub (List.map rowByte (sub (List.map byteRow (spText (2 : Int) a (1 : Int))) 0 (List.length (List.map byteRow (spText (2 : Int) a (1 : Int)))))) 3 (Int.toNat (IntKind.wrap IntKind.i64 ((↑(List.length (List.map rowByte (sub (List.map byteRow (spText (2 : Int) a (1 : Int))) 0 (List.length (List.map byteRow (spText (2 : Int) a (1 : Int))))))) : Int) - (3 : Int))) - 3) ++ [(13 : UInt8), (10 : UInt8), (99 : UInt8), (61 : UInt8), (73 : UInt8), (78 : UInt8), (32 : UInt8), (73 : UInt8), (80 : UInt8), (52 : UInt8), (32 : UInt8)] ++ sub (List.map rowByte (sub (List.map byteRow (spText (2 : Int) a (1 : Int))) 0 (List.length (List.map byteRow (spText (2 : Int) a (1 : Int)))))) 3 (Int.toNat (IntKind.wrap IntKind.i64 ((↑(List.length (List.map rowByte (sub (List.map byteRow (spText (2 : Int) a (1 : Int))) 0 (List.length (List.map byteRow (spText (2 : Int) a (1 : Int))))))) : Int) - (3 : Int))) - 3) ++ [(13 : UInt8), (10 : UInt8), (109 : UInt8), (61 : UInt8), (97 : UInt8), (117 : UInt8), (100 : UInt8), (105 : UInt8), (111 : UInt8), (32 : UInt8)] ++ List.map rowByte (sub (List.map byteRow (spText (4 : Int) (0 : Int) m)) 0 (List.length (List.map byteRow (spText (4 : Int) (0 : Int) m)))) ++ [(32 : UInt8), (82 : UInt8), (84 : UInt8), (80 : UInt8), (47 : UInt8), (65 : UInt8), (86 : UInt8), (80 : UInt8), (32 : UInt8), (48 : UInt8), (13 : UInt8), (10 : UInt8)]))) : Int) ∧ IntKind.wrap IntKind.u16 (↑(List.length ((118 : UInt8) :: (61 : UInt8) :: (48 : UInt8) :: (13 : UInt8) :: (10 : UInt8) :: (111 : UInt8) :: (61 : UInt8) :: (97 : UInt8) :: (32 : UInt8) :: (49 : UInt8) :: (32 : UInt8) :: (49 : UInt8) :: (32 : UInt8) :: (73 : UInt8) :: (78 : UInt8) :: (32 : UInt8) :: (73 : UInt8) :: (80 : UInt8) :: (52 : UInt8) :: (32 : UInt8) :: (sub (List.map rowByte (sub (List.map byteRow (spText (2 : Int) a (1 : Int))) 0 (List.length (List.map byteRow (spText (2 : Int) a (1 : Int)))))) 3 (Int.toNat (IntKind.wrap IntKind.i64 ((↑(List.length (List.map rowByte (sub (List.map byteRow (spText (2 : Int) a (1 : Int))) 0 (List.length (List.map byteRow (spText (2 : Int) a (1 : Int))))))) : Int) - (3 : Int))) - 3) ++ [(13 : UInt8), (10 : UInt8), (99 : UInt8), (61 : UInt8), (73 : UInt8), (78 : UInt8), (32 : UInt8), (73 : UInt8), (80 : UInt8), (52 : UInt8), (32 : UInt8)] ++ sub (List.map rowByte (sub (List.map byteRow (spText (2 : Int) a (1 : Int))) 0 (List.length (List.map byteRow (spText (2 : Int) a (1 : Int)))))) 3 (Int.toNat (IntKind.wrap IntKind.i64 ((↑(List.length (List.map rowByte (sub (List.map byteRow (spText (2 : Int) a (1 : Int))) 0 (List.length (List.map byteRow (spText (2 : Int) a (1 : Int))))))) : Int) - (3 : Int))) - 3) ++ [(13 : UInt8), (10 : UInt8), (109 : UInt8), (61 : UInt8), (97 : UInt8), (117 : UInt8), (100 : UInt8), (105 : UInt8), (111 : UInt8), (32 : UInt8)] ++ List.map rowByte (sub (List.map byteRow (spText (4 : Int) (0 : Int) m)) 0 (List.length (List.map byteRow (spText (4 : Int) (0 : Int) m)))) ++ [(32 : UInt8), (82 : UInt8), (84 : UInt8), (80 : UInt8), (47 : UInt8), (65 : UInt8), (86 : UInt8), (80 : UInt8), (32 : UInt8), (48 : UInt8), (13 : UInt8), (10 : UInt8)]))) : Int) ≤ (65535 : Int)) = true)) ∧ (decide (0 + List.length (List.map byteRow (spText (4 : Int) (0 : Int) (IntKind.wrap IntKind.u16 (↑(List.length ((118 : UInt8) :: (61 : UInt8) :: (48 : UInt8) :: (13 : UInt8) :: (10 : UInt8) :: (111 : UInt8) :: (61 : UInt8) :: (97 : UInt8) :: (32 : UInt8) :: (49 : UInt8) :: (32 : UInt8) :: (49 : UInt8) :: (32 : UInt8) :: (73 : UInt8) :: (78 : UInt8) :: (32 : UInt8) :: (73 : UInt8) :: (80 : UInt8) :: (52 : UInt8) :: (32 : UInt8) :: (sub (List.map rowByte (sub (List.map byteRow (spText (2 : Int) a (1 : Int))) 0 (List.length (List.map byteRow (spText (2 : Int) a (1 : Int)))))) 3 (Int.toNat (IntKind.wrap IntKind.i64 ((↑(List.length (List.map rowByte (sub (List.map byteRow (spText (2 : Int) a (1 : Int))) 0 (List.length (List.map byteRow (spText (2 : Int) a (1 : Int))))))) : Int) - (3 : Int))) - 3) ++ [(13 : UInt8), (10 : UInt8), (99 : UInt8), (61 : UInt8), (73 : UInt8), (78 : UInt8), (32 : UInt8), (73 : UInt8), (80 : UInt8), (52 : UInt8), (32 : UInt8)] ++ sub (List.map rowByte (sub (List.map byteRow (spText (2 : Int) a (1 : Int))) 0 (List.length (List.map byteRow (spText (2 : Int) a (1 : Int)))))) 3 (Int.toNat (IntKind.wrap IntKind.i64 ((↑(List.length (List.map rowByte (sub (List.map byteRow (spText (2 : Int) a (1 : Int))) 0 (List.length (List.map byteRow (spText (2 : Int) a (1 : Int))))))) : Int) - (3 : Int))) - 3) ++ [(13 : UInt8), (10 : UInt8), (109 : UInt8), (61 : UInt8), (97 : UInt8), (117 : UInt8), (100 : UInt8), (105 : UInt8), (111 : UInt8), (32 : UInt8)] ++ List.map rowByte (sub (List.map byteRow (spText (4 : Int) (0 : Int) m)) 0 (List.length (List.map byteRow (spText (4 : Int) (0 : Int) m)))) ++ [(32 : UInt8), (82 : UInt8), (84 : UInt8), (80 : UInt8), (47 : UInt8), (65 : UInt8), (86 : UInt8), (80 : UInt8), (32 : UInt8), (48 : UInt8), (13 : UInt8), (10 : UInt8)]))) : Int)))) ≤ List.length (List.map byteRow (spText (4 : Int) (0 : Int) (IntKind.wrap IntKind.u16 (↑(List.length ((118 : UInt8) :: (61 : UInt8) :: (48 : UInt8) :: (13 : UInt8) :: (10 : UInt8) :: (111 : UInt8) :: (61 : UInt8) :: (97 : UInt8) :: (32 : UInt8) :: (49 : UInt8) :: (32 : UInt8) :: (49 : UInt8) :: (32 : UInt8) :: (73 : UInt8) :: (78 : UInt8) :: (32 : UInt8) :: (73 : UInt8) :: (80 : UInt8) :: (52 : UInt8) :: (32 : UInt8) :: (sub (List.map rowByte (sub (List.map byteRow (spText (2 : Int) a (1 : Int))) 0 (List.length (List.map byteRow (spText (2 : Int) a (1 : Int)))))) 3 (Int.toNat (IntKind.wrap IntKind.i64 ((↑(List.length (List.map rowByte (sub (List.map byteRow (spText (2 : Int) a (1 : Int))) 0 (List.length (List.map byteRow (spText (2 : Int) a (1 : Int))))))) : Int) - (3 : Int))) - 3) ++ [(13 : UInt8), (10 : UInt8), (99 : UInt8), (61 : UInt8), (73 : UInt8), (78 : UInt8), (32 : UInt8), (73 : UInt8), (80 : UInt8), (52 : UInt8), (32 : UInt8)] ++ sub (List.map rowByte (sub (List.map byteRow (spText (2 : Int) a (1 : Int))) 0 (List.length (List.map byteRow (spText (2 : Int) a (1 : Int)))))) 3 (Int.toNat (IntKind.wrap IntKind.i64 ((↑(List.length (List.map rowByte (sub (List.map byteRow (spText (2 : Int) a (1 : Int))) 0 (List.length (List.map byteRow (spText (2 : Int) a (1 : Int))))))) : Int) - (3 : Int))) - 3) ++ [(13 : UInt8), (10 : UInt8), (109 : UInt8), (61 : UInt8), (97 : UInt8), (117 : UInt8), (100 : UInt8), (105 : UInt8), (111 : UInt8), (32 : UInt8)] ++ List.map rowByte (sub (List.map byteRow (spText (4 : Int) (0 : Int) m)) 0 (List.length (List.map byteRow (spText (4 : Int) (0 : Int) m)))) ++ [(32 : UInt8), (82 : UInt8), (84 : UInt8), (80 : UInt8), (47 : UInt8), (65 : UInt8), (86 : UInt8), (80 : UInt8), (32 : UInt8), (48 : UInt8), (13 : UInt8), (10 : UInt8)]))) : Int))))) = true)) ∧ (true = true)) ∧ (true = true)) ∧ (true = true)) ∧ (true = true)) ∧ (true = true)) ∧ (true = true)) ∧ (true = true)) := by unfold Path; kernel_rfl
theorem text2 (a : Int) : (sub (List.map rowByte (sub (List.map byteRow (spText (2 : Int) a (1 : Int))) 0 (List.length (List.map byteRow (spText (2 : Int) a (1 : Int)))))) 3 (Int.toNat (IntKind.wrap IntKind.i64 (((List.length (List.map rowByte (sub (List.map byteRow (spText (2 : Int) a (1 : Int))) 0 (List.length (List.map byteRow (spText (2 : Int) a (1 : Int)))))) : Nat) : Int) - (3 : Int))) - 3)) = spDotted a := by
  have e0 : sub (List.map byteRow (spText (2 : Int) a (1 : Int))) 0 (List.length (List.map byteRow (spText (2 : Int) a (1 : Int)))) = (List.map byteRow (spText (2 : Int) a (1 : Int))) := sub_all _ rfl
  have e1 : (List.map rowByte (sub (List.map byteRow (spText (2 : Int) a (1 : Int))) 0 (List.length (List.map byteRow (spText (2 : Int) a (1 : Int)))))) = spText 2 a 1 := by
    rw [e0]
    exact rowsB _
  rw [e1]
  have eT : spText 2 a 1 = 124 :: 49 :: 124 :: (spDotted a ++ [124] ++ spItoa 1 ++ [124]) := rfl
  have e2 : spItoa 1 = [49] := by
    have : spItoa ((1 : Nat) : Int) = Lib.decDigits 1 := itoa_nat 1
    have h2 : Lib.decDigits 1 = [49] := by rw [Lib.decDigits, dif_pos (by decide)]; rfl
    exact this.trans h2
  rw [eT, e2]
  have hd := len_dotted a
  have hl : (124 :: 49 :: 124 :: (spDotted a ++ [124] ++ [49] ++ [124]) : List UInt8).length = (spDotted a).length + 6 := by simp
  rw [hl]
  have hw : IntKind.wrap IntKind.i64 ((((spDotted a).length + 6 : Nat) : Int) - 3) = (((spDotted a).length + 3 : Nat) : Int) := by rw [IntWalk.i64_in _ (by omega)]; omega
  rw [hw, Int.toNat_natCast]
  unfold sub
  simp
theorem text4 (x : Int) : (List.map rowByte (sub (List.map byteRow (spText (4 : Int) (0 : Int) x)) 0 (List.length (List.map byteRow (spText (4 : Int) (0 : Int) x))))) = spItoa x := by
  have e0 : sub (List.map byteRow (spText 4 0 x)) 0 (List.length (List.map byteRow (spText 4 0 x))) = List.map byteRow (spText 4 0 x) := sub_all _ rfl
  rw [e0]
  exact rowsB _
theorem text2_len (a : Int) : List.length (List.map rowByte (sub (List.map byteRow (spText (2 : Int) a (1 : Int))) 0 (List.length (List.map byteRow (spText (2 : Int) a (1 : Int)))))) = (spDotted a).length + 6 := by
  have e0 : sub (List.map byteRow (spText (2 : Int) a (1 : Int))) 0 (List.length (List.map byteRow (spText (2 : Int) a (1 : Int)))) = (List.map byteRow (spText (2 : Int) a (1 : Int))) := sub_all _ rfl
  have e1 : (List.map rowByte (sub (List.map byteRow (spText (2 : Int) a (1 : Int))) 0 (List.length (List.map byteRow (spText (2 : Int) a (1 : Int)))))) = spText 2 a 1 := by
    rw [e0]
    exact rowsB _
  have e2 : spItoa 1 = [49] := by
    have : spItoa ((1 : Nat) : Int) = Lib.decDigits 1 := itoa_nat 1
    have h2 : Lib.decDigits 1 = [49] := by rw [Lib.decDigits, dif_pos (by decide)]; rfl
    exact this.trans h2
  have eT : spText 2 a 1 = 124 :: 49 :: 124 :: (spDotted a ++ [124] ++ spItoa 1 ++ [124]) := rfl
  rw [e1, eT, e2]
  simp
theorem u16_rng (x : Int) : (0 : Int) ≤ IntKind.wrap IntKind.u16 x ∧ IntKind.wrap IntKind.u16 x ≤ (65535 : Int) := by
  rw [IntKind.wrap_u16]; omega
theorem call_calls {a p m : Int} (hp : 0 ≤ p ∧ p ≤ 65535) (hm : 0 ≤ m ∧ m ≤ 65535) {ρ : Nat → BI} {w : World} (hE : HSim ρ (addBlks .e 0 []) ([] : List Blk).length w) :
    Calls Tryz.prog 29 (concL ρ [AV.int .u32 a, .int .u16 p, .int .u16 m]).toArray w (fun e w' => (∃ v, e = .returned v ∧ IsMsg w.heap.size w' sgCall (cRows (Go.Proofs.YtpdgmgkkbbndfaaGreatDoor.hp a p) (cBody (spDotted a) (spItoa m)).length) (byteRows (cBody (spDotted a) (spItoa m))) v) ∧ Ext w w') := by
  have hro : ∀ c k, (addBlks .e 0 ([] : List Blk)).get c = some k → k.isRw = false := by
    intro c k hk
    rw [addBlks_get] at hk
    split at hk
    · simp at hk
    · cases c <;> cases hk
  have hP := c29_ a p m
  have l1 := len_dotted a
  have l2 := len_itoa p (by omega)
  have l3 := len_itoa m (by omega)
  have hlen := cBody_len (spDotted a) (spItoa m)
  have hw : IntKind.wrap IntKind.u16 (((cBody (spDotted a) (spItoa m)).length : Nat) : Int) = (((cBody (spDotted a) (spItoa m)).length : Nat) : Int) := IntWalk.u16_in _ (by omega)
  have l4 := len_itoa (((cBody (spDotted a) (spItoa m)).length : Nat) : Int) (by omega)
  rw [text2, text4, text4, text4, lBody_eq, hw] at hP
  have hc := calls_ofB Pc_ok hP (by
    refine ⟨⟨⟨⟨⟨⟨⟨⟨⟨⟨⟨⟨⟨⟨⟨⟨⟨⟨⟨⟨⟨⟨⟨⟨⟨⟨⟨⟨⟨⟨trivial, rfl⟩, ?_⟩, ?_⟩, ?_⟩, ?_⟩, ?_⟩, ?_⟩, ?_⟩, ?_⟩, ?_⟩, ?_⟩, ?_⟩, ?_⟩, ?_⟩, ?_⟩, ?_⟩, ?_⟩, ?_⟩, ?_⟩, ?_⟩, ?_⟩, ?_⟩, ?_⟩, rfl⟩, rfl⟩, rfl⟩, rfl⟩, rfl⟩, rfl⟩, rfl⟩
    all_goals (first | exact decide_eq_true (by omega) | exact decide_eq_true ⟨.inr rfl, u16_rng _⟩ | exact decide_eq_true (by rw [text2_len, IntWalk.i64_in _ (by omega)]; omega) | (simp only [decide_eq_true_eq, List.length_map, List.length_cons, List.length_append, List.length_nil]; omega) | skip)) hE rfl
  refine hc.mono fun e w' hq => ?_
  obtain ⟨ρ', rfl, st⟩ := hq
  refine ⟨⟨_, rfl, ⟨conc ρ' (.sl ⟨0, 0, 0⟩ 3 (.known 3)), conc ρ' (.sl ⟨1, 0, 0⟩ (cBody (spDotted a) (spItoa m)).length .open_), rfl, ?_, ?_⟩⟩, st.below hro⟩
  · exact NewSl.of_rw st (by rw [ofList_cons, if_pos rfl]; rfl) hro rfl rfl
  · exact NewSl.of_rw st (by rw [ofList_cons, if_neg (by decide), ofList_cons, if_pos rfl]; rfl) hro rfl (by rw [byteRows_length])
def spCallH (a p m : Int) : List (List AV) := cRows (Go.Proofs.YtpdgmgkkbbndfaaGreatDoor.hp a p) (cBody (spDotted a) (spItoa m)).length
def spCallB (a m : Int) : List (List AV) := byteRows (cBody (spDotted a) (spItoa m))
def q29 : Entry := fun args hp nx => match args with
  | [.int .u32 a, .int .u16 p, .int .u16 m] => some (decide (0 ≤ p ∧ p ≤ 65535 ∧ 0 ≤ m ∧ m ≤ 65535), .agg [.str sgCall, .slq nx (spCallH a p m).length, .slq (nx + 1) (spCallB a m).length], [.cells false [.str, .str] (spCallH a p m), .cells false [.int .u8] (spCallB a m)])
  | _ => none
theorem q29_ok : EntryOK Tryz.prog 29 q29 := by
  intro args hp nx c v bs h hc ρ w hs hi
  unfold q29 at h
  split at h
  · rename_i a p m
    cases h
    obtain ⟨h1, h2, h3, h4⟩ := of_decide_eq_true hc
    have hE : HSim ρ (addBlks .e 0 []) ([] : List Blk).length w := HSim.ins hs.gw (fun i blk hi => by simp at hi)
    exact entry_msg hs (call_calls ⟨h1, h2⟩ ⟨h3, h4⟩ hE)
  · cases h
end Go.Proofs.YtpdgmgkkbbndfaaGreatDoor

set_option maxRecDepth 100000
namespace Go.Proofs.YtpdgmgkkbbndfaaGreatDoor
open Go Go.Proofs Go.Proofs.YtpdgmgkkbbndfaaGreatDoor.SX
theorem sub_whl {α : Type} (l : List α) : sub l 0 (List.length l) = l := sub_all l rfl
end Go.Proofs.YtpdgmgkkbbndfaaGreatDoor

set_option maxRecDepth 100000
set_option maxHeartbeats 1600000
namespace Go.Proofs.YtpdgmgkkbbndfaaGreatDoor
open Go Go.Proofs Go.Proofs.YtpdgmgkkbbndfaaGreatDoor.SX
theorem c27_TT (s1 : List UInt8) (s2 : List UInt8) (h1 : List (List AV)) (b1 : List (List AV)) (h2 : List (List AV)) (b2 : List (List AV)) :
 Path (runCallB Tryz.prog P12 100 27 [AV.agg [AV.str s1, AV.slq 0 (List.length h1), AV.slq 1 (List.length b1)], AV.agg [AV.str s2, AV.slq 2 (List.length h2), AV.slq 3 (List.length b2)]] (st0 [Blk.cells false [Kd.str, Kd.str] h1, Blk.cells false [Kd.int IntKind.u8] b1, Blk.cells false [Kd.str, Kd.str] h2, Blk.cells false [Kd.int IntKind.u8] b2] ([.as_ true, .as_ true]))) 4 [] (SL.mk [] [] 4) (Out.ret (AV.bool (List.map rowByte (sub b1 0 (List.length b1)) == List.map rowByte (sub b2 0 (List.length b2)))))
 ((((((((((True ∧ (true = true)) ∧ (true = true)) ∧ ((s1 == s2) = true)) ∧ (true = true)) ∧ (true = true)) ∧ ((decide (0 + List.length h1 ≤ List.length h1) && (decide (0 + List.length h2 ≤ List.length h2) && decide (List.length (sub h1 0 (List.length h1)) ≤ 4611686018427387904))) = true)) ∧ (spEqH (sub h1 0 (List.length h1)) (sub h2 0 (List.length h2)) = true)) ∧ (true = true)) ∧ (true = true)) ∧ ((decide (0 + List.length b1 ≤ List.length b1) && decide (0 + List.length b2 ≤ List.length b2)) = true)) := by unfold Path; kernel_rfl
theorem c27_TF (s1 : List UInt8) (s2 : List UInt8) (h1 : List (List AV)) (b1 : List (List AV)) (h2 : List (List AV)) (b2 : List (List AV)) :
 Path (runCallB Tryz.prog P12 100 27 [AV.agg [AV.str s1, AV.slq 0 (List.length h1), AV.slq 1 (List.length b1)], AV.agg [AV.str s2, AV.slq 2 (List.length h2), AV.slq 3 (List.length b2)]] (st0 [Blk.cells false [Kd.str, Kd.str] h1, Blk.cells false [Kd.int IntKind.u8] b1, Blk.cells false [Kd.str, Kd.str] h2, Blk.cells false [Kd.int IntKind.u8] b2] ([.as_ true, .as_ false]))) 4 [] (SL.mk [] [] 4) (Out.ret (AV.lit false))
 (((((((True ∧ (true = true)) ∧ (true = true)) ∧ ((s1 == s2) = true)) ∧ (true = true)) ∧ (true = true)) ∧ ((decide (0 + List.length h1 ≤ List.length h1) && (decide (0 + List.length h2 ≤ List.length h2) && decide (List.length (sub h1 0 (List.length h1)) ≤ 4611686018427387904))) = true)) ∧ (spEqH (sub h1 0 (List.length h1)) (sub h2 0 (List.length h2)) = false)) := by unfold Path; kernel_rfl
theorem c27_F (s1 : List UInt8) (s2 : List UInt8) (h1 : List (List AV)) (b1 : List (List AV)) (h2 : List (List AV)) (b2 : List (List AV)) :
 Path (runCallB Tryz.prog P12 100 27 [AV.agg [AV.str s1, AV.slq 0 (List.length h1), AV.slq 1 (List.length b1)], AV.agg [AV.str s2, AV.slq 2 (List.length h2), AV.slq 3 (List.length b2)]] (st0 [Blk.cells false [Kd.str, Kd.str] h1, Blk.cells false [Kd.int IntKind.u8] b1, Blk.cells false [Kd.str, Kd.str] h2, Blk.cells false [Kd.int IntKind.u8] b2] ([.as_ false]))) 4 [] (SL.mk [] [] 4) (Out.ret (AV.lit false))
 (((True ∧ (true = true)) ∧ (true = true)) ∧ ((s1 == s2) = false)) := by unfold Path; kernel_rfl
theorem same27_calls {s1 s2 : List UInt8} {h1 b1 h2 b2 : List (List AV)} {ρ : Nat → BI} {w : World} (hE : HSim ρ (addBlks .e 0 (ins28 h1 b1 h2 b2)) (ins28 h1 b1 h2 b2).length w) (hl : h1.length ≤ 4611686018427387904) :
    Calls Tryz.prog 27 (concL ρ [.agg [.str s1, .slq 0 h1.length, .slq 1 b1.length], .agg [.str s2, .slq 2 h2.length, .slq 3 b2.length]]).toArray w (fun e w' => e = .returned (conc ρ (.bool (spSameM s1 h1 b1 s2 h2 b2))) ∧ Ext w w') := by
  have f1 : sub b1 0 (List.length b1) = b1 := sub_all b1 rfl
  have f2 : sub b2 0 (List.length b2) = b2 := sub_all b2 rfl
  have f3 : sub h1 0 (List.length h1) = h1 := sub_all h1 rfl
  have f4 : sub h2 0 (List.length h2) = h2 := sub_all h2 rfl
  have k1 : (decide (0 + h1.length ≤ h1.length) && (decide (0 + h2.length ≤ h2.length) && decide ((sub h1 0 h1.length).length ≤ 4611686018427387904))) = true := by
    rw [f3]; simp only [Bool.and_eq_true, decide_eq_true_eq]; omega
  have k2 : (decide (0 + b1.length ≤ b1.length) && decide (0 + b2.length ≤ b2.length)) = true := by
    simp only [Bool.and_eq_true, decide_eq_true_eq]; omega
  unfold spSameM
  cases e1 : (s1 == s2) with
  | false => exact calls_pureB P12_ok (c27_F s1 s2 h1 b1 h2 b2) ⟨⟨⟨trivial, rfl⟩, rfl⟩, e1⟩ hE rfl rfl rfl
  | true =>
    cases e : spEqH h1 h2 with
    | false =>
      have e2 : spEqH (sub h1 0 h1.length) (sub h2 0 h2.length) = false := by rw [f3, f4]; exact e
      exact calls_pureB P12_ok (c27_TF s1 s2 h1 b1 h2 b2) ⟨⟨⟨⟨⟨⟨⟨trivial, rfl⟩, rfl⟩, e1⟩, rfl⟩, rfl⟩, k1⟩, e2⟩ hE rfl rfl rfl
    | true =>
      have e2 : spEqH (sub h1 0 h1.length) (sub h2 0 h2.length) = true := by rw [f3, f4]; exact e
      have hr := calls_pureB P12_ok (c27_TT s1 s2 h1 b1 h2 b2) ⟨⟨⟨⟨⟨⟨⟨⟨⟨⟨trivial, rfl⟩, rfl⟩, e1⟩, rfl⟩, rfl⟩, k1⟩, e2⟩, rfl⟩, rfl⟩, k2⟩ hE rfl rfl rfl
      rw [f1, f2] at hr
      exact hr
def q27 : Entry := fun args hp nx => match args with
  | [.agg [.str s1, hv1, bv1], .agg [.str s2, hv2, bv2]] => match slIn hp [.str, .str] hv1, slIn hp [.int .u8] bv1, slIn hp [.str, .str] hv2, slIn hp [.int .u8] bv2 with
    | some (c1, h1), some (c2, b1), some (c3, h2), some (c4, b2) => some (c1 && (c2 && (c3 && (c4 && decide (h1.length ≤ 4611686018427387904)))), .bool (spSameM s1 h1 b1 s2 h2 b2), [])
    | _, _, _, _ => none
  | _ => none
theorem q27_ok : EntryOK Tryz.prog 27 q27 := by
  intro args hp nx c v bs h hc ρ w hs hi
  unfold q27 at h
  split at h
  · rename_i s1 hv1 bv1 s2 hv2 bv2
    split at h
    · rename_i c1 h1 c2 b1 c3 h2 c4 b2 hs1 hs2 hs3 hs4
      cases h
      simp only [Bool.and_eq_true] at hc
      obtain ⟨hc1, hc2, hc3, hc4, hc5⟩ := hc
      obtain ⟨ρ0, hE, e1, e2, e3, e4⟩ := four_in hs.gw (slIn_spec hs hs1 hc1 rfl) (slIn_spec hs hs2 hc2 rfl) (slIn_spec hs hs3 hc3 rfl) (slIn_spec hs hs4 hc4 rfl)
      refine entry_pure hs rfl ?_
      have hcall := same27_calls (s1 := s1) (s2 := s2) hE (of_decide_eq_true hc5)
      have ea : concL ρ0 [AV.agg [.str s1, .slq 0 h1.length, .slq 1 b1.length], .agg [.str s2, .slq 2 h2.length, .slq 3 b2.length]] = concL ρ [AV.agg [.str s1, hv1, bv1], .agg [.str s2, hv2, bv2]] := by
        show [Value.agg (concL ρ0 [AV.str s1, .slq 0 h1.length, .slq 1 b1.length]).toArray, Value.agg (concL ρ0 [AV.str s2, .slq 2 h2.length, .slq 3 b2.length]).toArray] = _
        simp only [concL]
        rw [e1, e2, e3, e4]
        rfl
      rw [ea] at hcall
      exact hcall
    · cases h
  · cases h
end Go.Proofs.YtpdgmgkkbbndfaaGreatDoor

set_option maxRecDepth 100000
set_option maxHeartbeats 6400000
namespace Go.Proofs.YtpdgmgkkbbndfaaGreatDoor
open Go Go.Proofs Go.Proofs.YtpdgmgkkbbndfaaGreatDoor.SX
def P21 : Prims := addP (addP (addP (addP (addP Pr 23 q23) 26 q26) 27 q27) 29 q29) 30 q30
theorem P21_ok : PrimsOK Tryz.prog P21 := addP_ok (addP_ok (addP_ok (addP_ok (addP_ok Pr_ok q23_ok) q26_ok) q27_ok) q29_ok) q30_ok
theorem c7_T (a0 : Int) (a1 : Int) (p0 : Int) (p1 : Int) (m0 : Int) (m1 : Int) :
 Path (runCallB Tryz.prog P21 100 7 [AV.agg [AV.int IntKind.u32 a0, AV.int IntKind.u32 a1], AV.agg [AV.int IntKind.u16 p0, AV.int IntKind.u16 p1], AV.agg [AV.int IntKind.u16 m0, AV.int IntKind.u16 m1]] (st0 [] ([.as_ true]))) 0 [] (SL.mk [] [] 0) (Out.ret (AV.bool true))
 ((((True ∧ (true = true)) ∧ (true = true)) ∧ ((p0 == (0 : Int)) = true)) ∧ (true = true)) := by unfold Path; kernel_rfl
theorem c7_FT (a0 : Int) (a1 : Int) (p0 : Int) (p1 : Int) (m0 : Int) (m1 : Int) :
 Path (runCallB Tryz.prog P21 100 7 [AV.agg [AV.int IntKind.u32 a0, AV.int IntKind.u32 a1], AV.agg [AV.int IntKind.u16 p0, AV.int IntKind.u16 p1], AV.agg [AV.int IntKind.u16 m0, AV.int IntKind.u16 m1]] (st0 [] ([.as_ false, .as_ true]))) 0 [] (SL.mk [] [] 0) (Out.ret (AV.bool true))
 (((((((True ∧ (true = true)) ∧ (true = true)) ∧ ((p0 == (0 : Int)) = false)) ∧ (true = true)) ∧ (true = true)) ∧ ((p1 == (0 : Int)) = true)) ∧ (true = true)) := by unfold Path; kernel_rfl
theorem c7_FFT (a0 : Int) (a1 : Int) (p0 : Int) (p1 : Int) (m0 : Int) (m1 : Int) :
 Path (runCallB Tryz.prog P21 100 7 [AV.agg [AV.int IntKind.u32 a0, AV.int IntKind.u32 a1], AV.agg [AV.int IntKind.u16 p0, AV.int IntKind.u16 p1], AV.agg [AV.int IntKind.u16 m0, AV.int IntKind.u16 m1]] (st0 [] ([.as_ false, .as_ false, .as_ true]))) 0 [] (SL.mk [] [] 0) (Out.ret (AV.bool true))
 ((((((((((True ∧ (true = true)) ∧ (true = true)) ∧ ((p0 == (0 : Int)) = false)) ∧ (true = true)) ∧ (true = true)) ∧ ((p1 == (0 : Int)) = false)) ∧ (true = true)) ∧ (true = true)) ∧ ((m0 == (0 : Int)) = true)) ∧ (true = true)) := by unfold Path; kernel_rfl
theorem c7_FFFT (a0 : Int) (a1 : Int) (p0 : Int) (p1 : Int) (m0 : Int) (m1 : Int) :
 Path (runCallB Tryz.prog P21 100 7 [AV.agg [AV.int IntKind.u32 a0, AV.int IntKind.u32 a1], AV.agg [AV.int IntKind.u16 p0, AV.int IntKind.u16 p1], AV.agg [AV.int IntKind.u16 m0, AV.int IntKind.u16 m1]] (st0 [] ([.as_ false, .as_ false, .as_ false, .as_ true]))) 0 [] (SL.mk [] [] 0) (Out.ret (AV.bool true))
 (((((((((((((True ∧ (true = true)) ∧ (true = true)) ∧ ((p0 == (0 : Int)) = false)) ∧ (true = true)) ∧ (true = true)) ∧ ((p1 == (0 : Int)) = false)) ∧ (true = true)) ∧ (true = true)) ∧ ((m0 == (0 : Int)) = false)) ∧ (true = true)) ∧ (true = true)) ∧ ((m1 == (0 : Int)) = true)) ∧ (true = true)) := by unfold Path; kernel_rfl
theorem c7_FFFFTTT (a0 : Int) (a1 : Int) (p0 : Int) (p1 : Int) (m0 : Int) (m1 : Int) :
 Path (runCallB Tryz.prog P21 100 7 [AV.agg [AV.int IntKind.u32 a0, AV.int IntKind.u32 a1], AV.agg [AV.int IntKind.u16 p0, AV.int IntKind.u16 p1], AV.agg [AV.int IntKind.u16 m0, AV.int IntKind.u16 m1]] (st0 [] ([.as_ false, .as_ false, .as_ false, .as_ false, .as_ true, .as_ true, .as_ true]))) 0 [] (SL.mk [] [] 0) (Out.ret (AV.bool (spSameM [(73 : UInt8), (78 : UInt8), (86 : UInt8), (73 : UInt8), (84 : UInt8), (69 : UInt8), (32 : UInt8), (115 : UInt8), (105 : UInt8), (112 : UInt8), (58 : UInt8), (98 : UInt8), (32 : UInt8), (83 : UInt8), (73 : UInt8), (80 : UInt8), (47 : UInt8), (50 : UInt8), (46 : UInt8), (48 : UInt8)] (sub (spRwH [(73 : UInt8), (78 : UInt8), (86 : UInt8), (73 : UInt8), (84 : UInt8), (69 : UInt8), (32 : UInt8), (115 : UInt8), (105 : UInt8), (112 : UInt8), (58 : UInt8), (98 : UInt8), (32 : UInt8), (83 : UInt8), (73 : UInt8), (80 : UInt8), (47 : UInt8), (50 : UInt8), (46 : UInt8), (48 : UInt8)] a0 a1 p0 p1 [[AV.int IntKind.u16 m0, AV.int IntKind.u16 m1]] (sub (spCallH a0 p0 m0) 0 (List.length (spCallH a0 p0 m0))) (sub (spCallB a0 m0) 0 (List.length (spCallB a0 m0)))) 0 (List.length (spRwH [(73 : UInt8), (78 : UInt8), (86 : UInt8), (73 : UInt8), (84 : UInt8), (69 : UInt8), (32 : UInt8), (115 : UInt8), (105 : UInt8), (112 : UInt8), (58 : UInt8), (98 : UInt8), (32 : UInt8), (83 : UInt8), (73 : UInt8), (80 : UInt8), (47 : UInt8), (50 : UInt8), (46 : UInt8), (48 : UInt8)] a0 a1 p0 p1 [[AV.int IntKind.u16 m0, AV.int IntKind.u16 m1]] (sub (spCallH a0 p0 m0) 0 (List.length (spCallH a0 p0 m0))) (sub (spCallB a0 m0) 0 (List.length (spCallB a0 m0)))))) (sub (spRwB [(73 : UInt8), (78 : UInt8), (86 : UInt8), (73 : UInt8), (84 : UInt8), (69 : UInt8), (32 : UInt8), (115 : UInt8), (105 : UInt8), (112 : UInt8), (58 : UInt8), (98 : UInt8), (32 : UInt8), (83 : UInt8), (73 : UInt8), (80 : UInt8), (47 : UInt8), (50 : UInt8), (46 : UInt8), (48 : UInt8)] a0 a1 p0 p1 [[AV.int IntKind.u16 m0, AV.int IntKind.u16 m1]] (sub (spCallH a0 p0 m0) 0 (List.length (spCallH a0 p0 m0))) (sub (spCallB a0 m0) 0 (List.length (spCallB a0 m0)))) 0 (List.length (spRwB [(73 : UInt8), (78 : UInt8), (86 : UInt8), (73 : UInt8), (84 : UInt8), (69 : UInt8), (32 : UInt8), (115 : UInt8), (105 : UInt8), (112 : UInt8), (58 : UInt8), (98 : UInt8), (32 : UInt8), (83 : UInt8), (73 : UInt8), (80 : UInt8), (47 : UInt8), (50 : UInt8), (46 : UInt8), (48 : UInt8)] a0 a1 p0 p1 [[AV.int IntKind.u16 m0, AV.int IntKind.u16 m1]] (sub (spCallH a0 p0 m0) 0 (List.length (spCallH a0 p0 m0))) (sub (spCallB a0 m0) 0 (List.length (spCallB a0 m0)))))) sgCall (sub (spCallH a1 p1 m1) 0 (List.length (spCallH a1 p1 m1))) (sub (spCallB a1 m1) 0 (List.length (spCallB a1 m1))))))
 ((((((((((((((((((((((((((((((((((((((((((((((((((((((((((((((((((((True ∧ (true = true)) ∧ (true = true)) ∧ ((p0 == (0 : Int)) = false)) ∧ (true = true)) ∧ (true = true)) ∧ ((p1 == (0 : Int)) = false)) ∧ (true = true)) ∧ (true = true)) ∧ ((m0 == (0 : Int)) = false)) ∧ (true = true)) ∧ (true = true)) ∧ ((m1 == (0 : Int)) = false)) ∧ (true = true)) ∧ (true = true)) ∧ (true = true)) ∧ (true = true)) ∧ (true = true)) ∧ (true = true)) ∧ (decide ((0 : Int) ≤ p0 ∧ p0 ≤ (65535 : Int) ∧ (0 : Int) ≤ m0 ∧ m0 ≤ (65535 : Int)) = true)) ∧ (true = true)) ∧ (true = true)) ∧ (true = true)) ∧ (true = true)) ∧ (true = true)) ∧ (true = true)) ∧ (true = true)) ∧ (true = true)) ∧ (true = true)) ∧ ((decide (0 + List.length (spCallH a0 p0 m0) ≤ List.length (spCallH a0 p0 m0)) && (decide (0 + List.length (spCallB a0 m0) ≤ List.length (spCallB a0 m0)) && decide (List.length (sub (spCallB a0 m0) 0 (List.length (spCallB a0 m0))) ≤ 1048576))) = true)) ∧ (true = true)) ∧ (true = true)) ∧ (true = true)) ∧ (true = true)) ∧ (true = true)) ∧ (true = true)) ∧ (true = true)) ∧ (true = true)) ∧ (true = true)) ∧ (true = true)) ∧ (true = true)) ∧ (true = true)) ∧ (true = true)) ∧ ((decide (0 + List.length (spCallH a0 p0 m0) ≤ List.length (spCallH a0 p0 m0)) && (decide (0 + List.length (spCallB a0 m0) ≤ List.length (spCallB a0 m0)) && (true && decide (20 ≤ 4294967200 ∧ List.all (sub (spCallH a0 p0 m0) 0 (List.length (spCallH a0 p0 m0))) short = true ∧ List.length (sub (spCallH a0 p0 m0) 0 (List.length (spCallH a0 p0 m0))) ≤ 4398046511104 ∧ List.length (sub (spCallB a0 m0) 0 (List.length (spCallB a0 m0))) ≤ 140737488355328 ∧ 1 ≤ 4611686018427387904 ∧ List.all (sub (spCallH a0 p0 m0) 0 (List.length (spCallH a0 p0 m0))) twoB = true)))) = true)) ∧ (true = true)) ∧ (true = true)) ∧ (true = true)) ∧ (true = true)) ∧ (true = true)) ∧ (true = true)) ∧ (true = true)) ∧ ((decide (0 + List.length (spCallH a0 p0 m0) ≤ List.length (spCallH a0 p0 m0)) && (decide (0 + List.length (spCallB a0 m0) ≤ List.length (spCallB a0 m0)) && decide (20 ≤ 4294967200 ∧ List.all (sub (spCallH a0 p0 m0) 0 (List.length (spCallH a0 p0 m0))) short = true ∧ List.length (sub (spCallB a0 m0) 0 (List.length (spCallB a0 m0))) ≤ 140737488355328))) = true)) ∧ (spRight [(73 : UInt8), (78 : UInt8), (86 : UInt8), (73 : UInt8), (84 : UInt8), (69 : UInt8), (32 : UInt8), (115 : UInt8), (105 : UInt8), (112 : UInt8), (58 : UInt8), (98 : UInt8), (32 : UInt8), (83 : UInt8), (73 : UInt8), (80 : UInt8), (47 : UInt8), (50 : UInt8), (46 : UInt8), (48 : UInt8)] (sub (spCallH a0 p0 m0) 0 (List.length (spCallH a0 p0 m0))) (List.length (sub (spCallB a0 m0) 0 (List.length (spCallB a0 m0)))) = true)) ∧ (((↑(List.length (spPorts a0 (List.map rowByte (sub (spCallB a0 m0) 0 (List.length (spCallB a0 m0)))))) : Int) == (1 : Int)) = true)) ∧ (decide (0 < List.length (spPorts a0 (List.map rowByte (sub (spCallB a0 m0) 0 (List.length (spCallB a0 m0)))))) = true)) ∧ (decide ((0 : Int) ≤ (0 : Int) ∧ (0 : Int) < (↑(List.length (spPorts a0 (List.map rowByte (sub (spCallB a0 m0) 0 (List.length (spCallB a0 m0)))))) : Int)) = true)) ∧ (decide (0 < List.length (spPorts a0 (List.map rowByte (sub (spCallB a0 m0) 0 (List.length (spCallB a0 m0)))))) = true)) ∧ (true = true)) ∧ (true = true)) ∧ ((AV.toInt (List.getD (List.getD (spPorts a0 (List.map rowByte (sub (spCallB a0 m0) 0 (List.length (spCallB a0 m0))))) (0) []) (0) AV.undef) == m0) = true)) ∧ (true = true)) ∧ (true = true)) ∧ (true = true)) ∧ (true = true)) ∧ (true = true)) ∧ (true = true)) ∧ (true = true)) ∧ (decide ((0 : Int) ≤ p1 ∧ p1 ≤ (65535 : Int) ∧ (0 : Int) ≤ m1 ∧ m1 ≤ (65535 : Int)) = true)) ∧ ((decide (0 + List.length (spRwH [(73 : UInt8), (78 : UInt8), (86 : UInt8), (73 : UInt8), (84 : UInt8), (69 : UInt8), (32 : UInt8), (115 : UInt8), (105 : UInt8), (112 : UInt8), (58 : UInt8), (98 : UInt8), (32 : UInt8), (83 : UInt8), (73 : UInt8), (80 : UInt8), (47 : UInt8), (50 : UInt8), (46 : UInt8), (48 : UInt8)] a0 a1 p0 p1 [[AV.int IntKind.u16 m0, AV.int IntKind.u16 m1]] (sub (spCallH a0 p0 m0) 0 (List.length (spCallH a0 p0 m0))) (sub (spCallB a0 m0) 0 (List.length (spCallB a0 m0)))) ≤ List.length (spRwH [(73 : UInt8), (78 : UInt8), (86 : UInt8), (73 : UInt8), (84 : UInt8), (69 : UInt8), (32 : UInt8), (115 : UInt8), (105 : UInt8), (112 : UInt8), (58 : UInt8), (98 : UInt8), (32 : UInt8), (83 : UInt8), (73 : UInt8), (80 : UInt8), (47 : UInt8), (50 : UInt8), (46 : UInt8), (48 : UInt8)] a0 a1 p0 p1 [[AV.int IntKind.u16 m0, AV.int IntKind.u16 m1]] (sub (spCallH a0 p0 m0) 0 (List.length (spCallH a0 p0 m0))) (sub (spCallB a0 m0) 0 (List.length (spCallB a0 m0))))) && (decide (0 + List.length (spRwB [(73 : UInt8), (78 : UInt8), (86 : UInt8), (73 : UInt8), (84 : UInt8), (69 : UInt8), (32 : UInt8), (115 : UInt8), (105 : UInt8), (112 : UInt8), (58 : UInt8), (98 : UInt8), (32 : UInt8), (83 : UInt8), (73 : UInt8), (80 : UInt8), (47 : UInt8), (50 : UInt8), (46 : UInt8), (48 : UInt8)] a0 a1 p0 p1 [[AV.int IntKind.u16 m0, AV.int IntKind.u16 m1]] (sub (spCallH a0 p0 m0) 0 (List.length (spCallH a0 p0 m0))) (sub (spCallB a0 m0) 0 (List.length (spCallB a0 m0)))) ≤ List.length (spRwB [(73 : UInt8), (78 : UInt8), (86 : UInt8), (73 : UInt8), (84 : UInt8), (69 : UInt8), (32 : UInt8), (115 : UInt8), (105 : UInt8), (112 : UInt8), (58 : UInt8), (98 : UInt8), (32 : UInt8), (83 : UInt8), (73 : UInt8), (80 : UInt8), (47 : UInt8), (50 : UInt8), (46 : UInt8), (48 : UInt8)] a0 a1 p0 p1 [[AV.int IntKind.u16 m0, AV.int IntKind.u16 m1]] (sub (spCallH a0 p0 m0) 0 (List.length (spCallH a0 p0 m0))) (sub (spCallB a0 m0) 0 (List.length (spCallB a0 m0))))) && (decide (0 + List.length (spCallH a1 p1 m1) ≤ List.length (spCallH a1 p1 m1)) && (decide (0 + List.length (spCallB a1 m1) ≤ List.length (spCallB a1 m1)) && decide (List.length (sub (spRwH [(73 : UInt8), (78 : UInt8), (86 : UInt8), (73 : UInt8), (84 : UInt8), (69 : UInt8), (32 : UInt8), (115 : UInt8), (105 : UInt8), (112 : UInt8), (58 : UInt8), (98 : UInt8), (32 : UInt8), (83 : UInt8), (73 : UInt8), (80 : UInt8), (47 : UInt8), (50 : UInt8), (46 : UInt8), (48 : UInt8)] a0 a1 p0 p1 [[AV.int IntKind.u16 m0, AV.int IntKind.u16 m1]] (sub (spCallH a0 p0 m0) 0 (List.length (spCallH a0 p0 m0))) (sub (spCallB a0 m0) 0 (List.length (spCallB a0 m0)))) 0 (List.length (spRwH [(73 : UInt8), (78 : UInt8), (86 : UInt8), (73 : UInt8), (84 : UInt8), (69 : UInt8), (32 : UInt8), (115 : UInt8), (105 : UInt8), (112 : UInt8), (58 : UInt8), (98 : UInt8), (32 : UInt8), (83 : UInt8), (73 : UInt8), (80 : UInt8), (47 : UInt8), (50 : UInt8), (46 : UInt8), (48 : UInt8)] a0 a1 p0 p1 [[AV.int IntKind.u16 m0, AV.int IntKind.u16 m1]] (sub (spCallH a0 p0 m0) 0 (List.length (spCallH a0 p0 m0))) (sub (spCallB a0 m0) 0 (List.length (spCallB a0 m0)))))) ≤ 4611686018427387904))))) = true)) := by unfold Path; kernel_rfl
theorem sameC_refl (s : List UInt8) (h b : List (List AV)) : spSameM s h b s h b = true := by
  unfold spSameM
  have : spEqH h h = true := by
    unfold spEqH
    rw [decide_eq_true rfl, Bool.true_and, List.all_eq_true]
    intro k _
    unfold eqAt
    simp
  rw [this]
  simp
theorem callH_facts {a p m : Int} (hp : 0 ≤ p ∧ p ≤ 65535) (hm : 0 ≤ m ∧ m ≤ 65535) : (spCallH a p m).all short = true ∧ (spCallH a p m).length = 3 ∧ (spCallB a m).length ≤ 300 ∧ (spCallH a p m).all twoB = true := by
  have h1 := hp_len (a := a) (p := p) hp.1 hp.2
  have h3 := len_itoa m (by omega)
  have hl : (cBody (spDotted a) (spItoa m)).length ≤ 300 := by rw [cBody_len]; have := len_dotted a; omega
  have h4 := len_itoa (((cBody (spDotted a) (spItoa m)).length : Nat) : Int) (by omega)
  refine ⟨?_, rfl, by unfold spCallB; rw [byteRows_length]; exact hl, rfl⟩
  unfold spCallH cRows
  have s1 : short [.str nmVia, .str (cVia (Go.Proofs.YtpdgmgkkbbndfaaGreatDoor.hp a p))] = true := decide_eq_true (by
    show nmVia.length ≤ 4294967200 ∧ (cVia (Go.Proofs.YtpdgmgkkbbndfaaGreatDoor.hp a p)).length ≤ 4294967200
    unfold cVia nmVia mkVia; simp only [List.length_append, List.length_cons, List.length_nil]; omega)
  have s2 : short [.str nmCon, .str (v2 (Go.Proofs.YtpdgmgkkbbndfaaGreatDoor.hp a p))] = true := decide_eq_true (by
    show nmCon.length ≤ 4294967200 ∧ (v2 (Go.Proofs.YtpdgmgkkbbndfaaGreatDoor.hp a p)).length ≤ 4294967200
    unfold v2 nmCon; simp only [List.length_append, List.length_cons, List.length_nil]; omega)
  have s3 : short [.str nmLen, .str (spItoa (((cBody (spDotted a) (spItoa m)).length : Nat) : Int))] = true := decide_eq_true (by
    show nmLen.length ≤ 4294967200 ∧ (spItoa (((cBody (spDotted a) (spItoa m)).length : Nat) : Int)).length ≤ 4294967200
    unfold nmLen; simp only [List.length_cons, List.length_nil]; omega)
  rw [List.all_cons, List.all_cons, List.all_cons, s1, s2, s3]; rfl
theorem calls7 {w : World} {a0 a1 p0 p1 m0 m1 : Int} (gw : GW w) (hp0 : 0 ≤ p0 ∧ p0 ≤ 65535) (hp1 : 0 ≤ p1 ∧ p1 ≤ 65535) (hm0 : 0 ≤ m0 ∧ m0 ≤ 65535) (hm1 : 0 ≤ m1 ∧ m1 ≤ 65535) :
    Calls Tryz.prog 7 #[.agg #[.int .u32 a0, .int .u32 a1], .agg #[.int .u16 p0, .int .u16 p1], .agg #[.int .u16 m0, .int .u16 m1]] w (fun e w' => e = .returned (.bool true) ∧ RowKit.Below w.heap.size w w') := by
  have hE : HSim (fun _ => ⟨0, 0, 0, 0, false⟩) (addBlks .e 0 ([] : List Blk)) ([] : List Blk).length w := HSim.ins gw (fun i blk hi => by simp at hi)
  by_cases z1 : p0 = 0
  · have q1 : (p0 == (0 : Int)) = true := by rw [z1]; rfl
    exact calls_pureB P21_ok (c7_T a0 a1 p0 p1 m0 m1) ⟨⟨⟨⟨trivial, rfl⟩, rfl⟩, (by assumption)⟩, rfl⟩ hE rfl rfl rfl
  · have q1 : (p0 == (0 : Int)) = false := by rw [beq_eq_false_iff_ne]; exact z1
    by_cases z2 : p1 = 0
    · have q2 : (p1 == (0 : Int)) = true := by rw [z2]; rfl
      exact calls_pureB P21_ok (c7_FT a0 a1 p0 p1 m0 m1) ⟨⟨⟨⟨⟨⟨⟨trivial, rfl⟩, rfl⟩, (by assumption)⟩, rfl⟩, rfl⟩, (by assumption)⟩, rfl⟩ hE rfl rfl rfl
    · have q2 : (p1 == (0 : Int)) = false := by rw [beq_eq_false_iff_ne]; exact z2
      by_cases z3 : m0 = 0
      · have q3 : (m0 == (0 : Int)) = true := by rw [z3]; rfl
        exact calls_pureB P21_ok (c7_FFT a0 a1 p0 p1 m0 m1) ⟨⟨⟨⟨⟨⟨⟨⟨⟨⟨trivial, rfl⟩, rfl⟩, (by assumption)⟩, rfl⟩, rfl⟩, (by assumption)⟩, rfl⟩, rfl⟩, (by assumption)⟩, rfl⟩ hE rfl rfl rfl
      · have q3 : (m0 == (0 : Int)) = false := by rw [beq_eq_false_iff_ne]; exact z3
        by_cases z4 : m1 = 0
        · have q4 : (m1 == (0 : Int)) = true := by rw [z4]; rfl
          exact calls_pureB P21_ok (c7_FFFT a0 a1 p0 p1 m0 m1) ⟨⟨⟨⟨⟨⟨⟨⟨⟨⟨⟨⟨⟨trivial, rfl⟩, rfl⟩, (by assumption)⟩, rfl⟩, rfl⟩, (by assumption)⟩, rfl⟩, rfl⟩, (by assumption)⟩, rfl⟩, rfl⟩, (by assumption)⟩, rfl⟩ hE rfl rfl rfl
        · have q4 : (m1 == (0 : Int)) = false := by rw [beq_eq_false_iff_ne]; exact z4
          obtain ⟨hs0, hl0, hb0, ht0⟩ := callH_facts (a := a0) hp0 hm0
          obtain ⟨hs1, hl1, hb1, _⟩ := callH_facts (a := a1) hp1 hm1
          obtain ⟨n, rfl⟩ : ∃ n : Nat, m0 = (n : Int) := ⟨m0.toNat, by omega⟩
          obtain ⟨k, rfl⟩ : ∃ k : Nat, m1 = (k : Int) := ⟨m1.toNat, by omega⟩
          obtain ⟨r1, r2⟩ := call_rw (a := a0) (b := a1) (p := p0) (q := p1) (n := n) (m := k) (by omega) hp0.2 (by omega) hp1.2 (by omega) (by omega) (by omega)
          have hH1 : spRwH [(73 : UInt8), (78 : UInt8), (86 : UInt8), (73 : UInt8), (84 : UInt8), (69 : UInt8), (32 : UInt8), (115 : UInt8), (105 : UInt8), (112 : UInt8), (58 : UInt8), (98 : UInt8), (32 : UInt8), (83 : UInt8), (73 : UInt8), (80 : UInt8), (47 : UInt8), (50 : UInt8), (46 : UInt8), (48 : UInt8)] a0 a1 p0 p1 [[AV.int IntKind.u16 (n : Int), AV.int IntKind.u16 (k : Int)]] (spCallH a0 p0 (n : Int)) (spCallB a0 (n : Int)) = spCallH a1 p1 (k : Int) := r1
          have hB1 : spRwB [(73 : UInt8), (78 : UInt8), (86 : UInt8), (73 : UInt8), (84 : UInt8), (69 : UInt8), (32 : UInt8), (115 : UInt8), (105 : UInt8), (112 : UInt8), (58 : UInt8), (98 : UInt8), (32 : UInt8), (83 : UInt8), (73 : UInt8), (80 : UInt8), (47 : UInt8), (50 : UInt8), (46 : UInt8), (48 : UInt8)] a0 a1 p0 p1 [[AV.int IntKind.u16 (n : Int), AV.int IntKind.u16 (k : Int)]] (spCallH a0 p0 (n : Int)) (spCallB a0 (n : Int)) = spCallB a1 (k : Int) := r2
          have hP : spPorts a0 (List.map rowByte (spCallB a0 (n : Int))) = [[AV.int .u16 (n : Int)]] := by
            unfold spCallB
            rw [row_bytes_map]
            exact call_ports (by omega) (by omega)
          have hR : spRight [(73 : UInt8), (78 : UInt8), (86 : UInt8), (73 : UInt8), (84 : UInt8), (69 : UInt8), (32 : UInt8), (115 : UInt8), (105 : UInt8), (112 : UInt8), (58 : UInt8), (98 : UInt8), (32 : UInt8), (83 : UInt8), (73 : UInt8), (80 : UInt8), (47 : UInt8), (50 : UInt8), (46 : UInt8), (48 : UInt8)] (spCallH a0 p0 (n : Int)) (spCallB a0 (n : Int)).length = true := by
            have hc := call_right (n := cN a0 n) (hp_plain (a := a0) (p := p0) hp0.1) (by have := hp_len (a := a0) (p := p0) hp0.1 hp0.2; omega) (by have := cN_le a0 (m := n) (by omega); omega)
            have e : (spCallB a0 (n : Int)).length = cN a0 n := by unfold spCallB; rw [byteRows_length]; rfl
            rw [e]; exact hc
          have hcall := calls_pureB P21_ok (c7_FFFFTTT a0 a1 p0 p1 (n : Int) (k : Int)) ⟨⟨⟨⟨⟨⟨⟨⟨⟨⟨⟨⟨⟨⟨⟨⟨⟨⟨⟨⟨⟨⟨⟨⟨⟨⟨⟨⟨⟨⟨⟨⟨⟨⟨⟨⟨⟨⟨⟨⟨⟨⟨⟨⟨⟨⟨⟨⟨⟨⟨⟨⟨⟨⟨⟨⟨⟨⟨⟨⟨⟨⟨⟨⟨⟨⟨⟨⟨trivial, rfl⟩, rfl⟩, q1⟩, rfl⟩, rfl⟩, q2⟩, rfl⟩, rfl⟩, q3⟩, rfl⟩, rfl⟩, q4⟩, rfl⟩, rfl⟩, rfl⟩, rfl⟩, rfl⟩, rfl⟩, (decide_eq_true (by omega))⟩, rfl⟩, rfl⟩, rfl⟩, rfl⟩, rfl⟩, rfl⟩, rfl⟩, rfl⟩, rfl⟩, (by ((try simp only [sub_whl]); simp only [hH1, hB1, hP, hR, hs0, hs1, hl0, hl1, ht0, List.length_cons, List.length_nil, Bool.and_eq_true, Bool.true_and, decide_eq_true_eq, and_true, true_and, eq_self] ; try (first | omega | exact beq_self_eq_true _ | decide)))⟩, rfl⟩, rfl⟩, rfl⟩, rfl⟩, rfl⟩, rfl⟩, rfl⟩, rfl⟩, rfl⟩, rfl⟩, rfl⟩, rfl⟩, rfl⟩, (by ((try simp only [sub_whl]); simp only [hH1, hB1, hP, hR, hs0, hs1, hl0, hl1, ht0, List.length_cons, List.length_nil, Bool.and_eq_true, Bool.true_and, decide_eq_true_eq, and_true, true_and, eq_self] ; try (first | omega | exact beq_self_eq_true _ | decide)))⟩, rfl⟩, rfl⟩, rfl⟩, rfl⟩, rfl⟩, rfl⟩, rfl⟩, (by ((try simp only [sub_whl]); simp only [hH1, hB1, hP, hR, hs0, hs1, hl0, hl1, ht0, List.length_cons, List.length_nil, Bool.and_eq_true, Bool.true_and, decide_eq_true_eq, and_true, true_and, eq_self] ; try (first | omega | exact beq_self_eq_true _ | decide)))⟩, (by ((try simp only [sub_whl]); simp only [hH1, hB1, hP, hR, hs0, hs1, hl0, hl1, ht0, List.length_cons, List.length_nil, Bool.and_eq_true, Bool.true_and, decide_eq_true_eq, and_true, true_and, eq_self] ; try (first | omega | exact beq_self_eq_true _ | decide)))⟩, (by ((try simp only [sub_whl]); simp only [hH1, hB1, hP, hR, hs0, hs1, hl0, hl1, ht0, List.length_cons, List.length_nil, Bool.and_eq_true, Bool.true_and, decide_eq_true_eq, and_true, true_and, eq_self] ; try (first | omega | exact beq_self_eq_true _ | decide)))⟩, (by ((try simp only [sub_whl]); simp only [hH1, hB1, hP, hR, hs0, hs1, hl0, hl1, ht0, List.length_cons, List.length_nil, Bool.and_eq_true, Bool.true_and, decide_eq_true_eq, and_true, true_and, eq_self] ; try (first | omega | exact beq_self_eq_true _ | decide)))⟩, (by ((try simp only [sub_whl]); simp only [hH1, hB1, hP, hR, hs0, hs1, hl0, hl1, ht0, List.length_cons, List.length_nil, Bool.and_eq_true, Bool.true_and, decide_eq_true_eq, and_true, true_and, eq_self] ; try (first | omega | exact beq_self_eq_true _ | decide)))⟩, (by ((try simp only [sub_whl]); simp only [hH1, hB1, hP, hR, hs0, hs1, hl0, hl1, ht0, List.length_cons, List.length_nil, Bool.and_eq_true, Bool.true_and, decide_eq_true_eq, and_true, true_and, eq_self] ; try (first | omega | exact beq_self_eq_true _ | decide)))⟩, rfl⟩, rfl⟩, (by ((try simp only [sub_whl]); simp only [hH1, hB1, hP, hR, hs0, hs1, hl0, hl1, ht0, List.length_cons, List.length_nil, Bool.and_eq_true, Bool.true_and, decide_eq_true_eq, and_true, true_and, eq_self] ; try (first | omega | exact beq_self_eq_true _ | decide)))⟩, rfl⟩, rfl⟩, rfl⟩, rfl⟩, rfl⟩, rfl⟩, rfl⟩, (decide_eq_true (by omega))⟩, (by ((try simp only [sub_whl]); simp only [hH1, hB1, hP, hR, hs0, hs1, hl0, hl1, ht0, List.length_cons, List.length_nil, Bool.and_eq_true, Bool.true_and, decide_eq_true_eq, and_true, true_and, eq_self] ; try (first | omega | exact beq_self_eq_true _ | decide)))⟩ hE rfl rfl rfl
          refine hcall.mono fun e w' hx => ?_
          obtain ⟨rfl, hb⟩ := hx
          refine ⟨?_, hb⟩
          simp only [sub_whl, hH1, hB1]
          have hsm : spSameM [(73 : UInt8), (78 : UInt8), (86 : UInt8), (73 : UInt8), (84 : UInt8), (69 : UInt8), (32 : UInt8), (115 : UInt8), (105 : UInt8), (112 : UInt8), (58 : UInt8), (98 : UInt8), (32 : UInt8), (83 : UInt8), (73 : UInt8), (80 : UInt8), (47 : UInt8), (50 : UInt8), (46 : UInt8), (48 : UInt8)] (spCallH a1 p1 (k : Int)) (spCallB a1 (k : Int)) sgCall (spCallH a1 p1 (k : Int)) (spCallB a1 (k : Int)) = true := sameC_refl sgCall _ _
          rw [hsm]
          rfl
end Go.Proofs.YtpdgmgkkbbndfaaGreatDoor

