/- Part 5 of the proof: texts that the last one builds upon. Conditions: as each theorem says. -/
import Derived.Test.YtpdgmgkkbbndfaaGreatDoorB3
import Derived.Shelf.LaysM
import Derived.Shelf.Bytes.Bytes
import Derived.Shelf.LaysC
import Derived.Shelf.Bytes.GrowKept
import Derived.Shelf.Bytes.WriteStringKept
import Derived.Shelf.Bytes.WriteAny
import Derived.Shelf.Bytes.Small
import Derived.Test.YtpdgmgkkbbndfaaGreatDoorProg
import Derived.Lib.BufferKept
import Derived.Lib.BufferOld
import Derived.Lib.Strings
import Derived.WalkKit
import Derived.BigCall
set_option maxRecDepth 100000
set_option linter.unusedVariables false
set_option linter.unusedSimpArgs false
namespace Go.Proofs.YtpdgmgkkbbndfaaGreatDoor
open Go Go.Proofs Go.Proofs.YtpdgmgkkbbndfaaGreatDoor.SX
def plainC (c : UInt8) : Bool := isDig c || (c == 46 || c == 58)
theorem dig_plain {l : List UInt8} (h : l.all isDig = true) : ∀ c ∈ l, plainC c = true := fun c hc => by
  unfold plainC; rw [List.all_eq_true.1 h c hc]; rfl
theorem itoa_plain {n : Int} (h : 0 ≤ n) : ∀ c ∈ spItoa n, plainC c = true := by
  obtain ⟨k, rfl⟩ := Int.eq_ofNat_of_zero_le h
  exact dig_plain (itoa_dig k).1
theorem dotted_plain (a : Int) : ∀ c ∈ spDotted a, plainC c = true := by
  have h1 := itoa_plain (octet_range a 16777216).1; have h2 := itoa_plain (octet_range a 65536).1; have h3 := itoa_plain (octet_range a 256).1; have h4 := itoa_plain (octet_range a 1).1
  unfold spDotted
  rw [join4]
  intro c hc
  simp only [List.mem_append, List.mem_cons, List.not_mem_nil, or_false] at hc
  rcases hc with (((((h | h) | h) | h) | h) | h) | h
  · exact h1 c h
  · subst h; rfl
  · exact h2 c h
  · subst h; rfl
  · exact h3 c h
  · subst h; rfl
  · exact h4 c h
def hp (a p : Int) : List UInt8 := spDotted a ++ [58] ++ spItoa p
theorem hp_plain {a p : Int} (h : 0 ≤ p) : ∀ c ∈ hp a p, plainC c = true := by
  unfold hp
  intro c hc
  simp only [List.mem_append, List.mem_cons, List.not_mem_nil, or_false] at hc
  rcases hc with (h1 | h1) | h1
  · exact dotted_plain a c h1
  · subst h1; rfl
  · exact itoa_plain h c h1
theorem plain_ne {c d : UInt8} (h : plainC c = true) (hd : plainC d = false) : c ≠ d := fun e => by rw [e, hd] at h; cases h
theorem hp_len {a p : Int} (h0 : 0 ≤ p) (h1 : p ≤ 65535) : (hp a p).length ≤ 109 := by
  have h2 := len_dotted a
  have h3 := len_itoa p (by omega)
  unfold hp
  simp only [List.length_append, List.length_cons, List.length_nil]; omega
theorem hasPre_app (p r : List UInt8) : spHasPre (p ++ r) p = true := by
  unfold spHasPre Lib.hasPrefix
  rw [List.isPrefixOf_iff_prefix]
  exact ⟨r, rfl⟩
theorem trimPre_app (p r : List UInt8) : spTrimPre (p ++ r) p = r := by
  unfold spTrimPre Lib.trimPrefix
  have := hasPre_app p r
  unfold spHasPre at this
  rw [this, if_pos rfl]
  simp
theorem place_hp {a b p tp : Int} (h0 : 1 ≤ p) (h1 : p ≤ 65535) : spPlace (spDotted a) (spDotted b) (hp a p) p tp = hp b tp := by
  obtain ⟨n, rfl⟩ := Int.eq_ofNat_of_zero_le (show 0 ≤ p by omega)
  have hn := numeral_itoa n (by omega) (by omega)
  unfold spPlace hp
  rw [hasPre_app, trimPre_app, hn]
  have e1 : (spDotted a ++ [58] ++ spItoa (n : Int) == spDotted a) = false := by
    rw [beq_eq_false_iff_ne]
    intro e
    have := congrArg List.length e
    simp only [List.length_append, List.length_cons, List.length_nil] at this
    omega
  have e2 : ((n : Int) == 0) = false := by rw [beq_eq_false_iff_ne]; omega
  rw [e1, e2, show ((n : Int) == (n : Int)) = true by simp]
  rfl
theorem behind_of {hs ts s mark signs b a : List UInt8} {p tp : Int} {c : UInt8} {h r : List UInt8} (h1 : spBefore s mark = b ∧ spAfter s mark = a ∧ spFound s mark = true) (h2 : a = h ++ c :: r) (h3 : ∀ d ∈ h, signs.contains d = false) (h4 : signs.contains c = true) :
    spBehind hs ts s mark signs p tp = b ++ mark ++ spPlace hs ts h p tp ++ c :: r := by
  obtain ⟨e1, e2, e3⟩ := h1
  subst h2
  unfold spBehind
  rw [e1, e2, e3]
  have e4 : spAnyAt (h ++ c :: r) signs = (h.length : Int) := by
    unfold spAnyAt
    rw [firstAt_app (p := fun c => signs.contains c) h3 h4]
  have e5 : spEnd (h ++ c :: r) signs = h.length := by
    unfold spEnd
    rw [e4, decide_eq_false (by omega)]
    rfl
  rw [e5]
  have e6 : sub (h ++ c :: r) 0 h.length = h := by simp [sub]
  have e7 : sub (h ++ c :: r) h.length ((h ++ c :: r).length - h.length) = c :: r := by simp [sub]
  rw [e6, e7]
  rfl
def sgInv : List UInt8 := [73, 78, 86, 73, 84, 69]
def v1 (h : List UInt8) : List UInt8 := mkVia ++ (h ++ [59, 120])
def v2 (h : List UInt8) : List UInt8 := [60, 115, 105, 112, 58, 97] ++ 64 :: (h ++ [62])
def rows3 (h : List UInt8) : List (List AV) := [[.str [118, 105, 97], .str (v1 h)], [.str [67, 79, 78, 84, 65, 67, 84], .str (v2 h)], [.str [67, 111, 110, 116, 101, 110, 116, 45, 76, 101, 110, 103, 116, 104], .str [48]]]
theorem via_hp {a b p tp : Int} (h0 : 1 ≤ p) (h1 : p ≤ 65535) : spBehind (spDotted a) (spDotted b) (v1 (hp a p)) mkVia [59] p tp = v1 (hp b tp) := by
  have hpl := hp_plain (a := a) (p := p) (by omega)
  rw [show v1 (hp a p) = mkVia ++ (hp a p ++ [59, 120]) from rfl, behind_of (h := hp a p) (c := 59) (r := [120]) (cut_pre (t := mkVia) (r := hp a p ++ [59, 120]) (by decide)) rfl (fun d hd => ?_) rfl, place_hp h0 h1]
  · unfold v1; simp
  · have := plain_ne (hpl d hd) (show plainC 59 = false by decide)
    simp [this]
theorem contact_hp {a b p tp : Int} (h0 : 1 ≤ p) (h1 : p ≤ 65535) : spBehind (spDotted a) (spDotted b) (v2 (hp a p)) [64] [62, 59] p tp = v2 (hp b tp) := by
  have hpl := hp_plain (a := a) (p := p) (by omega)
  rw [show v2 (hp a p) = [60, 115, 105, 112, 58, 97] ++ 64 :: (hp a p ++ [62]) from rfl, behind_of (h := hp a p) (c := 62) (r := []) (cut_char (x := 64) (a := [60, 115, 105, 112, 58, 97]) (r := hp a p ++ [62]) (by decide)) rfl (fun d hd => ?_) rfl, place_hp h0 h1]
  · unfold v2; simp
  · have e1 := plain_ne (hpl d hd) (show plainC 62 = false by decide)
    have e2 := plain_ne (hpl d hd) (show plainC 59 = false by decide)
    simp [e1, e2]
theorem itoa0 : spItoa 0 = [48] := by
  have : spItoa ((0 : Nat) : Int) = [48] := by rw [itoa_nat, Lib.decDigits_one (by decide)]; rfl
  exact this
theorem body0 (a b : Int) : rwBody a b [] [] = [] := by
  unfold rwBody
  have e1 : spLines (([] : List (List AV)).map rowByte) = [([], [])] := by decide
  rw [e1]
  unfold outB spLineOut spLine
  have e2 : (([] : List UInt8) == sgConn ++ spDotted a) = false := rfl
  have e3 : spHasSuf [] (sgOrig ++ spDotted a) = false := by
    unfold spHasSuf Lib.hasSuffix
    cases h : (sgOrig ++ spDotted a).isSuffixOf ([] : List UInt8) with
    | false => rfl
    | true =>
      rw [List.isSuffixOf_iff_suffix] at h
      have := h.length_le
      simp [sgOrig] at this
  have e4 : spIdx [] (spMedN []) = -1 := rfl
  simp only [List.map_cons, List.map_nil, e2, e3, e4]
  rfl
theorem not_crlf {l : List UInt8} (h : ∀ c ∈ l, plainC c = true) : l.any isCrlf = false := by
  rw [List.any_eq_false]
  intro c hc
  have e1 := plain_ne (h c hc) (show plainC 13 = false by decide)
  have e2 := plain_ne (h c hc) (show plainC 10 = false by decide)
  simp [isCrlf, e1, e2]
theorem right3 {h : List UInt8} (hc : ∀ c ∈ h, plainC c = true) (hl : h.length ≤ 200) : spRight sgInv (rows3 h) 0 = true := by
  have hb := not_crlf hc
  have b1 : spBroken (v1 h) = false := by unfold spBroken v1; rw [List.any_append, List.any_append, hb]; rfl
  have b2 : spBroken (v2 h) = false := by unfold spBroken v2; simp only [List.any_append, List.any_cons, List.any_nil, hb]; rfl
  have t1 : spTrim (v1 h) [32] = v1 h := by
    have e : v1 h = 83 :: (([73, 80, 47, 50, 46, 48, 47, 85, 68, 80, 32] ++ (h ++ [59])) ++ [120]) := by unfold v1 mkVia; simp
    rw [e]; exact trim_ends (by decide) (by decide)
  have t2 : spTrim (v2 h) [32] = v2 h := by
    have e : v2 h = 60 :: (([115, 105, 112, 58, 97] ++ 64 :: h) ++ [62]) := by unfold v2; simp
    rw [e]; exact trim_ends (by decide) (by decide)
  have t3 : spTrim [48] [32] = [48] := by decide
  have l1 : (v1 h).length = h.length + 14 := by unfold v1 mkVia; simp
  have l2 : (v2 h).length = h.length + 8 := by unfold v2; simp
  have n1 : isLen [.str [118, 105, 97], .str (v1 h)] = false := by show (spLow [118, 105, 97] == sgLen) = false; decide
  have n2 : isLen [.str [67, 79, 78, 84, 65, 67, 84], .str (v2 h)] = false := by show (spLow [67, 79, 78, 84, 65, 67, 84] == sgLen) = false; decide
  have n3 : isLen [.str [67, 111, 110, 116, 101, 110, 116, 45, 76, 101, 110, 103, 116, 104], .str [48]] = true := by show (spLow [67, 111, 110, 116, 101, 110, 116, 45, 76, 101, 110, 103, 116, 104] == sgLen) = true; decide
  have o1 : okHdr 0 [.str [118, 105, 97], .str (v1 h)] = true := by
    unfold okHdr; rw [n1]
    show (spIsName [118, 105, 97] && (!spBroken (v1 h) && ((spTrim (v1 h) [32] == v1 h) && (!false || _)))) = true
    rw [b1, t1, show spIsName [118, 105, 97] = true by decide]; simp
  have o2 : okHdr 0 [.str [67, 79, 78, 84, 65, 67, 84], .str (v2 h)] = true := by
    unfold okHdr; rw [n2]
    show (spIsName [67, 79, 78, 84, 65, 67, 84] && (!spBroken (v2 h) && ((spTrim (v2 h) [32] == v2 h) && (!false || _)))) = true
    rw [b2, t2, show spIsName [67, 79, 78, 84, 65, 67, 84] = true by decide]; simp
  have o3 : okHdr 0 [.str [67, 111, 110, 116, 101, 110, 116, 45, 76, 101, 110, 103, 116, 104], .str [48]] = true := by
    unfold okHdr; rw [n3]
    show (spIsName [67, 111, 110, 116, 101, 110, 116, 45, 76, 101, 110, 103, 116, 104] && (!spBroken [48] && ((spTrim [48] [32] == [48]) && (!true || ([48] == spItoa 0))))) = true
    rw [t3, itoa0, show spIsName [67, 111, 110, 116, 101, 110, 116, 45, 76, 101, 110, 103, 116, 104] = true by decide]; decide
  unfold spRight rows3
  have hs : hSize [[.str [118, 105, 97], .str (v1 h)], [.str [67, 79, 78, 84, 65, 67, 84], .str (v2 h)], [.str [67, 111, 110, 116, 101, 110, 116, 45, 76, 101, 110, 103, 116, 104], .str [48]]] = 3 + (v1 h).length + 4 + (7 + (v2 h).length + 4 + (14 + 1 + 4)) := rfl
  have hn : nLens [[.str [118, 105, 97], .str (v1 h)], [.str [67, 79, 78, 84, 65, 67, 84], .str (v2 h)], [.str [67, 111, 110, 116, 101, 110, 116, 45, 76, 101, 110, 103, 116, 104], .str [48]]] = 1 := by
    unfold nLens; simp only [List.filter_cons, n1, n2, n3]; rfl
  rw [hs, hn, l1, l2]
  simp only [List.all_cons, List.all_nil, o1, o2, o3]
  have e : decide (sgInv.length + 4 + 0 + (3 + (h.length + 14) + 4 + (7 + (h.length + 8) + 4 + (14 + 1 + 4))) ≤ 4096) = true := decide_eq_true (by simp only [sgInv, List.length_cons, List.length_nil]; omega)
  rw [e]
  rfl
theorem hdr_via (hs ts : List UInt8) (p tp : Int) (m : Nat) (v : List UInt8) : spHdr hs ts p tp m [.str [118, 105, 97], .str v] = [.str [118, 105, 97], .str (spBehind hs ts v mkVia [59] p tp)] := by
  unfold spHdr
  rw [show (spLow (hN [.str [118, 105, 97], .str v]) == sgVia) = true by show (spLow [118, 105, 97] == sgVia) = true; decide]
  rfl
theorem hdr_contact (hs ts : List UInt8) (p tp : Int) (m : Nat) (v : List UInt8) : spHdr hs ts p tp m [.str [67, 79, 78, 84, 65, 67, 84], .str v] = [.str [67, 79, 78, 84, 65, 67, 84], .str (spBehind hs ts v [64] [62, 59] p tp)] := by
  unfold spHdr
  rw [show (spLow (hN [.str [67, 79, 78, 84, 65, 67, 84], .str v]) == sgVia) = false by show (spLow [67, 79, 78, 84, 65, 67, 84] == sgVia) = false; decide,
    show (spLow (hN [.str [67, 79, 78, 84, 65, 67, 84], .str v]) == sgContact) = true by show (spLow [67, 79, 78, 84, 65, 67, 84] == sgContact) = true; decide]
  rfl
theorem hdr_len (hs ts : List UInt8) (p tp : Int) (m : Nat) (v : List UInt8) : spHdr hs ts p tp m [.str [67, 111, 110, 116, 101, 110, 116, 45, 76, 101, 110, 103, 116, 104], .str v] = [.str [67, 111, 110, 116, 101, 110, 116, 45, 76, 101, 110, 103, 116, 104], .str (spItoa (m : Int))] := by
  unfold spHdr
  rw [show (spLow (hN [.str [67, 111, 110, 116, 101, 110, 116, 45, 76, 101, 110, 103, 116, 104], .str v]) == sgVia) = false by show (spLow [67, 111, 110, 116, 101, 110, 116, 45, 76, 101, 110, 103, 116, 104] == sgVia) = false; decide,
    show (spLow (hN [.str [67, 111, 110, 116, 101, 110, 116, 45, 76, 101, 110, 103, 116, 104], .str v]) == sgContact) = false by show (spLow [67, 111, 110, 116, 101, 110, 116, 45, 76, 101, 110, 103, 116, 104] == sgContact) = false; decide,
    show (spLow (hN [.str [67, 111, 110, 116, 101, 110, 116, 45, 76, 101, 110, 103, 116, 104], .str v]) == sgLen) = true by show (spLow [67, 111, 110, 116, 101, 110, 116, 45, 76, 101, 110, 103, 116, 104] == sgLen) = true; decide]
  rfl
theorem hides {host to_ p0 p1 : Int} (h0 : 1 ≤ p0) (h1 : p0 ≤ 65535) (h2 : 0 ≤ p1) (h3 : p1 ≤ 65535) : spRwH sgInv host to_ p0 p1 [] (rows3 (hp host p0)) [] = rows3 (hp to_ p1) := by
  have w0 : IntKind.wrap .i64 p0 = p0 := IntWalk.i64_in _ (by omega)
  have w1 : IntKind.wrap .i64 p1 = p1 := IntWalk.i64_in _ (by omega)
  have e1 : rwHdrs host to_ p0 p1 [] (rows3 (hp host p0)) [] = rows3 (hp to_ p1) := by
    unfold rwHdrs
    rw [body0, w0, w1]
    unfold rows3
    simp only [List.map_cons, List.map_nil]
    rw [hdr_via, hdr_contact, hdr_len, via_hp h0 h1, contact_hp h0 h1]
    rw [show spItoa (([] : List UInt8).length : Int) = [48] from itoa0]
  have r1 := right3 (hp_plain (a := host) (p := p0) (by omega)) (by have := hp_len (a := host) (p := p0) (by omega) h1; omega)
  have r2 := right3 (hp_plain (a := to_) (p := p1) h2) (by have := hp_len (a := to_) (p := p1) h2 h3; omega)
  have e2 : rwOk sgInv host to_ p0 p1 [] (rows3 (hp host p0)) [] = true := by
    unfold rwOk
    rw [e1, body0]
    show (spRight sgInv (rows3 (hp host p0)) 0 && spRight sgInv (rows3 (hp to_ p1)) 0) = true
    rw [r1, r2]; rfl
  unfold spRwH
  rw [e2, e1]
  rfl
end Go.Proofs.YtpdgmgkkbbndfaaGreatDoor
namespace Go.Proofs
open Go.Shelf
def Tryz.b_laysM251_ren : Go.Shelf.Ren := ⟨fun | 251 => 84 | n => n, fun | 130 => 134 | 3 => 3 | 4 => 4 | 0 => 0 | 93 => 95 | 37 => 23 | 91 => 93 | 5 => 5 | n => n, fun | n => n⟩
theorem Tryz.b_laysM251 : Go.Proofs.LaysM.n251 Tryz.prog Tryz.b_laysM251_ren := {
  mixed := by kernel_rfl
  f251 := Tryz.func84.trans (congrArg some (by kernel_rfl))
  t0 := Tryz.underlying0
  a0 := Tryz.isAgg0
  z0 := Tryz.sizeOf0
  v0 := Tryz.zeroValue0
  t3 := Tryz.underlying3
  a3 := Tryz.isAgg3
  z3 := Tryz.sizeOf3
  v3 := Tryz.zeroValue3
  t4 := Tryz.underlying4
  a4 := Tryz.isAgg4
  z4 := Tryz.sizeOf4
  v4 := Tryz.zeroValue4
  t37 := Tryz.underlying23
  a37 := Tryz.isAgg23
  z37 := Tryz.sizeOf23
  v37 := Tryz.zeroValue23
  t93 := Tryz.underlying95
  a93 := Tryz.isAgg95
  z93 := Tryz.sizeOf95
  v93 := Tryz.zeroValue95
  t130 := Tryz.underlying134
  a130 := Tryz.isAgg134
  z130 := Tryz.sizeOf134
  v130 := Tryz.zeroValue134
  t5 := Tryz.underlying5
  a5 := Tryz.isAgg5
  z5 := Tryz.sizeOf5
  v5 := Tryz.zeroValue5
  t91 := Tryz.underlying93
  a91 := Tryz.isAgg93
  z91 := Tryz.sizeOf93
  v91 := Tryz.zeroValue93
  i0 := by kernel_rfl
  i3 := by kernel_rfl
  i4 := by kernel_rfl
  i5 := by kernel_rfl
  i37 := by kernel_rfl
  i91 := by kernel_rfl
  i93 := by kernel_rfl
  i130 := by kernel_rfl }
def Tryz.b_laysM183_ren : Go.Shelf.Ren := ⟨fun | 183 => 55 | n => n, fun | 130 => 134 | 37 => 23 | 0 => 0 | 93 => 95 | 3 => 3 | 5 => 5 | 91 => 93 | n => n, fun | n => n⟩
theorem Tryz.b_laysM183 : Go.Proofs.LaysM.n183 Tryz.prog Tryz.b_laysM183_ren := {
  mixed := by kernel_rfl
  f183 := Tryz.func55.trans (congrArg some (by kernel_rfl))
  t0 := Tryz.underlying0
  a0 := Tryz.isAgg0
  z0 := Tryz.sizeOf0
  v0 := Tryz.zeroValue0
  t3 := Tryz.underlying3
  a3 := Tryz.isAgg3
  z3 := Tryz.sizeOf3
  v3 := Tryz.zeroValue3
  t37 := Tryz.underlying23
  a37 := Tryz.isAgg23
  z37 := Tryz.sizeOf23
  v37 := Tryz.zeroValue23
  t93 := Tryz.underlying95
  a93 := Tryz.isAgg95
  z93 := Tryz.sizeOf95
  v93 := Tryz.zeroValue95
  t130 := Tryz.underlying134
  a130 := Tryz.isAgg134
  z130 := Tryz.sizeOf134
  v130 := Tryz.zeroValue134
  t5 := Tryz.underlying5
  a5 := Tryz.isAgg5
  z5 := Tryz.sizeOf5
  v5 := Tryz.zeroValue5
  t91 := Tryz.underlying93
  a91 := Tryz.isAgg93
  z91 := Tryz.sizeOf93
  v91 := Tryz.zeroValue93
  i0 := by kernel_rfl
  i3 := by kernel_rfl
  i5 := by kernel_rfl
  i37 := by kernel_rfl
  i91 := by kernel_rfl
  i93 := by kernel_rfl
  i130 := by kernel_rfl }
open Go.RowKit in
theorem Tryz.Buffer_Bytes (B b : Nat) (bs : List Value) (w : World) (h : Lib.IsBuffer 95 5 B b bs w) :
    Calls Tryz.prog 55 #[.pointer (some ⟨b, 0, none⟩)] w fun e w' => ∃ v, e = .returned v ∧ w'.ownsRow B 5 1 v bs.length bs ∧ ∃ n, w' = w.drewN n := Any.Buffer_Bytes Tryz.b_laysM183 B b bs w h
open Go.RowKit in
theorem Tryz.Buffer_tryGrow_kept (B b n : Nat) (bs : List Value) (w : World) (h : Lib.IsBuffer 95 5 B b bs w) :
    Calls Tryz.prog 84 #[.pointer (some ⟨b, 0, none⟩), .int .i64 n] w fun e w' =>
      (e = .returned (.tuple #[.int .i64 bs.length, .bool true]) ∧ ∃ xs, xs.length = n ∧ Lib.IsBuffer 95 5 B b (bs ++ xs) w' ∧ Below B w w' ∧ Lib.OthersKept 5 (some b) w w') ∨
      (e = .returned (.tuple #[.int .i64 0, .bool false]) ∧ w' = w ∧ Lib.NoRoom b n w) := Any.Buffer_tryGrow_kept Tryz.b_laysM251 B b n bs w h
def Tryz.b_laysM178_ren : Go.Shelf.Ren := ⟨fun | 178 => 53 | 251 => 84 | 252 => 85 | 181 => 109 | 184 => 110 | 290 => 111 | 324 => 131 | n => n, fun | 130 => 134 | 9 => 9 | 3 => 3 | 75 => 97 | 0 => 0 | 93 => 95 | 91 => 93 | 131 => 135 | 4 => 4 | 37 => 23 | 20 => 20 | 80 => 156 | 5 => 5 | n => n, fun | 14 => 0 | n => n⟩
theorem Tryz.b_laysM178 : Go.Proofs.LaysM.n178 Tryz.prog Tryz.b_laysM178_ren := {
  mixed := by kernel_rfl
  f178 := Tryz.func53.trans (congrArg some (by kernel_rfl))
  f181 := Tryz.func109.trans (congrArg some (by kernel_rfl))
  f184 := Tryz.func110.trans (congrArg some (by kernel_rfl))
  f251 := Tryz.func84.trans (congrArg some (by kernel_rfl))
  f252 := Tryz.func85.trans (congrArg some (by kernel_rfl))
  f290 := Tryz.func111.trans (congrArg some (by kernel_rfl))
  f324 := Tryz.func131.trans (congrArg some (by kernel_rfl))
  t0 := Tryz.underlying0
  a0 := Tryz.isAgg0
  z0 := Tryz.sizeOf0
  v0 := Tryz.zeroValue0
  t3 := Tryz.underlying3
  a3 := Tryz.isAgg3
  z3 := Tryz.sizeOf3
  v3 := Tryz.zeroValue3
  t4 := Tryz.underlying4
  a4 := Tryz.isAgg4
  z4 := Tryz.sizeOf4
  v4 := Tryz.zeroValue4
  t9 := Tryz.underlying9
  a9 := Tryz.isAgg9
  z9 := Tryz.sizeOf9
  v9 := Tryz.zeroValue9
  t20 := Tryz.underlying20
  a20 := Tryz.isAgg20
  z20 := Tryz.sizeOf20
  v20 := Tryz.zeroValue20
  t37 := Tryz.underlying23
  a37 := Tryz.isAgg23
  z37 := Tryz.sizeOf23
  v37 := Tryz.zeroValue23
  t75 := Tryz.underlying97
  a75 := Tryz.isAgg97
  z75 := Tryz.sizeOf97
  v75 := Tryz.zeroValue97
  t91 := Tryz.underlying93
  a91 := Tryz.isAgg93
  z91 := Tryz.sizeOf93
  v91 := Tryz.zeroValue93
  t93 := Tryz.underlying95
  a93 := Tryz.isAgg95
  z93 := Tryz.sizeOf95
  v93 := Tryz.zeroValue95
  t130 := Tryz.underlying134
  a130 := Tryz.isAgg134
  z130 := Tryz.sizeOf134
  v130 := Tryz.zeroValue134
  t131 := Tryz.underlying135
  a131 := Tryz.isAgg135
  z131 := Tryz.sizeOf135
  v131 := Tryz.zeroValue135
  g14 := by kernel_rfl
  t5 := Tryz.underlying5
  a5 := Tryz.isAgg5
  z5 := Tryz.sizeOf5
  v5 := Tryz.zeroValue5
  t80 := Tryz.underlying156
  a80 := Tryz.isAgg156
  z80 := Tryz.sizeOf156
  v80 := Tryz.zeroValue156
  i0 := by kernel_rfl
  i3 := by kernel_rfl
  i4 := by kernel_rfl
  i5 := by kernel_rfl
  i9 := by kernel_rfl
  i20 := by kernel_rfl
  i37 := by kernel_rfl
  i75 := by kernel_rfl
  i80 := by kernel_rfl
  i91 := by kernel_rfl
  i93 := by kernel_rfl
  i130 := by kernel_rfl
  i131 := by kernel_rfl
  m14 := by kernel_rfl }
open Go.RowKit in
theorem Tryz.Buffer_WriteString_kept (B b : Nat) (bs : List Value) (s : ByteArray) (w : World) (h : Lib.IsBuffer 95 5 B b bs w) (hBw : B ≤ w.heap.size) (h1 : ∀ v ∈ bs, v.oneCell' = true) (hlim : bs.length + s.size ≤ 140737488355328) :
    Calls Tryz.prog 53 #[.pointer (some ⟨b, 0, none⟩), .string s] w fun e w' => e = .returned (.tuple #[.int .i64 s.size, .nilIface]) ∧ Lib.IsBuffer 95 5 B b (bs ++ Lib.byteCells s.data.toList) w' ∧ Below B w w' ∧ Lib.OthersKept 5 (some b) w w' := Any.Buffer_WriteString_kept Tryz.b_laysM178 B b bs s w h hBw h1 hlim
def Tryz.b_laysM180_ren : Go.Shelf.Ren := ⟨fun | 180 => 54 | 251 => 84 | 252 => 85 | 181 => 109 | 184 => 110 | 290 => 111 | 324 => 131 | n => n, fun | 130 => 134 | 37 => 23 | 3 => 3 | 75 => 97 | 0 => 0 | 93 => 95 | 91 => 93 | 131 => 135 | 4 => 4 | 20 => 20 | 5 => 5 | 80 => 156 | 9 => 9 | n => n, fun | 14 => 0 | n => n⟩
theorem Tryz.b_laysM180 : Go.Proofs.LaysM.n180 Tryz.prog Tryz.b_laysM180_ren := {
  mixed := by kernel_rfl
  f180 := Tryz.func54.trans (congrArg some (by kernel_rfl))
  f181 := Tryz.func109.trans (congrArg some (by kernel_rfl))
  f184 := Tryz.func110.trans (congrArg some (by kernel_rfl))
  f251 := Tryz.func84.trans (congrArg some (by kernel_rfl))
  f252 := Tryz.func85.trans (congrArg some (by kernel_rfl))
  f290 := Tryz.func111.trans (congrArg some (by kernel_rfl))
  f324 := Tryz.func131.trans (congrArg some (by kernel_rfl))
  t0 := Tryz.underlying0
  a0 := Tryz.isAgg0
  z0 := Tryz.sizeOf0
  v0 := Tryz.zeroValue0
  t3 := Tryz.underlying3
  a3 := Tryz.isAgg3
  z3 := Tryz.sizeOf3
  v3 := Tryz.zeroValue3
  t4 := Tryz.underlying4
  a4 := Tryz.isAgg4
  z4 := Tryz.sizeOf4
  v4 := Tryz.zeroValue4
  t20 := Tryz.underlying20
  a20 := Tryz.isAgg20
  z20 := Tryz.sizeOf20
  v20 := Tryz.zeroValue20
  t37 := Tryz.underlying23
  a37 := Tryz.isAgg23
  z37 := Tryz.sizeOf23
  v37 := Tryz.zeroValue23
  t75 := Tryz.underlying97
  a75 := Tryz.isAgg97
  z75 := Tryz.sizeOf97
  v75 := Tryz.zeroValue97
  t91 := Tryz.underlying93
  a91 := Tryz.isAgg93
  z91 := Tryz.sizeOf93
  v91 := Tryz.zeroValue93
  t93 := Tryz.underlying95
  a93 := Tryz.isAgg95
  z93 := Tryz.sizeOf95
  v93 := Tryz.zeroValue95
  t130 := Tryz.underlying134
  a130 := Tryz.isAgg134
  z130 := Tryz.sizeOf134
  v130 := Tryz.zeroValue134
  t131 := Tryz.underlying135
  a131 := Tryz.isAgg135
  z131 := Tryz.sizeOf135
  v131 := Tryz.zeroValue135
  g14 := by kernel_rfl
  t5 := Tryz.underlying5
  a5 := Tryz.isAgg5
  z5 := Tryz.sizeOf5
  v5 := Tryz.zeroValue5
  t9 := Tryz.underlying9
  a9 := Tryz.isAgg9
  z9 := Tryz.sizeOf9
  v9 := Tryz.zeroValue9
  t80 := Tryz.underlying156
  a80 := Tryz.isAgg156
  z80 := Tryz.sizeOf156
  v80 := Tryz.zeroValue156
  i0 := by kernel_rfl
  i3 := by kernel_rfl
  i4 := by kernel_rfl
  i5 := by kernel_rfl
  i9 := by kernel_rfl
  i20 := by kernel_rfl
  i37 := by kernel_rfl
  i75 := by kernel_rfl
  i80 := by kernel_rfl
  i91 := by kernel_rfl
  i93 := by kernel_rfl
  i130 := by kernel_rfl
  i131 := by kernel_rfl
  m14 := by kernel_rfl }
open Go.RowKit in
theorem Tryz.Buffer_Write_any (B b : Nat) (bs cs : List Value) (a : Addr) (n c : Nat) (w : World) (h : Lib.IsBuffer 95 5 B b bs w) (hBw : B ≤ w.heap.size) (h1 : ∀ v ∈ bs, v.oneCell' = true) (hn : cs.length = n) (hab : a.block ≠ b) (hsrc : ∀ j v, cs[j]? = some v → w.cell? (a.add j) = some v) (h1c : ∀ v ∈ cs, v.oneCell' = true) (hlim : bs.length + n ≤ 140737488355328) :
    Calls Tryz.prog 54 #[.pointer (some ⟨b, 0, none⟩), .slice (some a) n c] w fun e w' => e = .returned (.tuple #[.int .i64 n, .nilIface]) ∧ Lib.IsBuffer 95 5 B b (bs ++ cs) w' ∧ Below B w w' ∧ Lib.OthersKept 5 (some b) w w' := Any.Buffer_Write_any Tryz.b_laysM180 B b bs cs a n c w h hBw h1 hn hab hsrc h1c hlim
def Tryz.b_lays115_ren : Go.Shelf.Ren := ⟨fun | 115 => 62 | n => n, fun | 37 => 23 | 4 => 4 | 9 => 9 | 5 => 5 | n => n, fun | n => n⟩
theorem Tryz.b_lays115 : Go.Proofs.Lays.n115 Tryz.prog Tryz.b_lays115_ren := {
  mixed := by kernel_rfl
  f115 := Tryz.func62.trans (congrArg some (by kernel_rfl))
  t4 := Tryz.underlying4
  a4 := Tryz.isAgg4
  z4 := Tryz.sizeOf4
  v4 := Tryz.zeroValue4
  t9 := Tryz.underlying9
  a9 := Tryz.isAgg9
  z9 := Tryz.sizeOf9
  v9 := Tryz.zeroValue9
  t37 := Tryz.underlying23
  a37 := Tryz.isAgg23
  z37 := Tryz.sizeOf23
  v37 := Tryz.zeroValue23 }
theorem Tryz.bytes_Equal (v1 v2 : Value) (xs ys : List Int) (w : World) (h1 : (convert 23 9 v1).run Tryz.prog w = .ok (.string (strOfNums xs)) w) (h2 : (convert 23 9 v2).run Tryz.prog w = .ok (.string (strOfNums ys)) w) :
    Calls Tryz.prog 62 #[v1, v2] w fun e w' => e = .returned (.bool (Lib.bytesOf xs == Lib.bytesOf ys)) ∧ w' = w := Any.bytes_Equal Tryz.b_lays115 v1 v2 xs ys w h1 h2
end Go.Proofs
set_option maxRecDepth 100000
set_option maxHeartbeats 6400000
set_option linter.unusedVariables false
set_option linter.unusedSimpArgs false
namespace Go.Proofs.YtpdgmgkkbbndfaaGreatDoor
open Go Go.Proofs Go.RowKit Go.Shelf
theorem buf_write_nil (B b : Nat) (bs : List Value) (w : World) (h : Lib.IsBuffer 95 5 B b bs w) :
    Calls Tryz.prog 54 #[.pointer (some ⟨b, 0, none⟩), .slice none 0 0] w fun e w' => e = .returned (.tuple #[.int .i64 0, .nilIface]) ∧ Lib.IsBuffer 95 5 B b bs w' ∧ Below B w w' := by
  obtain ⟨hB, v0, lr, hbk, -, -⟩ := id h
  have c2 : w.cell? ⟨b, 2, none⟩ = some (.int .i8 lr) := by rw [Lib.cell_of_heap hbk]; rfl
  have f2 : w.frozen? ⟨b, 2, none⟩ = false := Lib.frozen_of_heap hbk 2
  have h' := h.setLast 0
  have hbel0 : Below B w (w.setCell ⟨b, 2, none⟩ (.int .i8 0)) := (Below.refl B w).setCell (p := ⟨b, 2, none⟩) hB _
  clear hbk v0
  have hinfo : (Tryz.prog.info? 5).map (·.size) = some 1 := by kernel_rfl
  have hce : ∀ d dLen dCap W, (Builtin.copy_ #[23, 23] 3 #[.slice d dLen dCap, .slice none 0 0]).run Tryz.prog W = .ok (goInt 0) W := fun d dLen dCap W => run_copy_none W 23 23 3 5 d none dLen dCap 0 0 Tryz.underlying23 hinfo (by simp)
  have hT : ∀ W, Lib.IsBuffer 95 5 B b bs W → Calls Tryz.prog 84 #[.pointer (some ⟨b, 0, none⟩), .int .i64 0] W _ := fun W hW => Tryz.Buffer_tryGrow_kept B b 0 bs W hW
  go_enter Tryz.func54, Tryz.ntmps54
  go_wp2_with (go_at_call 84; refine (hT _ ?_).mono ?_)
  · exact h'
  rintro e W1 (⟨rfl, xs, hxl, hI, hbel, hk⟩ | ⟨rfl, rfl, hnr⟩)
  · clear h' c2 f2 hT
    have hx0 : xs = [] := List.eq_nil_of_length_eq_zero hxl
    subst hx0
    rw [List.append_nil] at hI
    obtain ⟨-, lr2, hc⟩ := hI.cases
    rcases hc with ⟨hb0, hbk2⟩ | ⟨g, cap, cur, hbk2, -, -, hnc, hcm, -, -, -⟩
    · subst hb0
      have d0 : W1.cell? ⟨b, 0, none⟩ = some (.slice none 0 0) := by rw [Lib.cell_of_heap hbk2]; rfl
      go_wp2
      all_goals (go_ret2; first | exact ⟨rfl, hI, hbel0.trans hbel⟩ | exact ⟨by simp, by simpa using hI, hbel0.trans hbel⟩)
    · have d0 : W1.cell? ⟨b, 0, none⟩ = some (.slice (some ⟨g, 0, none⟩) bs.length cap) := by rw [Lib.cell_of_heap hbk2]; rfl
      unfold maxLen at hcm
      go_wp2
      all_goals (go_ret2; first | exact ⟨rfl, hI, hbel0.trans hbel⟩ | exact ⟨by simp, by simpa using hI, hbel0.trans hbel⟩)
  · obtain ⟨_, _, _, _, hlt⟩ := hnr
    omega
end Go.Proofs.YtpdgmgkkbbndfaaGreatDoor
set_option maxRecDepth 100000
set_option maxHeartbeats 6400000
set_option linter.unusedVariables false
set_option linter.unusedSimpArgs false
namespace Go.Proofs.YtpdgmgkkbbndfaaGreatDoor
open Go Go.Proofs Go.Proofs.YtpdgmgkkbbndfaaGreatDoor.SX Go.RowKit
theorem right_reads {w : World} {start : List UInt8} {hrows brows : List (List AV)} {hv bv : Value} (gw : GW w) (h1 : Reads w [.str, .str] hrows hv) (h2 : Reads w [.int .u8] brows bv)
    (hst : start.length ≤ 4294967200) (hsh : hrows.all short = true) (hbn : brows.length ≤ 140737488355328) :
    Calls Tryz.prog 26 #[.agg #[.string ⟨start.toArray⟩, hv, bv]] w (fun e w' => e = .returned (.bool (spRight start hrows brows.length)) ∧ Below w.heap.size w w') := by
  obtain ⟨b1, hb1⟩ := h1.bi gw rfl
  obtain ⟨b2, hb2⟩ := h2.bi gw rfl
  obtain ⟨ρ0, hρ0⟩ : ∃ ρ0 : Nat → BI, (fun i => if i = 0 then b1 else b2) = ρ0 := ⟨_, rfl⟩
  have g1 := hb1 ρ0 0 (by rw [← hρ0]; rfl)
  have g2 := hb2 ρ0 1 (by rw [← hρ0]; rfl)
  have hE : HSim ρ0 (addBlks .e 0 [.cells false [.str, .str] hrows, .cells false [.int .u8] brows]) ([.cells false [.str, .str] hrows, .cells false [.int .u8] brows] : List Blk).length w :=
    HSim.ins gw (fun i blk hi => by
      match i with
      | 0 => simp at hi; subst hi; exact ⟨g1.2, rfl, rfl⟩
      | 1 => simp at hi; subst hi; exact ⟨g2.2, rfl, rfl⟩
      | i + 2 => simp at hi)
  have hcall := right_calls hE hst hsh hbn
  have e1 : concL ρ0 [AV.agg [.str start, .slq 0 hrows.length, .slq 1 brows.length]] = [.agg #[.string ⟨start.toArray⟩, hv, bv]] := by
    show [Value.agg (concL ρ0 [AV.str start, .slq 0 hrows.length, .slq 1 brows.length]).toArray] = _
    simp only [concL]
    rw [g1.1, g2.1]
    rfl
  rw [e1] at hcall
  exact hcall
theorem hdr_cells {w : World} {hrows : List (List AV)} {hv : Value} (h : Reads w [.str, .str] hrows hv) (hp : 0 < hrows.length) :
    ∃ bk off c, hv = .slice (some ⟨bk, off, none⟩) hrows.length c ∧ bk < w.heap.size ∧ ∀ k (h : k < hrows.length), w.cell? ⟨bk, off + k * 2, none⟩ = some (.string ⟨(hN hrows[k]).toArray⟩) ∧ w.cell? ⟨bk, off + k * 2 + 1, none⟩ = some (.string ⟨(hV hrows[k]).toArray⟩) := by
  cases h with
  | nil h => rw [h] at hp; exact absurd hp (by decide)
  | cells bi c h =>
    refine ⟨bi.blk, bi.off, c, rfl, Blk.sat_lt h, fun k hk => ?_⟩
    obtain ⟨hz, cs, t, fr, g1, g2, g3⟩ := h
    have hz : bi.sz = 2 := hz
    have hr : hrows.getD k [] = hrows[k] := by rw [List.getD_eq_getElem?_getD, List.getElem?_eq_getElem hk]; rfl
    have a0 := g2 k 0 .str hk rfl
    have a1 := g2 k 1 .str hk rfl
    simp only [hz] at a0 a1
    constructor
    · simp only [World.cell?]
      rw [g1]
      simp only
      rw [show bi.off + k * 2 = bi.off + (k * 2 + 0) by omega, a0]
      unfold cellAt
      rw [hr]
      rfl
    · simp only [World.cell?]
      rw [g1]
      simp only
      rw [show bi.off + k * 2 + 1 = bi.off + (k * 2 + 1) by omega, a1]
      unfold cellAt
      rw [hr]
      rfl
def hdrLine (r : List AV) : List UInt8 := hN r ++ [58, 32] ++ hV r ++ [13, 10]
def hdrText (rows : List (List AV)) : List UInt8 := (rows.map hdrLine).flatten
theorem hdrText_len (rows : List (List AV)) : (hdrText rows).length = hSize rows := by
  unfold hdrText hSize
  induction rows with
  | nil => rfl
  | cons r l ih =>
    simp only [List.map_cons, List.flatten_cons, List.length_append, List.sum_cons, ih]
    unfold hdrLine hLen
    simp only [List.length_append, List.length_cons, List.length_nil]
    omega
theorem hSize_take (rows : List (List AV)) (k : Nat) : hSize (rows.take k) ≤ hSize rows := by
  have e : hSize rows = hSize (rows.take k) + hSize (rows.drop k) := by
    unfold hSize
    conv => lhs; rw [← List.take_append_drop k rows]
    rw [List.map_append, List.sum_append]
  omega
theorem right_size {start : List UInt8} {rows : List (List AV)} {bn : Nat} (h : spRight start rows bn = true) : start.length + 4 + bn + hSize rows ≤ 4096 := by
  unfold spRight at h
  simp only [Bool.and_eq_true, decide_eq_true_eq] at h
  exact h.2.2.2.2.2
def rowCells (rows : List (List AV)) : List Value := rows.map fun r => Value.int .u8 (AV.toInt (r.getD 0 .undef))
theorem rowCells_bytes (l : List UInt8) : rowCells (byteRows l) = Lib.byteCells l := by
  unfold rowCells byteRows Lib.byteCells
  rw [List.map_map]
  rfl
theorem NewSl.of_owns {w' : World} {b n0 n : Nat} {v : Value} {rows : List (List AV)} (h : w'.ownsRow b 5 1 v n (rowCells rows)) (hn : n = rows.length) (hp : 0 < n) (hb : n0 ≤ b) : NewSl n0 w' [.int .u8] rows v := by
  obtain ⟨hl, (⟨_, h0⟩ | ⟨g, cap, cur, rfl, hg, hheap, hnc, hcm, hcs, htk⟩)⟩ := h
  · omega
  · subst hn
    refine ⟨⟨g, 0, 1, cap, false⟩, .inl (by show n0 ≤ g; omega), fun ρ b' hb' => ⟨by simp [conc, hb'], by rw [hb']; rfl, cur, 5, (0, 0), by rw [hb']; exact hheap, fun i j kd hi hj => ?_, fun h => by cases h⟩⟩
    have hj0 : j = 0 ∧ kd = .int .u8 := by
      match j with
      | 0 => simp at hj; exact ⟨rfl, hj.symm⟩
      | j + 1 => simp at hj
    obtain ⟨rfl, rfl⟩ := hj0
    rw [hb']
    show cur[0 + (i * 1 + 0)]? = _
    rw [show 0 + (i * 1 + 0) = i by omega]
    have h1 : (rowCells rows)[i]? = some (Value.int .u8 (AV.toInt (rows[i].getD 0 .undef))) := by
      unfold rowCells
      rw [List.getElem?_map, List.getElem?_eq_getElem hi]
      rfl
    rw [← htk, List.getElem?_take, if_pos (by omega), Array.getElem?_toList] at h1
    rw [h1]
    unfold cellAt
    have hr : rows.getD i [] = rows[i] := by rw [List.getD_eq_getElem?_getD, List.getElem?_eq_getElem hi]; rfl
    rw [hr]
    rfl
theorem body_cells {w : World} {brows : List (List AV)} {bv : Value} (h : Reads w [.int .u8] brows bv) :
    (bv = .slice none 0 0 ∧ brows = []) ∨ ∃ bk off c, bv = .slice (some ⟨bk, off, none⟩) brows.length c ∧ bk < w.heap.size ∧ ∀ j v, (rowCells brows)[j]? = some v → w.cell? ((⟨bk, off, none⟩ : Addr).add j) = some v := by
  cases h with
  | nil h => exact .inl ⟨rfl, h⟩
  | cells bi c h =>
    refine .inr ⟨bi.blk, bi.off, c, rfl, Blk.sat_lt h, fun j v hj => ?_⟩
    obtain ⟨hz, cs, t, fr, g1, g2, g3⟩ := h
    have hz : bi.sz = 1 := hz
    have hjl : j < brows.length := by
      rcases Nat.lt_or_ge j brows.length with h' | h'
      · exact h'
      · unfold rowCells at hj; rw [List.getElem?_map, List.getElem?_eq_none h'] at hj; cases hj
    have hv : v = Value.int .u8 (AV.toInt (brows[j].getD 0 .undef)) := by
      unfold rowCells at hj
      rw [List.getElem?_map, List.getElem?_eq_getElem hjl] at hj
      exact (Option.some.inj hj).symm
    subst hv
    have a0 := g2 j 0 (.int .u8) hjl rfl
    simp only [hz] at a0
    rw [Lib.addr_add]
    simp only [World.cell?]
    rw [g1]
    simp only
    rw [show bi.off + j = bi.off + (j * 1 + 0) by omega, a0]
    unfold cellAt
    have hr : brows.getD j [] = brows[j] := by rw [List.getD_eq_getElem?_getD, List.getElem?_eq_getElem hjl]; rfl
    rw [hr]
    rfl
theorem build_good {w : World} {start : List UInt8} {hrows brows : List (List AV)} {hv bv : Value} (gw : GW w) (h1 : Reads w [.str, .str] hrows hv) (h2 : Reads w [.int .u8] brows bv)
    (hst : start.length ≤ 4294967200) (hsh : hrows.all short = true) (hbn : brows.length ≤ 140737488355328) (hgood : spRight start hrows brows.length = true) :
    Calls Tryz.prog 24 #[.agg #[.string ⟨start.toArray⟩, hv, bv]] w (fun e w' => (∃ v, e = .returned (.tuple #[v, .int .i64 0]) ∧ NewSl w.heap.size w' [.int .u8] (byteRows (start ++ [13, 10] ++ hdrText hrows ++ [13, 10]) ++ brows) v) ∧ Below w.heap.size w w') := by
  have hs := right_sized hgood
  obtain ⟨bk, off, c, rfl, hbk, hcells⟩ := hdr_cells h1 hs.pos
  have hr := fun (w1 : World) (hx : Below w.heap.size w w1) => right_reads (gw.ext hx) (h1.ext hx) (h2.ext hx) hst hsh hbn
  go_enter Tryz.func24, Tryz.ntmps24
  go_wp2_with (go_at_call 26; refine (hr _ ?_).mono ?_; refine Hid.out ?_)
  · exact (Below.refl _ w).alloc (Nat.le_refl _) _
  refine Lib.hid ?_
  rintro e W1 ⟨rfl, hx1⟩
  rw [hgood]
  have hsz0 : (w.alloc (.cells #[.string ⟨start.toArray⟩, .slice (some ⟨bk, off, none⟩) hrows.length c, bv] 25)).heap.size = w.heap.size + 1 := by simp
  have hbox : W1.heap[w.heap.size]? = some (.cells #[.string ⟨start.toArray⟩, .slice (some ⟨bk, off, none⟩) hrows.length c, bv] 25 (0, 0)) := by
    rw [hx1.block _ (by rw [hsz0]; omega)]
    exact heap_alloc_new w _
  have hw1 : w.heap.size + 1 ≤ W1.heap.size := by have := hx1.size; rw [hsz0] at this; exact this
  have hB1 : Below w.heap.size w W1 := ((Below.refl _ w).alloc (Nat.le_refl _) _).trans (hx1.mono (by rw [hsz0]; omega))
  clear hx1 hsz0
  have hI1 : Lib.IsBuffer 95 5 W1.heap.size W1.heap.size [] (W1.alloc (.cells #[.slice none 0 0, .int .i64 0, .int .i8 0] 95)) := Lib.fresh_isBuffer 95 5 W1
  have hbx2 : (W1.alloc (.cells #[.slice none 0 0, .int .i64 0, .int .i8 0] 95)).heap[w.heap.size]? = some (.cells #[.string ⟨start.toArray⟩, .slice (some ⟨bk, off, none⟩) hrows.length c, bv] 25 (0, 0)) := by
    rw [heap_alloc_old W1 _ (by omega)]; exact hbox
  have c0 : (W1.alloc (.cells #[.slice none 0 0, .int .i64 0, .int .i8 0] 95)).cell? ⟨w.heap.size, 0, none⟩ = some (.string ⟨start.toArray⟩) := by rw [Lib.cell_of_heap hbx2]; rfl
  have es : (⟨start.toArray⟩ ++ ⟨#[13, 10]⟩ : ByteArray).data.toList = start ++ [13, 10] := by simp
  have el : (⟨start.toArray⟩ ++ ⟨#[13, 10]⟩ : ByteArray).size = start.length + 2 := by rw [Lib.size_eq, es]; simp
  go_wp2_with (go_at_call 53; refine (Tryz.Buffer_WriteString_kept W1.heap.size W1.heap.size [] _ _ hI1 (by simp) (by simp) (by rw [el]; simp only [List.length_nil]; omega)).mono ?_; refine Hid.out ?_)
  refine Lib.hid ?_
  rintro e W2 ⟨rfl, hI2, hb2, -⟩
  rw [es, List.nil_append] at hI2
  have hx2 : W2.heap[w.heap.size]? = some (.cells #[.string ⟨start.toArray⟩, .slice (some ⟨bk, off, none⟩) hrows.length c, bv] 25 (0, 0)) := by
    rw [hb2.block _ (by omega)]; exact hbx2
  have hsz2 : W1.heap.size ≤ W2.heap.size := by have := hb2.size; simp at this; omega
  have hB2 : Below w.heap.size w W2 := (hB1.alloc (by omega) _).trans (hb2.mono (by omega))
  have hgb : w.heap.size < W1.heap.size := by omega
  clear hI1 hbx2 c0 hb2 hbox hw1 hB1 hr es
  generalize W1.heap.size = b at *
  clear W1
  have c1 : W2.cell? ⟨w.heap.size, 1, none⟩ = some (.slice (some ⟨bk, off, none⟩) hrows.length c) := by rw [Lib.cell_of_heap hx2]; rfl
  go_wp2
  go_loopw [17] (fun i wr => ∃ k : Nat, k ≤ hrows.length ∧ i = .int .i64 k ∧ Lib.IsBuffer 95 5 b b (Lib.byteCells (start ++ [13, 10] ++ hdrText (hrows.take k))) wr
      ∧ wr.heap[w.heap.size]? = some (.cells #[.string ⟨start.toArray⟩, .slice (some ⟨bk, off, none⟩) hrows.length c, bv] 25 (0, 0)) ∧ b ≤ wr.heap.size ∧ Below w.heap.size w wr)
    (fun i _ => hrows.length - (intOf i).toNat)
  case atStart => exact ⟨0, Nat.zero_le _, rfl, by simpa [hdrText] using hI2, hx2, hsz2, hB2⟩
  case round =>
    obtain ⟨k, hk, rfl, hI, hx, hsz, hB⟩ := hrel
    clear hI2 hx2 hsz2 hB2 c1
    by_cases hlt : k < hrows.length
    · have k0 := (hB.cell (p := ⟨bk, off + k * 2, none⟩) hbk).trans (hcells k hlt).1
      have k1 := (hB.cell (p := ⟨bk, off + k * 2 + 1, none⟩) hbk).trans (hcells k hlt).2
      obtain ⟨lv, ln⟩ := hs.v _ (List.getElem_mem hlt)
      have z1 : (⟨(hN hrows[k]).toArray⟩ ++ ⟨#[58, 32]⟩ : ByteArray).size = (hN hrows[k]).length + 2 := by rw [Lib.size_eq]; simp
      have z2 : (⟨(hN hrows[k]).toArray⟩ ++ ⟨#[58, 32]⟩ ++ ⟨(hV hrows[k]).toArray⟩ : ByteArray).size = (hN hrows[k]).length + 2 + (hV hrows[k]).length := by rw [Lib.size_eq]; simp; omega
      have z3 : (⟨(hN hrows[k]).toArray⟩ ++ ⟨#[58, 32]⟩ ++ ⟨(hV hrows[k]).toArray⟩ ++ ⟨#[13, 10]⟩ : ByteArray).data.toList = hdrLine hrows[k] := by unfold hdrLine; simp
      have z4 : (⟨(hN hrows[k]).toArray⟩ ++ ⟨#[58, 32]⟩ ++ ⟨(hV hrows[k]).toArray⟩ ++ ⟨#[13, 10]⟩ : ByteArray).size = (hN hrows[k]).length + (hV hrows[k]).length + 4 := by rw [Lib.size_eq, z3]; unfold hdrLine; simp; omega
      have hL := hdrText_len (hrows.take k)
      have hT := hSize_take hrows k
      have hR := right_size hgood
      go_wp2_with (go_at_call 53; refine (Tryz.Buffer_WriteString_kept b b _ _ _ (hI.alloc _) (by simp; omega) (Lib.byteCells_one _) (by rw [Lib.byteCells_length, z4]; simp only [List.length_append, List.length_cons, List.length_nil, hL]; omega)).mono ?_; refine Hid.out ?_)
      refine Lib.hid ?_
      rintro e W3 ⟨rfl, hI3, hb3, -⟩
      rw [z3, ← Lib.byteCells_append] at hI3
      have hx3 : W3.heap[w.heap.size]? = some (.cells #[.string ⟨start.toArray⟩, .slice (some ⟨bk, off, none⟩) hrows.length c, bv] 25 (0, 0)) := by
        rw [hb3.block _ hgb, heap_alloc_old wr _ (by omega)]; exact hx
      have hsz3 : b ≤ W3.heap.size := by have := hb3.size; simp at this; omega
      have hB3 : Below w.heap.size w W3 := (hB.alloc (by omega) _).trans (hb3.mono (by omega))
      have e3 : start ++ [13, 10] ++ hdrText (hrows.take k) ++ hdrLine hrows[k] = start ++ [13, 10] ++ hdrText (hrows.take (k + 1)) := by
        unfold hdrText
        rw [take_snoc hlt, List.map_append, List.flatten_append]
        simp
      rw [e3] at hI3
      have hwr : wrap64 ((k : Int) + 1) = ((k + 1 : Nat) : Int) := by have := hs.n; unfold wrap64; omega
      clear hI hx hsz hB k0 k1 z1 z2 z3 z4 hL hT hR hb3 e3
      go_wp2
      go_roundw
      case rel => exact ⟨k + 1, Nat.succ_le_of_lt hlt, congrArg (Value.int .i64) hwr, hI3, hx3, hsz3, hB3⟩
      case measure =>
        rw [hwr]
        show hrows.length - (k + 1) < hrows.length - k
        exact Nat.sub_lt_sub_left hlt (Nat.lt_succ_self k)
    · have hk' : k = hrows.length := Nat.le_antisymm hk (Nat.le_of_not_lt hlt)
      subst hk'
      rw [List.take_length] at hI
      have hL := hdrText_len hrows
      have hR := right_size hgood
      have c2 : wr.cell? ⟨w.heap.size, 2, none⟩ = some bv := by rw [Lib.cell_of_heap hx]; rfl
      go_wp2_with (go_at_call 53; refine (Tryz.Buffer_WriteString_kept b b _ _ _ hI hsz (Lib.byteCells_one _) (by rw [Lib.byteCells_length]; simp only [List.length_append, List.length_cons, List.length_nil, hL]; show _ + 2 ≤ _; omega)).mono ?_; refine Hid.out ?_)
      refine Lib.hid ?_
      intro e W3 he hI3 hb3 _
      subst he
      rw [← Lib.byteCells_append] at hI3
      have e5 : start ++ 13 :: 10 :: hdrText hrows ++ [13, 10] = start ++ [13, 10] ++ hdrText hrows ++ [13, 10] := by simp
      rw [e5] at hI3
      have hx3 : W3.heap[w.heap.size]? = some (.cells #[.string ⟨start.toArray⟩, .slice (some ⟨bk, off, none⟩) hrows.length c, bv] 25 (0, 0)) := (hb3.block _ hgb).trans hx
      have hsz3 : b ≤ W3.heap.size := Nat.le_trans hsz hb3.size
      have hB3 : Below w.heap.size w W3 := hB.trans (hb3.mono (Nat.le_of_lt hgb))
      have d2 : W3.cell? ⟨w.heap.size, 2, none⟩ = some bv := by rw [Lib.cell_of_heap hx3]; rfl
      have hlen : (start ++ [13, 10] ++ hdrText hrows ++ [13, 10]).length + brows.length ≤ 4096 := by simp only [List.length_append, List.length_cons, List.length_nil, hL]; omega
      have hpos : 0 < (start ++ [13, 10] ++ hdrText hrows ++ [13, 10]).length := by simp only [List.length_append, List.length_cons, List.length_nil]; omega
      clear hI hx hsz hB c2 hL hR hb3 e5 hcells hk hlt h1
      obtain ⟨pre, hpre⟩ : ∃ pre, pre = start ++ [13, 10] ++ hdrText hrows ++ [13, 10] := ⟨_, rfl⟩
      rw [← hpre] at hI3 hlen hpos
      have hpre := Lib.hid hpre
      have fin : ∀ (v : Value) (w' : World) (rows : List (List AV)), rows = byteRows pre ++ brows → w'.ownsRow b 5 1 v rows.length (rowCells rows) → NewSl w.heap.size w' [.int .u8] (byteRows pre ++ brows) v := by
        intro v w' rows hr ho
        subst hr
        exact NewSl.of_owns ho rfl (by rw [List.length_append, byteRows_length]; omega) (Nat.le_of_lt hgb)
      have hcut : rowCells (byteRows pre ++ brows) = Lib.byteCells pre ++ rowCells brows := by
        unfold rowCells
        rw [List.map_append]
        show rowCells (byteRows pre) ++ _ = _
        rw [rowCells_bytes]
      have hone : ∀ v ∈ rowCells brows, v.oneCell' = true := by
        intro v hv
        unfold rowCells at hv
        obtain ⟨r, _, rfl⟩ := List.mem_map.1 hv
        rfl
      rcases body_cells h2 with ⟨rfl, rfl⟩ | ⟨bk2, off2, cc, rfl, hlt2, hsrc⟩
      · go_wp2_with (go_at_call 54; refine (buf_write_nil b b _ _ hI3).mono ?_; refine Hid.out ?_)
        intro e W4 hq4
        obtain ⟨rfl, hI4, hb4⟩ := hq4
        go_wp2_with (go_at_call 55; refine (Tryz.Buffer_Bytes b b _ _ hI4).mono ?_; refine Hid.out ?_)
        intro e W5 hq5
        obtain ⟨v, rfl, ho, nn, rfl⟩ := hq5
        have ho := fin v _ (byteRows pre ++ []) rfl (by rw [hcut, List.length_append, byteRows_length]; simpa [rowCells, Lib.byteCells_length] using ho)
        have hB4 : Below w.heap.size w (W4.drewN nn) := (hB3.trans (hb4.mono (Nat.le_of_lt hgb))).trans ⟨rfl, rfl, rfl, Nat.le_refl _, fun _ _ => rfl⟩
        have hpre := hpre.out
        rw [hpre] at ho
        have ho := Lib.hid ho
        clear hpre fin hcut
        go_wp2
        go_ret2
        exact ⟨⟨v, rfl, ho.out⟩, hB4⟩
      · have hlt3 : bk2 < W3.heap.size := Nat.lt_of_lt_of_le hlt2 hB3.size
        go_wp2_with (go_at_call 54; refine (Tryz.Buffer_Write_any b b _ (rowCells brows) ⟨bk2, off2, none⟩ brows.length cc _ hI3 hsz3 (Lib.byteCells_one _) (by simp [rowCells]) (by show bk2 ≠ b; omega) (fun j v hj => (hB3.cell (p := (⟨bk2, off2, none⟩ : Addr).add j) (by rw [Lib.block_add]; exact hlt2)).trans (hsrc j v hj)) hone (by rw [Lib.byteCells_length]; omega)).mono ?_; refine Hid.out ?_)
        intro e W4 hq4
        obtain ⟨rfl, hI4, hb4, -⟩ := hq4
        go_wp2_with (go_at_call 55; refine (Tryz.Buffer_Bytes b b _ _ hI4).mono ?_; refine Hid.out ?_)
        intro e W5 hq5
        obtain ⟨v, rfl, ho, nn, rfl⟩ := hq5
        have ho := fin v _ (byteRows pre ++ brows) rfl (by rw [hcut, List.length_append, byteRows_length]; simpa [rowCells, Lib.byteCells_length] using ho)
        have hB4 : Below w.heap.size w (W4.drewN nn) := (hB3.trans (hb4.mono (Nat.le_of_lt hgb))).trans ⟨rfl, rfl, rfl, Nat.le_refl _, fun _ _ => rfl⟩
        have hpre := hpre.out
        rw [hpre] at ho
        have ho := Lib.hid ho
        clear hpre fin hcut
        go_wp2
        go_ret2
        exact ⟨⟨v, rfl, ho.out⟩, hB4⟩
end Go.Proofs.YtpdgmgkkbbndfaaGreatDoor
set_option maxRecDepth 100000
set_option maxHeartbeats 6400000
set_option linter.unusedVariables false
set_option linter.unusedSimpArgs false
namespace Go.Proofs.YtpdgmgkkbbndfaaGreatDoor
open Go Go.Proofs Go.Proofs.YtpdgmgkkbbndfaaGreatDoor.SX Go.RowKit
theorem build_bad {w : World} {start : List UInt8} {hrows brows : List (List AV)} {hv bv : Value} (gw : GW w) (h1 : Reads w [.str, .str] hrows hv) (h2 : Reads w [.int .u8] brows bv)
    (hst : start.length ≤ 4294967200) (hsh : hrows.all short = true) (hbn : brows.length ≤ 140737488355328) (hbad : spRight start hrows brows.length = false) :
    Calls Tryz.prog 24 #[.agg #[.string ⟨start.toArray⟩, hv, bv]] w (fun e w' => e = .returned (.tuple #[.slice none 0 0, .int .i64 4]) ∧ Below w.heap.size w w') := by
  have hr := fun (w1 : World) (hx : Below w.heap.size w w1) => right_reads (gw.ext hx) (h1.ext hx) (h2.ext hx) hst hsh hbn
  go_enter Tryz.func24, Tryz.ntmps24
  go_wp2_with (go_at_call 26; refine (hr _ ?_).mono ?_; refine Hid.out ?_)
  · exact (Below.refl _ w).alloc (Nat.le_refl _) _
  refine Lib.hid ?_
  rintro e W1 ⟨rfl, hx1⟩
  rw [hbad]
  have hsz0 : (w.alloc (.cells #[.string ⟨start.toArray⟩, hv, bv] 25)).heap.size = w.heap.size + 1 := by simp
  have hB1 : Below w.heap.size w W1 := ((Below.refl _ w).alloc (Nat.le_refl _) _).trans (hx1.mono (by rw [hsz0]; omega))
  go_wp2
  go_ret2
  exact ⟨rfl, hB1⟩
def spBuildB (start : List UInt8) (hrows brows : List (List AV)) : List (List AV) :=
  bif spRight start hrows brows.length then byteRows (start ++ [13, 10] ++ hdrText hrows ++ [13, 10]) ++ brows else []
def spBuildE (start : List UInt8) (hrows brows : List (List AV)) : Int := bif spRight start hrows brows.length then 0 else 4
theorem build_calls {w : World} {start : List UInt8} {hrows brows : List (List AV)} {hv bv : Value} (gw : GW w) (h1 : Reads w [.str, .str] hrows hv) (h2 : Reads w [.int .u8] brows bv)
    (hst : start.length ≤ 4294967200) (hsh : hrows.all short = true) (hbn : brows.length ≤ 140737488355328) :
    Calls Tryz.prog 24 #[.agg #[.string ⟨start.toArray⟩, hv, bv]] w (fun e w' => (∃ v, e = .returned (.tuple #[v, .int .i64 (spBuildE start hrows brows)]) ∧ NewSl w.heap.size w' [.int .u8] (spBuildB start hrows brows) v) ∧ Ext w w') := by
  unfold spBuildB spBuildE
  cases h : spRight start hrows brows.length with
  | true => exact build_good gw h1 h2 hst hsh hbn h
  | false =>
    refine (build_bad gw h1 h2 hst hsh hbn h).mono fun e w' hq => ?_
    obtain ⟨rfl, hb⟩ := hq
    exact ⟨⟨_, rfl, NewSl.none (ρ' := fun _ => ⟨0, 0, 0, 0, false⟩) (gw.ext hb) rfl⟩, hb⟩
def q24 : Entry := fun args hp nx => match args with
  | [.agg [.str start, hv, bv]] => match slIn hp [.str, .str] hv, slIn hp [.int .u8] bv with
    | some (c1, hrows), some (c2, brows) =>
      some (c1 && (c2 && decide (start.length ≤ 4294967200 ∧ hrows.all short = true ∧ brows.length ≤ 140737488355328)),
        .tup [.slq nx (spBuildB start hrows brows).length, .int .i64 (spBuildE start hrows brows)], [.cells false [.int .u8] (spBuildB start hrows brows)])
    | _, _ => none
  | _ => none
theorem q24_ok : EntryOK Tryz.prog 24 q24 := by
  intro args hp nx c v bs h hc ρ w hs hi
  unfold q24 at h
  split at h
  · rename_i start hv bv
    split at h
    · rename_i c1 hrows c2 brows hs1 hs2
      cases h
      simp only [Bool.and_eq_true] at hc
      obtain ⟨hc1, hc2, hc3⟩ := hc
      obtain ⟨g1, g2, g3⟩ := of_decide_eq_true hc3
      have hcall := build_calls hs.gw (slIn_spec hs hs1 hc1 rfl) (slIn_spec hs hs2 hc2 rfl) g1 g2 g3
      have ea : (concL ρ [AV.agg [.str start, hv, bv]]).toArray = #[.agg #[.string ⟨start.toArray⟩, conc ρ hv, conc ρ bv]] := rfl
      rw [ea]
      refine hcall.mono fun e w' hq => ?_
      obtain ⟨⟨v, rfl, b1, n1, k1⟩, he⟩ := hq
      have e1 : extB ρ nx [b1] nx = b1 := by have := extB_new ρ nx [b1] 0; simpa using this
      have st := HStep.bis (bs := [Blk.cells false [.int .u8] (spBuildB start hrows brows)]) [b1] hs he (fun i blk hi => by
        match i with
        | 0 => simp at hi; subst hi; exact ⟨rfl, n1, rfl, fun ρ' b hb => (k1 ρ' b hb).2⟩
        | i + 1 => simp at hi)
      refine ⟨_, ?_, ?_, st⟩
      · have h1 := (k1 _ _ e1).1
        simp only [conc, concL] at h1 ⊢
        rw [h1]
      · simp [AV.idsB, idsBL, blt_iff]
    · cases h
  · cases h
def P10 : Prims := addP P9 24 q24
theorem P10_ok : PrimsOK Tryz.prog P10 := addP_ok P9_ok q24_ok
end Go.Proofs.YtpdgmgkkbbndfaaGreatDoor
set_option maxRecDepth 100000
set_option maxHeartbeats 6400000
set_option linter.unusedVariables false
set_option linter.unusedSimpArgs false
namespace Go.Proofs.YtpdgmgkkbbndfaaGreatDoor
open Go Go.Proofs Go.Proofs.YtpdgmgkkbbndfaaGreatDoor.SX
theorem c18_EEE :
    Path (runCallB Tryz.prog P10 100 18 [] (st0 [] ([PI.ev 1, PI.ev 1, PI.ev 1]))) 0 [] (SL.mk [] [] 0) (Out.ret (AV.bool true))
      (((((((((((((((((((((True ∧ (true = true)) ∧ (true = true)) ∧ (true = true)) ∧ (true = true)) ∧ (true = true)) ∧ (true = true)) ∧ (true = true)) ∧ (true = true)) ∧ (true = true)) ∧ (true = true)) ∧ (true = true)) ∧ (true = true)) ∧ (true = true)) ∧ (true = true)) ∧ (true = true)) ∧ (true = true)) ∧ (true = true)) ∧ (true = true)) ∧ (true = true)) ∧ (true = true)) ∧ (true = true)) := by unfold Path; kernel_rfl
def q18 : Entry := fun args hp nx => match args with
  | [] => some (true, .bool true, [])
  | _ => none
theorem q18_ok : EntryOK Tryz.prog 18 q18 := by
  intro args hp nx c v bs h hc ρ w hs hi
  unfold q18 at h
  split at h
  · cases h
    have hE : HSim ρ (addBlks .e 0 []) ([] : List Blk).length w := HSim.ins hs.gw (fun i blk hi => by simp at hi)
    exact entry_pure hs rfl (calls_pureB P10_ok c18_EEE (by simp only [eq_self, and_self]) hE rfl rfl rfl)
  · cases h
def P11 : Prims := addP P10 18 q18
theorem P11_ok : PrimsOK Tryz.prog P11 := addP_ok P10_ok q18_ok
end Go.Proofs.YtpdgmgkkbbndfaaGreatDoor
set_option maxRecDepth 100000
set_option linter.unusedVariables false
set_option linter.unusedSimpArgs false
namespace Go.Proofs.YtpdgmgkkbbndfaaGreatDoor
open Go Go.Proofs Go.Proofs.YtpdgmgkkbbndfaaGreatDoor.SX
def b61I (r1 r2 : List (List AV)) (n m : Nat) (k : Int) : SL := ⟨[(0, .slq 0 n), (1, .slq 1 m), (12, .int .i64 n), (13, .int .i64 k)], [(0, .cells false [.str, .str] r1), (1, .cells false [.str, .str] r2)], 2⟩
theorem b61_TT (r1 : List (List AV)) (r2 : List (List AV)) (n : Nat) (m : Nat) (k : Int) :
    Path (run Tryz.prog P11 100 (lbody Tryz.prog 61 0) (SL.mp 26 ([.as_ true, .as_ true]) (b61I r1 r2 n m k))) 2 [] (SL.mk [(4, AV.lit false)] [] 2) (Ex.ret)
      ((((((((True ∧ (decide (k < (↑n : Int)) = true)) ∧ (decide (0 < n) = true)) ∧ (decide ((0 : Int) ≤ k ∧ k < (↑n : Int)) = true)) ∧ (decide (0 + Int.toNat k < List.length r1) = true)) ∧ (decide (0 < m) = true)) ∧ (decide ((0 : Int) ≤ k ∧ k < (↑m : Int)) = true)) ∧ (decide (0 + Int.toNat k < List.length r2) = true)) ∧ ((!(AV.toStr (List.getD (List.getD r1 (0 + Int.toNat k) []) (0) AV.undef) == AV.toStr (List.getD (List.getD r2 (0 + Int.toNat k) []) (0) AV.undef) && AV.toStr (List.getD (List.getD r1 (0 + Int.toNat k) []) (1) AV.undef) == AV.toStr (List.getD (List.getD r2 (0 + Int.toNat k) []) (1) AV.undef))) = true)) := by unfold Path; kernel_rfl
theorem b61_TF (r1 : List (List AV)) (r2 : List (List AV)) (n : Nat) (m : Nat) (k : Int) :
    Path (run Tryz.prog P11 100 (lbody Tryz.prog 61 0) (SL.mp 26 ([.as_ true, .as_ false]) (b61I r1 r2 n m k))) 2 [] (b61I (r1) (r2) (n) (m) (IntKind.wrap IntKind.i64 (k + (1 : Int)))) (Ex.normal)
      ((((((((True ∧ (decide (k < (↑n : Int)) = true)) ∧ (decide (0 < n) = true)) ∧ (decide ((0 : Int) ≤ k ∧ k < (↑n : Int)) = true)) ∧ (decide (0 + Int.toNat k < List.length r1) = true)) ∧ (decide (0 < m) = true)) ∧ (decide ((0 : Int) ≤ k ∧ k < (↑m : Int)) = true)) ∧ (decide (0 + Int.toNat k < List.length r2) = true)) ∧ ((!(AV.toStr (List.getD (List.getD r1 (0 + Int.toNat k) []) (0) AV.undef) == AV.toStr (List.getD (List.getD r2 (0 + Int.toNat k) []) (0) AV.undef) && AV.toStr (List.getD (List.getD r1 (0 + Int.toNat k) []) (1) AV.undef) == AV.toStr (List.getD (List.getD r2 (0 + Int.toNat k) []) (1) AV.undef))) = false)) := by unfold Path; kernel_rfl
theorem b61_F (r1 : List (List AV)) (r2 : List (List AV)) (n : Nat) (m : Nat) (k : Int) :
    Path (run Tryz.prog P11 100 (lbody Tryz.prog 61 0) (SL.mp 26 ([.as_ false]) (b61I r1 r2 n m k))) 2 [] (SL.mk [] [] 2) (Ex.exit 0)
      (True ∧ (decide (k < (↑n : Int)) = false)) := by unfold Path; kernel_rfl
theorem c61a_T (r1 : List (List AV)) (r2 : List (List AV)) :
    Path (runCallB Tryz.prog P11 100 61 [AV.slq 0 (List.length r1), AV.slq 1 (List.length r2)] (st0 [Blk.cells false [Kd.str, Kd.str] r1, Blk.cells false [Kd.str, Kd.str] r2] ([.as_ true]))) 2 [] (SL.mk [] [] 2) (Out.ret (AV.lit false))
      (True ∧ ((!(↑(List.length r1) : Int) == (↑(List.length r2) : Int)) = true)) := by unfold Path; kernel_rfl
theorem c61a_FL (r1 : List (List AV)) (r2 : List (List AV)) :
    Path (runCallB Tryz.prog P11 100 61 [AV.slq 0 (List.length r1), AV.slq 1 (List.length r2)] (st0 [Blk.cells false [Kd.str, Kd.str] r1, Blk.cells false [Kd.str, Kd.str] r2] ([.as_ false, PI.loop (b61I r1 r2 (List.length r1) (List.length r2) (0 : Int)) Ex.ret (SL.mk [(4, AV.lit false)] [] 2)]))) 2 [] (SL.mk [] [] 2) (Out.ret (AV.lit false))
      ((True ∧ ((!(↑(List.length r1) : Int) == (↑(List.length r2) : Int)) = false)) ∧ (LoopOK Tryz.prog (lbody Tryz.prog 61 0) (26) (SL.mk [(0, AV.slq 0 (List.length r1)), (1, AV.slq 1 (List.length r2)), (12, AV.int IntKind.i64 (↑(List.length r1) : Int)), (13, AV.int IntKind.i64 (0 : Int))] [(0, Blk.cells false [Kd.str, Kd.str] r1), (1, Blk.cells false [Kd.str, Kd.str] r2)] 2) Ex.ret (SL.mk [(4, AV.lit false)] [] 2))) := by unfold Path; kernel_rfl
theorem c61b_FL (r1 : List (List AV)) (r2 : List (List AV)) :
    Path (runCallB Tryz.prog P11 100 61 [AV.slq 0 (List.length r1), AV.slq 1 (List.length r2)] (st0 [Blk.cells false [Kd.str, Kd.str] r1, Blk.cells false [Kd.str, Kd.str] r2] ([.as_ false, PI.loop (b61I r1 r2 (List.length r1) (List.length r2) (0 : Int)) (Ex.exit 0) (SL.mk [] [] 2)]))) 2 [] (SL.mk [] [] 2) (Out.ret (AV.lit true))
      ((True ∧ ((!(↑(List.length r1) : Int) == (↑(List.length r2) : Int)) = false)) ∧ (LoopOK Tryz.prog (lbody Tryz.prog 61 0) (26) (SL.mk [(0, AV.slq 0 (List.length r1)), (1, AV.slq 1 (List.length r2)), (12, AV.int IntKind.i64 (↑(List.length r1) : Int)), (13, AV.int IntKind.i64 (0 : Int))] [(0, Blk.cells false [Kd.str, Kd.str] r1), (1, Blk.cells false [Kd.str, Kd.str] r2)] 2) (Ex.exit 0) (SL.mk [] [] 2))) := by unfold Path; kernel_rfl
theorem c62_ (r1 : List (List AV)) (r2 : List (List AV)) :
    Path (runCallB Tryz.prog P11 100 62 [AV.slq 0 (List.length r1), AV.slq 1 (List.length r2)] (st0 [Blk.cells false [Kd.int IntKind.u8] r1, Blk.cells false [Kd.int IntKind.u8] r2] ([]))) 2 [] (SL.mk [] [] 2) (Out.ret (AV.bool (List.map rowByte (sub r1 0 (List.length r1)) == List.map rowByte (sub r2 0 (List.length r2)))))
      ((True ∧ (decide (0 + List.length r1 ≤ List.length r1) = true)) ∧ (decide (0 + List.length r2 ≤ List.length r2) = true)) := by unfold Path; kernel_rfl
def eqAt (r1 r2 : List (List AV)) (k : Nat) : Bool := hN (r1.getD (0 + k) []) == hN (r2.getD (0 + k) []) && hV (r1.getD (0 + k) []) == hV (r2.getD (0 + k) [])
def spEqH (r1 r2 : List (List AV)) : Bool := decide (r1.length = r2.length) && (List.range r1.length).all (eqAt r1 r2)
theorem eq_next {r1 r2 : List (List AV)} {k : Nat} (he : r1.length = r2.length) (hl : r1.length ≤ 4611686018427387904) (h : k < r1.length) (hk : eqAt r1 r2 k = true) :
    BodyOK Tryz.prog (lbody Tryz.prog 61 0) 26 2 (b61I r1 r2 r1.length r2.length (k : Int)) .normal (b61I r1 r2 r1.length r2.length ((k + 1 : Nat) : Int)) := by
  refine body_by P11_ok (b61_TF r1 r2 r1.length r2.length k) (by rw [succ64 (n := r1.length) h hl]) ?_ rfl
  have e : (!eqAt r1 r2 k) = false := by rw [hk]; rfl
  exact ⟨⟨⟨⟨⟨⟨⟨⟨trivial, decide_eq_true (by omega)⟩, decide_eq_true (by omega)⟩, decide_eq_true (by omega)⟩, decide_eq_true (by omega)⟩, decide_eq_true (by omega)⟩, decide_eq_true (by omega)⟩, decide_eq_true (by omega)⟩, e⟩
theorem eq_bad {r1 r2 : List (List AV)} {k : Nat} (he : r1.length = r2.length) (h : k < r1.length) (hk : eqAt r1 r2 k = false) :
    BodyOK Tryz.prog (lbody Tryz.prog 61 0) 26 2 (b61I r1 r2 r1.length r2.length (k : Int)) .ret ⟨[(4, .lit false)], [], 2⟩ := by
  refine body_by P11_ok (b61_TT r1 r2 r1.length r2.length k) rfl ?_ rfl
  have e : (!eqAt r1 r2 k) = true := by rw [hk]; rfl
  exact ⟨⟨⟨⟨⟨⟨⟨⟨trivial, decide_eq_true (by omega)⟩, decide_eq_true (by omega)⟩, decide_eq_true (by omega)⟩, decide_eq_true (by omega)⟩, decide_eq_true (by omega)⟩, decide_eq_true (by omega)⟩, decide_eq_true (by omega)⟩, e⟩
theorem eq_ret {r1 r2 : List (List AV)} {j : Nat} (he : r1.length = r2.length) (hl : r1.length ≤ 4611686018427387904) (h : firstAt (fun k => !eqAt r1 r2 k) (List.range r1.length) = some j) :
    LoopOK Tryz.prog (lbody Tryz.prog 61 0) 26 (b61I r1 r2 r1.length r2.length 0) .ret ⟨[(4, .lit false)], [], 2⟩ := by
  obtain ⟨hj, h2, h3⟩ := firstAt_some h
  have hj' : j < r1.length := by simpa using hj
  refine loop_rule (E := b61I r1 r2 r1.length r2.length 0) (I := fun k : Nat => b61I r1 r2 r1.length r2.length k) (pre := fun k => k ≤ j) (μ := fun k => j - k) _ _ rfl (fun ρ => by simp [Ex.conc]) ?_ (x0 := 0) (pick := []) (Nat.zero_le _) ⟨by kernel_rfl, map_fst_snd (by kernel_rfl)⟩
  intro k hk
  by_cases hkj : k = j
  · right
    subst hkj
    exact eq_bad he hj' (by simpa using h2)
  · left
    exact ⟨k + 1, by omega, by omega, eq_next he hl (by omega) (by have := h3 k (by omega); simpa using this)⟩
theorem eq_end {r1 r2 : List (List AV)} (he : r1.length = r2.length) (hl : r1.length ≤ 4611686018427387904) (h : firstAt (fun k => !eqAt r1 r2 k) (List.range r1.length) = none) :
    LoopOK Tryz.prog (lbody Tryz.prog 61 0) 26 (b61I r1 r2 r1.length r2.length 0) (.exit 0) ⟨[], [], 2⟩ := by
  have h3 := firstAt_none h
  refine loop_rule (E := b61I r1 r2 r1.length r2.length 0) (I := fun k : Nat => b61I r1 r2 r1.length r2.length k) (pre := fun k => k ≤ r1.length) (μ := fun k => r1.length - k) _ _ rfl (fun ρ => by simp [Ex.conc]) ?_ (x0 := 0) (pick := []) (Nat.zero_le _) ⟨by kernel_rfl, map_fst_snd (by kernel_rfl)⟩
  intro k hk
  by_cases hkl : k < r1.length
  · left
    exact ⟨k + 1, by omega, by omega, eq_next he hl hkl (by have := h3 k (by simpa using hkl); simpa using this)⟩
  · right
    exact body_by P11_ok (b61_F r1 r2 r1.length r2.length k) rfl ⟨trivial, decide_eq_false (by omega)⟩ rfl
def ins61 (ks : List Kd) (r1 r2 : List (List AV)) : List Blk := [Blk.cells false ks r1, Blk.cells false ks r2]
theorem two_in {w : World} {ks : List Kd} {r1 r2 : List (List AV)} {v1 v2 : Value} (hk : noAny ks = true) (gw : GW w) (h1 : Reads w ks r1 v1) (h2 : Reads w ks r2 v2) :
    ∃ ρ0 : Nat → BI, HSim ρ0 (addBlks .e 0 (ins61 ks r1 r2)) (ins61 ks r1 r2).length w ∧ conc ρ0 (.slq 0 r1.length) = v1 ∧ conc ρ0 (.slq 1 r2.length) = v2 := by
  obtain ⟨b1, hb1⟩ := h1.bi gw hk
  obtain ⟨b2, hb2⟩ := h2.bi gw hk
  have hkk : ∀ rows : List (List AV), (Blk.cells false ks rows).idsB 2 = true := fun rows => by
    have : ks.any Kd.isAny = false := by simpa [noAny] using hk
    simp [Blk.idsB, this]
  refine ⟨fun i => if i = 0 then b1 else b2, HSim.ins gw (fun i blk hi => ?_), (hb1 _ 0 rfl).1, (hb2 _ 1 rfl).1⟩
  match i with
  | 0 => simp [ins61] at hi; subst hi; exact ⟨(hb1 _ 0 rfl).2, rfl, hkk r1⟩
  | 1 => simp [ins61] at hi; subst hi; exact ⟨(hb2 _ 1 rfl).2, rfl, hkk r2⟩
  | i + 2 => simp [ins61] at hi
def q61 : Entry := fun args hp nx => match args with
  | [v1, v2] => match slIn hp [.str, .str] v1, slIn hp [.str, .str] v2 with
    | some (c1, r1), some (c2, r2) => some (c1 && (c2 && decide (r1.length ≤ 4611686018427387904)), .bool (spEqH r1 r2), [])
    | _, _ => none
  | _ => none
theorem q61_ok : EntryOK Tryz.prog 61 q61 := by
  intro args hp nx c v bs h hc ρ w hs hi
  unfold q61 at h
  split at h
  · rename_i v1 v2
    split at h
    · rename_i c1 r1 c2 r2 hs1 hs2
      cases h
      simp only [Bool.and_eq_true] at hc
      obtain ⟨hc1, hc2, hc3⟩ := hc
      have hl := of_decide_eq_true hc3
      obtain ⟨ρ0, hE, e1, e2⟩ := two_in rfl hs.gw (slIn_spec hs hs1 hc1 rfl) (slIn_spec hs hs2 hc2 rfl)
      refine entry_pure hs rfl ?_
      have ea : concL ρ0 [AV.slq 0 r1.length, AV.slq 1 r2.length] = concL ρ [v1, v2] := by simp only [concL]; rw [e1, e2]
      rw [← ea]
      by_cases he : r1.length = r2.length
      · have q : (!((r1.length : Nat) : Int) == ((r2.length : Nat) : Int)) = false := by rw [he]; simp
        cases hf : firstAt (fun k => !eqAt r1 r2 k) (List.range r1.length) with
        | some j =>
          have ev : spEqH r1 r2 = false := by
            unfold spEqH
            cases h : (List.range r1.length).all (eqAt r1 r2) with
            | false => simp
            | true => rw [← firstAt_all] at h; rw [h] at hf; cases hf
          rw [ev]
          exact calls_pureB P11_ok (c61a_FL r1 r2) ⟨⟨trivial, q⟩, eq_ret he hl hf⟩ hE rfl rfl rfl
        | none =>
          have ev : spEqH r1 r2 = true := by
            unfold spEqH
            rw [decide_eq_true he, firstAt_all.1 hf]; rfl
          rw [ev]
          exact calls_pureB P11_ok (c61b_FL r1 r2) ⟨⟨trivial, q⟩, eq_end he hl hf⟩ hE rfl rfl rfl
      · have ev : spEqH r1 r2 = false := by unfold spEqH; rw [decide_eq_false he]; rfl
        rw [ev]
        have q : (!((r1.length : Nat) : Int) == ((r2.length : Nat) : Int)) = true := by simp; omega
        exact calls_pureB P11_ok (c61a_T r1 r2) ⟨trivial, q⟩ hE rfl rfl rfl
    · cases h
  · cases h
def q62 : Entry := fun args hp nx => match args with
  | [v1, v2] => match slIn hp [.int .u8] v1, slIn hp [.int .u8] v2 with
    | some (c1, r1), some (c2, r2) => some (c1 && c2, .bool (r1.map rowByte == r2.map rowByte), [])
    | _, _ => none
  | _ => none
theorem q62_ok : EntryOK Tryz.prog 62 q62 := by
  intro args hp nx c v bs h hc ρ w hs hi
  unfold q62 at h
  split at h
  · rename_i v1 v2
    split at h
    · rename_i c1 r1 c2 r2 hs1 hs2
      cases h
      simp only [Bool.and_eq_true] at hc
      obtain ⟨hc1, hc2⟩ := hc
      obtain ⟨ρ0, hE, e1, e2⟩ := two_in rfl hs.gw (slIn_spec hs hs1 hc1 rfl) (slIn_spec hs hs2 hc2 rfl)
      refine entry_pure hs rfl ?_
      have ea : concL ρ0 [AV.slq 0 r1.length, AV.slq 1 r2.length] = concL ρ [v1, v2] := by simp only [concL]; rw [e1, e2]
      rw [← ea]
      have hp := c62_ r1 r2
      rw [sub_all r1 rfl, sub_all r2 rfl] at hp
      exact calls_pureB P11_ok hp ⟨⟨trivial, decide_eq_true (by omega)⟩, decide_eq_true (by omega)⟩ hE rfl rfl rfl
    · cases h
  · cases h
def P12 : Prims := addP (addP P11 61 q61) 62 q62
theorem P12_ok : PrimsOK Tryz.prog P12 := addP_ok (addP_ok P11_ok q61_ok) q62_ok
end Go.Proofs.YtpdgmgkkbbndfaaGreatDoor
set_option maxRecDepth 100000
set_option linter.unusedVariables false
set_option linter.unusedSimpArgs false
namespace Go.Proofs.YtpdgmgkkbbndfaaGreatDoor
open Go Go.Proofs Go.Proofs.YtpdgmgkkbbndfaaGreatDoor.SX
theorem cut_found {s t : List UInt8} (h : spFound s t = true) : s = spBefore s t ++ t ++ spAfter s t := by
  rcases Lib.index_spec s t with ⟨h1, _⟩ | ⟨i, h1, h2, h3, _⟩
  · unfold spFound Lib.cut at h
    rw [h1, if_neg (by omega)] at h
    cases h
  · unfold spBefore spAfter Lib.cut
    rw [h1, if_pos (by omega)]
    simp only [Int.toNat_natCast]
    unfold Lib.occAt at h3
    rw [List.isPrefixOf_iff_prefix] at h3
    obtain ⟨r, hr⟩ := h3
    have e : s.drop (i + t.length) = r := by
      rw [← List.drop_drop, ← hr]; simp
    rw [e, List.append_assoc, hr, List.take_append_drop]
theorem cut_none {s t : List UInt8} (h : spFound s t = false) : spBefore s t = s := by
  unfold spFound Lib.cut at h
  unfold spBefore Lib.cut
  split at h
  · cases h
  · rename_i hi; rw [if_neg hi]
theorem pre_found {s p : List UInt8} (h : spHasPre s p = true) : s = p ++ spTrimPre s p := by
  unfold spTrimPre Lib.trimPrefix
  unfold spHasPre at h
  rw [h, if_pos rfl]
  unfold Lib.hasPrefix at h
  rw [List.isPrefixOf_iff_prefix] at h
  obtain ⟨r, rfl⟩ := h
  simp
theorem suf_found {s p : List UInt8} (h : spHasSuf s p = true) : spTrimSuf s p ++ p = s := by
  unfold spTrimSuf Lib.trimSuffix
  unfold spHasSuf at h
  rw [h, if_pos rfl]
  unfold Lib.hasSuffix at h
  rw [List.isSuffixOf_iff_suffix] at h
  obtain ⟨r, rfl⟩ := h
  simp
theorem place_self (h s : List UInt8) (p : Int) : spPlace h h s p p = s := by
  unfold spPlace
  cases h1 : (s == h) with
  | true => rw [cond_true]; exact (by simpa using h1 : s = h).symm
  | false =>
    rw [cond_false]
    cases h2 : spHasPre s (h ++ [58]) with
    | false => rfl
    | true =>
      simp only [Bool.not_true, cond_false]
      cases h3 : (spNumeral (spTrimPre s (h ++ [58])) == 0) with
      | true => rfl
      | false =>
        simp only [cond_false]
        have h4 : spNumeral (spTrimPre s (h ++ [58])) ≠ 0 := by simpa using h3
        obtain ⟨h5, _⟩ := numeral_inv h4
        have h6 := pre_found h2
        cases h7 : (spNumeral (spTrimPre s (h ++ [58])) == p) with
        | true =>
          have h8 : spNumeral (spTrimPre s (h ++ [58])) = p := by simpa using h7
          rw [cond_true, ← h8, ← h5]
          exact h6.symm
        | false =>
          rw [cond_false, ← h5]
          exact h6.symm
theorem end_le (r signs : List UInt8) : spEnd r signs ≤ r.length := by
  unfold spEnd
  rcases anyAt_range r signs with h | h
  · cases decide (spAnyAt r signs < 0) with
    | true => exact Nat.le_refl _
    | false => rw [cond_false]; omega
  · rw [h]; exact Nat.le_refl _
theorem sub_split (a : List UInt8) {k : Nat} (h : k ≤ a.length) : sub a 0 k ++ sub a k (a.length - k) = a := by
  have e1 : sub a 0 k = a.take k := by simp [sub]
  have e2 : sub a k (a.length - k) = a.drop k := by
    unfold sub
    exact List.take_of_length_le (by simp)
  rw [e1, e2, List.take_append_drop]
theorem behind_self (h s mark signs : List UInt8) (p : Int) : spBehind h h s mark signs p p = s := by
  unfold spBehind
  cases h1 : spFound s mark with
  | false => rfl
  | true =>
    simp only [Bool.not_true, cond_false]
    rw [place_self, List.append_assoc, sub_split _ (end_le _ _)]
    exact (cut_found h1).symm
theorem med_self {s : List UInt8} (h : 0 < spMedN s) : spMedA s ++ spItoa (spMedN s) ++ spMedB s = s := by
  unfold spMedN at h
  cases hk : spMedK s with
  | false => rw [hk, cond_false] at h; omega
  | true =>
    rw [hk, cond_true] at h
    obtain ⟨h5, _⟩ := numeral_inv (show spNumeral (spMedD s) ≠ 0 by omega)
    have e : spMedA s ++ spItoa (spMedN s) ++ spMedB s = 109 :: 61 :: spMedW s ++ [32] ++ spItoa (spNumeral (spMedD s)) ++ 32 :: spMedR s := by
      unfold spMedA spMedN spMedB; rw [hk]; rfl
    rw [e, ← h5]
    unfold spMedK at hk
    have hcls : c64_cls s = 1 := Nat.eq_of_beq_eq_true hk
    unfold c64_cls at hcls
    have k2 : c64k2 s = true := by cases hh : c64k2 s with | true => rfl | false => rw [hh] at hcls; cases hcls
    have k4 : c64k4 s = false := by cases hh : c64k4 s with | false => rfl | true => rw [k2, hh] at hcls; cases hcls
    have k5 : c64k5 s = false := by cases hh : c64k5 s with | false => rfl | true => rw [k2, k4, hh] at hcls; cases hcls
    have k6 : c64k6 s = false := by cases hh : c64k6 s with | false => rfl | true => rw [k2, k4, k5, hh] at hcls; cases hcls
    have g4 : spHasPre s [109, 61] = true := by unfold c64k4 at k4; simpa using k4
    have g5 : spFound (spTrimPre s [109, 61]) [32] = true := by unfold c64k5 at k5; simpa using k5
    have g6 : spFound (spAfter (spTrimPre s [109, 61]) [32]) [32] = true := by unfold c64k6 at k6; simpa using k6
    have f1 := pre_found g4
    have f2 := cut_found g5
    have f3 := cut_found g6
    unfold spMedW spMedD spMedR
    conv => rhs; rw [f1, f2, f3]
    simp
def samePorts (rows : List (List AV)) : Bool := rows.all fun r => wasOf r == isOf r
theorem line_self (h s : List UInt8) {rows : List (List AV)} (hr : samePorts rows = true) : spLine h h s rows = s := by
  unfold spLine
  cases h1 : (s == sgConn ++ h) with
  | true => rw [cond_true]; exact (by simpa using h1 : s = sgConn ++ h).symm
  | false =>
    rw [cond_false]
    cases h2 : spHasSuf s (sgOrig ++ h) && spHasPre (spTrimSuf s (sgOrig ++ h)) [111, 61] with
    | true =>
      rw [cond_true, List.append_assoc]
      exact suf_found (Bool.and_eq_true _ _ ▸ h2).1
    | false =>
      rw [cond_false]
      unfold spIdx
      cases hf : firstAt (spHit (spMedN s)) rows with
      | none => rfl
      | some j =>
        obtain ⟨hj, hh, _⟩ := firstAt_some hf
        have hneg : decide (((j : Nat) : Int) < 0) = false := decide_eq_false (by omega)
        simp only [hneg, cond_false, Int.toNat_natCast]
        unfold spHit at hh
        simp only [Bool.and_eq_true, decide_eq_true_eq, beq_iff_eq] at hh
        have hs := List.all_eq_true.1 hr rows[j] (List.getElem_mem hj)
        have hs : wasOf rows[j] = isOf rows[j] := by simpa using hs
        have e : List.getD rows j [] = rows[j] := by rw [List.getD_eq_getElem?_getD, List.getElem?_eq_getElem hj]; rfl
        rw [e, ← hs, hh.2]
        exact med_self hh.1
theorem lines_join : ∀ (n : Nat) (s : List UInt8), s.length < n → ((spLinesF n s).map fun q => q.1 ++ q.2).flatten = s
  | 0, s, h => by omega
  | n + 1, s, h => by
    unfold spLinesF
    cases hf : spFound s [13, 10] with
    | true =>
      rw [cond_true]
      have h1 := cut_found hf
      have hl : (spAfter s [13, 10]).length < n := by
        have := congrArg List.length h1
        simp only [List.length_append, List.length_cons, List.length_nil] at this
        omega
      simp only [List.map_cons, List.flatten_cons]
      rw [lines_join n _ hl]
      exact h1.symm
    | false =>
      rw [cond_false]
      simp [cut_none hf]
theorem body_self (host : Int) {mrows : List (List AV)} (hr : samePorts mrows = true) (body : List UInt8) : rwBody host host mrows (byteRows body) = body := by
  unfold rwBody outB
  rw [map_rowByte]
  have e : (spLines body).map (spLineOut (spDotted host) (spDotted host) mrows) = (spLines body).map fun q => q.1 ++ q.2 := by
    refine List.map_congr_left fun q _ => ?_
    unfold spLineOut
    rw [line_self _ _ hr]
  rw [e]
  exact lines_join _ _ (Nat.lt_succ_self _)
theorem right_hdr {start : List UInt8} {rows : List (List AV)} {bn : Nat} (h : spRight start rows bn = true) {r : List AV} (hr : r ∈ rows) : okHdr bn r = true := by
  unfold spRight at h
  simp only [Bool.and_eq_true, decide_eq_true_eq] at h
  exact List.all_eq_true.1 h.2.2.2.1 r hr
theorem hdr_self {start : List UInt8} {rows : List (List AV)} {bn : Nat} (h : spRight start rows bn = true) {r : List AV} (hr : r ∈ rows) (hs : List UInt8) (p : Int) (h2 : ∃ a b, r = [.str a, .str b]) : spHdr hs hs p p bn r = r := by
  have ho := right_hdr h hr
  obtain ⟨a, b, rfl⟩ := h2
  unfold spHdr
  rw [behind_self, behind_self]
  cases h1 : spLow (hN [.str a, .str b]) == sgVia with
  | true => rfl
  | false =>
    cases h2 : spLow (hN [.str a, .str b]) == sgContact with
    | true => rfl
    | false =>
      cases h3 : spLow (hN [.str a, .str b]) == sgLen with
      | false => rfl
      | true =>
        unfold okHdr isLen at ho
        rw [h3] at ho
        simp only [Bool.and_eq_true, Bool.not_true, Bool.false_or] at ho
        have e0 : hV [AV.str a, AV.str b] = spItoa (bn : Int) := by simpa using ho.2.2.2
        have e : b = spItoa (bn : Int) := e0
        rw [e]
        rfl
theorem self_rows {start : List UInt8} {hrows : List (List AV)} {body : List UInt8} {host port : Int} {mrows : List (List AV)} (hr : samePorts mrows = true) (h2 : ∀ r ∈ hrows, ∃ a b, r = [.str a, .str b]) :
    spRwH start host host port port mrows hrows (byteRows body) = hrows ∧ spRwB start host host port port mrows hrows (byteRows body) = byteRows body := by
  unfold spRwH spRwB
  cases ho : rwOk start host host port port mrows hrows (byteRows body) with
  | false => exact ⟨rfl, rfl⟩
  | true =>
    rw [cond_true, cond_true, body_self host hr]
    refine ⟨?_, rfl⟩
    unfold rwOk at ho
    rw [Bool.and_eq_true, byteRows_length] at ho
    unfold rwHdrs
    rw [body_self host hr]
    have : hrows.map (spHdr (spDotted host) (spDotted host) (IntKind.wrap .i64 port) (IntKind.wrap .i64 port) body.length) = hrows.map id := List.map_congr_left fun r hr' => hdr_self ho.1 hr' _ _ (h2 r hr')
    rw [this, List.map_id]
theorem eqH_self (rows : List (List AV)) : spEqH rows rows = true := by
  unfold spEqH eqAt
  simp
theorem samePort_one (p : Int) : samePorts [[AV.int IntKind.u16 p, AV.int IntKind.u16 p]] = true := by
  unfold samePorts wasOf isOf
  simp [AV.toInt]
end Go.Proofs.YtpdgmgkkbbndfaaGreatDoor
set_option maxRecDepth 100000
set_option linter.unusedVariables false
set_option linter.unusedSimpArgs false
namespace Go.Proofs.YtpdgmgkkbbndfaaGreatDoor
open Go Go.Proofs Go.Proofs.YtpdgmgkkbbndfaaGreatDoor.SX
def b31I (s : List UInt8) (i : Int) (n : Nat) (rows : List (List AV)) : SL := ⟨[(0, .str s), (4, .int .i64 i), (3, .sl ⟨0,0,0⟩ n .open_)], [(0, .cells true [.int .u8] rows)], 1⟩
def b31zI (s : List UInt8) : SL := ⟨[(0, .str s), (4, .int .i64 0), (3, .nilSl)], [], 0⟩
theorem b31z_TTTE (s : List UInt8) :
    Path (run Tryz.prog Pr 100 (lbody Tryz.prog 31 0) (SL.mp 29 ([.as_ true, .as_ true, .as_ true, PI.ev 1]) (b31zI s))) 0 [1] (b31I (s) ((1 : Int)) (1) ([[AV.int IntKind.u8 (IntKind.wrap IntKind.u8 (↑(UInt8.toNat (List.getD s 0 (0 : UInt8))) + (32 : Int)))]])) (Ex.normal)
      ((((((True ∧ (decide ((0 : Int) < ↑(List.length s)) = true)) ∧ (decide ((0 : Int) ≤ (0 : Int) ∧ (0 : Int) < ↑(List.length s)) = true)) ∧ (decide (↑(UInt8.toNat (List.getD s 0 (0 : UInt8))) ≥ (65 : Int)) = true)) ∧ (decide (↑(UInt8.toNat (List.getD s 0 (0 : UInt8))) ≤ (90 : Int)) = true)) ∧ (true = true)) ∧ (true = true)) := by unfold Path; kernel_rfl
theorem b31z_TTFE (s : List UInt8) :
    Path (run Tryz.prog Pr 100 (lbody Tryz.prog 31 0) (SL.mp 29 ([.as_ true, .as_ true, .as_ false, PI.ev 1]) (b31zI s))) 0 [1] (b31I (s) ((1 : Int)) (1) ([[AV.int IntKind.u8 ↑(UInt8.toNat (List.getD s 0 (0 : UInt8)))]])) (Ex.normal)
      ((((((True ∧ (decide ((0 : Int) < ↑(List.length s)) = true)) ∧ (decide ((0 : Int) ≤ (0 : Int) ∧ (0 : Int) < ↑(List.length s)) = true)) ∧ (decide (↑(UInt8.toNat (List.getD s 0 (0 : UInt8))) ≥ (65 : Int)) = true)) ∧ (decide (↑(UInt8.toNat (List.getD s 0 (0 : UInt8))) ≤ (90 : Int)) = false)) ∧ (true = true)) ∧ (true = true)) := by unfold Path; kernel_rfl
theorem b31z_TFE (s : List UInt8) :
    Path (run Tryz.prog Pr 100 (lbody Tryz.prog 31 0) (SL.mp 29 ([.as_ true, .as_ false, PI.ev 1]) (b31zI s))) 0 [1] (b31I (s) ((1 : Int)) (1) ([[AV.int IntKind.u8 ↑(UInt8.toNat (List.getD s 0 (0 : UInt8)))]])) (Ex.normal)
      (((((True ∧ (decide ((0 : Int) < ↑(List.length s)) = true)) ∧ (decide ((0 : Int) ≤ (0 : Int) ∧ (0 : Int) < ↑(List.length s)) = true)) ∧ (decide (↑(UInt8.toNat (List.getD s 0 (0 : UInt8))) ≥ (65 : Int)) = false)) ∧ (true = true)) ∧ (true = true)) := by unfold Path; kernel_rfl
theorem b31z_F (s : List UInt8) :
    Path (run Tryz.prog Pr 100 (lbody Tryz.prog 31 0) (SL.mp 29 ([.as_ false]) (b31zI s))) 0 [] (b31zI (s)) (Ex.exit 0)
      (True ∧ (decide ((0 : Int) < ↑(List.length s)) = false)) := by unfold Path; kernel_rfl
theorem b31_TTT (s : List UInt8) (i : Int) (n : Nat) (rows : List (List AV)) :
    Path (run Tryz.prog Pr 100 (lbody Tryz.prog 31 0) (SL.mp 29 ([.as_ true, .as_ true, .as_ true]) (b31I s i n rows))) 0 [2] (b31I (s) (IntKind.wrap IntKind.i64 (i + (1 : Int))) (n + 1) (rows ++ [[AV.int IntKind.u8 (IntKind.wrap IntKind.u8 (↑(UInt8.toNat (List.getD s (Int.toNat i) (0 : UInt8))) + (32 : Int)))]])) (Ex.normal)
      (((((((True ∧ (decide (i < ↑(List.length s)) = true)) ∧ (decide ((0 : Int) ≤ i ∧ i < ↑(List.length s)) = true)) ∧ (decide (↑(UInt8.toNat (List.getD s (Int.toNat i) (0 : UInt8))) ≥ (65 : Int)) = true)) ∧ (decide (↑(UInt8.toNat (List.getD s (Int.toNat i) (0 : UInt8))) ≤ (90 : Int)) = true)) ∧ (true = true)) ∧ (decide (0 = 0 ∧ n = List.length rows) = true)) ∧ (decide ((n + 1) * 1 ≤ 140737488355328) = true)) := by unfold Path; kernel_rfl
theorem b31_TTF (s : List UInt8) (i : Int) (n : Nat) (rows : List (List AV)) :
    Path (run Tryz.prog Pr 100 (lbody Tryz.prog 31 0) (SL.mp 29 ([.as_ true, .as_ true, .as_ false]) (b31I s i n rows))) 0 [2] (b31I (s) (IntKind.wrap IntKind.i64 (i + (1 : Int))) (n + 1) (rows ++ [[AV.int IntKind.u8 ↑(UInt8.toNat (List.getD s (Int.toNat i) (0 : UInt8)))]])) (Ex.normal)
      (((((((True ∧ (decide (i < ↑(List.length s)) = true)) ∧ (decide ((0 : Int) ≤ i ∧ i < ↑(List.length s)) = true)) ∧ (decide (↑(UInt8.toNat (List.getD s (Int.toNat i) (0 : UInt8))) ≥ (65 : Int)) = true)) ∧ (decide (↑(UInt8.toNat (List.getD s (Int.toNat i) (0 : UInt8))) ≤ (90 : Int)) = false)) ∧ (true = true)) ∧ (decide (0 = 0 ∧ n = List.length rows) = true)) ∧ (decide ((n + 1) * 1 ≤ 140737488355328) = true)) := by unfold Path; kernel_rfl
theorem b31_TF (s : List UInt8) (i : Int) (n : Nat) (rows : List (List AV)) :
    Path (run Tryz.prog Pr 100 (lbody Tryz.prog 31 0) (SL.mp 29 ([.as_ true, .as_ false]) (b31I s i n rows))) 0 [2] (b31I (s) (IntKind.wrap IntKind.i64 (i + (1 : Int))) (n + 1) (rows ++ [[AV.int IntKind.u8 ↑(UInt8.toNat (List.getD s (Int.toNat i) (0 : UInt8)))]])) (Ex.normal)
      ((((((True ∧ (decide (i < ↑(List.length s)) = true)) ∧ (decide ((0 : Int) ≤ i ∧ i < ↑(List.length s)) = true)) ∧ (decide (↑(UInt8.toNat (List.getD s (Int.toNat i) (0 : UInt8))) ≥ (65 : Int)) = false)) ∧ (true = true)) ∧ (decide (0 = 0 ∧ n = List.length rows) = true)) ∧ (decide ((n + 1) * 1 ≤ 140737488355328) = true)) := by unfold Path; kernel_rfl
theorem b31_F (s : List UInt8) (i : Int) (n : Nat) (rows : List (List AV)) :
    Path (run Tryz.prog Pr 100 (lbody Tryz.prog 31 0) (SL.mp 29 ([.as_ false]) (b31I s i n rows))) 0 [0] (b31I (s) (i) (n) (rows)) (Ex.exit 0)
      (True ∧ (decide (i < ↑(List.length s)) = false)) := by unfold Path; kernel_rfl
theorem c31_L1 (s : List UInt8) (rows : List (List AV)) :
    Path (runCall Tryz.prog Pr 100 31 [AV.str s] (st0 [] ([PI.loop (b31zI s) (Ex.exit 0) (b31zI s)]))) 0 [] ⟨[], [], 0⟩ (Out.ret (AV.str []))
      (True ∧ (LoopOK Tryz.prog (lbody Tryz.prog 31 0) (29) (SL.mk [(0, AV.str s), (4, AV.int IntKind.i64 (0 : Int)), (3, AV.nilSl)] [] 0) (Ex.exit 0) (SL.mk [(0, AV.str s), (4, AV.int IntKind.i64 (0 : Int)), (3, AV.nilSl)] [] 0))) := by unfold Path; kernel_rfl
theorem c31_L2 (s : List UInt8) (rows : List (List AV)) :
    Path (runCall Tryz.prog Pr 100 31 [AV.str s] (st0 [] ([PI.loop (b31zI s) (Ex.exit 0) (b31I s (↑(List.length s)) (List.length s) rows)]))) 0 [] ⟨[], [], 0⟩ (Out.ret (AV.str (List.map rowByte (sub rows 0 (List.length s)))))
      ((True ∧ (LoopOK Tryz.prog (lbody Tryz.prog 31 0) (29) (SL.mk [(0, AV.str s), (4, AV.int IntKind.i64 (0 : Int)), (3, AV.nilSl)] [] 0) (Ex.exit 0) (SL.mk [(0, AV.str s), (4, AV.int IntKind.i64 ↑(List.length s)), (3, AV.sl (Loc.mk 0 0 0) (List.length s) Cap.open_)] [(0, Blk.cells true [Kd.int IntKind.u8] rows)] 1))) ∧ (decide (0 + List.length s ≤ List.length rows) = true)) := by unfold Path; kernel_rfl
def I31 (s : List UInt8) : Nat → SL
  | 0 => b31zI s
  | k + 1 => b31I s ((k + 1 : Nat) : Int) (k + 1) (lrows s (k + 1))
theorem lower_loop31 (s : List UInt8) (hs : s.length ≤ 140737488355328) : LoopOK Tryz.prog (lbody Tryz.prog 31 0) 29 (I31 s 0) (.exit 0) (I31 s s.length) := by
  refine loop_rule (I := I31 s) (pre := fun k => k ≤ s.length) (μ := fun k => s.length - k) _ _ rfl (fun ρ => by simp [Ex.conc]) ?_ (x0 := 0) (pick := []) (Nat.zero_le _) ⟨by kernel_rfl, map_fst_snd (by kernel_rfl)⟩
  intro k hk
  by_cases h : k < s.length
  · left
    refine ⟨k + 1, by omega, by omega, ?_⟩
    have g := getD_lt h
    have ee : I31 s (k + 1) = b31I s ((k + 1 : Nat) : Int) (k + 1) (lrows s k ++ [[AV.int .u8 (lowerC s[k]).toNat]]) := by rw [← lrows_succ h]; rfl
    rw [ee]
    have hl : (lrows s k).length = k := lrows_length hk
    have w := succ64 h (by omega)
    cases k with
    | zero =>
      by_cases h1 : 65 ≤ s[0].toNat
      · by_cases h2 : s[0].toNat ≤ 90
        · exact body_by Pr_ok (b31z_TTTE s) (by rw [g, lower_up h1 h2]; rfl) (by simp only [decide_eq_true_eq, decide_eq_false_iff_not, g, eq_self, and_true, true_and] <;> omega) rfl
        · exact body_by Pr_ok (b31z_TTFE s) (by rw [g, lower_no (fun x => h2 x.2)]; rfl) (by simp only [decide_eq_true_eq, decide_eq_false_iff_not, g, eq_self, and_true, true_and] <;> omega) rfl
      · exact body_by Pr_ok (b31z_TFE s) (by rw [g, lower_no (fun x => h1 x.1)]; rfl) (by simp only [decide_eq_true_eq, decide_eq_false_iff_not, g, eq_self, and_true, true_and] <;> omega) rfl
    | succ k =>
      by_cases h1 : 65 ≤ s[k + 1].toNat
      · by_cases h2 : s[k + 1].toNat ≤ 90
        · exact body_by Pr_ok (b31_TTT s _ _ _) (by simp only [Int.toNat_natCast, g, lower_up h1 h2, w]) (by simp only [Int.toNat_natCast, decide_eq_true_eq, decide_eq_false_iff_not, g, hl, eq_self, and_true, true_and] <;> omega) rfl
        · exact body_by Pr_ok (b31_TTF s _ _ _) (by simp only [Int.toNat_natCast, g, lower_no (fun x => h2 x.2), w]) (by simp only [Int.toNat_natCast, decide_eq_true_eq, decide_eq_false_iff_not, g, hl, eq_self, and_true, true_and] <;> omega) rfl
      · exact body_by Pr_ok (b31_TF s _ _ _) (by simp only [Int.toNat_natCast, g, lower_no (fun x => h1 x.1), w]) (by simp only [Int.toNat_natCast, decide_eq_true_eq, decide_eq_false_iff_not, g, hl, eq_self, and_true, true_and] <;> omega) rfl
  · right
    have hk' : k = s.length := by omega
    rw [← hk']
    cases k with
    | zero => exact body_by Pr_ok (b31z_F s) rfl (by simp only [decide_eq_true_eq, decide_eq_false_iff_not, eq_self, and_true, true_and] <;> omega) rfl
    | succ k => exact body_by Pr_ok (b31_F s _ _ _) rfl (by simp only [decide_eq_true_eq, decide_eq_false_iff_not, eq_self, and_true, true_and] <;> omega) rfl
def q31 : Entry := fun args hp nx => match args with
  | [.str s] => some (decide (s.length ≤ 140737488355328), .str (lowerS s), [])
  | _ => none
theorem q31_ok : EntryOK Tryz.prog 31 q31 := by
  intro args hp nx c v bs h hc ρ w hs hi
  unfold q31 at h
  split at h
  · rename_i s
    cases h
    have hc := of_decide_eq_true hc
    refine entry_pure hs rfl ?_
    have hl := lower_loop31 s hc
    have h0 : HSim ρ (addBlks .e 0 []) ([] : List Blk).length w := HSim.ins hs.gw (fun i blk hi => by simp at hi)
    cases hn : s.length with
    | zero =>
      rw [hn] at hl
      have : lowerS s = [] := by rw [List.length_eq_zero_iff.1 hn]; rfl
      rw [this]
      exact calls_pure Pr_ok (c31_L1 s []) ⟨trivial, hl⟩ h0 rfl rfl rfl
    | succ k =>
      have e : I31 s s.length = b31I s ((s.length : Nat) : Int) s.length (lrows s s.length) := by rw [hn]; rfl
      rw [e] at hl
      have e2 : lowerS s = List.map rowByte (sub (lrows s s.length) 0 s.length) := by
        rw [sub_all _ (lrows_length (Nat.le_refl _)).symm]
        show _ = List.map rowByte (byteRows _)
        rw [map_rowByte, List.take_length]
      rw [e2]
      exact calls_pure Pr_ok (c31_L2 s (lrows s s.length)) ⟨⟨trivial, hl⟩, by simp [lrows_length]⟩ h0 rfl rfl rfl
  · cases h
end Go.Proofs.YtpdgmgkkbbndfaaGreatDoor
set_option maxRecDepth 100000
set_option linter.unusedVariables false
set_option linter.unusedSimpArgs false
namespace Go.Proofs.YtpdgmgkkbbndfaaGreatDoor
open Go Go.Proofs Go.Proofs.YtpdgmgkkbbndfaaGreatDoor.SX
def b32I (s : List UInt8) (k : Int) : SL := ⟨[(0, .str s), (3, .int .i64 k)], [], 0⟩
theorem b32_TT (s : List UInt8) (k : Int) :
    Path (run Tryz.prog P12 100 (lbody Tryz.prog 32 0) (SL.mp 17 ([.as_ true, .as_ true]) (b32I s k))) 0 [] (SL.mk [(2, AV.lit true)] [] 0) (Ex.ret)
      (((True ∧ (decide (IntKind.wrap IntKind.i64 (k + (15 : Int)) ≤ (↑(List.length s) : Int)) = true)) ∧ (decide ((0 : Int) ≤ k ∧ k ≤ IntKind.wrap IntKind.i64 (k + (15 : Int)) ∧ IntKind.wrap IntKind.i64 (k + (15 : Int)) ≤ (↑(List.length s) : Int)) = true)) ∧ ((sub s (Int.toNat k) (Int.toNat (IntKind.wrap IntKind.i64 (k + (15 : Int))) - Int.toNat k) == [(50 : UInt8), (53 : UInt8), (52 : UInt8), (46 : UInt8), (50 : UInt8), (53 : UInt8), (52 : UInt8), (46 : UInt8), (50 : UInt8), (53 : UInt8), (52 : UInt8), (46 : UInt8), (50 : UInt8), (53 : UInt8), (52 : UInt8)]) = true)) := by unfold Path; kernel_rfl
theorem b32_TF (s : List UInt8) (k : Int) :
    Path (run Tryz.prog P12 100 (lbody Tryz.prog 32 0) (SL.mp 17 ([.as_ true, .as_ false]) (b32I s k))) 0 [] (b32I (s) (IntKind.wrap IntKind.i64 (k + (1 : Int)))) (Ex.normal)
      (((True ∧ (decide (IntKind.wrap IntKind.i64 (k + (15 : Int)) ≤ (↑(List.length s) : Int)) = true)) ∧ (decide ((0 : Int) ≤ k ∧ k ≤ IntKind.wrap IntKind.i64 (k + (15 : Int)) ∧ IntKind.wrap IntKind.i64 (k + (15 : Int)) ≤ (↑(List.length s) : Int)) = true)) ∧ ((sub s (Int.toNat k) (Int.toNat (IntKind.wrap IntKind.i64 (k + (15 : Int))) - Int.toNat k) == [(50 : UInt8), (53 : UInt8), (52 : UInt8), (46 : UInt8), (50 : UInt8), (53 : UInt8), (52 : UInt8), (46 : UInt8), (50 : UInt8), (53 : UInt8), (52 : UInt8), (46 : UInt8), (50 : UInt8), (53 : UInt8), (52 : UInt8)]) = false)) := by unfold Path; kernel_rfl
theorem b32_F (s : List UInt8) (k : Int) :
    Path (run Tryz.prog P12 100 (lbody Tryz.prog 32 0) (SL.mp 17 ([.as_ false]) (b32I s k))) 0 [] (SL.mk [] [] 0) (Ex.exit 0)
      (True ∧ (decide (IntKind.wrap IntKind.i64 (k + (15 : Int)) ≤ (↑(List.length s) : Int)) = false)) := by unfold Path; kernel_rfl
theorem c32a_L (s : List UInt8) :
    Path (runCallB Tryz.prog P12 100 32 [AV.str s] (st0 [] ([PI.loop (b32I s (0 : Int)) Ex.ret (SL.mk [(2, AV.lit true)] [] 0)]))) 0 [] (SL.mk [] [] 0) (Out.ret (AV.lit true))
      (True ∧ (LoopOK Tryz.prog (lbody Tryz.prog 32 0) (17) (SL.mk [(0, AV.str s), (3, AV.int IntKind.i64 (0 : Int))] [] 0) Ex.ret (SL.mk [(2, AV.lit true)] [] 0))) := by unfold Path; kernel_rfl
theorem c32b_L (s : List UInt8) :
    Path (runCallB Tryz.prog P12 100 32 [AV.str s] (st0 [] ([PI.loop (b32I s (0 : Int)) (Ex.exit 0) (SL.mk [] [] 0)]))) 0 [] (SL.mk [] [] 0) (Out.ret (AV.lit false))
      (True ∧ (LoopOK Tryz.prog (lbody Tryz.prog 32 0) (17) (SL.mk [(0, AV.str s), (3, AV.int IntKind.i64 (0 : Int))] [] 0) (Ex.exit 0) (SL.mk [] [] 0))) := by unfold Path; kernel_rfl
def dots : List UInt8 := [50, 53, 52, 46, 50, 53, 52, 46, 50, 53, 52, 46, 50, 53, 52]
def hasAt (s : List UInt8) (k : Nat) : Bool := sub s k 15 == dots
def spHas (s : List UInt8) : Bool := (List.range (s.length - 14)).any (hasAt s)
theorem has_wrap {k n : Nat} (h : k < n - 14) (hl : n ≤ 4611686018427387904) : IntKind.wrap IntKind.i64 ((k : Int) + 15) = ((k + 15 : Nat) : Int) := by
  rw [IntWalk.i64_in _ (by omega)]; omega
theorem has_round {s : List UInt8} (hl : s.length ≤ 4611686018427387904) {k : Nat} (h : k < s.length - 14) :
    (hasAt s k = false → BodyOK Tryz.prog (lbody Tryz.prog 32 0) 17 0 (b32I s (k : Int)) .normal (b32I s ((k + 1 : Nat) : Int))) ∧
    (hasAt s k = true → BodyOK Tryz.prog (lbody Tryz.prog 32 0) 17 0 (b32I s (k : Int)) .ret ⟨[(2, .lit true)], [], 0⟩) := by
  have w := has_wrap h hl
  have e : sub s (Int.toNat (k : Int)) (Int.toNat (IntKind.wrap IntKind.i64 ((k : Int) + 15)) - Int.toNat (k : Int)) = sub s k 15 := by
    rw [w]; simp only [Int.toNat_natCast]; rw [show k + 15 - k = 15 by omega]
  have c1 : decide (IntKind.wrap IntKind.i64 ((k : Int) + 15) ≤ ((s.length : Nat) : Int)) = true := decide_eq_true (by rw [w]; omega)
  have c2 : decide ((0 : Int) ≤ (k : Int) ∧ (k : Int) ≤ IntKind.wrap IntKind.i64 ((k : Int) + 15) ∧ IntKind.wrap IntKind.i64 ((k : Int) + 15) ≤ ((s.length : Nat) : Int)) = true := decide_eq_true (by rw [w]; omega)
  refine ⟨fun hf => ?_, fun ht => ?_⟩
  · exact body_by P12_ok (b32_TF s k) (by rw [succ64 (n := s.length) (by omega) hl]) ⟨⟨⟨trivial, c1⟩, c2⟩, by rw [e]; exact hf⟩ rfl
  · exact body_by P12_ok (b32_TT s k) rfl ⟨⟨⟨trivial, c1⟩, c2⟩, by rw [e]; exact ht⟩ rfl
theorem has_ret {s : List UInt8} (hl : s.length ≤ 4611686018427387904) {j : Nat} (h : firstAt (hasAt s) (List.range (s.length - 14)) = some j) : LoopOK Tryz.prog (lbody Tryz.prog 32 0) 17 (b32I s 0) .ret ⟨[(2, .lit true)], [], 0⟩ := by
  obtain ⟨hj, h2, h3⟩ := firstAt_some h
  have hj' : j < s.length - 14 := by simpa using hj
  refine loop_rule (E := b32I s 0) (I := fun k : Nat => b32I s k) (pre := fun k => k ≤ j) (μ := fun k => j - k) _ _ rfl (fun ρ => by simp [Ex.conc]) ?_ (x0 := 0) (pick := []) (Nat.zero_le _) ⟨by kernel_rfl, map_fst_snd (by kernel_rfl)⟩
  intro k hk
  by_cases hkj : k = j
  · right
    subst hkj
    exact (has_round hl hj').2 (by simpa using h2)
  · left
    exact ⟨k + 1, by omega, by omega, (has_round hl (by omega)).1 (by have := h3 k (by omega); simpa using this)⟩
theorem has_end {s : List UInt8} (hl : s.length ≤ 4611686018427387904) (h : firstAt (hasAt s) (List.range (s.length - 14)) = none) : LoopOK Tryz.prog (lbody Tryz.prog 32 0) 17 (b32I s 0) (.exit 0) ⟨[], [], 0⟩ := by
  have h3 := firstAt_none h
  refine loop_rule (E := b32I s 0) (I := fun k : Nat => b32I s k) (pre := fun k => k ≤ s.length - 14) (μ := fun k => s.length - k) _ _ rfl (fun ρ => by simp [Ex.conc]) ?_ (x0 := 0) (pick := []) (Nat.zero_le _) ⟨by kernel_rfl, map_fst_snd (by kernel_rfl)⟩
  intro k hk
  by_cases hkl : k < s.length - 14
  · left
    exact ⟨k + 1, by omega, by omega, (has_round hl hkl).1 (by have := h3 k (by simpa using hkl); simpa using this)⟩
  · right
    exact body_by P12_ok (b32_F s k) rfl ⟨trivial, decide_eq_false (by rw [IntWalk.i64_in _ (by omega)]; omega)⟩ rfl
def q32 : Entry := fun args hp nx => match args with
  | [.str s] => some (decide (s.length ≤ 4611686018427387904), .bool (spHas s), [])
  | _ => none
theorem q32_ok : EntryOK Tryz.prog 32 q32 := by
  intro args hp nx c v bs h hc ρ w hs hi
  unfold q32 at h
  split at h
  · rename_i s
    cases h
    have hl := of_decide_eq_true hc
    refine entry_pure hs rfl ?_
    have hE : HSim ρ (addBlks .e 0 []) ([] : List Blk).length w := HSim.ins hs.gw (fun i blk hi => by simp at hi)
    cases hf : firstAt (hasAt s) (List.range (s.length - 14)) with
    | some j =>
      obtain ⟨hj, h2, _⟩ := firstAt_some hf
      have ev : spHas s = true := List.any_eq_true.2 ⟨_, List.getElem_mem hj, h2⟩
      rw [ev]
      exact calls_pureB P12_ok (c32a_L s) ⟨trivial, has_ret hl hf⟩ hE rfl rfl rfl
    | none =>
      have h3 := firstAt_none hf
      have ev : spHas s = false := by
        unfold spHas
        rw [List.any_eq_false]
        intro k hk
        obtain ⟨i, hi, rfl⟩ := List.mem_iff_getElem.1 hk
        have := h3 i hi
        rw [this]; decide
      rw [ev]
      exact calls_pureB P12_ok (c32b_L s) ⟨trivial, has_end hl hf⟩ hE rfl rfl rfl
  · cases h
def P13 : Prims := addP (addP P12 32 q32) 31 q31
theorem P13_ok : PrimsOK Tryz.prog P13 := addP_ok (addP_ok P12_ok q32_ok) q31_ok
end Go.Proofs.YtpdgmgkkbbndfaaGreatDoor
set_option maxRecDepth 100000
set_option linter.unusedVariables false
set_option linter.unusedSimpArgs false
namespace Go.Proofs.YtpdgmgkkbbndfaaGreatDoor
open Go Go.Proofs Go.Proofs.YtpdgmgkkbbndfaaGreatDoor.SX
theorem dots_eq : spDotted 4278124286 = dots := by kernel_rfl
theorem has_of {s : List UInt8} (a b : List UInt8) (h : s = a ++ dots ++ b) : spHas s = true := by
  subst h
  unfold spHas
  have hd : dots.length = 15 := rfl
  refine List.any_eq_true.2 ⟨a.length, List.mem_range.2 (by simp only [List.length_append, hd]; omega), ?_⟩
  unfold hasAt sub
  have : ((a ++ dots ++ b).drop a.length).take 15 = dots := by
    rw [List.append_assoc, List.drop_left, ← hd, List.take_left]
  rw [this]; simp
theorem place_other {ts s : List UInt8} {p tp : Int} (h1 : s ≠ dots) (h2 : ∀ r, s ≠ dots ++ [58] ++ r) : spPlace dots ts s p tp = s := by
  unfold spPlace
  have e1 : (s == dots) = false := by rw [beq_eq_false_iff_ne]; exact h1
  have e2 : spHasPre s (dots ++ [58]) = false := by
    cases h : spHasPre s (dots ++ [58]) with
    | false => rfl
    | true => exact absurd (pre_found h) (h2 _)
  rw [e1, e2]; rfl
theorem behind_other {ts s mark signs : List UInt8} {p tp : Int} (h : spHas s = false) : spBehind dots ts s mark signs p tp = s := by
  unfold spBehind
  cases h1 : spFound s mark with
  | false => rfl
  | true =>
    simp only [Bool.not_true, cond_false]
    have hs := cut_found h1
    have hsp := sub_split (spAfter s mark) (end_le (spAfter s mark) signs)
    have hp : spPlace dots ts (sub (spAfter s mark) 0 (spEnd (spAfter s mark) signs)) p tp = sub (spAfter s mark) 0 (spEnd (spAfter s mark) signs) := by
      refine place_other (fun e => ?_) (fun r e => ?_)
      · have := has_of (s := s) (spBefore s mark ++ mark) (sub (spAfter s mark) (spEnd (spAfter s mark) signs) ((spAfter s mark).length - spEnd (spAfter s mark) signs)) (by rw [← e, List.append_assoc, hsp]; exact hs)
        rw [h] at this; cases this
      · have := has_of (s := s) (spBefore s mark ++ mark) ([58] ++ r ++ sub (spAfter s mark) (spEnd (spAfter s mark) signs) ((spAfter s mark).length - spEnd (spAfter s mark) signs)) (by
          rw [e] at hsp
          have hs2 := hs
          rw [← hsp] at hs2
          simpa using hs2)
        rw [h] at this; cases this
    rw [hp, List.append_assoc, hsp]
    exact hs.symm
theorem line_other {ts s : List UInt8} (h : spHas s = false) : spLine dots ts s [] = s := by
  unfold spLine
  cases h1 : (s == sgConn ++ dots) with
  | true =>
    have e : s = sgConn ++ dots := by simpa using h1
    have := has_of (s := s) sgConn [] (by rw [e]; simp)
    rw [h] at this; cases this
  | false =>
    rw [cond_false]
    cases h2 : spHasSuf s (sgOrig ++ dots) with
    | true =>
      have e := suf_found h2
      have := has_of (s := s) (spTrimSuf s (sgOrig ++ dots) ++ sgOrig) [] (by rw [← List.append_assoc] at e; rw [List.append_nil]; exact e.symm)
      rw [h] at this; cases this
    | false => rfl
theorem flat_mem {α : Type} : ∀ {l : List (List α)} {x : List α}, x ∈ l → ∃ a b, l.flatten = a ++ x ++ b
  | y :: l, x, h => by
    rcases List.mem_cons.1 h with rfl | h
    · exact ⟨[], l.flatten, by simp⟩
    · obtain ⟨a, b, e⟩ := flat_mem h
      exact ⟨y ++ a, b, by simp [e]⟩
theorem body_other (to_ : Int) {body : List UInt8} (h : spHas body = false) : rwBody 4278124286 to_ [] (byteRows body) = body := by
  unfold rwBody outB
  rw [map_rowByte, dots_eq]
  have hj := lines_join (body.length + 1) body (Nat.lt_succ_self _)
  have e : (spLines body).map (spLineOut dots (spDotted to_) []) = (spLines body).map fun q => q.1 ++ q.2 := by
    refine List.map_congr_left fun q hq => ?_
    unfold spLineOut
    have hno : spHas q.1 = false := by
      cases hh : spHas q.1 with
      | false => rfl
      | true =>
        unfold spHas at hh
        obtain ⟨i, hi, hx⟩ := List.any_eq_true.1 hh
        unfold hasAt sub at hx
        have hx : (q.1.drop i).take 15 = dots := by simpa using hx
        obtain ⟨a, b, eab⟩ := flat_mem (List.mem_map_of_mem (f := fun q : List UInt8 × List UInt8 => q.1 ++ q.2) hq)
        have e1 : q.1 = q.1.take i ++ dots ++ (q.1.drop i).drop 15 := by
          rw [← hx, List.append_assoc, List.take_append_drop, List.take_append_drop]
        have := has_of (s := body) (a ++ q.1.take i) ((q.1.drop i).drop 15 ++ q.2 ++ b) (by
          have hj' : ((spLines body).map fun q => q.1 ++ q.2).flatten = body := hj
          rw [← hj', eab]
          conv => lhs; rw [e1]
          simp)
        rw [h] at this; cases this
    rw [line_other hno]
  rw [e]
  exact hj
theorem hdr_other {start : List UInt8} {rows : List (List AV)} {bn : Nat} (h : spRight start rows bn = true) {r : List AV} (hr : r ∈ rows) (ts : List UInt8) (p tp : Int) (h2 : ∃ a b, r = [.str a, .str b]) (h3 : spHas (hV r) = false) : spHdr dots ts p tp bn r = r := by
  have ho := right_hdr h hr
  obtain ⟨a, b, rfl⟩ := h2
  unfold spHdr
  rw [behind_other h3, behind_other h3]
  cases h1 : spLow (hN [.str a, .str b]) == sgVia with
  | true => rfl
  | false =>
    cases h2 : spLow (hN [.str a, .str b]) == sgContact with
    | true => rfl
    | false =>
      cases h3 : spLow (hN [.str a, .str b]) == sgLen with
      | false => rfl
      | true =>
        unfold okHdr isLen at ho
        rw [h3] at ho
        simp only [Bool.and_eq_true, Bool.not_true, Bool.false_or] at ho
        have e0 : hV [AV.str a, AV.str b] = spItoa (bn : Int) := by simpa using ho.2.2.2
        have e : b = spItoa (bn : Int) := e0
        rw [e]
        rfl
theorem other_rows {start : List UInt8} {hrows : List (List AV)} {body : List UInt8} {to_ port toPort : Int} (h1 : ∀ r ∈ hrows, spHas (hV r) = false) (hb : spHas body = false) (h2 : ∀ r ∈ hrows, ∃ a b, r = [.str a, .str b]) :
    spRwH start 4278124286 to_ port toPort [] hrows (byteRows body) = hrows ∧ spRwB start 4278124286 to_ port toPort [] hrows (byteRows body) = byteRows body := by
  unfold spRwH spRwB
  cases ho : rwOk start 4278124286 to_ port toPort [] hrows (byteRows body) with
  | false => exact ⟨rfl, rfl⟩
  | true =>
    rw [cond_true, cond_true, body_other to_ hb]
    refine ⟨?_, rfl⟩
    unfold rwOk at ho
    rw [Bool.and_eq_true, byteRows_length] at ho
    unfold rwHdrs
    rw [body_other to_ hb, dots_eq]
    have : hrows.map (spHdr dots (spDotted to_) (IntKind.wrap .i64 port) (IntKind.wrap .i64 toPort) body.length) = hrows.map id := List.map_congr_left fun r hr => hdr_other ho.1 hr _ _ _ (h2 r hr) (h1 r hr)
    rw [this, List.map_id]
theorem rw_length (start : List UInt8) (host to_ port toPort : Int) (mrows hrows brows : List (List AV)) : (spRwH start host to_ port toPort mrows hrows brows).length = hrows.length := by
  unfold spRwH
  cases rwOk start host to_ port toPort mrows hrows brows with
  | true => simp [rwHdrs]
  | false => rfl
theorem beside_at {start : List UInt8} {host to_ port toPort : Int} {mrows hrows brows : List (List AV)} {k : Nat} (hk : k < hrows.length)
    (q1 : (lowerS (hN (hrows.getD (0 + k) [])) == sgVia) = false) (q2 : (lowerS (hN (hrows.getD (0 + k) [])) == sgContact) = false) (q3 : (lowerS (hN (hrows.getD (0 + k) [])) == sgLen) = false) :
    (spRwH start host to_ port toPort mrows hrows brows).getD (0 + k) [] = hrows.getD (0 + k) [] := by
  unfold spRwH
  cases rwOk start host to_ port toPort mrows hrows brows with
  | false => rfl
  | true =>
    rw [cond_true]
    unfold rwHdrs
    have e : hrows.getD (0 + k) [] = hrows[k] := by rw [Nat.zero_add, List.getD_eq_getElem?_getD, List.getElem?_eq_getElem hk]; rfl
    rw [Nat.zero_add, List.getD_eq_getElem?_getD, List.getElem?_map, List.getElem?_eq_getElem hk]
    rw [Nat.zero_add] at e
    rw [e]
    rw [Nat.zero_add, e] at q1 q2 q3
    show spHdr _ _ _ _ _ hrows[k] = hrows[k]
    unfold spHdr spLow
    rw [q1, q2, q3]
    rfl
end Go.Proofs.YtpdgmgkkbbndfaaGreatDoor
set_option maxRecDepth 100000
set_option maxHeartbeats 6400000
set_option linter.unusedVariables false
set_option linter.unusedSimpArgs false
namespace Go.Proofs.YtpdgmgkkbbndfaaGreatDoor
open Go Go.Proofs Go.Proofs.YtpdgmgkkbbndfaaGreatDoor.SX Go.Proofs.YtpdgmgkkbbndfaaGreatDoor
open Go.ChangeShapes Go.WideShapes Go.ChangeAt Go.RowKit
theorem add_eq {a : Addr} (h : a.spot = none) (k : Nat) : a.add k = ⟨a.block, a.off + k, none⟩ := by
  obtain ⟨b, o, s⟩ := a
  have h : s = none := h
  subst h
  unfold Addr.add
  by_cases hk : k = 0
  · rw [if_pos hk, hk]; rfl
  · rw [if_neg hk]
def strAt (W : World) (b o : Nat) : List UInt8 := match W.cell? ⟨b, o, none⟩ with | some (.string s) => s.data.toList | _ => []
def intAt (W : World) (b o : Nat) : Int := match W.cell? ⟨b, o, none⟩ with | some (.int _ n) => n | _ => 0
theorem ba_eta (s : ByteArray) : (⟨s.data.toList.toArray⟩ : ByteArray) = s := by cases s; simp
theorem hdr_cell {H : Type} {enc : TypeId × Value → H} {W : World} {sp : Nat → Bool} {held : Bool} {n k : Nat} {a : Addr} {e : DataW H × List MemPlace} (hs : a.spot = none)
    (h : (W.cells? 0 (a.add k) 2).bind (DataW.trod enc Tryz.prog W 0 sp held n 44) = some e) :
    ∃ s0 s1 : ByteArray, W.cell? ⟨a.block, a.off + k, none⟩ = some (.string s0) ∧ W.cell? ⟨a.block, a.off + (k + 1), none⟩ = some (.string s1) ∧ e.1 = .agg [.lit (.string s0.data.toList), .lit (.string s1.data.toList)] := by
  obtain ⟨l, hl, ht⟩ := Option.bind_eq_some_iff.1 h
  obtain ⟨xs, m, _, ex, hlen, hxs, hf⟩ := DataW.trod_struct Tryz.underlying44 ht
  have hc9 : Tryz.prog.cellsOf 9 = 1 := by kernel_rfl
  have hc44 : Tryz.prog.cellsOf 44 = 2 := by kernel_rfl
  rw [hc44] at hlen
  have hx2 : xs.length = 2 := hxs
  match l, hlen, xs, hx2 with
  | [c0, c1], _, [x0, x1], _ =>
    have h0 : DataW.trod enc Tryz.prog W 0 sp held m 9 (([c0, c1].drop 0).take (Tryz.prog.cellsOf 9)) = some x0 := hf 0 _ rfl
    have h1 : DataW.trod enc Tryz.prog W 0 sp held m 9 (([c0, c1].drop 1).take (Tryz.prog.cellsOf 9)) = some x1 := hf 1 _ rfl
    rw [hc9] at h0 h1
    obtain ⟨s0, e0, f0, _⟩ := DataW.trod_string Tryz.underlying9 (show DataW.trod enc Tryz.prog W 0 sp held m 9 [c0] = some x0 from h0)
    obtain ⟨s1, e1, f1, _⟩ := DataW.trod_string Tryz.underlying9 (show DataW.trod enc Tryz.prog W 0 sp held m 9 [c1] = some x1 from h1)
    cases e0; cases e1
    unfold World.cells? at hl
    rw [if_pos (Nat.zero_le _)] at hl
    have hr : List.range 2 = [0, 1] := rfl
    rw [hr] at hl
    simp only [List.mapM_cons, List.mapM_nil, Option.bind_eq_bind, Option.bind_eq_some_iff, Option.pure_def, Option.some.injEq, List.cons.injEq] at hl
    obtain ⟨y0, hy0, r, ⟨y1, hy1, r2, hr2, hr⟩, hy⟩ := hl
    subst hr2
    obtain ⟨rfl, hy⟩ := hy
    subst hr
    simp only [List.cons.injEq, and_true] at hy
    subst hy
    rw [add_eq hs] at hy0 hy1
    refine ⟨s0, s1, by simpa [Addr.add] using hy0, by simpa [Addr.add, Nat.add_assoc] using hy1, ?_⟩
    rw [ex, f0, f1]
    rfl
theorem byte_cell {H : Type} {enc : TypeId × Value → H} {W : World} {sp : Nat → Bool} {held : Bool} {n k t : Nat} {kk : IntKind} {a : Addr} {e : DataW H × List MemPlace} (hs : a.spot = none) (hu : Tryz.prog.underlying t = some (.int kk))
    (h : (W.cells? 0 (a.add k) 1).bind (DataW.trod enc Tryz.prog W 0 sp held n t) = some e) : ∃ z : Int, W.cell? ⟨a.block, a.off + k, none⟩ = some (.int kk z) ∧ kk.min ≤ z ∧ z ≤ kk.max := by
  obtain ⟨l, hl, ht⟩ := Option.bind_eq_some_iff.1 h
  obtain ⟨z, rfl, _, hz⟩ := DataW.trod_int hu ht
  unfold World.cells? at hl
  rw [if_pos (Nat.zero_le _)] at hl
  have hr : List.range 1 = [0] := rfl
  rw [hr] at hl
  simp only [List.mapM_cons, List.mapM_nil, Option.bind_eq_bind, Option.bind_eq_some_iff, Option.pure_def, Option.some.injEq, List.cons.injEq] at hl
  obtain ⟨y0, hy0, r, hr1, hy⟩ := hl
  subst hr1
  obtain ⟨rfl, _⟩ := hy
  rw [add_eq hs] at hy0
  refine ⟨z, by simpa [Addr.add] using hy0, ?_⟩
  unfold Lit.wf at hz
  simpa using hz
theorem bulk_mem {H : Type} : ∀ {l : List (DataW H)} {d : DataW H}, d ∈ l → Rows.uptoBulk d ≤ Rows.uptoBulkAll l
  | x :: l, d, h => by
    unfold Rows.uptoBulkAll
    rcases List.mem_cons.1 h with rfl | h
    · omega
    · have := bulk_mem h; omega
theorem bulk_pos {H : Type} (d : DataW H) : 1 ≤ Rows.uptoBulk d := by
  cases d with
  | lit l => cases l <;> simp [Rows.uptoBulk]
  | _ => simp [Rows.uptoBulk]
theorem bulk_len {H : Type} : ∀ (l : List (DataW H)), l.length ≤ Rows.uptoBulkAll l
  | [] => by simp
  | x :: l => by
    have := bulk_len l
    have := bulk_pos x
    unfold Rows.uptoBulkAll
    simp only [List.length_cons]; omega
theorem slice_has {W : World} {b0 t e : TypeId} {a : Addr} {len cap : Nat} (hu : Tryz.prog.underlying t = some (.slice e)) (h : Cell.okWide Tryz.prog W .any b0 t (.slice (some a) len cap)) : a.spot = none ∧ ∃ c tt fr, W.heap[a.block]? = some (.cells c tt fr) := by
  unfold Cell.okWide at h
  rw [hu] at h
  simp only [Cell.ok, hu] at h
  obtain ⟨_, _, _, hs, row, cells, hsh, _⟩ := h
  refine ⟨hs, ?_⟩
  unfold World.shape? at hsh
  split at hsh
  · rename_i c tt fr hh; exact ⟨c, tt, fr, hh⟩
  · cases hsh
theorem cell_in {W : World} {b o : Nat} {c : Array Value} {tt : TypeId} {fr : Nat × Nat} {v : Value} (h : W.heap[b]? = some (.cells c tt fr)) (hc : W.cell? ⟨b, o, none⟩ = some v) : c[o]? = some v := by
  unfold World.cell? at hc
  simp only at hc
  rw [h] at hc
  simpa using hc
theorem hdrs_read {H : Type} {enc : TypeId × Value → H} {W : World} {sp : Nat → Bool} {held : Bool} {n b0 : Nat} {hv : Value} {x : DataW H × List MemPlace} (h : DataW.trod enc Tryz.prog W 0 sp held n 22 [hv] = some x) (hok : Cell.okWide Tryz.prog W .any b0 22 hv) :
    ∃ rows, Reads W [.str, .str] rows hv ∧ rows.length ≤ Rows.uptoBulk x.1 ∧ ∀ r ∈ rows, r.length = 2 ∧ (∃ a b, r = [.str a, .str b]) ∧ (hN r).length ≤ Rows.uptoBulk x.1 ∧ (hV r).length ≤ Rows.uptoBulk x.1 := by
  have hc44 : Tryz.prog.cellsOf 44 = 2 := by kernel_rfl
  rcases DataW.trod_slice Tryz.underlying22 h with ⟨hx, _⟩ | ⟨a, len, cap, elems, rest, m, _, hx, ex, _, _, _, hl, hel, _, _⟩
  · cases hx
    exact ⟨[], .nil rfl, Nat.zero_le _, fun r hr => by cases hr⟩
  · cases hx
    obtain ⟨hs, c, tt, fr, hh⟩ := slice_has Tryz.underlying22 hok
    obtain ⟨b, o, sp'⟩ := a
    have hs : sp' = none := hs
    subst hs
    have key : ∀ i, i < len → ∃ s0 s1 : ByteArray, W.cell? ⟨b, o + i * 2, none⟩ = some (.string s0) ∧ W.cell? ⟨b, o + (i * 2 + 1), none⟩ = some (.string s1) ∧ ∃ e ∈ elems, e.1 = .agg [.lit (.string s0.data.toList), .lit (.string s1.data.toList)] := by
      intro i hi
      have h1 := hel i hi
      rw [hc44, List.getElem?_eq_getElem (by omega)] at h1
      obtain ⟨s0, s1, g0, g1, g2⟩ := hdr_cell (a := ⟨b, o, none⟩) rfl h1
      exact ⟨s0, s1, g0, g1, _, List.getElem_mem (by omega), g2⟩
    have hbulk : Rows.uptoBulk x.1 = Rows.uptoBulkAll (elems.map (·.1)) + Rows.uptoBulkAll (rest.map (·.1)) + 1 := by rw [ex]; rfl
    refine ⟨(List.range len).map fun i => [.str (strAt W b (o + i * 2)), .str (strAt W b (o + (i * 2 + 1)))], ?_, ?_, fun r hr => ?_⟩
    · have hR := Reads.cells (w := W) (ks := [.str, .str]) (rows := (List.range len).map fun i => [AV.str (strAt W b (o + i * 2)), .str (strAt W b (o + (i * 2 + 1)))]) ⟨b, o, 2, cap, false⟩ cap
        ⟨rfl, c, tt, fr, hh, fun i j kd hi hj => ?_, fun h => by cases h⟩
      · simpa using hR
      · have hi : i < len := by simpa using hi
        obtain ⟨s0, s1, g0, g1, _⟩ := key i hi
        have hrow : ((List.range len).map fun i => [AV.str (strAt W b (o + i * 2)), .str (strAt W b (o + (i * 2 + 1)))]).getD i [] = [AV.str (strAt W b (o + i * 2)), .str (strAt W b (o + (i * 2 + 1)))] := by
          simp [List.getD_eq_getElem?_getD, hi]
        have hj' : (j = 0 ∨ j = 1) ∧ kd = .str := by
          match j with
          | 0 => simp at hj; exact ⟨.inl rfl, hj.symm⟩
          | 1 => simp at hj; exact ⟨.inr rfl, hj.symm⟩
          | j + 2 => simp at hj
        obtain ⟨hj0, rfl⟩ := hj'
        unfold cellAt
        rw [hrow]
        rcases hj0 with rfl | rfl
        · show c[o + (i * 2 + 0)]? = some (.string ⟨(strAt W b (o + i * 2)).toArray⟩)
          rw [Nat.add_zero, cell_in hh g0]
          have e : strAt W b (o + i * 2) = s0.data.toList := by unfold strAt; rw [g0]
          rw [e, ba_eta]
        · show c[o + (i * 2 + 1)]? = some (.string ⟨(strAt W b (o + (i * 2 + 1))).toArray⟩)
          rw [cell_in hh g1]
          have e : strAt W b (o + (i * 2 + 1)) = s1.data.toList := by unfold strAt; rw [g1]
          rw [e, ba_eta]
    · have := bulk_len (elems.map (·.1))
      simp only [List.length_map, List.length_range] at this ⊢
      omega
    · obtain ⟨i, hi, rfl⟩ := List.mem_map.1 hr
      obtain ⟨s0, s1, g0, g1, e, he, ee⟩ := key i (List.mem_range.1 hi)
      have hb := bulk_mem (List.mem_map_of_mem (f := (·.1)) he)
      rw [ee] at hb
      simp only [Rows.uptoBulk, Rows.uptoBulkAll] at hb
      refine ⟨rfl, ⟨_, _, rfl⟩, ?_, ?_⟩
      · show (strAt W b (o + i * 2)).length ≤ _
        unfold strAt; rw [g0]; simp only; omega
      · show (strAt W b (o + (i * 2 + 1))).length ≤ _
        unfold strAt; rw [g1]; simp only; omega
theorem body_read {H : Type} {enc : TypeId × Value → H} {W : World} {sp : Nat → Bool} {held : Bool} {n b0 : Nat} {hv : Value} {x : DataW H × List MemPlace} (h : DataW.trod enc Tryz.prog W 0 sp held n 23 [hv] = some x) (hok : Cell.okWide Tryz.prog W .any b0 23 hv) :
    ∃ l : List UInt8, Reads W [.int .u8] (byteRows l) hv ∧ l.length ≤ Rows.uptoBulk x.1 := by
  have hc5 : Tryz.prog.cellsOf 5 = 1 := by kernel_rfl
  rcases DataW.trod_slice Tryz.underlying23 h with ⟨hx, _⟩ | ⟨a, len, cap, elems, rest, m, _, hx, ex, _, _, _, hl, hel, _, _⟩
  · cases hx
    exact ⟨[], .nil rfl, Nat.zero_le _⟩
  · cases hx
    obtain ⟨hs, c, tt, fr, hh⟩ := slice_has Tryz.underlying23 hok
    obtain ⟨b, o, sp'⟩ := a
    have hs : sp' = none := hs
    subst hs
    have key : ∀ i, i < len → ∃ z : Int, W.cell? ⟨b, o + i, none⟩ = some (.int .u8 z) ∧ 0 ≤ z ∧ z ≤ 255 := by
      intro i hi
      have h1 := hel i hi
      rw [hc5, List.getElem?_eq_getElem (by omega), Nat.mul_one] at h1
      obtain ⟨z, g0, g1, g2⟩ := byte_cell (a := ⟨b, o, none⟩) rfl Tryz.underlying5 h1
      exact ⟨z, g0, g1, g2⟩
    have hbulk : Rows.uptoBulk x.1 = Rows.uptoBulkAll (elems.map (·.1)) + Rows.uptoBulkAll (rest.map (·.1)) + 1 := by rw [ex]; rfl
    refine ⟨(List.range len).map fun i => UInt8.ofNat (intAt W b (o + i)).toNat, ?_, ?_⟩
    · have hR := Reads.cells (w := W) (ks := [.int .u8]) (rows := byteRows ((List.range len).map fun i => UInt8.ofNat (intAt W b (o + i)).toNat)) ⟨b, o, 1, cap, false⟩ cap
        ⟨rfl, c, tt, fr, hh, fun i j kd hi hj => ?_, fun h => by cases h⟩
      · rw [byteRows_length] at hR
        simpa using hR
      · have hi : i < len := by rw [byteRows_length] at hi; simpa using hi
        obtain ⟨z, g0, g1, g2⟩ := key i hi
        have hj' : j = 0 ∧ kd = .int .u8 := by
          match j with
          | 0 => simp at hj; exact ⟨rfl, hj.symm⟩
          | j + 1 => simp at hj
        obtain ⟨rfl, rfl⟩ := hj'
        have hrow : (byteRows ((List.range len).map fun i => UInt8.ofNat (intAt W b (o + i)).toNat)).getD i [] = byteRow (UInt8.ofNat (intAt W b (o + i)).toNat) := by
          simp [byteRows, List.getD_eq_getElem?_getD, hi]
        unfold cellAt
        rw [hrow]
        show c[o + (i * 1 + 0)]? = some (.int .u8 ((UInt8.ofNat (intAt W b (o + i)).toNat).toNat : Int))
        rw [show o + (i * 1 + 0) = o + i by omega, cell_in hh g0]
        unfold intAt
        rw [g0]
        simp only
        congr 2
        rw [UInt8.toNat_ofNat']
        omega
    · have := bulk_len (elems.map (·.1))
      simp only [List.length_map, List.length_range] at this ⊢
      omega
structure MsgIn (W : World) (N : Nat) (start : List UInt8) (hrows : List (List AV)) (body : List UInt8) (hv bv : Value) : Prop where
  h : Reads W [.str, .str] hrows hv
  b : Reads W [.int .u8] (byteRows body) bv
  st : start.length ≤ N
  hl : hrows.length ≤ N
  bl : body.length ≤ N
  rows : ∀ r ∈ hrows, r.length = 2 ∧ (∃ a b, r = [.str a, .str b]) ∧ (hN r).length ≤ N ∧ (hV r).length ≤ N
  cap : ∀ a n c, hv = .slice a n c → n ≤ c
theorem msg_read {H : Type} {enc : TypeId × Value → H} {W : World} {sp : Nat → Bool} {held : Bool} {b0 N : Nat} {v : Value} {d : DataW H} {ps : List MemPlace} (h : DataW.Trod enc Tryz.prog W 0 sp held 25 v d ps) (hok : Value.okWide Tryz.prog W .any b0 25 v) (hN : Rows.uptoBulk d ≤ N) :
    ∃ start hrows body hv bv, v = .agg #[.string ⟨start.toArray⟩, hv, bv] ∧ MsgIn W N start hrows body hv bv := by
  unfold Value.okWide at hok
  rw [Tryz.underlying25] at hok
  obtain ⟨cs, rfl, hsz, ts, hts, _, hall⟩ := hok
  have hc : Tryz.prog.cellTypes Tryz.prog.depth 25 = some [9, 22, 23] := by kernel_rfl
  rw [hc] at hts
  cases hts
  have h3 : cs.size = 3 := hsz.trans (by kernel_rfl)
  obtain ⟨c0, c1, c2, rfl⟩ : ∃ c0 c1 c2, cs = #[c0, c1, c2] := by
    refine ⟨cs[0], cs[1], cs[2], ?_⟩
    apply Array.ext
    · simp [h3]
    · intro i hi1 hi2
      simp at hi2
      have : i = 0 ∨ i = 1 ∨ i = 2 := by omega
      rcases this with rfl | rfl | rfl <;> rfl
  have ok1 : Cell.okWide Tryz.prog W .any b0 22 c1 := by
    obtain ⟨u, hu, hok⟩ := hall 1 c1 rfl
    have : u = 22 := by simpa using hu.symm
    rw [this] at hok; exact hok
  have ok2 : Cell.okWide Tryz.prog W .any b0 23 c2 := by
    obtain ⟨u, hu, hok⟩ := hall 2 c2 rfl
    have : u = 23 := by simpa using hu.symm
    rw [this] at hok; exact hok
  obtain ⟨fuel, hf⟩ := h
  obtain ⟨xs, m, _, ex, hlen, hxs, hfs⟩ := DataW.trod_struct Tryz.underlying25 hf
  have hx3 : xs.length = 3 := hxs
  match xs, hx3 with
  | [x0, x1, x2], _ =>
    have hc9 : Tryz.prog.cellsOf 9 = 1 := by kernel_rfl
    have hc22 : Tryz.prog.cellsOf 22 = 1 := by kernel_rfl
    have hc23 : Tryz.prog.cellsOf 23 = 1 := by kernel_rfl
    have f0 : DataW.trod enc Tryz.prog W 0 sp held m 9 (((#[c0, c1, c2] : Array Value).toList.drop 0).take (Tryz.prog.cellsOf 9)) = some x0 := hfs 0 _ rfl
    have f1 : DataW.trod enc Tryz.prog W 0 sp held m 22 (((#[c0, c1, c2] : Array Value).toList.drop 1).take (Tryz.prog.cellsOf 22)) = some x1 := hfs 1 _ rfl
    have f2 : DataW.trod enc Tryz.prog W 0 sp held m 23 (((#[c0, c1, c2] : Array Value).toList.drop 2).take (Tryz.prog.cellsOf 23)) = some x2 := hfs 2 _ rfl
    rw [hc9] at f0
    rw [hc22] at f1
    rw [hc23] at f2
    obtain ⟨s, e0, g0, _⟩ := DataW.trod_string Tryz.underlying9 (show DataW.trod enc Tryz.prog W 0 sp held m 9 [c0] = some x0 from f0)
    cases e0
    obtain ⟨hrows, r1, r2, r3⟩ := hdrs_read (show DataW.trod enc Tryz.prog W 0 sp held m 22 [c1] = some x1 from f1) ok1
    obtain ⟨body, b1, b2⟩ := body_read (show DataW.trod enc Tryz.prog W 0 sp held m 23 [c2] = some x2 from f2) ok2
    have hd : d = .agg [x0.1, x1.1, x2.1] := (Prod.mk.inj ex).1
    rw [hd, g0] at hN
    simp only [Rows.uptoBulk, Rows.uptoBulkAll] at hN
    refine ⟨s.data.toList, hrows, body, c1, c2, by rw [ba_eta], r1, b1, by omega, by omega, by omega, fun r hr => ?_, fun a n c he => ?_⟩
    · obtain ⟨k1, k2, k3, k4⟩ := r3 r hr
      exact ⟨k1, k2, by omega, by omega⟩
    · subst he
      unfold Cell.okWide at ok1
      rw [Tryz.underlying22] at ok1
      simp only [Cell.ok, Tryz.underlying22] at ok1
      cases a with
      | none => cases n <;> cases c <;> simp at ok1 ⊢
      | some a => exact ok1.1
end Go.Proofs.YtpdgmgkkbbndfaaGreatDoor
set_option maxRecDepth 100000
set_option maxHeartbeats 6400000
set_option linter.unusedVariables false
set_option linter.unusedSimpArgs false
namespace Go.Proofs.YtpdgmgkkbbndfaaGreatDoor
open Go Go.Proofs Go.Proofs.YtpdgmgkkbbndfaaGreatDoor.SX
theorem c8_FETTTTT (start : List UInt8) (hrows : List (List AV)) (brows : List (List AV)) (host : Int) (port : Int) :
    Path (runCallB Tryz.prog P12 100 8 [AV.agg [AV.str start, AV.slq 0 (List.length hrows), AV.slq 1 (List.length brows)], AV.int IntKind.u32 host, AV.int IntKind.u16 port] (st0 [Blk.cells false [Kd.str, Kd.str] hrows, Blk.cells false [Kd.int IntKind.u8] brows] ([.as_ false, PI.ev 1, .as_ true, .as_ true, .as_ true, .as_ true, .as_ true]))) 2 [] (SL.mk [] [] 2) (Out.ret (AV.bool (List.map rowByte (sub (spRwB start host host port port [[AV.int IntKind.u16 port, AV.int IntKind.u16 port]] (sub hrows 0 (List.length hrows)) (sub brows 0 (List.length brows))) 0 (List.length (spRwB start host host port port [[AV.int IntKind.u16 port, AV.int IntKind.u16 port]] (sub hrows 0 (List.length hrows)) (sub brows 0 (List.length brows))))) == List.map rowByte (sub brows 0 (List.length brows)))))
      (((((((((((((((((((((((((((((((((((((((((((((True ∧ (true = true)) ∧ (true = true)) ∧ (decide ((↑(List.length hrows) : Int) > (100 : Int)) = false)) ∧ (true = true)) ∧ (true = true)) ∧ (true = true)) ∧ (true = true)) ∧ (true = true)) ∧ (true = true)) ∧ (true = true)) ∧ (true = true)) ∧ (true = true)) ∧ (true = true)) ∧ (true = true)) ∧ (true = true)) ∧ (true = true)) ∧ (true = true)) ∧ (true = true)) ∧ (true = true)) ∧ (true = true)) ∧ ((decide (0 + List.length hrows ≤ List.length hrows) && (decide (0 + List.length brows ≤ List.length brows) && (true && decide (List.length start ≤ 4294967200 ∧ List.all (sub hrows 0 (List.length hrows)) short = true ∧ List.length (sub hrows 0 (List.length hrows)) ≤ 4398046511104 ∧ List.length (sub brows 0 (List.length brows)) ≤ 140737488355328 ∧ 0 ≤ 4611686018427387904 ∧ List.all (sub hrows 0 (List.length hrows)) twoB = true)))) = true)) ∧ (true = true)) ∧ (true = true)) ∧ ((start == start) = true)) ∧ (true = true)) ∧ (true = true)) ∧ ((decide (0 + List.length (spRwH start host host port port [] (sub hrows 0 (List.length hrows)) (sub brows 0 (List.length brows))) ≤ List.length (spRwH start host host port port [] (sub hrows 0 (List.length hrows)) (sub brows 0 (List.length brows)))) && (decide (0 + List.length hrows ≤ List.length hrows) && decide (List.length (sub (spRwH start host host port port [] (sub hrows 0 (List.length hrows)) (sub brows 0 (List.length brows))) 0 (List.length (spRwH start host host port port [] (sub hrows 0 (List.length hrows)) (sub brows 0 (List.length brows))))) ≤ 4611686018427387904))) = true)) ∧ (spEqH (sub (spRwH start host host port port [] (sub hrows 0 (List.length hrows)) (sub brows 0 (List.length brows))) 0 (List.length (spRwH start host host port port [] (sub hrows 0 (List.length hrows)) (sub brows 0 (List.length brows))))) (sub hrows 0 (List.length hrows)) = true)) ∧ (true = true)) ∧ (true = true)) ∧ ((decide (0 + List.length (spRwB start host host port port [] (sub hrows 0 (List.length hrows)) (sub brows 0 (List.length brows))) ≤ List.length (spRwB start host host port port [] (sub hrows 0 (List.length hrows)) (sub brows 0 (List.length brows)))) && decide (0 + List.length brows ≤ List.length brows)) = true)) ∧ ((List.map rowByte (sub (spRwB start host host port port [] (sub hrows 0 (List.length hrows)) (sub brows 0 (List.length brows))) 0 (List.length (spRwB start host host port port [] (sub hrows 0 (List.length hrows)) (sub brows 0 (List.length brows))))) == List.map rowByte (sub brows 0 (List.length brows))) = true)) ∧ (true = true)) ∧ (true = true)) ∧ ((decide (0 + List.length hrows ≤ List.length hrows) && (decide (0 + List.length brows ≤ List.length brows) && (true && decide (List.length start ≤ 4294967200 ∧ List.all (sub hrows 0 (List.length hrows)) short = true ∧ List.length (sub hrows 0 (List.length hrows)) ≤ 4398046511104 ∧ List.length (sub brows 0 (List.length brows)) ≤ 140737488355328 ∧ 1 ≤ 4611686018427387904 ∧ List.all (sub hrows 0 (List.length hrows)) twoB = true)))) = true)) ∧ (true = true)) ∧ (true = true)) ∧ ((start == start) = true)) ∧ (true = true)) ∧ (true = true)) ∧ ((decide (0 + List.length (spRwH start host host port port [[AV.int IntKind.u16 port, AV.int IntKind.u16 port]] (sub hrows 0 (List.length hrows)) (sub brows 0 (List.length brows))) ≤ List.length (spRwH start host host port port [[AV.int IntKind.u16 port, AV.int IntKind.u16 port]] (sub hrows 0 (List.length hrows)) (sub brows 0 (List.length brows)))) && (decide (0 + List.length hrows ≤ List.length hrows) && decide (List.length (sub (spRwH start host host port port [[AV.int IntKind.u16 port, AV.int IntKind.u16 port]] (sub hrows 0 (List.length hrows)) (sub brows 0 (List.length brows))) 0 (List.length (spRwH start host host port port [[AV.int IntKind.u16 port, AV.int IntKind.u16 port]] (sub hrows 0 (List.length hrows)) (sub brows 0 (List.length brows))))) ≤ 4611686018427387904))) = true)) ∧ (spEqH (sub (spRwH start host host port port [[AV.int IntKind.u16 port, AV.int IntKind.u16 port]] (sub hrows 0 (List.length hrows)) (sub brows 0 (List.length brows))) 0 (List.length (spRwH start host host port port [[AV.int IntKind.u16 port, AV.int IntKind.u16 port]] (sub hrows 0 (List.length hrows)) (sub brows 0 (List.length brows))))) (sub hrows 0 (List.length hrows)) = true)) ∧ (true = true)) ∧ (true = true)) ∧ ((decide (0 + List.length (spRwB start host host port port [[AV.int IntKind.u16 port, AV.int IntKind.u16 port]] (sub hrows 0 (List.length hrows)) (sub brows 0 (List.length brows))) ≤ List.length (spRwB start host host port port [[AV.int IntKind.u16 port, AV.int IntKind.u16 port]] (sub hrows 0 (List.length hrows)) (sub brows 0 (List.length brows)))) && decide (0 + List.length brows ≤ List.length brows)) = true)) := by unfold Path; kernel_rfl
theorem c8s_TETTTTT (start : List UInt8) (hrows : List (List AV)) (brows : List (List AV)) (host : Int) (port : Int) (c : Nat) :
    Path (runCallB Tryz.prog P12 100 8 [AV.agg [AV.str start, AV.sl (Loc.mk 0 0 0) (List.length hrows) (Cap.known c), AV.slq 1 (List.length brows)], AV.int IntKind.u32 host, AV.int IntKind.u16 port] (st0 [Blk.cells false [Kd.str, Kd.str] hrows, Blk.cells false [Kd.int IntKind.u8] brows] ([.as_ true, PI.ev 1, .as_ true, .as_ true, .as_ true, .as_ true, .as_ true]))) 2 [] (SL.mk [] [] 2) (Out.ret (AV.bool (List.map rowByte (sub (spRwB start host host port port [[AV.int IntKind.u16 port, AV.int IntKind.u16 port]] (sub hrows (0) 100) (sub brows 0 (List.length brows))) 0 (List.length (spRwB start host host port port [[AV.int IntKind.u16 port, AV.int IntKind.u16 port]] (sub hrows (0) 100) (sub brows 0 (List.length brows))))) == List.map rowByte (sub brows 0 (List.length brows)))))
      (((((((((((((((((((((((((((((((((((((((((((((((((True ∧ (true = true)) ∧ (true = true)) ∧ (decide ((↑(List.length hrows) : Int) > (100 : Int)) = true)) ∧ (true = true)) ∧ (decide ((0 : Int) ≤ (0 : Int) ∧ (0 : Int) ≤ (100 : Int) ∧ (100 : Int) ≤ (↑c : Int) ∧ (↑c : Int) ≤ (↑c : Int)) = true)) ∧ (true = true)) ∧ (true = true)) ∧ (true = true)) ∧ (true = true)) ∧ (true = true)) ∧ (true = true)) ∧ (true = true)) ∧ (true = true)) ∧ (true = true)) ∧ (true = true)) ∧ (true = true)) ∧ (true = true)) ∧ (true = true)) ∧ (true = true)) ∧ (true = true)) ∧ (true = true)) ∧ (true = true)) ∧ (true = true)) ∧ (true = true)) ∧ ((decide (100 ≤ List.length hrows) && (decide (0 + List.length brows ≤ List.length brows) && (true && decide (List.length start ≤ 4294967200 ∧ List.all (sub hrows (0) 100) short = true ∧ List.length (sub hrows (0) 100) ≤ 4398046511104 ∧ List.length (sub brows 0 (List.length brows)) ≤ 140737488355328 ∧ 0 ≤ 4611686018427387904 ∧ List.all (sub hrows (0) 100) twoB = true)))) = true)) ∧ (true = true)) ∧ (true = true)) ∧ ((start == start) = true)) ∧ (true = true)) ∧ (true = true)) ∧ ((decide (0 + List.length (spRwH start host host port port [] (sub hrows (0) 100) (sub brows 0 (List.length brows))) ≤ List.length (spRwH start host host port port [] (sub hrows (0) 100) (sub brows 0 (List.length brows)))) && (decide (100 ≤ List.length hrows) && decide (List.length (sub (spRwH start host host port port [] (sub hrows (0) 100) (sub brows 0 (List.length brows))) 0 (List.length (spRwH start host host port port [] (sub hrows (0) 100) (sub brows 0 (List.length brows))))) ≤ 4611686018427387904))) = true)) ∧ (spEqH (sub (spRwH start host host port port [] (sub hrows (0) 100) (sub brows 0 (List.length brows))) 0 (List.length (spRwH start host host port port [] (sub hrows (0) 100) (sub brows 0 (List.length brows))))) (sub hrows (0) 100) = true)) ∧ (true = true)) ∧ (true = true)) ∧ ((decide (0 + List.length (spRwB start host host port port [] (sub hrows (0) 100) (sub brows 0 (List.length brows))) ≤ List.length (spRwB start host host port port [] (sub hrows (0) 100) (sub brows 0 (List.length brows)))) && decide (0 + List.length brows ≤ List.length brows)) = true)) ∧ ((List.map rowByte (sub (spRwB start host host port port [] (sub hrows (0) 100) (sub brows 0 (List.length brows))) 0 (List.length (spRwB start host host port port [] (sub hrows (0) 100) (sub brows 0 (List.length brows))))) == List.map rowByte (sub brows 0 (List.length brows))) = true)) ∧ (true = true)) ∧ (true = true)) ∧ ((decide (100 ≤ List.length hrows) && (decide (0 + List.length brows ≤ List.length brows) && (true && decide (List.length start ≤ 4294967200 ∧ List.all (sub hrows (0) 100) short = true ∧ List.length (sub hrows (0) 100) ≤ 4398046511104 ∧ List.length (sub brows 0 (List.length brows)) ≤ 140737488355328 ∧ 1 ≤ 4611686018427387904 ∧ List.all (sub hrows (0) 100) twoB = true)))) = true)) ∧ (true = true)) ∧ (true = true)) ∧ ((start == start) = true)) ∧ (true = true)) ∧ (true = true)) ∧ ((decide (0 + List.length (spRwH start host host port port [[AV.int IntKind.u16 port, AV.int IntKind.u16 port]] (sub hrows (0) 100) (sub brows 0 (List.length brows))) ≤ List.length (spRwH start host host port port [[AV.int IntKind.u16 port, AV.int IntKind.u16 port]] (sub hrows (0) 100) (sub brows 0 (List.length brows)))) && (decide (100 ≤ List.length hrows) && decide (List.length (sub (spRwH start host host port port [[AV.int IntKind.u16 port, AV.int IntKind.u16 port]] (sub hrows (0) 100) (sub brows 0 (List.length brows))) 0 (List.length (spRwH start host host port port [[AV.int IntKind.u16 port, AV.int IntKind.u16 port]] (sub hrows (0) 100) (sub brows 0 (List.length brows))))) ≤ 4611686018427387904))) = true)) ∧ (spEqH (sub (spRwH start host host port port [[AV.int IntKind.u16 port, AV.int IntKind.u16 port]] (sub hrows (0) 100) (sub brows 0 (List.length brows))) 0 (List.length (spRwH start host host port port [[AV.int IntKind.u16 port, AV.int IntKind.u16 port]] (sub hrows (0) 100) (sub brows 0 (List.length brows))))) (sub hrows (0) 100) = true)) ∧ (true = true)) ∧ (true = true)) ∧ ((decide (0 + List.length (spRwB start host host port port [[AV.int IntKind.u16 port, AV.int IntKind.u16 port]] (sub hrows (0) 100) (sub brows 0 (List.length brows))) ≤ List.length (spRwB start host host port port [[AV.int IntKind.u16 port, AV.int IntKind.u16 port]] (sub hrows (0) 100) (sub brows 0 (List.length brows)))) && decide (0 + List.length brows ≤ List.length brows)) = true)) := by unfold Path; kernel_rfl
theorem sub_whole {α : Type} (l : List α) : sub l 0 (List.length l) = l := sub_all l rfl
theorem msg_ins {w : World} {r1 r2 : List (List AV)} {v1 v2 : Value} (gw : GW w) (h1 : Reads w [.str, .str] r1 v1) (h2 : Reads w [.int .u8] r2 v2) :
    ∃ ρ0 : Nat → BI, HSim ρ0 (addBlks .e 0 [Blk.cells false [Kd.str, Kd.str] r1, Blk.cells false [Kd.int IntKind.u8] r2]) ([Blk.cells false [Kd.str, Kd.str] r1, Blk.cells false [Kd.int IntKind.u8] r2] : List Blk).length w ∧ conc ρ0 (.slq 0 r1.length) = v1 ∧ conc ρ0 (.slq 1 r2.length) = v2 := by
  obtain ⟨b1, hb1⟩ := h1.bi gw rfl
  obtain ⟨b2, hb2⟩ := h2.bi gw rfl
  refine ⟨fun i => if i = 0 then b1 else b2, HSim.ins gw (fun i blk hi => ?_), (hb1 _ 0 rfl).1, (hb2 _ 1 rfl).1⟩
  match i with
  | 0 => simp at hi; subst hi; exact ⟨(hb1 _ 0 rfl).2, rfl, rfl⟩
  | 1 => simp at hi; subst hi; exact ⟨(hb2 _ 1 rfl).2, rfl, rfl⟩
  | i + 2 => simp at hi
theorem msg_ins2 {w : World} {r1 r2 : List (List AV)} {v1 v2 : Value} (gw : GW w) (h1 : Reads w [.str, .str] r1 v1) (hp : 0 < r1.length) (h2 : Reads w [.int .u8] r2 v2) :
    ∃ (ρ0 : Nat → BI) (c : Nat), HSim ρ0 (addBlks .e 0 [Blk.cells false [Kd.str, Kd.str] r1, Blk.cells false [Kd.int IntKind.u8] r2]) ([Blk.cells false [Kd.str, Kd.str] r1, Blk.cells false [Kd.int IntKind.u8] r2] : List Blk).length w ∧ conc ρ0 (.sl ⟨0, 0, 0⟩ r1.length (.known c)) = v1 ∧ conc ρ0 (.slq 1 r2.length) = v2 ∧ ∃ a, v1 = .slice a r1.length c := by
  cases h1 with
  | nil h => rw [h] at hp; exact absurd hp (by decide)
  | cells bi c h =>
    obtain ⟨b2, hb2⟩ := h2.bi gw rfl
    refine ⟨fun i => if i = 0 then bi else b2, c, HSim.ins gw (fun i blk hi => ?_), by simp [conc, addr, capOf], (hb2 _ 1 rfl).1, _, rfl⟩
    match i with
    | 0 => simp at hi; subst hi; exact ⟨Blk.sat_at (ρ := fun _ => bi) (b := 0) rfl rfl h, rfl, rfl⟩
    | 1 => simp at hi; subst hi; exact ⟨(hb2 _ 1 rfl).2, rfl, rfl⟩
    | i + 2 => simp at hi
theorem self_calls {w : World} {start : List UInt8} {hrows : List (List AV)} {body : List UInt8} {hv bv : Value} {host port : Int} (gw : GW w) (hm : MsgIn w 1048576 start hrows body hv bv) (hcap : ∀ a n c, hv = .slice a n c → n ≤ c) :
    Calls Tryz.prog 8 #[.agg #[.string ⟨start.toArray⟩, hv, bv], .int .u32 host, .int .u16 port] w (fun e w' => e = .returned (.bool true) ∧ RowKit.Below w.heap.size w w') := by
  have hst := hm.st; have hhl := hm.hl; have hb0 := hm.bl
  obtain ⟨brs, hbr⟩ : ∃ brs, brs = byteRows body := ⟨_, rfl⟩
  have hbl : brs.length ≤ 1048576 := by rw [hbr, byteRows_length]; exact hb0
  have hmb : Reads w [.int .u8] brs bv := by rw [hbr]; exact hm.b
  by_cases hn : hrows.length ≤ 100
  · obtain ⟨ρ0, hE, g1, g2⟩ := msg_ins gw hm.h hmb
    have hab : ∀ r ∈ hrows, ∃ a b, r = [AV.str a, .str b] := fun r hr => (hm.rows r hr).2.1
    have hsh : hrows.all short = true := List.all_eq_true.2 fun r hr => decide_eq_true (by have := hm.rows r hr; omega)
    have htw : hrows.all twoB = true := List.all_eq_true.2 fun r hr => by unfold twoB; rw [(hm.rows r hr).1]; rfl
    obtain ⟨e1, e2⟩ := self_rows (start := start) (body := body) (host := host) (port := port) (mrows := []) rfl hab
    obtain ⟨e3, e4⟩ := self_rows (start := start) (body := body) (host := host) (port := port) (mrows := [[AV.int IntKind.u16 port, AV.int IntKind.u16 port]]) (samePort_one port) hab
    rw [← hbr] at e1 e2 e3 e4
    have hp := c8_FETTTTT start hrows brs host port
    have hcall := calls_pureB P12_ok hp ⟨⟨⟨⟨⟨⟨⟨⟨⟨⟨⟨⟨⟨⟨⟨⟨⟨⟨⟨⟨⟨⟨⟨⟨⟨⟨⟨⟨⟨⟨⟨⟨⟨⟨⟨⟨⟨⟨⟨⟨⟨⟨⟨⟨⟨trivial, rfl⟩, rfl⟩, (by (first | rfl | exact decide_eq_true (by omega) | exact decide_eq_false (by omega) | (simp only [sub_whole, e1, e2, e3, e4, eqH_self, hsh, htw, Bool.and_eq_true, decide_eq_true_eq, beq_self_eq_true, and_true, true_and, eq_self] <;> omega)))⟩, rfl⟩, rfl⟩, rfl⟩, rfl⟩, rfl⟩, rfl⟩, rfl⟩, rfl⟩, rfl⟩, rfl⟩, rfl⟩, rfl⟩, rfl⟩, rfl⟩, rfl⟩, rfl⟩, rfl⟩, (by (first | rfl | exact decide_eq_true (by omega) | exact decide_eq_false (by omega) | (simp only [sub_whole, e1, e2, e3, e4, eqH_self, hsh, htw, Bool.and_eq_true, decide_eq_true_eq, beq_self_eq_true, and_true, true_and, eq_self] <;> omega)))⟩, rfl⟩, rfl⟩, (by (first | rfl | exact decide_eq_true (by omega) | exact decide_eq_false (by omega) | (simp only [sub_whole, e1, e2, e3, e4, eqH_self, hsh, htw, Bool.and_eq_true, decide_eq_true_eq, beq_self_eq_true, and_true, true_and, eq_self] <;> omega)))⟩, rfl⟩, rfl⟩, (by (first | rfl | exact decide_eq_true (by omega) | exact decide_eq_false (by omega) | (simp only [sub_whole, e1, e2, e3, e4, eqH_self, hsh, htw, Bool.and_eq_true, decide_eq_true_eq, beq_self_eq_true, and_true, true_and, eq_self] <;> omega)))⟩, (by (first | rfl | exact decide_eq_true (by omega) | exact decide_eq_false (by omega) | (simp only [sub_whole, e1, e2, e3, e4, eqH_self, hsh, htw, Bool.and_eq_true, decide_eq_true_eq, beq_self_eq_true, and_true, true_and, eq_self] <;> omega)))⟩, rfl⟩, rfl⟩, (by (first | rfl | exact decide_eq_true (by omega) | exact decide_eq_false (by omega) | (simp only [sub_whole, e1, e2, e3, e4, eqH_self, hsh, htw, Bool.and_eq_true, decide_eq_true_eq, beq_self_eq_true, and_true, true_and, eq_self] <;> omega)))⟩, (by (first | rfl | exact decide_eq_true (by omega) | exact decide_eq_false (by omega) | (simp only [sub_whole, e1, e2, e3, e4, eqH_self, hsh, htw, Bool.and_eq_true, decide_eq_true_eq, beq_self_eq_true, and_true, true_and, eq_self] <;> omega)))⟩, rfl⟩, rfl⟩, (by (first | rfl | exact decide_eq_true (by omega) | exact decide_eq_false (by omega) | (simp only [sub_whole, e1, e2, e3, e4, eqH_self, hsh, htw, Bool.and_eq_true, decide_eq_true_eq, beq_self_eq_true, and_true, true_and, eq_self] <;> omega)))⟩, rfl⟩, rfl⟩, (by (first | rfl | exact decide_eq_true (by omega) | exact decide_eq_false (by omega) | (simp only [sub_whole, e1, e2, e3, e4, eqH_self, hsh, htw, Bool.and_eq_true, decide_eq_true_eq, beq_self_eq_true, and_true, true_and, eq_self] <;> omega)))⟩, rfl⟩, rfl⟩, (by (first | rfl | exact decide_eq_true (by omega) | exact decide_eq_false (by omega) | (simp only [sub_whole, e1, e2, e3, e4, eqH_self, hsh, htw, Bool.and_eq_true, decide_eq_true_eq, beq_self_eq_true, and_true, true_and, eq_self] <;> omega)))⟩, (by (first | rfl | exact decide_eq_true (by omega) | exact decide_eq_false (by omega) | (simp only [sub_whole, e1, e2, e3, e4, eqH_self, hsh, htw, Bool.and_eq_true, decide_eq_true_eq, beq_self_eq_true, and_true, true_and, eq_self] <;> omega)))⟩, rfl⟩, rfl⟩, (by (first | rfl | exact decide_eq_true (by omega) | exact decide_eq_false (by omega) | (simp only [sub_whole, e1, e2, e3, e4, eqH_self, hsh, htw, Bool.and_eq_true, decide_eq_true_eq, beq_self_eq_true, and_true, true_and, eq_self] <;> omega)))⟩ hE rfl rfl rfl
    have ea : concL ρ0 [AV.agg [.str start, .slq 0 hrows.length, .slq 1 brs.length], .int .u32 host, .int .u16 port] = [.agg #[.string ⟨start.toArray⟩, hv, bv], .int .u32 host, .int .u16 port] := by
      show [Value.agg (concL ρ0 [AV.str start, .slq 0 hrows.length, .slq 1 brs.length]).toArray, _, _] = _
      simp only [concL]
      rw [g1, g2]
      rfl
    rw [ea] at hcall
    refine hcall.mono fun e w' hq => ?_
    obtain ⟨rfl, hb⟩ := hq
    refine ⟨?_, hb⟩
    simp only [sub_whole, e1, e2, e3, e4, beq_self_eq_true]
    rfl
  · obtain ⟨ρ0, c, hE, g1, g2, a, ha⟩ := msg_ins2 gw hm.h (by omega) hmb
    have hc := hcap _ _ _ ha
    have hab0 : ∀ r ∈ sub hrows 0 100, r ∈ hrows := fun r hr => List.mem_of_mem_drop (List.mem_of_mem_take hr)
    have hab : ∀ r ∈ sub hrows 0 100, ∃ a b, r = [AV.str a, .str b] := fun r hr => (hm.rows r (hab0 r hr)).2.1
    have hsh : (sub hrows 0 100).all short = true := List.all_eq_true.2 fun r hr => decide_eq_true (by have := hm.rows r (hab0 r hr); omega)
    have htw : (sub hrows 0 100).all twoB = true := List.all_eq_true.2 fun r hr => by unfold twoB; rw [(hm.rows r (hab0 r hr)).1]; rfl
    have h100 : (sub hrows 0 100).length = 100 := sub_length (by omega)
    obtain ⟨e1, e2⟩ := self_rows (start := start) (body := body) (host := host) (port := port) (mrows := []) rfl hab
    obtain ⟨e3, e4⟩ := self_rows (start := start) (body := body) (host := host) (port := port) (mrows := [[AV.int IntKind.u16 port, AV.int IntKind.u16 port]]) (samePort_one port) hab
    rw [← hbr] at e1 e2 e3 e4
    have hp := c8s_TETTTTT start hrows brs host port c
    have hcall := calls_pureB P12_ok hp ⟨⟨⟨⟨⟨⟨⟨⟨⟨⟨⟨⟨⟨⟨⟨⟨⟨⟨⟨⟨⟨⟨⟨⟨⟨⟨⟨⟨⟨⟨⟨⟨⟨⟨⟨⟨⟨⟨⟨⟨⟨⟨⟨⟨⟨⟨⟨⟨⟨trivial, rfl⟩, rfl⟩, (by (first | rfl | exact decide_eq_true (by omega) | exact decide_eq_false (by omega) | (simp only [sub_whole, e1, e2, e3, e4, eqH_self, hsh, htw, Bool.and_eq_true, decide_eq_true_eq, beq_self_eq_true, and_true, true_and, eq_self] <;> omega)))⟩, rfl⟩, (by (first | rfl | exact decide_eq_true (by omega) | exact decide_eq_false (by omega) | (simp only [sub_whole, e1, e2, e3, e4, eqH_self, hsh, htw, Bool.and_eq_true, decide_eq_true_eq, beq_self_eq_true, and_true, true_and, eq_self] <;> omega)))⟩, rfl⟩, rfl⟩, rfl⟩, rfl⟩, rfl⟩, rfl⟩, rfl⟩, rfl⟩, rfl⟩, rfl⟩, rfl⟩, rfl⟩, rfl⟩, rfl⟩, rfl⟩, rfl⟩, rfl⟩, rfl⟩, rfl⟩, (by (first | rfl | exact decide_eq_true (by omega) | exact decide_eq_false (by omega) | (simp only [sub_whole, e1, e2, e3, e4, eqH_self, hsh, htw, Bool.and_eq_true, decide_eq_true_eq, beq_self_eq_true, and_true, true_and, eq_self] <;> omega)))⟩, rfl⟩, rfl⟩, (by (first | rfl | exact decide_eq_true (by omega) | exact decide_eq_false (by omega) | (simp only [sub_whole, e1, e2, e3, e4, eqH_self, hsh, htw, Bool.and_eq_true, decide_eq_true_eq, beq_self_eq_true, and_true, true_and, eq_self] <;> omega)))⟩, rfl⟩, rfl⟩, (by (first | rfl | exact decide_eq_true (by omega) | exact decide_eq_false (by omega) | (simp only [sub_whole, e1, e2, e3, e4, eqH_self, hsh, htw, Bool.and_eq_true, decide_eq_true_eq, beq_self_eq_true, and_true, true_and, eq_self] <;> omega)))⟩, (by (first | rfl | exact decide_eq_true (by omega) | exact decide_eq_false (by omega) | (simp only [sub_whole, e1, e2, e3, e4, eqH_self, hsh, htw, Bool.and_eq_true, decide_eq_true_eq, beq_self_eq_true, and_true, true_and, eq_self] <;> omega)))⟩, rfl⟩, rfl⟩, (by (first | rfl | exact decide_eq_true (by omega) | exact decide_eq_false (by omega) | (simp only [sub_whole, e1, e2, e3, e4, eqH_self, hsh, htw, Bool.and_eq_true, decide_eq_true_eq, beq_self_eq_true, and_true, true_and, eq_self] <;> omega)))⟩, (by (first | rfl | exact decide_eq_true (by omega) | exact decide_eq_false (by omega) | (simp only [sub_whole, e1, e2, e3, e4, eqH_self, hsh, htw, Bool.and_eq_true, decide_eq_true_eq, beq_self_eq_true, and_true, true_and, eq_self] <;> omega)))⟩, rfl⟩, rfl⟩, (by (first | rfl | exact decide_eq_true (by omega) | exact decide_eq_false (by omega) | (simp only [sub_whole, e1, e2, e3, e4, eqH_self, hsh, htw, Bool.and_eq_true, decide_eq_true_eq, beq_self_eq_true, and_true, true_and, eq_self] <;> omega)))⟩, rfl⟩, rfl⟩, (by (first | rfl | exact decide_eq_true (by omega) | exact decide_eq_false (by omega) | (simp only [sub_whole, e1, e2, e3, e4, eqH_self, hsh, htw, Bool.and_eq_true, decide_eq_true_eq, beq_self_eq_true, and_true, true_and, eq_self] <;> omega)))⟩, rfl⟩, rfl⟩, (by (first | rfl | exact decide_eq_true (by omega) | exact decide_eq_false (by omega) | (simp only [sub_whole, e1, e2, e3, e4, eqH_self, hsh, htw, Bool.and_eq_true, decide_eq_true_eq, beq_self_eq_true, and_true, true_and, eq_self] <;> omega)))⟩, (by (first | rfl | exact decide_eq_true (by omega) | exact decide_eq_false (by omega) | (simp only [sub_whole, e1, e2, e3, e4, eqH_self, hsh, htw, Bool.and_eq_true, decide_eq_true_eq, beq_self_eq_true, and_true, true_and, eq_self] <;> omega)))⟩, rfl⟩, rfl⟩, (by (first | rfl | exact decide_eq_true (by omega) | exact decide_eq_false (by omega) | (simp only [sub_whole, e1, e2, e3, e4, eqH_self, hsh, htw, Bool.and_eq_true, decide_eq_true_eq, beq_self_eq_true, and_true, true_and, eq_self] <;> omega)))⟩ hE rfl rfl rfl
    have ea : concL ρ0 [AV.agg [.str start, .sl ⟨0, 0, 0⟩ hrows.length (.known c), .slq 1 brs.length], .int .u32 host, .int .u16 port] = [.agg #[.string ⟨start.toArray⟩, hv, bv], .int .u32 host, .int .u16 port] := by
      show [Value.agg (concL ρ0 [AV.str start, .sl ⟨0, 0, 0⟩ hrows.length (.known c), .slq 1 brs.length]).toArray, _, _] = _
      simp only [concL]
      rw [g1, g2]
      rfl
    rw [ea] at hcall
    refine hcall.mono fun e w' hq => ?_
    obtain ⟨rfl, hb⟩ := hq
    refine ⟨?_, hb⟩
    simp only [sub_whole, e1, e2, e3, e4, beq_self_eq_true]
    rfl
end Go.Proofs.YtpdgmgkkbbndfaaGreatDoor
set_option maxRecDepth 100000
set_option maxHeartbeats 6400000
set_option linter.unusedVariables false
set_option linter.unusedSimpArgs false
namespace Go.Proofs.YtpdgmgkkbbndfaaGreatDoor
open Go Go.Proofs Go.Proofs.YtpdgmgkkbbndfaaGreatDoor.SX Go.Proofs.YtpdgmgkkbbndfaaGreatDoor
open Go.ChangeShapes Go.WideShapes Go.ChangeAt Go.RowKit
theorem med_cell {H : Type} {enc : TypeId × Value → H} {W : World} {sp : Nat → Bool} {held : Bool} {n k : Nat} {a : Addr} {e : DataW H × List MemPlace} (hs : a.spot = none)
    (h : (W.cells? 0 (a.add k) 2).bind (DataW.trod enc Tryz.prog W 0 sp held n 63) = some e) :
    ∃ z0 z1 : Int, W.cell? ⟨a.block, a.off + k, none⟩ = some (.int .u16 z0) ∧ W.cell? ⟨a.block, a.off + (k + 1), none⟩ = some (.int .u16 z1) := by
  obtain ⟨l, hl, ht⟩ := Option.bind_eq_some_iff.1 h
  obtain ⟨xs, m, _, ex, hlen, hxs, hf⟩ := DataW.trod_struct Tryz.underlying63 ht
  have hc9 : Tryz.prog.cellsOf 27 = 1 := by kernel_rfl
  have hc44 : Tryz.prog.cellsOf 63 = 2 := by kernel_rfl
  rw [hc44] at hlen
  have hx2 : xs.length = 2 := hxs
  match l, hlen, xs, hx2 with
  | [c0, c1], _, [x0, x1], _ =>
    have h0 : DataW.trod enc Tryz.prog W 0 sp held m 27 (([c0, c1].drop 0).take (Tryz.prog.cellsOf 27)) = some x0 := hf 0 _ rfl
    have h1 : DataW.trod enc Tryz.prog W 0 sp held m 27 (([c0, c1].drop 1).take (Tryz.prog.cellsOf 27)) = some x1 := hf 1 _ rfl
    rw [hc9] at h0 h1
    obtain ⟨z0, e0, _⟩ := DataW.trod_int Tryz.underlying27 (show DataW.trod enc Tryz.prog W 0 sp held m 27 [c0] = some x0 from h0)
    obtain ⟨z1, e1, _⟩ := DataW.trod_int Tryz.underlying27 (show DataW.trod enc Tryz.prog W 0 sp held m 27 [c1] = some x1 from h1)
    cases e0; cases e1
    unfold World.cells? at hl
    rw [if_pos (Nat.zero_le _)] at hl
    have hr : List.range 2 = [0, 1] := rfl
    rw [hr] at hl
    simp only [List.mapM_cons, List.mapM_nil, Option.bind_eq_bind, Option.bind_eq_some_iff, Option.pure_def, Option.some.injEq, List.cons.injEq] at hl
    obtain ⟨y0, hy0, r, ⟨y1, hy1, r2, hr2, hr⟩, hy⟩ := hl
    subst hr2
    obtain ⟨rfl, hy⟩ := hy
    subst hr
    simp only [List.cons.injEq, and_true] at hy
    subst hy
    rw [add_eq hs] at hy0 hy1
    exact ⟨z0, z1, by simpa [Addr.add] using hy0, by simpa [Addr.add, Nat.add_assoc] using hy1⟩
theorem med_read {H : Type} {enc : TypeId × Value → H} {W : World} {sp : Nat → Bool} {held : Bool} {n b0 : Nat} {hv : Value} {x : DataW H × List MemPlace} (h : DataW.trod enc Tryz.prog W 0 sp held n 28 [hv] = some x) (hok : Cell.okWide Tryz.prog W .any b0 28 hv) :
    ∃ rows, Reads W [.int .u16, .int .u16] rows hv ∧ rows.length ≤ Rows.uptoBulk x.1 := by
  have hc : Tryz.prog.cellsOf 63 = 2 := by kernel_rfl
  rcases DataW.trod_slice Tryz.underlying28 h with ⟨hx, _⟩ | ⟨a, len, cap, elems, rest, m, _, hx, ex, _, _, _, hl, hel, _, _⟩
  · cases hx
    exact ⟨[], .nil rfl, Nat.zero_le _⟩
  · cases hx
    obtain ⟨hs, c, tt, fr, hh⟩ := slice_has Tryz.underlying28 hok
    obtain ⟨b, o, sp'⟩ := a
    have hs : sp' = none := hs
    subst hs
    have key : ∀ i, i < len → ∃ z0 z1 : Int, W.cell? ⟨b, o + i * 2, none⟩ = some (.int .u16 z0) ∧ W.cell? ⟨b, o + (i * 2 + 1), none⟩ = some (.int .u16 z1) := by
      intro i hi
      have h1 := hel i hi
      rw [hc, List.getElem?_eq_getElem (by omega)] at h1
      obtain ⟨s0, s1, g0, g1⟩ := med_cell (a := ⟨b, o, none⟩) rfl h1
      exact ⟨s0, s1, g0, g1⟩
    have hbulk : Rows.uptoBulk x.1 = Rows.uptoBulkAll (elems.map (·.1)) + Rows.uptoBulkAll (rest.map (·.1)) + 1 := by rw [ex]; rfl
    refine ⟨(List.range len).map fun i => [.int .u16 (intAt W b (o + i * 2)), .int .u16 (intAt W b (o + (i * 2 + 1)))], ?_, ?_⟩
    · have hR := Reads.cells (w := W) (ks := [.int .u16, .int .u16]) (rows := (List.range len).map fun i => [AV.int .u16 (intAt W b (o + i * 2)), .int .u16 (intAt W b (o + (i * 2 + 1)))]) ⟨b, o, 2, cap, false⟩ cap
        ⟨rfl, c, tt, fr, hh, fun i j kd hi hj => ?_, fun h => by cases h⟩
      · simpa using hR
      · have hi : i < len := by simpa using hi
        obtain ⟨s0, s1, g0, g1⟩ := key i hi
        have hrow : ((List.range len).map fun i => [AV.int .u16 (intAt W b (o + i * 2)), .int .u16 (intAt W b (o + (i * 2 + 1)))]).getD i [] = [AV.int .u16 (intAt W b (o + i * 2)), .int .u16 (intAt W b (o + (i * 2 + 1)))] := by
          simp [List.getD_eq_getElem?_getD, hi]
        have hj' : (j = 0 ∨ j = 1) ∧ kd = .int .u16 := by
          match j with
          | 0 => simp at hj; exact ⟨.inl rfl, hj.symm⟩
          | 1 => simp at hj; exact ⟨.inr rfl, hj.symm⟩
          | j + 2 => simp at hj
        obtain ⟨hj0, rfl⟩ := hj'
        unfold cellAt
        rw [hrow]
        rcases hj0 with rfl | rfl
        · show c[o + (i * 2 + 0)]? = some (.int .u16 (intAt W b (o + i * 2)))
          rw [Nat.add_zero, cell_in hh g0]
          have e : intAt W b (o + i * 2) = s0 := by unfold intAt; rw [g0]
          rw [e]
        · show c[o + (i * 2 + 1)]? = some (.int .u16 (intAt W b (o + (i * 2 + 1))))
          rw [cell_in hh g1]
          have e : intAt W b (o + (i * 2 + 1)) = s1 := by unfold intAt; rw [g1]
          rw [e]
    · have := bulk_len (elems.map (·.1))
      simp only [List.length_map, List.length_range] at this ⊢
      omega
theorem change_read {H : Type} {enc : TypeId × Value → H} {W : World} {sp : Nat → Bool} {held : Bool} {b0 N : Nat} {v : Value} {d : DataW H} {ps : List MemPlace} (h : DataW.Trod enc Tryz.prog W 0 sp held 30 v d ps) (hok : Value.okWide Tryz.prog W .any b0 30 v) (hN : Rows.uptoBulk d ≤ N) :
    ∃ host to_ port toPort mrows lv, v = .agg #[.int .u32 host, .int .u32 to_, .int .u16 port, .int .u16 toPort, lv] ∧ Reads W [.int .u16, .int .u16] mrows lv ∧ mrows.length ≤ N := by
  unfold Value.okWide at hok
  rw [Tryz.underlying30] at hok
  obtain ⟨cs, rfl, hsz, ts, hts, _, hall⟩ := hok
  have hc : Tryz.prog.cellTypes Tryz.prog.depth 30 = some [26, 26, 27, 27, 28] := by kernel_rfl
  rw [hc] at hts
  cases hts
  have h5 : cs.size = 5 := hsz.trans (by kernel_rfl)
  obtain ⟨c0, c1, c2, c3, c4, rfl⟩ : ∃ c0 c1 c2 c3 c4, cs = #[c0, c1, c2, c3, c4] := by
    refine ⟨cs[0], cs[1], cs[2], cs[3], cs[4], ?_⟩
    apply Array.ext
    · simp [h5]
    · intro i hi1 hi2
      simp at hi2
      have : i = 0 ∨ i = 1 ∨ i = 2 ∨ i = 3 ∨ i = 4 := by omega
      rcases this with rfl | rfl | rfl | rfl | rfl <;> rfl
  have okAt : ∀ (i : Nat) (c : Value) (u : TypeId), (#[c0, c1, c2, c3, c4] : Array Value)[i]? = some c → [26, 26, 27, 27, 28][i % 5]? = some u → Cell.okWide Tryz.prog W .any b0 u c := by
    intro i c u hi hu
    obtain ⟨u', hu', hok⟩ := hall i c hi
    have : u' = u := Option.some.inj (hu'.symm.trans hu)
    rw [this] at hok; exact hok
  have iArg : ∀ (c : Value) (u : TypeId) (k : IntKind), Tryz.prog.underlying u = some (.int k) → Cell.okWide Tryz.prog W .any b0 u c → ∃ n, c = .int k n := by
    intro c u k hu hok
    unfold Cell.okWide at hok
    rw [hu] at hok
    cases c <;> simp [Cell.ok, hu] at hok
    exact ⟨_, by rw [hok.1]⟩
  obtain ⟨z0, rfl⟩ := iArg _ _ _ Tryz.underlying26 (okAt 0 c0 26 rfl rfl)
  obtain ⟨z1, rfl⟩ := iArg _ _ _ Tryz.underlying26 (okAt 1 c1 26 rfl rfl)
  obtain ⟨z2, rfl⟩ := iArg _ _ _ Tryz.underlying27 (okAt 2 c2 27 rfl rfl)
  obtain ⟨z3, rfl⟩ := iArg _ _ _ Tryz.underlying27 (okAt 3 c3 27 rfl rfl)
  have ok4 := okAt 4 c4 28 rfl rfl
  obtain ⟨fuel, hf⟩ := h
  obtain ⟨xs, m, _, ex, hlen, hxs, hfs⟩ := DataW.trod_struct Tryz.underlying30 hf
  have hx5 : xs.length = 5 := hxs
  match xs, hx5 with
  | [x0, x1, x2, x3, x4], _ =>
    have hc28 : Tryz.prog.cellsOf 28 = 1 := by kernel_rfl
    have f4 : DataW.trod enc Tryz.prog W 0 sp held m 28 (((#[.int .u32 z0, .int .u32 z1, .int .u16 z2, .int .u16 z3, c4] : Array Value).toList.drop 4).take (Tryz.prog.cellsOf 28)) = some x4 := hfs 4 _ rfl
    rw [hc28] at f4
    obtain ⟨mrows, r1, r2⟩ := med_read (show DataW.trod enc Tryz.prog W 0 sp held m 28 [c4] = some x4 from f4) ok4
    have hd : d = .agg [x0.1, x1.1, x2.1, x3.1, x4.1] := (Prod.mk.inj ex).1
    rw [hd] at hN
    simp only [Rows.uptoBulk, Rows.uptoBulkAll] at hN
    exact ⟨z0, z1, z2, z3, mrows, c4, rfl, r1, by omega⟩
end Go.Proofs.YtpdgmgkkbbndfaaGreatDoor
