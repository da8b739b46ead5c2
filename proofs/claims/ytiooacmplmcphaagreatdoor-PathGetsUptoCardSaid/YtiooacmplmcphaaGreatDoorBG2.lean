/- Texts that stand behind one another, laid into one: what this claim needs of them. -/
import Derived.Test.YtiooacmplmcphaaGreatDoorBG1
import Derived.Deep.LoopGhost
import Derived.Lib.AppendIntMem
import Derived.Outline
import Derived.Lib.SlTrimSet
import Derived.Test.YtiooacmplmcphaaGreatDoorBG0
import Derived.Lib.ConvBytes
import Derived.Lib.AtoiErrMem
import Derived.Lib.Walk
import Derived.Lib.Hide
import Derived.Laws.Strings3
import Derived.Laws.Closers25
import Derived.Laws.Closers25b
import Derived.WalkKit
import Derived.Deep.RegionHeld3
import Derived.IntWalk
import Derived.StillTailTactics
import Derived.Laws.BitsAllLaws
import Derived.Laws.BitsLemmas
import Derived.KernelRfl
namespace Go.Proofs.YtiooacmplmcphaaGreatDoor.Utf
def may (n : Int) : Bool := prt n && n != 9 && n != 10 && n != 13
def signsF : Nat → List UInt8 → Option (List Int)
 | 0, _ => some []
 | k + 1, l => if l = [] then some [] else if (dec l).1 < 0 then none else (signsF k (l.drop (dec l).2)).map ((dec l).1 :: ·)
def signs (l : List UInt8) : Option (List Int) := signsF l.length l
def hexc (n : Nat) : UInt8 := UInt8.ofNat (if n < 10 then 48 + n else 87 + n)
def hexs (n : Nat) : Nat → List UInt8
 | 0 => []
 | m + 1 => hexs (n / 16) m ++ [hexc (n % 16)]
def escS (n : Int) : List UInt8 :=
 if n = 34 then [92, 34] else if n = 92 then [92, 92] else if n = 9 then [92, 116] else if n = 10 then [92, 110] else if n = 13 then [92, 114] else if n = 0 then [92, 48] else
 if may n = true then enc n else if n < 256 then 92 :: 120 :: hexs n.toNat 2 else if n < 65536 then 92 :: 117 :: hexs n.toNat 4 else 92 :: 85 :: hexs n.toNat 8
def hexv (c : Nat) : Int := if 48 ≤ c ∧ c ≤ 57 then (c : Int) - 48 else if 97 ≤ c ∧ c ≤ 102 then (c : Int) - 87 else if 65 ≤ c ∧ c ≤ 70 then (c : Int) - 55 else -1
def digs : Nat → List UInt8 → Int → Int × Int
 | 0, _, n => (n, 0)
 | _ + 1, [], _ => (0, 4)
 | m + 1, c :: t, n => if hexv c.toNat < 0 then (0, 3) else digs m t (n * 16 + hexv c.toNat)
def hexE (l : List UInt8) (m : Nat) : Int × Nat × Int :=
  if (digs m (l.drop 2) 0).2 ≠ 0 then (0, 0, (digs m (l.drop 2) 0).2) else if sgn (digs m (l.drop 2) 0).1 = true then ((digs m (l.drop 2) 0).1, 2 + m, 0) else (0, 0, 3)
def escB (l : List UInt8) : Int × Nat × Int :=
 if l.length < 2 then (0, 0, 4) else
 if at_ l 1 = 34 ∨ at_ l 1 = 92 then ((at_ l 1 : Int), 2, 0) else if at_ l 1 = 110 then (10, 2, 0) else if at_ l 1 = 116 then (9, 2, 0) else if at_ l 1 = 114 then (13, 2, 0) else
 if at_ l 1 = 48 then (0, 2, 0) else if at_ l 1 = 120 then hexE l 2 else if at_ l 1 = 117 then hexE l 4 else if at_ l 1 = 85 then hexE l 8 else (0, 0, 3)
def oneB (l : List UInt8) (q : Nat) : List UInt8 × Nat × Int :=
 if at_ l 0 = q then (if q = 39 ∧ 1 < l.length ∧ at_ l 1 = 39 then ([39], 2, 0) else ([], 0, 0)) else
 if q = 34 ∧ at_ l 0 = 92 then (if (escB l).2.2 ≠ 0 then ([], 0, (escB l).2.2) else (enc (escB l).1, (escB l).2.1, 0)) else
 if may (dec l).1 = true then (l.take (dec l).2, (dec l).2, 0) else ([], 0, 8)
def readF : Nat → List UInt8 → Nat → Nat → List UInt8 → List UInt8 × Nat × Int × Nat
 | 0, _, _, i, _ => ([], 0, 4, i)
 | k + 1, l, q, i, acc => if l = [] then ([], 0, 4, i) else
  if (oneB l q).2.2 = 4 then ([], 0, 4, i + l.length) else if (oneB l q).2.2 ≠ 0 then ([], 0, (oneB l q).2.2, i) else
  if (oneB l q).2.1 = 0 then (acc, i + 1, 0, 0) else readF k (l.drop (oneB l q).2.1) q (i + (oneB l q).2.1) (acc ++ (oneB l q).1)
def readB (s : List UInt8) : List UInt8 × Nat × Int × Nat :=
  if s = [] ∨ (at_ s 0 ≠ 39 ∧ at_ s 0 ≠ 34) then ([], 0, 3, 0) else readF s.length (s.drop 1) (at_ s 0) 1 []
def doubleB (zs : List Int) : List UInt8 := 34 :: (zs.flatMap escS ++ [34])
theorem may_sgn {n : Int} (h : may n = true) : sgn n = true := by
  unfold may prt at h; rw [sgn_iff]; simp at h; omega
theorem enc_len (n : Int) : 1 ≤ (enc n).length ∧ (enc n).length ≤ 4 := by
  have := Lib.encodeRuneZ_length n; unfold enc Lib.encodeRune; rw [List.length_map]; exact this
theorem dec_len (l : List UInt8) (h : l ≠ []) : 1 ≤ (dec l).2 ∧ (dec l).2 ≤ l.length := by
 have hl : 0 < l.length := List.length_pos_iff.2 h
 rcases dec_shape l h with ⟨c, e⟩ | ⟨c1, c2, c3, cv, e⟩ | ⟨c1, c2, c3, c4, cv, cs, e⟩ | ⟨c1, c2, c3, c4, c5, cv, cw, e⟩ | e <;> rw [e] <;> dsimp only <;> omega
theorem signsF_some : ∀ (k : Nat) (l : List UInt8) (zs : List Int), l.length ≤ k → signsF k l = some zs → l = zs.flatMap enc ∧ ∀ z ∈ zs, sgn z = true
 | 0, l, zs, hk, h => by
  have : l = [] := List.eq_nil_of_length_eq_zero (by omega)
  subst this; cases Option.some.inj h; exact ⟨rfl, by simp⟩
 | k + 1, l, zs, hk, h => by
  unfold signsF at h
  by_cases hn : l = []
  · rw [if_pos hn] at h; cases Option.some.inj h; exact ⟨by simpa using hn, by simp⟩
  rw [if_neg hn] at h
  by_cases hd : (dec l).1 < 0
  · rw [if_pos hd] at h; cases h
  rw [if_neg hd] at h
  obtain ⟨ys, hy, rfl⟩ := Option.map_eq_some_iff.1 h
  have hw := dec_len l hn
  obtain ⟨e1, e2⟩ := signsF_some k _ ys (by rw [List.length_drop]; omega) hy
  obtain ⟨s1, _, _, s4⟩ := enc_dec l (by omega)
  refine ⟨?_, ?_⟩
  · rw [List.flatMap_cons, ← e1, s4]
  ·
   intro z hz; rcases List.mem_cons.1 hz with rfl | hz
   · exact s1
   · exact e2 z hz
theorem signs_some {l : List UInt8} {zs : List Int} (h : signs l = some zs) : l = zs.flatMap enc ∧ ∀ z ∈ zs, sgn z = true := signsF_some _ _ _ (Nat.le_refl _) h
theorem hexs_len : ∀ (m n : Nat), (hexs n m).length = m
 | 0, _ => rfl
 | m + 1, n => by simp [hexs, hexs_len m]
theorem sgn_nat {n : Int} (h : sgn n = true) : 0 ≤ n ∧ n ≤ 1114111 := by rw [sgn_iff] at h; omega
theorem doubleB_len (zs : List Int) : (doubleB zs).length = 2 + (zs.flatMap escS).length := by
  unfold doubleB; simp; omega
end Go.Proofs.YtiooacmplmcphaaGreatDoor.Utf
namespace Go.Proofs.YtiooacmplmcphaaGreatDoor.Plug
open RowKit YtiooacmplmcphaaGreatDoor YtiooacmplmcphaaGreatDoor.PX YtiooacmplmcphaaGreatDoor.Utf YtiooacmplmcphaaGreatDoorW.PrintWords YtiooacmplmcphaaGreatDoorW.PrintLast
def encB : List Int → List UInt8 → List UInt8 × Int
 | [], acc => (acc, 0)
 | n :: r, acc => if sgn n = true then encB r (acc ++ enc n) else ([], 8)
theorem rd_at (l : List Int) (i : Nat) (h : i < l.length) : rd l (i : Int) = l[i] := by
  unfold rd; rw [Int.toNat_natCast, List.getD_eq_getElem?_getD, List.getElem?_eq_getElem h]; rfl
theorem enc_cells (n : Int) : Lib.byteCells (enc n) = Lib.runeCells n := Lib.byteCells_encodeRune n
def utf_Encode.f (a0 : List Int) : Option (ByteArray × Int) := if 4 * a0.length ≤ 140737488351232 then some (⟨(encB a0 []).1.toArray⟩, (encB a0 []).2) else none
set_option maxHeartbeats 2000000 in
theorem utf_Encode.calls (A0 : Option Addr) (c0 : Nat) (l0 : List Int) (r1 : ByteArray) (r2 : Int) (w : World) (hr0 : Kd.C (Kd.int .i64) w A0 l0.length l0) (_hc0 : l0.length ≤ c0) (_hG : Glob.G w) (h : utf_Encode.f l0 = some (r1, r2)) :
  Calls Tryz.prog 190 #[.slice A0 l0.length c0] w fun e w' => e = .returned (.tuple #[.string r1, .int .i64 r2]) ∧ Below w.heap.size w w' := by
 unfold utf_Encode.f at h
 by_cases hs : 4 * l0.length ≤ 140737488351232
 rotate_left
 · rw [if_neg hs] at h; cases h
 rw [if_pos hs] at h
 obtain ⟨rfl, rfl⟩ := Prod.mk.inj (Option.some.inj h)
 clear h
 go_enter Tryz.func190, Tryz.ntmps190
 go_wp2
 go_loopw [9] (fun v9 wr => ∃ (i : Nat) (acc : List UInt8), v9 = .int .i64 i ∧ i ≤ l0.length ∧ acc.length ≤ 4 * i ∧ Hid (encB (l0.drop i) acc = encB l0 []) ∧ Lib.IsBuilderF 106 5 w.heap.size w.heap.size (Lib.byteCells acc) wr ∧ Below w.heap.size w wr) (fun v9 _ => l0.length - (intOf v9).toNat)
 case atStart => exact ⟨0, [], rfl, by omega, by simp, Lib.hid rfl, Lib.IsBuilderF.of (Lib.fresh_isBuilder 106 5 w), (Below.refl _ w).alloc (Nat.le_refl _) _⟩
 case round =>
  obtain ⟨i, acc, rfl, hi, hal, hst, hI, hb⟩ := hrel
  by_cases hlt : i < l0.length
  rotate_left
  ·
   have hc : decide ((i : Int) < (l0.length : Int)) = false := by simp; omega
   have hst2 := hst.out
   rw [List.drop_of_length_le (by omega)] at hst2
   have HN : Hid ((acc, (0 : Int)) = encB l0 []) := Lib.hid hst2
   clear hst hst2
   go_wp2_with (go_at_call 56; refine (Bld.got _ _ _ acc _ hI hb.size).mono ?_; rintro e w2 ⟨rfl, b1⟩)
   go_ret2
   exact ⟨by rw [← HN.out]; rfl, hb.trans b1⟩
  have hdrop : l0.drop i = l0[i] :: l0.drop (i + 1) := List.drop_eq_getElem_cons hlt
  have hst2 := hst.out
  rw [hdrop] at hst2
  have hc : decide ((i : Int) < (l0.length : Int)) = true := by simp; omega
  obtain ⟨ad, rfl, hx⟩ := Kd.at_int hr0 (i : Int) (by omega) (by omega)
  rw [rd_at l0 i hlt, Int.toNat_natCast] at hx
  replace hx := (hb.cell (World.block_lt_of_cell? w _ hx)).trans hx
  have p1 : (0 ≤ (i : Int)) = True := eq_true (by omega)
  have p2 : ((i : Int) < (l0.length : Int)) = True := eq_true (by omega)
  generalize l0[i] = x at *
  by_cases hsg : sgn x = true
  rotate_left
  ·
   rw [show encB (x :: l0.drop (i + 1)) acc = ([], 8) by rw [encB, if_neg hsg]] at hst2
   have HN := Lib.hid hst2
   have hns : ¬ (0 ≤ x ∧ x ≤ 1114111 ∧ (x < 55296 ∨ 57343 < x)) := fun e => hsg ((sgn_iff x).2 e)
   clear hst hst2 hdrop hsg
   by_cases z0 : x < 0
   ·
    clear hns
    go_wp2_with (fail)
    go_ret2
    exact ⟨by rw [← HN.out]; rfl, hb⟩
   by_cases z1 : 1114111 < x
   ·
    clear hns
    go_wp2_with (fail)
    go_ret2
    exact ⟨by rw [← HN.out]; rfl, hb⟩
   have hv : Lib.validRune x = false := by unfold Lib.validRune; rw [decide_eq_false_iff_not]; omega
   clear hns
   go_wp2_with (first | (go_at_call 193; refine (Tryz.utf8_ValidRune _ _).mono ?_; rw [hv]; rintro e w1 ⟨rfl, rfl⟩))
   go_ret2
   exact ⟨by rw [← HN.out]; rfl, hb⟩
  have hq := (sgn_iff x).1 hsg
  have hel := enc_len x
  rw [show encB (x :: l0.drop (i + 1)) acc = encB (l0.drop (i + 1)) (acc ++ enc x) by rw [encB, if_pos hsg]] at hst2
  have HN := Lib.hid hst2
  have HQ := Lib.hid hq
  obtain ⟨q0, q1, q2⟩ := hq
  have hv : Lib.validRune x = true := by unfold Lib.validRune; rw [decide_eq_true_iff]; omega
  clear hst hst2 hdrop hsg q2
  go_wp2_with (first | (go_at_call 193; refine (Tryz.utf8_ValidRune _ _).mono ?_; rw [hv]; rintro e w1 ⟨rfl, rfl⟩) | (go_at_call 146; refine (Bld.sign 106 Bld.lies_plain w.heap.size w.heap.size _ x HQ.out _ hI (by rw [Lib.byteCells_length]; omega) hb.size).mono ?_; rintro e w2 ⟨rfl, h1, b1, k1⟩))
  go_roundw
  case rel => exact ⟨i + 1, acc ++ enc x, by go_num, by omega, by rw [List.length_append]; omega, Lib.hid HN.out, by rw [Lib.byteCells_append, enc_cells]; exact Or.inr h1, hb.trans b1⟩
  case measure => simp [intOf]; omega
end Go.Proofs.YtiooacmplmcphaaGreatDoor.Plug
namespace Go.Proofs.YtiooacmplmcphaaGreatDoor.Utf
def hexAll (l : List UInt8) : Bool := l.all fun c => decide (0 ≤ hexv c.toNat)
def hexNum (l : List UInt8) (a : Int) : Int := l.foldl (fun a c => a * 16 + hexv c.toNat) a
theorem hexv_lt (c : Nat) : hexv c < 16 := by unfold hexv; split <;> (try split) <;> (try split) <;> omega
theorem digs_take : ∀ (m : Nat) (l : List UInt8) (a : Int), digs m l a = if hexAll (l.take m) = true then (if l.length < m then (0, 4) else (hexNum (l.take m) a, 0)) else (0, 3)
 | 0, l, a => by simp [digs, hexAll, hexNum]
 | m + 1, [], a => by simp [digs, hexAll]
 | m + 1, c :: t, a => by
  rw [digs, List.take_succ_cons]
  by_cases h : hexv c.toNat < 0
  ·
   rw [if_pos h, if_neg]
   unfold hexAll; rw [List.all_cons, decide_eq_false (by omega)]; simp
  rw [if_neg h, digs_take m t]
  have e : hexAll (c :: t.take m) = hexAll (t.take m) := by
   unfold hexAll; rw [List.all_cons, decide_eq_true (by omega), Bool.true_and]
  rw [e]
  by_cases d : t.length < m
  · rw [if_pos d, if_pos (show (c :: t).length < m + 1 by simp; omega)]
  rw [if_neg d, if_neg (show ¬ (c :: t).length < m + 1 by simp; omega)]; rfl
def hexSet : List UInt8 := [48, 49, 50, 51, 52, 53, 54, 55, 56, 57, 97, 98, 99, 100, 101, 102, 65, 66, 67, 68, 69, 70]
set_option maxRecDepth 100000 in
theorem set_nat : ∀ n : Fin 256, hexSet.contains (UInt8.ofNat n.val) = decide (0 ≤ hexv n.val) := by decide +kernel
theorem set_hex (c : UInt8) : hexSet.contains c = decide (0 ≤ hexv c.toNat) := by
 have := set_nat ⟨c.toNat, c.toNat_lt⟩
 simp only [UInt8.ofNat_toNat] at this
 exact this
theorem dw_nil (p : UInt8 → Bool) : ∀ l : List UInt8, l.dropWhile p = [] ↔ ∀ x ∈ l, p x = true
 | [] => by simp
 | c :: t => by
  have ih := dw_nil p t
  cases h : p c with
  | true => simp [List.dropWhile, h, ih]
  | false => simp [List.dropWhile, h]
theorem tw_all (p : UInt8 → Bool) : ∀ l : List UInt8, ∀ x ∈ l.takeWhile p, p x = true
 | [], x, h => by simp at h
 | c :: t, x, h => by
  cases hc : p c with
  | true =>
   rw [List.takeWhile_cons, hc, if_pos rfl] at h
   rcases List.mem_cons.1 h with rfl | h
   · exact hc
   · exact tw_all p t x h
  | false => rw [List.takeWhile_cons, hc, if_neg (by decide)] at h; simp at h
theorem trim_none (l cs : List UInt8) : Lib.trimS l cs = [] ↔ ∀ x ∈ l, cs.contains x = true := by
 unfold Lib.trimS Lib.trimLeftS Lib.trimRightS
 rw [dw_nil]
 constructor
 ·
  intro h x hx
  have hx2 : x ∈ l.reverse := by simpa using hx
  rw [← List.takeWhile_append_dropWhile (p := (cs.contains ·)) (l := l.reverse), List.mem_append] at hx2
  rcases hx2 with hx2 | hx2
  · exact tw_all _ _ x hx2
  · exact h x (by simpa using hx2)
 ·
  intro h x hx
  rw [List.mem_reverse] at hx
  have := (List.dropWhile_sublist (l := l.reverse) (cs.contains ·)).subset hx
  exact h x (by simpa using this)
theorem trim_hex (l : List UInt8) : Lib.trimS l hexSet = [] ↔ hexAll l = true := by
 rw [trim_none]; unfold hexAll; rw [List.all_eq_true]
 constructor
 · intro h x hx; rw [← set_hex]; exact h x hx
 · intro h x hx; rw [set_hex]; exact h x hx
theorem num_range : ∀ (l : List UInt8) (a : Int), hexAll l = true → 0 ≤ a → 0 ≤ hexNum l a ∧ hexNum l a < (a + 1) * 16 ^ l.length
 | [], a, _, h => by simp [hexNum, h]; omega
 | c :: t, a, h, h0 => by
  unfold hexAll at h
  rw [List.all_cons, Bool.and_eq_true] at h
  have hc := of_decide_eq_true h.1
  have h15 := hexv_lt c.toNat
  obtain ⟨i1, i2⟩ := num_range t (a * 16 + hexv c.toNat) h.2 (by omega)
  refine ⟨i1, Int.lt_of_lt_of_le i2 ?_⟩
  rw [List.length_cons, Int.pow_succ, show (a + 1) * (16 ^ t.length * 16) = (a + 1) * 16 * 16 ^ t.length by rw [Int.mul_comm (16 ^ t.length) 16, Int.mul_assoc]]
  exact Int.mul_le_mul_of_nonneg_right (by omega) (Int.pow_nonneg (by omega))
end Go.Proofs.YtiooacmplmcphaaGreatDoor.Utf
namespace Go.Proofs.YtiooacmplmcphaaGreatDoor.Plug
open RowKit YtiooacmplmcphaaGreatDoor YtiooacmplmcphaaGreatDoor.Utf YtiooacmplmcphaaGreatDoorW.PrintWords YtiooacmplmcphaaGreatDoorW.PrintLast
theorem lower_fact : ∀ c : Fin 256, bits .or .u8 (c.val : Int) 32 = if c.val / 32 % 2 = 1 then (c.val : Int) else (c.val : Int) + 32 := by decide +kernel
theorem lower_up (c : Nat) (h : 65 ≤ c ∧ c ≤ 70) : bits .or .u8 (c : Int) 32 = ((c + 32 : Nat) : Int) := by
 have := lower_fact ⟨c, by omega⟩
 simp only at this
 rw [this, if_neg (by omega)]; omega
theorem lower_low (c : Nat) (h : 97 ≤ c ∧ c ≤ 102) : bits .or .u8 (c : Int) 32 = (c : Int) := by
 have := lower_fact ⟨c, by omega⟩
 simp only at this
 rw [this, if_pos (by omega)]
theorem pow16 : ∀ k : Fin 8, (16 : Int) ^ k.val ≤ 268435456 := by decide
theorem hexv_kind (c : Nat) (h : 0 ≤ hexv c) : (48 ≤ c ∧ c ≤ 57 ∧ hexv c = (c : Int) - 48) ∨ (97 ≤ c ∧ c ≤ 102 ∧ hexv c = (c : Int) - 87) ∨ (65 ≤ c ∧ c ≤ 70 ∧ hexv c = (c : Int) - 55) := by
 unfold hexv at h ⊢
 by_cases a : 48 ≤ c ∧ c ≤ 57
 · rw [if_pos a]; exact .inl ⟨a.1, a.2, rfl⟩
 by_cases b : 97 ≤ c ∧ c ≤ 102
 · rw [if_neg a, if_pos b]; exact .inr (.inl ⟨b.1, b.2, rfl⟩)
 by_cases d : 65 ≤ c ∧ c ≤ 70
 rotate_left
 · rw [if_neg a, if_neg b, if_neg d] at h; omega
 rw [if_neg a, if_neg b, if_pos d]; exact .inr (.inr ⟨d.1, d.2, rfl⟩)
theorem lower_is (c : Int) (w : World) : Calls Tryz.prog 208 #[.int .u8 c] w fun e w' => e = .returned (.int .u8 (bits .or .u8 c 32)) ∧ w' = w := by
 go_enter Tryz.func208, Tryz.ntmps208
 go_wp2
 go_ret
 exact ⟨rfl, rfl⟩
set_option maxHeartbeats 32000000 in
set_option maxRecDepth 100000 in
theorem parse_in (t : ByteArray) (h0 : 0 < t.size) (h8 : t.size ≤ 8) (hx : hexAll t.data.toList = true) (w : World) :
  Calls Tryz.prog 201 #[.string t, .int .i64 16, .int .i64 64] w fun e w' => e = .returned (.tuple #[.int .u64 (hexNum t.data.toList 0), .nilIface]) ∧ Below w.heap.size w w' := by
 have hemp : t.toList.isEmpty = false := by
  rw [← decide_eq_emptyBytes]
  exact decide_eq_false (fun h => by rw [h] at h0; exact absurd h0 (by decide))
 have hcv := Lib.run_convert_string_bytes (P := Tryz.prog) w 9 104 5 t (u := .string) (by kernel_rfl) (by kernel_rfl) (by kernel_rfl)
 have hB : ∀ j, j < t.size → (Lib.bytesWorld w 5 t).cell? ⟨w.heap.size, j, none⟩ = some (.int .u8 (t.data.toList.getD j 0).toNat) := fun j hj => Lib.bytesWorld_cell w 5 t j hj
 have HBel := Lib.hid (Lib.bytesWorld_below w 5 t)
 obtain ⟨W1, hW1⟩ : ∃ W1, W1 = Lib.bytesWorld w 5 t := ⟨_, rfl⟩
 rw [← hW1] at hcv hB HBel
 clear hW1
 obtain ⟨bs, hL⟩ : ∃ bs, bs = t.data.toList := ⟨_, rfl⟩
 have hLn : bs.length = t.size := by rw [hL, Array.length_toList]; rfl
 rw [← hL] at hB hx ⊢
 clear hL
 have hmv : IntKind.u64.wrap (IntKind.u64.wrap 18446744073709551616 - 1) = 18446744073709551615 := by
  rw [IntKind.wrap_u64, IntKind.wrap_u64]
  decide
 have HX := Lib.hid hx
 clear hx
 go_enter Tryz.func201, Tryz.ntmps201
 go_wp2
 go_loop [12, 13, 101] (fun vu vn vi => ∃ (k : Nat) (a : Int), vu = .bool false ∧ vn = .int .u64 a ∧ vi = .int .i64 k ∧ k ≤ t.size ∧ Hid (0 ≤ a ∧ a < 16 ^ k ∧ hexNum (bs.drop k) a = hexNum bs 0))
  (fun _ _ vi => t.size - (intOf vi).toNat)
 case atStart => exact ⟨0, 0, rfl, rfl, rfl, by omega, Lib.hid ⟨by omega, by simp, rfl⟩⟩
 case round =>
  obtain ⟨k, a, rfl, rfl, rfl, hk, hh⟩ := hrel
  by_cases hkn : k < t.size
  rotate_left
  ·
   have hkk : k = t.size := by omega
   subst hkk
   have hF := hh.out.2.2
   rw [List.drop_eq_nil_of_le (by omega)] at hF
   clear hh hB HX
   obtain rfl : a = hexNum bs 0 := hF
   go_wp2
   go_ret2
   exact ⟨rfl, HBel.out⟩
  have hc := hB k hkn
  have hdrop : bs.drop k = bs[k]'(by omega) :: bs.drop (k + 1) := List.drop_eq_getElem_cons (by omega)
  have hget : bs.getD k 0 = bs[k]'(by omega) := by simp [List.getD, List.getElem?_eq_getElem (show k < bs.length by omega)]
  have hmem : bs[k]'(by omega) ∈ bs := List.getElem_mem _
  rw [hget] at hc
  generalize bs[k]'(by omega) = c at hc hdrop hmem
  have hxc : 0 ≤ hexv c.toNat := of_decide_eq_true (List.all_eq_true.1 HX.out c hmem)
  obtain ⟨a0, a1, hnum⟩ := hh.out
  have hp := pow16 ⟨k, by omega⟩
  have a2 : a < 268435456 := by simp only at hp; omega
  rw [hdrop] at hnum
  have hnum2 : hexNum (bs.drop (k + 1)) (a * 16 + hexv c.toNat) = hexNum bs 0 := hnum
  have h15 := hexv_lt c.toNat
  have HN : Hid (0 ≤ a * 16 + hexv c.toNat ∧ a * 16 + hexv c.toNat < 16 ^ (k + 1) ∧ hexNum (bs.drop (k + 1)) (a * 16 + hexv c.toNat) = hexNum bs 0) := by
   refine Lib.hid ⟨by omega, ?_, hnum2⟩
   rw [Int.pow_succ]; omega
  clear hh hB hdrop hget hmem hnum hnum2 hp a1 HX HBel
  rcases hexv_kind c.toNat hxc with ⟨d0, d1, d2⟩ | ⟨d0, d1, d2⟩ | ⟨d0, d1, d2⟩
  ·
   rw [d2] at HN
   clear d2 hxc h15
   generalize c.toNat = x at *
   go_wp2
   refine ⟨⟨k + 1, a * 16 + ((x : Int) - 48), rfl, (by first | rfl | (congr 1; omega)), (by first | rfl | (congr 1; omega)), by omega, HN⟩, by simp [intOf]; omega⟩
  ·
   rw [d2] at HN
   have hlow := lower_low c.toNat ⟨d0, d1⟩
   clear d2 hxc h15
   generalize c.toNat = x at *
   go_wp2_with (go_at_call 208; refine (lower_is _ _).mono ?_; rintro e w' ⟨rfl, rfl⟩; rw [hlow])
   refine ⟨⟨k + 1, a * 16 + ((x : Int) - 87), rfl, (by first | rfl | (congr 1; omega)), (by first | rfl | (congr 1; omega)), by omega, HN⟩, by simp [intOf]; omega⟩
  ·
   rw [d2] at HN
   have hlow := lower_up c.toNat ⟨d0, d1⟩
   clear d2 hxc h15
   generalize c.toNat = x at *
   go_wp2_with (go_at_call 208; refine (lower_is _ _).mono ?_; rintro e w' ⟨rfl, rfl⟩; rw [hlow])
   refine ⟨⟨k + 1, a * 16 + ((x : Int) - 55), rfl, (by first | rfl | (congr 1; omega)), (by first | rfl | (congr 1; omega)), by omega, HN⟩, by simp [intOf]; omega⟩
set_option maxHeartbeats 4000000 in
theorem parse_out (t : ByteArray) (h0 : 0 < t.size) (h8 : t.size ≤ 8) (hx : hexAll t.data.toList = true) (w : World) :
  Calls Tryz.prog 204 #[.string t, .int .i64 16, .int .i64 64] w fun e w' => e = .returned (.tuple #[.int .u64 (hexNum t.data.toList 0), .nilIface]) ∧ Below w.heap.size w w' := by
 have HP := Lib.hid (parse_in t h0 h8 hx w)
 clear hx h0 h8
 generalize hexNum t.data.toList 0 = n at *
 go_enter Tryz.func204, Tryz.ntmps204
 go_wp2_with (go_at_call 201; refine HP.out.mono ?_; rintro e w' ⟨rfl, hb⟩)
 go_ret2
 exact ⟨rfl, hb⟩
def strconv_ParseUint.f (a0 : ByteArray) (a1 a2 : Int) : Option (Int × Option Int) :=
  if 0 < a0.size ∧ a0.size ≤ 8 ∧ hexAll a0.data.toList = true ∧ a1 = 16 ∧ a2 = 64 then some (hexNum a0.data.toList 0, none) else none
theorem strconv_ParseUint.calls (a0 : ByteArray) (a1 a2 : Int) (r1 : Int) (r2 : Option Int) (w : World) (_hG : Glob.G w) (h : strconv_ParseUint.f a0 a1 a2 = some (r1, r2)) :
  Calls Tryz.prog 204 #[.string a0, .int .i64 a1, .int .i64 a2] w fun e w' => e = .returned (.tuple #[.int .u64 r1, .nilIface]) ∧ Below w.heap.size w w' := by
 unfold strconv_ParseUint.f at h
 by_cases c : 0 < a0.size ∧ a0.size ≤ 8 ∧ hexAll a0.data.toList = true ∧ a1 = 16 ∧ a2 = 64
 rotate_left
 · rw [if_neg c] at h; cases h
 rw [if_pos c] at h
 obtain ⟨c1, c2, c3, rfl, rfl⟩ := c
 obtain ⟨rfl, rfl⟩ := Prod.mk.inj (Option.some.inj h)
 exact parse_out a0 c1 c2 c3 w
end Go.Proofs.YtiooacmplmcphaaGreatDoor.Plug
namespace Go.Proofs.YtiooacmplmcphaaGreatDoor.Utf
theorem digs_len : ∀ (m : Nat) (l : List UInt8) (a : Int), (digs m l a).2 = 0 → m ≤ l.length
 | 0, _, _, _ => Nat.zero_le _
 | m + 1, [], _, h => by simp [digs] at h
 | m + 1, c :: t, a, h => by
  unfold digs at h
  by_cases hc : hexv c.toNat < 0
  · rw [if_pos hc] at h; simp at h
  rw [if_neg hc] at h; have := digs_len m t _ h; simp; omega
theorem hexE_ok (l : List UInt8) (m : Nat) (h : (hexE l m).2.2 = 0) : sgn (hexE l m).1 = true ∧ (hexE l m).2.1 = 2 + m ∧ (2 ≤ l.length → 2 + m ≤ l.length) := by
 unfold hexE at h ⊢
 by_cases c : (digs m (l.drop 2) 0).2 = 0
 rotate_left
 · rw [if_pos c] at h; exact absurd h c
 rw [if_neg (by simpa using c)] at h ⊢
 by_cases d : sgn (digs m (l.drop 2) 0).1 = true
 rotate_left
 · rw [if_neg d] at h; cases h
 rw [if_pos d]
 have := digs_len m _ _ c
 rw [List.length_drop] at this
 exact ⟨d, rfl, fun _ => by omega⟩
theorem escB_ok (l : List UInt8) (h : (escB l).2.2 = 0) : sgn (escB l).1 = true ∧ 2 ≤ (escB l).2.1 ∧ (escB l).2.1 ≤ l.length := by
 unfold escB at h ⊢
 by_cases c : l.length < 2
 · rw [if_pos c] at h; cases h
 rw [if_neg c] at h ⊢
 by_cases c1 : at_ l 1 = 34 ∨ at_ l 1 = 92
 ·
  rw [if_pos c1]; refine ⟨?_, by simp, by simp; omega⟩
  rw [sgn_iff]; dsimp only; omega
 rw [if_neg c1] at h ⊢
 by_cases c2 : at_ l 1 = 110
 · rw [if_pos c2]; exact ⟨rfl, by simp, by simp; omega⟩
 rw [if_neg c2] at h ⊢
 by_cases c3 : at_ l 1 = 116
 · rw [if_pos c3]; exact ⟨rfl, by simp, by simp; omega⟩
 rw [if_neg c3] at h ⊢
 by_cases c4 : at_ l 1 = 114
 · rw [if_pos c4]; exact ⟨rfl, by simp, by simp; omega⟩
 rw [if_neg c4] at h ⊢
 by_cases c5 : at_ l 1 = 48
 · rw [if_pos c5]; exact ⟨rfl, by simp, by simp; omega⟩
 rw [if_neg c5] at h ⊢
 by_cases c6 : at_ l 1 = 120
 · rw [if_pos c6] at h ⊢; obtain ⟨a, b, d⟩ := hexE_ok l 2 h; exact ⟨a, by omega, by omega⟩
 rw [if_neg c6] at h ⊢
 by_cases c7 : at_ l 1 = 117
 · rw [if_pos c7] at h ⊢; obtain ⟨a, b, d⟩ := hexE_ok l 4 h; exact ⟨a, by omega, by omega⟩
 rw [if_neg c7] at h ⊢
 by_cases c8 : at_ l 1 = 85
 · rw [if_pos c8] at h ⊢; obtain ⟨a, b, d⟩ := hexE_ok l 8 h; exact ⟨a, by omega, by omega⟩
 rw [if_neg c8] at h; cases h
theorem oneB_ok (l : List UInt8) (q : Nat) (hl : l ≠ []) (h : (oneB l q).2.2 = 0) (h0 : (oneB l q).2.1 ≠ 0) : (oneB l q).2.1 ≤ l.length ∧ ∃ z, sgn z = true ∧ (oneB l q).1 = enc z := by
 unfold oneB at h h0 ⊢
 by_cases c : at_ l 0 = q
 ·
  rw [if_pos c] at h h0 ⊢
  by_cases c1 : q = 39 ∧ 1 < l.length ∧ at_ l 1 = 39
  rotate_left
  · rw [if_neg c1] at h0; exact absurd rfl h0
  rw [if_pos c1]; exact ⟨by dsimp only; omega, 39, rfl, rfl⟩
 rw [if_neg c] at h h0 ⊢
 by_cases d : q = 34 ∧ at_ l 0 = 92
 ·
  rw [if_pos d] at h h0 ⊢
  by_cases e : (escB l).2.2 = 0
  rotate_left
  · rw [if_pos e] at h; exact absurd h e
  rw [if_neg (by simpa using e)]
  obtain ⟨a1, a2, a3⟩ := escB_ok l e
  exact ⟨a3, _, a1, rfl⟩
 rw [if_neg d] at h h0 ⊢
 by_cases e : may (dec l).1 = true
 rotate_left
 · rw [if_neg e] at h; cases h
 rw [if_pos e]
 have hs := may_sgn e
 obtain ⟨b1, b2, b3, b4⟩ := enc_dec l (sgn_nat hs).1
 refine ⟨(dec_len l hl).2, _, hs, ?_⟩
 dsimp only
 rw [b3]
 have b5 := congrArg (List.take (enc (dec l).1).length) b4
 rw [List.take_left] at b5
 exact b5.symm
theorem readF_means : ∀ (k : Nat) (l : List UInt8) (q i : Nat) (acc : List UInt8) (t : List UInt8) (n p : Nat) (_ : readF k l q i acc = (t, n, 0, p)) (_ : ∃ zs : List Int, (∀ z ∈ zs, sgn z = true) ∧ acc = zs.flatMap enc),
    p = 0 ∧ (∃ zs : List Int, (∀ z ∈ zs, sgn z = true) ∧ t = zs.flatMap enc) ∧ i + 1 ≤ n ∧ n ≤ i + l.length
  | 0, l, q, i, acc, t, n, p, h, _ => by simp [readF] at h
  | k + 1, l, q, i, acc, t, n, p, h, ⟨zs, hz, ha⟩ => by
    unfold readF at h
    by_cases c : l = []
    · rw [if_pos c] at h; simp at h
    rw [if_neg c] at h
    by_cases c1 : (oneB l q).2.2 = 4
    · rw [if_pos c1] at h; simp at h
    rw [if_neg c1] at h
    by_cases c2 : (oneB l q).2.2 = 0
    · rw [if_neg (by simpa using c2)] at h
      have hl : 0 < l.length := List.length_pos_iff.2 c
      by_cases c3 : (oneB l q).2.1 = 0
      · rw [if_pos c3] at h
        simp only [Prod.mk.injEq] at h
        exact ⟨by omega, ⟨zs, hz, by rw [← h.1, ha]⟩, by omega, by omega⟩
      · rw [if_neg c3] at h
        obtain ⟨b1, z, b2, b3⟩ := oneB_ok l q c c2 c3
        obtain ⟨d1, d2, d3, d4⟩ := readF_means k _ q _ _ t n p h ⟨zs ++ [z], by
          intro x hx; rcases List.mem_append.1 hx with hx | hx
          · exact hz x hx
          · rw [List.mem_singleton] at hx; rw [hx]; exact b2, by rw [ha, b3, List.flatMap_append]; simp⟩
        rw [List.length_drop] at d4
        exact ⟨d1, d2, by omega, by omega⟩
    · rw [if_pos c2] at h; simp only [Prod.mk.injEq] at h; exact absurd h.2.2.1 c2
theorem readF_no : ∀ (k : Nat) (l : List UInt8) (q i : Nat) (acc : List UInt8), (readF k l q i acc).2.2.1 ≠ 0 → (readF k l q i acc).1 = [] ∧ (readF k l q i acc).2.1 = 0
 | 0, _, _, _, _, _ => ⟨rfl, rfl⟩
 | k + 1, l, q, i, acc, h => by
  unfold readF at h ⊢
  by_cases c : l = []
  · rw [if_pos c]; exact ⟨rfl, rfl⟩
  rw [if_neg c] at h ⊢
  by_cases c1 : (oneB l q).2.2 = 4
  · rw [if_pos c1]; exact ⟨rfl, rfl⟩
  rw [if_neg c1] at h ⊢
  by_cases c2 : (oneB l q).2.2 = 0
  rotate_left
  · rw [if_pos c2]; exact ⟨rfl, rfl⟩
  rw [if_neg (by simpa using c2)] at h ⊢
  by_cases c3 : (oneB l q).2.1 = 0
  · rw [if_pos c3] at h; exact absurd rfl h
  rw [if_neg c3] at h ⊢; exact readF_no k _ _ _ _ h
theorem readB_no (s : List UInt8) (h : (readB s).2.2.1 ≠ 0) : (readB s).1 = [] ∧ (readB s).2.1 = 0 := by
 unfold readB at h ⊢
 split
 · exact ⟨rfl, rfl⟩
 · rename_i c; rw [if_neg c] at h; exact readF_no _ _ _ _ _ h
theorem readB_means (s t : List UInt8) (n p : Nat) (h : readB s = (t, n, 0, p)) : p = 0 ∧ (∃ zs : List Int, (∀ z ∈ zs, sgn z = true) ∧ t = zs.flatMap enc) ∧ 2 ≤ n ∧ n ≤ s.length := by
 unfold readB at h
 by_cases c : s = [] ∨ (at_ s 0 ≠ 39 ∧ at_ s 0 ≠ 34)
 · rw [if_pos c] at h; simp at h
 rw [if_neg c] at h
 have hs : 0 < s.length := List.length_pos_iff.2 (fun e => c (.inl e))
 obtain ⟨a, b, d, e⟩ := readF_means _ _ _ _ _ t n p h ⟨[], by simp, rfl⟩
 rw [List.length_drop] at e
 exact ⟨a, b, by omega, by omega⟩
theorem readF_nil (k q i : Nat) (acc : List UInt8) : readF k [] q i acc = ([], 0, 4, i) := by
  cases k <;> simp [readF]
end Go.Proofs.YtiooacmplmcphaaGreatDoor.Utf
namespace Go.Proofs.YtiooacmplmcphaaGreatDoor.Plug
open RowKit YtiooacmplmcphaaGreatDoor YtiooacmplmcphaaGreatDoor.PX YtiooacmplmcphaaGreatDoor.Utf YtiooacmplmcphaaGreatDoorW.PrintWords YtiooacmplmcphaaGreatDoorW.PrintLast YtiooacmplmcphaaGreatDoorW.PrintMore
attribute [local go_sem] min2_int min_two
theorem enc_one (n : Int) : utf_Encode.f [n] = some (if sgn n = true then (⟨(enc n).toArray⟩, 0) else (⟨#[]⟩, 8)) := by
 unfold utf_Encode.f
 rw [if_pos (by simp)]
 unfold encB
 by_cases h : sgn n = true
 rotate_left
 · rw [if_neg h, if_neg h]
 rw [if_pos h, if_pos h]; rfl
theorem extract_list (s : ByteArray) (i j : Nat) : (s.extract i j).data.toList = (s.data.toList.drop i).take (j - i) := by
  rw [Lib.extract_data]
theorem one_row (n : Int) (w : World) : Kd.C (Kd.int .i64) (w.alloc (.cells #[.int .i64 n] 3)) (some ⟨w.heap.size, 0, none⟩) ([n] : List Int).length [n] := by
 have h := World.ownsRow_lit (base := 0) (e := 3) (size := 1) w #[.int .i64 n] 1 (Nat.zero_le _) (by decide) rfl
 exact (Kd.R_reads' (Kd.R_of_own (enc := Value.int .i64) (h1 := fun _ => rfl) (xs := [n]) (ok := fun _ => True) h (fun _ _ => trivial))).2.2
set_option maxHeartbeats 1600000 in
set_option maxRecDepth 100000 in
theorem esc_hex (s : ByteArray) (w : World) (hG : Glob.G w) (hs : s.size ≤ 140737488351232) (h2 : 2 ≤ s.size) (m N2 : Nat) (C M2 M0 : Int) (hcm : (m = 2 ∧ N2 = 4 ∧ C = 120 ∧ M2 = 4 ∧ M0 = 2) ∨ (m = 4 ∧ N2 = 6 ∧ C = 117 ∧ M2 = 6 ∧ M0 = 4) ∨ (m = 8 ∧ N2 = 10 ∧ C = 85 ∧ M2 = 10 ∧ M0 = 8)) (hx : ∀ h : 1 < s.size, ((s[1]'h).toNat : Int) = C) :
  Calls Tryz.prog 189 #[.string s] w fun e w' => e = .returned (.tuple #[.int .i64 (hexE s.data.toList m).1, .int .i64 ((hexE s.data.toList m).2.1 : Int), .int .i64 (hexE s.data.toList m).2.2]) ∧ Below w.heap.size w w' := by
 have hL := size_list s
 obtain ⟨e, he⟩ : ∃ e, e = min (2 + m) s.size := ⟨_, rfl⟩
 have hD : (s.extract 2 e).data.toList = (s.data.toList.drop 2).take m := by
  rw [extract_list, he]
  by_cases c : 2 + m ≤ s.size
  · rw [show min (2 + m) s.size - 2 = m by omega]
  rw [show min (2 + m) s.size - 2 = s.size - 2 by omega, List.take_of_length_le (by rw [List.length_drop]; omega), List.take_of_length_le (by rw [List.length_drop]; omega)]
 have hDs : (s.extract 2 e).size = min m (s.size - 2) := by
  rw [size_list, hD, List.length_take, List.length_drop, ← hL]
 have hmin : (if (s.size : Int) < M2 then (s.size : Int) else M2) = (e : Int) := by split <;> omega
 have e1 : 2 ≤ e := by omega
 have e2 : e ≤ s.size := by omega
 have i1 : ((2 : Int) ≤ (s.size : Int)) = True := eq_true (by omega)
 have i2 : ((2 : Int) ≤ (e : Int)) = True := eq_true (by omega)
 have i3 : ((e : Int) ≤ (s.size : Int)) = True := eq_true (by omega)
 have hT : strings_Trim.f (s.extract 2 e) (⟨#[48, 49, 50, 51, 52, 53, 54, 55, 56, 57, 97, 98, 99, 100, 101, 102, 65, 66, 67, 68, 69, 70]⟩ : ByteArray) = some ⟨(Lib.trimS (s.extract 2 e).data.toList hexSet).toArray⟩ := by
  unfold strings_Trim.f
  rw [if_pos ⟨by omega, by decide, by decide⟩]; rfl
 have hxh := trim_hex (s.extract 2 e).data.toList
 rw [hD] at hxh hT
 have hc2 : decide ((s.size : Int) < 2) = false := by simp; omega
 have hd := digs_take m (s.data.toList.drop 2) 0
 rw [List.length_drop, ← hL] at hd
 by_cases q : hexAll ((s.data.toList.drop 2).take m) = true
 rotate_left
 ·
  rw [if_neg q] at hd
  rw [show hexE s.data.toList m = (0, 0, 3) by unfold hexE; rw [hd]; rfl]
  clear hd
  have HT := Lib.hid hT
  have hne : ¬ Lib.trimS ((s.data.toList.drop 2).take m) hexSet = [] := fun e => q (hxh.1 e)
  have hem : (⟨(Lib.trimS ((s.data.toList.drop 2).take m) hexSet).toArray⟩ : ByteArray).toList.isEmpty = false := by
   rw [Lib.toList_data]; simpa using hne
  generalize (⟨(Lib.trimS ((s.data.toList.drop 2).take m) hexSet).toArray⟩ : ByteArray) = t at HT hem
  by_cases r : s.size - 2 < m
  ·
   obtain rfl : e = s.size := by omega
   clear hT hxh hD hDs hL q hne he hmin i2 i3
   rcases hcm with ⟨rfl, rfl, rfl, rfl, rfl⟩ | ⟨rfl, rfl, rfl, rfl, rfl⟩ | ⟨rfl, rfl, rfl, rfl, rfl⟩
   all_goals
    go_enter Tryz.func189, Tryz.ntmps189
    go_wp2_with (first | (go_at_call 84; refine (strings_Trim.calls _ _ _ _ hG HT.out).mono ?_; rintro e w1 ⟨rfl, hb1⟩))
    go_ret3
    exact ⟨rfl, hb1⟩
  have j3 : ((M2 : Int) ≤ (s.size : Int)) = True := eq_true (by omega)
  have j4 : N2 ≤ s.size := by omega
  obtain rfl : e = N2 := by omega
  clear hT hxh hD hDs hL q hne he hmin
  rcases hcm with ⟨rfl, rfl, rfl, rfl, rfl⟩ | ⟨rfl, rfl, rfl, rfl, rfl⟩ | ⟨rfl, rfl, rfl, rfl, rfl⟩
  all_goals
   go_enter Tryz.func189, Tryz.ntmps189
   go_wp2_with (first | (go_at_call 84; refine (strings_Trim.calls _ _ _ _ hG HT.out).mono ?_; rintro e w1 ⟨rfl, hb1⟩))
   go_ret3
   exact ⟨rfl, hb1⟩
 rw [if_pos q] at hd
 have HT := Lib.hid hT
 rw [hxh.2 q] at HT
 by_cases r : s.size - 2 < m
 ·
  rw [if_pos r] at hd
  rw [show hexE s.data.toList m = (0, 0, 4) by unfold hexE; rw [hd]; rfl]
  clear hd
  have hlt : decide (((s.size - 2 : Nat) : Int) < M0) = true := by simp; omega
  obtain rfl : e = s.size := by omega
  clear hT hxh hD hDs hL q he hmin i2 i3
  rcases hcm with ⟨rfl, rfl, rfl, rfl, rfl⟩ | ⟨rfl, rfl, rfl, rfl, rfl⟩ | ⟨rfl, rfl, rfl, rfl, rfl⟩
  all_goals
   go_enter Tryz.func189, Tryz.ntmps189
   go_wp2_with (first | (go_at_call 84; refine (strings_Trim.calls _ _ _ _ hG HT.out).mono ?_; rintro e w1 ⟨rfl, hb1⟩))
   go_ret3
   exact ⟨rfl, hb1⟩
 rw [if_neg r] at hd
 rw [show hexE s.data.toList m = if sgn (hexNum ((s.data.toList.drop 2).take m) 0) = true then (hexNum ((s.data.toList.drop 2).take m) 0, 2 + m, 0) else (0, 0, 3) by unfold hexE; rw [hd]; rfl]
 clear hd
 have j3 : ((M2 : Int) ≤ (s.size : Int)) = True := eq_true (by omega)
 have j4 : N2 ≤ s.size := by omega
 obtain rfl : e = N2 := by omega
 have hr := num_range ((s.data.toList.drop 2).take m) 0 q (by omega)
 rw [List.length_take, List.length_drop, ← hL, show min m (s.size - 2) = m by omega] at hr
 have hr2 : hexNum ((s.data.toList.drop 2).take m) 0 < 4294967296 := by
  rcases hcm with ⟨rfl, _⟩ | ⟨rfl, _⟩ | ⟨rfl, _⟩
  · have := hr.2; simp at this; omega
  · have := hr.2; simp at this; omega
  · have := hr.2; simp at this; omega
 have hr1 := hr.1
 have hP : strconv_ParseUint.f (s.extract 2 e) 16 64 = some (hexNum ((s.data.toList.drop 2).take m) 0, none) := by
  unfold strconv_ParseUint.f
  rw [if_pos ⟨by omega, by omega, by rw [hD]; exact q, rfl, rfl⟩, hD]
 have HP := Lib.hid hP
 have hE := enc_one (hexNum ((s.data.toList.drop 2).take m) 0)
 clear hT hxh hD hDs hL q hr hP he hmin
 obtain ⟨n, hn⟩ : ∃ n, n = hexNum ((s.data.toList.drop 2).take m) 0 := ⟨_, rfl⟩
 rw [← hn] at HP hE hr1 hr2 ⊢
 clear hn
 by_cases g : sgn n = true
 ·
  rw [if_pos g]
  rw [if_pos g] at hE
  have HE := Lib.hid hE
  clear hE g
  rcases hcm with ⟨rfl, rfl, rfl, rfl, rfl⟩ | ⟨rfl, rfl, rfl, rfl, rfl⟩ | ⟨rfl, rfl, rfl, rfl, rfl⟩
  all_goals
   go_enter Tryz.func189, Tryz.ntmps189
   go_wp2_with (first | (go_at_call 84; refine (strings_Trim.calls _ _ _ _ hG HT.out).mono ?_; rintro e w1 ⟨rfl, hb1⟩) | (go_at_call 204; refine (strconv_ParseUint.calls _ _ _ _ _ _ (hG.below hb1) HP.out).mono ?_; rintro e w2 ⟨rfl, hb2⟩) | (go_at_call 190; refine (utf_Encode.calls _ _ [n] _ _ _ (one_row n w2) (by simp) (hG.below ((hb1.trans (hb2.mono hb1.size)).alloc (Nat.le_trans hb1.size hb2.size) _)) HE.out).mono ?_; rintro e w3 ⟨rfl, hb3⟩))
   go_ret3
   exact ⟨rfl, ((hb1.trans (hb2.mono hb1.size)).alloc (Nat.le_trans hb1.size hb2.size) _).trans (hb3.mono (by have := hb1.size; have := hb2.size; simp; omega))⟩
 rw [if_neg g]
 rw [if_neg g] at hE
 have HE := Lib.hid hE
 clear hE g
 rcases hcm with ⟨rfl, rfl, rfl, rfl, rfl⟩ | ⟨rfl, rfl, rfl, rfl, rfl⟩ | ⟨rfl, rfl, rfl, rfl, rfl⟩
 all_goals
  go_enter Tryz.func189, Tryz.ntmps189
  go_wp2_with (first | (go_at_call 84; refine (strings_Trim.calls _ _ _ _ hG HT.out).mono ?_; rintro e w1 ⟨rfl, hb1⟩) | (go_at_call 204; refine (strconv_ParseUint.calls _ _ _ _ _ _ (hG.below hb1) HP.out).mono ?_; rintro e w2 ⟨rfl, hb2⟩) | (go_at_call 190; refine (utf_Encode.calls _ _ [n] _ _ _ (one_row n w2) (by simp) (hG.below ((hb1.trans (hb2.mono hb1.size)).alloc (Nat.le_trans hb1.size hb2.size) _)) HE.out).mono ?_; rintro e w3 ⟨rfl, hb3⟩))
  go_ret3
  exact ⟨rfl, ((hb1.trans (hb2.mono hb1.size)).alloc (Nat.le_trans hb1.size hb2.size) _).trans (hb3.mono (by have := hb1.size; have := hb2.size; simp; omega))⟩
def quote_escape.f (a0 : ByteArray) : Option (Int × Int × Int) := if a0.size ≤ 140737488351232 then some ((escB a0.data.toList).1, ((escB a0.data.toList).2.1 : Int), (escB a0.data.toList).2.2) else none
set_option maxHeartbeats 1600000 in
set_option maxRecDepth 100000 in
theorem quote_escape.calls (a0 : ByteArray) (r1 r2 r3 : Int) (w : World) (hG : Glob.G w) (h : quote_escape.f a0 = some (r1, r2, r3)) :
  Calls Tryz.prog 189 #[.string a0] w fun e w' => e = .returned (.tuple #[.int .i64 r1, .int .i64 r2, .int .i64 r3]) ∧ Below w.heap.size w w' := by
 unfold quote_escape.f at h
 by_cases hs : a0.size ≤ 140737488351232
 rotate_left
 · rw [if_neg hs] at h; cases h
 rw [if_pos hs] at h
 simp only [Option.some.injEq, Prod.mk.injEq] at h
 obtain ⟨rfl, rfl, rfl⟩ := h
 have hL := size_list a0
 have hlt := at_lt a0.data.toList 1
 have hx : ∀ h : 1 < a0.size, ((a0[1]'h).toNat : Int) = (at_ a0.data.toList 1 : Int) := fun h => by rw [← bt_at_]; exact bt_at a0 1 h
 have hE : escB a0.data.toList = if a0.size < 2 then (0, 0, 4) else
  if at_ a0.data.toList 1 = 34 ∨ at_ a0.data.toList 1 = 92 then ((at_ a0.data.toList 1 : Int), 2, 0) else if at_ a0.data.toList 1 = 110 then (10, 2, 0) else if at_ a0.data.toList 1 = 116 then (9, 2, 0) else if at_ a0.data.toList 1 = 114 then (13, 2, 0) else
  if at_ a0.data.toList 1 = 48 then (0, 2, 0) else if at_ a0.data.toList 1 = 120 then hexE a0.data.toList 2 else if at_ a0.data.toList 1 = 117 then hexE a0.data.toList 4 else if at_ a0.data.toList 1 = 85 then hexE a0.data.toList 8 else (0, 0, 3) := by
  unfold escB; rw [hL]
 by_cases h2 : a0.size < 2
 ·
  rw [hE, if_pos h2]
  have hc2 : decide ((a0.size : Int) < 2) = true := by simp; omega
  clear hE hx hL hlt hG
  go_enter Tryz.func189, Tryz.ntmps189
  go_wp2
  go_ret3
  exact ⟨rfl, Below.refl _ _⟩
 rw [if_neg h2] at hE
 have hc2 : decide ((a0.size : Int) < 2) = false := by simp; omega
 by_cases c7 : at_ a0.data.toList 1 = 120
 ·
  rw [c7] at hx
  rw [show escB a0.data.toList = hexE a0.data.toList 2 by rw [hE, c7]; rfl]
  exact esc_hex a0 w hG hs (by omega) 2 4 120 4 2 (.inl ⟨rfl, rfl, rfl, rfl, rfl⟩) hx
 by_cases c8 : at_ a0.data.toList 1 = 117
 ·
  rw [c8] at hx
  rw [show escB a0.data.toList = hexE a0.data.toList 4 by rw [hE, c8]; rfl]
  exact esc_hex a0 w hG hs (by omega) 4 6 117 6 4 (.inr (.inl ⟨rfl, rfl, rfl, rfl, rfl⟩)) hx
 by_cases c9 : at_ a0.data.toList 1 = 85
 ·
  rw [c9] at hx
  rw [show escB a0.data.toList = hexE a0.data.toList 8 by rw [hE, c9]; rfl]
  exact esc_hex a0 w hG hs (by omega) 8 10 85 10 8 (.inr (.inr ⟨rfl, rfl, rfl, rfl, rfl⟩)) hx
 rw [hE]
 clear hE hL hG hs
 have h2' : 2 ≤ a0.size := by omega
 generalize at_ a0.data.toList 1 = x at *
 by_cases c1 : x = 34
 ·
  subst c1
  go_enter Tryz.func189, Tryz.ntmps189
  go_wp2
  go_ret3
  exact ⟨rfl, Below.refl _ _⟩
 by_cases c2 : x = 92
 ·
  subst c2
  go_enter Tryz.func189, Tryz.ntmps189
  go_wp2
  go_ret3
  exact ⟨rfl, Below.refl _ _⟩
 by_cases c3 : x = 110
 ·
  subst c3
  go_enter Tryz.func189, Tryz.ntmps189
  go_wp2
  go_ret3
  exact ⟨rfl, Below.refl _ _⟩
 by_cases c4 : x = 116
 ·
  subst c4
  go_enter Tryz.func189, Tryz.ntmps189
  go_wp2
  go_ret3
  exact ⟨rfl, Below.refl _ _⟩
 by_cases c5 : x = 114
 ·
  subst c5
  go_enter Tryz.func189, Tryz.ntmps189
  go_wp2
  go_ret3
  exact ⟨rfl, Below.refl _ _⟩
 by_cases c6 : x = 48
 ·
  subst c6
  go_enter Tryz.func189, Tryz.ntmps189
  go_wp2
  go_ret3
  exact ⟨rfl, Below.refl _ _⟩
 rw [if_neg (show ¬ (x = 34 ∨ x = 92) by omega), if_neg c3, if_neg c4, if_neg c5, if_neg c6, if_neg c7, if_neg c8, if_neg c9]
 have b1 : ((x : Int) == 34) = false := by rw [beq_eq_false_iff_ne]; omega
 have b2 : ((x : Int) == 92) = false := by rw [beq_eq_false_iff_ne]; omega
 have b3 : ((x : Int) == 110) = false := by rw [beq_eq_false_iff_ne]; omega
 have b4 : ((x : Int) == 116) = false := by rw [beq_eq_false_iff_ne]; omega
 have b5 : ((x : Int) == 114) = false := by rw [beq_eq_false_iff_ne]; omega
 have b6 : ((x : Int) == 48) = false := by rw [beq_eq_false_iff_ne]; omega
 have b7 : ((x : Int) == 120) = false := by rw [beq_eq_false_iff_ne]; omega
 have b8 : ((x : Int) == 117) = false := by rw [beq_eq_false_iff_ne]; omega
 have b9 : ((x : Int) == 85) = false := by rw [beq_eq_false_iff_ne]; omega
 clear c1 c2 c3 c4 c5 c6 c7 c8 c9
 go_enter Tryz.func189, Tryz.ntmps189
 go_wp2
 go_ret3
 exact ⟨rfl, Below.refl _ _⟩
end Go.Proofs.YtiooacmplmcphaaGreatDoor.Plug
namespace Go.Proofs.YtiooacmplmcphaaGreatDoor.Plug
open RowKit YtiooacmplmcphaaGreatDoor YtiooacmplmcphaaGreatDoor.PX YtiooacmplmcphaaGreatDoor.Utf YtiooacmplmcphaaGreatDoorW.PrintWords YtiooacmplmcphaaGreatDoorW.PrintLast YtiooacmplmcphaaGreatDoorW.PrintMore
structure RdAt (w0 w : World) (g : Nat) (B : Nat) (o : Obj) (a : Int) (b : ByteArray) (c d : Int) (W : World) : Prop where
 is : IsS138 w0 W g a b c d
 bel : Below w0.heap.size w0 W
 keep : KeepBut w W g none
 ne : B ≠ g
 res : W.heap[B]? = some o
theorem RdAt.below {w0 w : World} {g B : Nat} {o : Obj} {a : Int} {b : ByteArray} {c d : Int} {W W' : World} (h : RdAt w0 w g B o a b c d W) (hb : Below W.heap.size W W') : RdAt w0 w g B o a b c d W' :=
  ⟨h.is.below hb, h.bel.trans (hb.mono h.bel.size), h.keep.trans (KeepBut.of_below hb g none) (.inl rfl), h.ne, (hb.block B (blk_lt h.res)).trans h.res⟩
theorem RdAt.drew {w0 w : World} {g B : Nat} {o : Obj} {a : Int} {b : ByteArray} {c d : Int} {W : World} (h : RdAt w0 w g B o a b c d W) : RdAt w0 w g B o a b c d W.drew := h.below (Below.drew (Below.refl _ _))
theorem RdAt.alloc {w0 w : World} {g B : Nat} {o : Obj} {a : Int} {b : ByteArray} {c d : Int} {W : World} (h : RdAt w0 w g B o a b c d W) (o' : Obj) : RdAt w0 w g B o a b c d (W.alloc o') := h.below ((Below.refl _ _).alloc (Nat.le_refl _) _)
theorem RdAt.cell0 {w0 w : World} {g B : Nat} {o : Obj} {a : Int} {b : ByteArray} {c d : Int} {W : World} (h : RdAt w0 w g B o a b c d W) : W.cell? ⟨g, 0, none⟩ = some (.int .i64 a) := cellS138_0 h.is.1
theorem RdAt.cell1 {w0 w : World} {g B : Nat} {o : Obj} {a : Int} {b : ByteArray} {c d : Int} {W : World} (h : RdAt w0 w g B o a b c d W) : W.cell? ⟨g, 1, none⟩ = some (.string b) := cellS138_1 h.is.1
theorem RdAt.set1 {w0 w : World} {g B : Nat} {o : Obj} {a : Int} {b : ByteArray} {c d : Int} {W : World} (h : RdAt w0 w g B o a b c d W) (x : ByteArray) : RdAt w0 w g B o a x c d (W.setCell ⟨g, 1, none⟩ (.string x)) :=
  ⟨h.is.set_1 x, h.bel.setCell h.is.ge _, h.keep.set_ 1 _, h.ne, by rw [Below.heap_setCell _ _ _ _ h.ne]; exact h.res⟩
theorem RdAt.wrong {w0 w : World} {g B : Nat} {o : Obj} {a : Int} {b : ByteArray} {c d : Int} {W : World} (h : RdAt w0 w g B o a b c d W) (hG : Glob.G w0) {n : Int} {r : Int × ByteArray × Int × Int} (hr : path_reader_wrong.f a b c d n = some r) :
  Calls Tryz.prog 99 #[.pointer (some ⟨g, 0, none⟩), .int .i64 n] W fun e w' => e = .returned (.tuple #[]) ∧ RdAt w0 w g B o r.1 r.2.1 r.2.2.1 r.2.2.2 w' :=
 (path_reader_wrong.calls g a b c d n r.1 r.2.1 r.2.2.1 r.2.2.2 w0 W h.is h.bel hG hr).mono fun _ _ ⟨e, i, b, k⟩ => ⟨e, i, b, h.keep.trans k (.inl rfl), h.ne, k.blk h.res h.ne (by simp)⟩
def isDig (b : UInt8) : Bool := decide (48 ≤ b.toNat) && decide (b.toNat ≤ 57)
def digN (l : List UInt8) : Nat := (l.takeWhile isDig).length
def numOf (l : List UInt8) : Int := match Lib.atoiAll l with
 | .ok v => v
 | .range => Lib.atoiSat l
 | _ => 0
def mostOf (l : List UInt8) : Int := if at_ l 0 = 48 then 1 else 6
def path_reader_index.f (s0_0 : Int) (s0_1 : ByteArray) (s0_2 : Int) (s0_3 : Int) : Option (ByteArray × Int × Bool × Int × ByteArray × Int × Int) :=
 if s0_1.size ≤ 140737488351232 then
  (if (mostOf (s0_1.data.toList.take (digN s0_1.data.toList))) < (digN s0_1.data.toList : Int) then path_reader_wrong.f s0_0 s0_1 s0_2 s0_3 (mostOf (s0_1.data.toList.take (digN s0_1.data.toList))) else some (s0_0, s0_1, s0_2, s0_3)).bind fun q =>
  if digN s0_1.data.toList = 0 ∨ digN s0_1.data.toList = s0_1.size ∨ at_ s0_1.data.toList (digN s0_1.data.toList) ≠ 93 then
   (path_reader_wrong.f q.1 q.2.1 q.2.2.1 q.2.2.2 (digN s0_1.data.toList : Int)).bind fun p => some (⟨#[]⟩, 0, false, p.1, p.2.1, p.2.2.1, p.2.2.2)
  else some (⟨#[]⟩, numOf (s0_1.data.toList.take (digN s0_1.data.toList)), true, q.1, s0_1.extract (digN s0_1.data.toList + 1) s0_1.size, q.2.2.1, q.2.2.2)
 else none
theorem dig_contains (b : UInt8) : ([48, 49, 50, 51, 52, 53, 54, 55, 56, 57] : List UInt8).contains b = isDig b := by
 have : ∀ n : Fin 256, ([48, 49, 50, 51, 52, 53, 54, 55, 56, 57] : List UInt8).contains (UInt8.ofNat n.val) = isDig (UInt8.ofNat n.val) := by decide +kernel
 have h := this ⟨b.toNat, UInt8.toNat_lt b⟩
 simpa using h
theorem dropWhile_len {α : Type} (p : α → Bool) (l : List α) : l.dropWhile p = l.drop (l.takeWhile p).length := by
 induction l with
 | nil => rfl
 | cons a l ih =>
  by_cases h : p a = true
  rotate_left
  · rw [List.dropWhile_cons_of_neg h, List.takeWhile_cons_of_neg h]; rfl
  rw [List.dropWhile_cons_of_pos h, List.takeWhile_cons_of_pos h, ih]; rfl
theorem digN_le (l : List UInt8) : digN l ≤ l.length := by
  unfold digN; exact (List.takeWhile_prefix (p := isDig)).length_le
theorem trim_dig (s : ByteArray) : strings_TrimLeft.f s ⟨#[48, 49, 50, 51, 52, 53, 54, 55, 56, 57]⟩ = some (s.extract (digN s.data.toList) s.size) := by
 unfold strings_TrimLeft.f
 rw [if_pos ⟨by decide, by decide⟩]
 have : Lib.trimLeftS s.data.toList (⟨#[48, 49, 50, 51, 52, 53, 54, 55, 56, 57]⟩ : ByteArray).data.toList = s.data.toList.drop (digN s.data.toList) := by
  unfold Lib.trimLeftS digN
  rw [← dropWhile_len]
  congr 1
  funext b
  exact dig_contains b
 rw [this]
 congr 1
 have h2 : (s.extract (digN s.data.toList) s.size).data.toList = s.data.toList.drop (digN s.data.toList) := by
  exact drop_list _ _
 cases he : s.extract (digN s.data.toList) s.size with
 | mk d => rw [he] at h2; simp only at h2; rw [← h2]
theorem prefix_zero (l : List UInt8) : Lib.hasPrefix l [48] = (at_ l 0 == 48) := by
 cases l with
 | nil => rfl
 | cons a l =>
  show ([48].isPrefixOf (a :: l)) = (a.toNat == 48)
  rw [List.isPrefixOf_cons_cons, List.isPrefixOf_nil_left, Bool.and_true, Bool.eq_iff_iff, beq_iff_eq, beq_iff_eq]
  exact ⟨fun e => by rw [← e]; rfl, fun e => UInt8.toNat_inj.1 (by rw [e]; rfl)⟩
theorem wrong_str {a : Int} {b : ByteArray} {c d n : Int} {q : Int × ByteArray × Int × Int} (h : path_reader_wrong.f a b c d n = some q) : q.2.1 = b := by
 unfold path_reader_wrong.f path_reader_fail.f at h
 split at h <;> exact congrArg (fun z => z.2.1) (Option.some.inj h).symm
theorem RdAt.ret {w0 w : World} {g B : Nat} {x0 x1 x2 : Value} {a : Int} {b : ByteArray} {c d : Int} {W : World} (h : RdAt w0 w g B (.cells #[x0, x1, x2] 98 (0, 0)) a b c d W) (h1 : w.heap.size ≤ B) (h2 : w0.heap.size ≤ B) (y0 y1 y2 : Value) :
  (((W.setCell ⟨B, 0, none⟩ y0).setCell ⟨B, 1, none⟩ y1).setCell ⟨B, 2, none⟩ y2).heap[B]? = some (.cells #[y0, y1, y2] 98 (0, 0)) ∧ IsS138 w0 (((W.setCell ⟨B, 0, none⟩ y0).setCell ⟨B, 1, none⟩ y1).setCell ⟨B, 2, none⟩ y2) g a b c d ∧
   Below w0.heap.size w0 (((W.setCell ⟨B, 0, none⟩ y0).setCell ⟨B, 1, none⟩ y1).setCell ⟨B, 2, none⟩ y2) ∧ KeepBut w (((W.setCell ⟨B, 0, none⟩ y0).setCell ⟨B, 1, none⟩ y1).setCell ⟨B, 2, none⟩ y2) g none := by
 have hne : g ≠ B := fun e => h.ne e.symm
 refine ⟨by simpa using blk_set (blk_set (blk_set h.res 0 y0) 1 y1) 2 y2, ((h.is.far (p := ⟨B, 0, none⟩) hne _).far (p := ⟨B, 1, none⟩) hne _).far (p := ⟨B, 2, none⟩) hne _, ((h.bel.setCell h2 _).setCell h2 _).setCell h2 _, keep_far (keep_far (keep_far h.keep h1 _) h1 _) h1 _⟩
theorem atoi_num (s : ByteArray) (w : World) (hG : Glob.G w) (hs : s.size ≤ 140737488351232) :
  Calls Tryz.prog 126 #[.string s] w fun e w' => ∃ err : Value, e = .returned (.tuple #[.int .i64 (numOf s.data.toList), err]) ∧ Below w.heap.size w w' := by
 unfold numOf
 rcases hc : Lib.atoiAll s.data.toList with v | _ | _
 · exact (atoi_ok s w hs v hc).mono fun e w' ⟨he, hb⟩ => ⟨_, he, hb⟩
 ·
  obtain ⟨tp, pp, hv⟩ := hG.syn
  exact (Any.strconv_Atoi_syntax_var Tryz.laysC172 s (by omega) hc tp pp w hv).mono fun e w' ⟨N, he, _, _, hb⟩ => ⟨_, he, hb⟩
 ·
  obtain ⟨tp, pp, hv⟩ := hG.rng
  exact (Tryz.strconv_Atoi_range_var s (by omega) hc tp pp w hv).mono fun e w' ⟨N, he, _, _, hb⟩ => ⟨_, he, hb⟩
set_option maxHeartbeats 1600000 in
set_option maxRecDepth 100000 in
theorem path_reader_index.calls (g : Nat) (s0_0 : Int) (s0_1 : ByteArray) (s0_2 : Int) (s0_3 : Int) (r1 : ByteArray) (r2 : Int) (r3 : Bool) (r4 : Int) (r5 : ByteArray) (r6 : Int) (r7 : Int) (w0 w : World) (hI : IsS138 w0 w g s0_0 s0_1 s0_2 s0_3) (hB : Below w0.heap.size w0 w) (hG : Glob.G w0) (h : path_reader_index.f s0_0 s0_1 s0_2 s0_3 = some (r1, r2, r3, r4, r5, r6, r7)) :
    Calls Tryz.prog 98 #[.pointer (some ⟨g, 0, none⟩)] w fun e w' => e = .returned (.agg #[.string r1, .int .i64 r2, .bool r3]) ∧ IsS138 w0 w' g r4 r5 r6 r7 ∧ Below w0.heap.size w0 w' ∧ KeepBut w w' g none := by
  unfold path_reader_index.f at h
  by_cases hs : s0_1.size ≤ 140737488351232
  case neg => rw [if_neg hs] at h; cases h
  rw [if_pos hs] at h
  obtain ⟨q, hq, h⟩ := Option.bind_eq_some_iff.1 h
  have hn := digN_le s0_1.data.toList
  rw [← size_list] at hn
  obtain ⟨u, hu, hul⟩ : ∃ u : ByteArray, strings_TrimLeft.f s0_1 ⟨#[48, 49, 50, 51, 52, 53, 54, 55, 56, 57]⟩ = some u ∧ u.size + digN s0_1.data.toList = s0_1.size := ⟨_, trim_dig s0_1, by
    rw [size_list, drop_list, List.length_drop, ← size_list]; omega⟩
  have hL := size_list s0_1
  obtain ⟨d, hd, hds⟩ : ∃ d : ByteArray, d = s0_1.extract 0 (digN s0_1.data.toList) ∧ d.data.toList = s0_1.data.toList.take (digN s0_1.data.toList) := ⟨_, rfl, by
    have := extract_list s0_1 0 (digN s0_1.data.toList)
    rw [List.drop_zero, Nat.sub_zero] at this
    exact this⟩
  rw [← hds] at hq
  generalize digN s0_1.data.toList = n at *
  have hdn : d.size = n := by rw [size_list, hds, List.length_take, ← hL]; omega
  have hR : RdAt w0 w g w.heap.size (.cells #[.string ⟨#[]⟩, .int .i64 0, .bool false] 98 (0, 0)) s0_0 s0_1 s0_2 s0_3 (w.alloc (.cells #[.string ⟨#[]⟩, .int .i64 0, .bool false] 98)) :=
    ⟨hI.alloc _, hB.trans (((Below.refl w.heap.size w).alloc (Nat.le_refl _) _).mono hB.size), KeepBut.of_below ((Below.refl w.heap.size w).alloc (Nat.le_refl _) _) g none, fun e => by have := hI.lt; omega, heap_alloc_new w _⟩
  have hG0 := Lib.hid hG
  have hc1 := hR.cell1
  have hRd := Lib.hid hR.drew
  have e1 : IntKind.i64.wrap ((s0_1.size : Int) - (u.size : Int)) = (n : Int) := by rw [show (s0_1.size : Int) - (u.size : Int) = (n : Int) by omega]; exact IntWalk.i64_in _ (by omega)
  have e2 : (0 : Int) ≤ (n : Int) := Int.natCast_nonneg n
  have e3 : (n : Int) ≤ (s0_1.size : Int) := by omega
  have HD := Lib.hid hd; have HDS := Lib.hid hds; have HQ := Lib.hid hq; have HH := Lib.hid h; have HL := Lib.hid hL; have HU := Lib.hid hul; have HDN := Lib.hid hdn; have HT := Lib.hid hu
  have HW0 := Lib.hid hB.size
  clear hd hds hq h hL hul hdn hu hI hB hG hR
  go_enter Tryz.func98, Tryz.ntmps98
  go_wp2
  go_region_held3 (fun W' => W'.cell? ⟨g, 1, none⟩ = some (.string s0_1)) (first | exact hc1 | exact (hRd.out.below hb2).cell1)
    ((go_at_call 124; refine (strings_TrimLeft.calls _ _ _ _ (hG0.out.below hRd.out.bel) HT.out).mono ?_; rintro e w2 ⟨rfl, hb2⟩))
  have hR2 := Lib.hid (hRd.out.below hb2)
  have hcell := hR2.out.cell1
  clear hc1 hb2 hRd
  obtain ⟨rest, hre⟩ : ∃ rest : ByteArray, s0_1.extract n s0_1.size = rest := ⟨_, rfl⟩
  have hrs : rest.size = s0_1.size - n := by rw [← hre, size_list, drop_list, List.length_drop, ← HL.out]
  have hrl : rest.data.toList = s0_1.data.toList.drop n := by rw [← hre]; exact drop_list _ _
  have hde : s0_1.extract 0 n = d := HD.out.symm
  have HRS := Lib.hid hrs; have HRL := Lib.hid hrl
  have hds2 : d.size = n := HDN.out
  have hD0 : ∀ b, (d.toList.isEmpty = b ↔ decide (n = 0) = b) := fun b => by
    have : d.toList.isEmpty = decide (n = 0) := by rw [Lib.toList_data, Bool.eq_iff_iff, List.isEmpty_iff, decide_eq_true_iff, ← List.length_eq_zero_iff, ← size_list, HDN.out]
    rw [this]
  have hR0 : ∀ b, (rest.toList.isEmpty = b ↔ decide (n = s0_1.size) = b) := fun b => by
    have : rest.toList.isEmpty = decide (n = s0_1.size) := by rw [Lib.toList_data, Bool.eq_iff_iff, List.isEmpty_iff, decide_eq_true_iff, ← List.length_eq_zero_iff, ← size_list, HRS.out]; omega
    rw [this]
  have HD0 := Lib.hid hD0; have HR0 := Lib.hid hR0
  have hx0 : ∀ h : 0 < rest.size, ((rest[0]'h).toNat : Int) = (at_ s0_1.data.toList n : Int) := fun h => by
    rw [← show bt rest ((0 : Nat) : Int) = (at_ s0_1.data.toList n : Int) by rw [bt_at_, HRL.out]; unfold at_; rw [List.getD_eq_getElem?_getD, List.getD_eq_getElem?_getD, List.getElem?_drop, Nat.add_zero]]
    exact bt_at rest ((0 : Nat) : Int) h
  have HX0 := Lib.hid hx0
  clear hrs hrl hD0 hR0 hx0 h
  generalize at_ s0_1.data.toList n = x at *
  by_cases hz : at_ d.data.toList 0 = 48
  · have HP : Hid (strings_HasPrefix.f d ⟨#[48]⟩ = some true) := Lib.hid (by unfold strings_HasPrefix.f; rw [show (⟨#[48]⟩ : ByteArray).data.toList = [48] from rfl, prefix_zero, hz]; rfl)
    have hmo : mostOf d.data.toList = 1 := by unfold mostOf; rw [if_pos hz]
    rw [hmo] at HQ; have HZ := Lib.hid hz; clear hmo hz
    by_cases cm : 1 < n
    · have HQ2 : Hid (path_reader_wrong.f s0_0 s0_1 s0_2 s0_3 1 = some q) := Lib.hid (by have := HQ.out; rwa [if_pos (by omega)] at this)
      have hqs : q.2.1 = s0_1 := wrong_str HQ2.out
      obtain ⟨qa, qb, qc, qd⟩ := q
      simp only at hqs; subst hqs
      have k4 : decide ((n : Int) > 1) = true := decide_eq_true (by omega)
      have HCM := Lib.hid cm; clear cm
      by_cases c0 : n = 0
      · have k0 : d.toList.isEmpty = true := (HD0.out _).2 (decide_eq_true c0)
        have HE := HH.out; rw [if_pos (by exact .inl c0)] at HE; obtain ⟨p, hp, HE⟩ := Option.bind_eq_some_iff.1 HE; obtain ⟨rfl, rfl, rfl, rfl, rfl, rfl, rfl⟩ := by simpa only [Option.some.injEq, Prod.mk.injEq] using HE
        have HPP := Lib.hid hp; clear HE HH hp
        have HC0 := Lib.hid c0; clear c0
        go_wp2_with (first | (go_at_call 125; refine (strings_HasPrefix.calls _ _ _ _ (hG0.out.below hR2.out.bel) HP.out).mono ?_; rintro e w3 ⟨rfl, ⟨n3, rfl⟩⟩; have hR3 := Lib.hid (hR2.out.below (Drawn0.below (Drawn0.step (Drawn0.refl w2) n3)))) | (go_at_call 99; with_reducible refine (hR3.out.wrong hG0.out HQ2.out).mono ?_; rintro e w4 ⟨rfl, hR4⟩; have hc4 := hR4.cell1; have HR4 := Lib.hid hR4; clear hR4) | (go_at_call 99; with_reducible refine (HR4.out.wrong hG0.out HPP.out).mono ?_; rintro e w6 ⟨rfl, hR6⟩; have p0 := (blk_cell hR6.res 0).trans rfl; have p1 := (blk_cell hR6.res 1).trans rfl; have p2 := (blk_cell hR6.res 2).trans rfl; have q0 := blk_frozen hR6.res 0; have q1 := blk_frozen hR6.res 1; have q2 := blk_frozen hR6.res 2; have HR6 := Lib.hid hR6; clear hR6))
        obtain ⟨z0, z1, z2, z3⟩ := HR6.out.ret (Nat.le_refl _) HW0.out (.string ⟨#[]⟩) (.int .i64 0) (.bool false)
        refine bodyPost_ret (results_cell_row rfl _ _ w.heap.size 98 #[.string ⟨#[]⟩, .int .i64 0, .bool false] (0, 0) _ rfl z0 Tryz.underlying98 rfl (by kernel_rfl)) rfl ?_
        exact ⟨rfl, z1, z2, z3⟩
      · by_cases c1 : n = qb.size
        · have k0 : d.toList.isEmpty = false := (HD0.out _).2 (decide_eq_false c0)
          have k1 : rest.toList.isEmpty = true := (HR0.out _).2 (decide_eq_true c1)
          have HE := HH.out; rw [if_pos (by exact .inr (.inl c1))] at HE; obtain ⟨p, hp, HE⟩ := Option.bind_eq_some_iff.1 HE; obtain ⟨rfl, rfl, rfl, rfl, rfl, rfl, rfl⟩ := by simpa only [Option.some.injEq, Prod.mk.injEq] using HE
          have HPP := Lib.hid hp; clear HE HH hp
          have HC0 := Lib.hid c0; have HC1 := Lib.hid c1; clear c0 c1
          go_wp2_with (first | (go_at_call 125; refine (strings_HasPrefix.calls _ _ _ _ (hG0.out.below hR2.out.bel) HP.out).mono ?_; rintro e w3 ⟨rfl, ⟨n3, rfl⟩⟩; have hR3 := Lib.hid (hR2.out.below (Drawn0.below (Drawn0.step (Drawn0.refl w2) n3)))) | (go_at_call 99; with_reducible refine (hR3.out.wrong hG0.out HQ2.out).mono ?_; rintro e w4 ⟨rfl, hR4⟩; have hc4 := hR4.cell1; have HR4 := Lib.hid hR4; clear hR4) | (go_at_call 99; with_reducible refine (HR4.out.wrong hG0.out HPP.out).mono ?_; rintro e w6 ⟨rfl, hR6⟩; have p0 := (blk_cell hR6.res 0).trans rfl; have p1 := (blk_cell hR6.res 1).trans rfl; have p2 := (blk_cell hR6.res 2).trans rfl; have q0 := blk_frozen hR6.res 0; have q1 := blk_frozen hR6.res 1; have q2 := blk_frozen hR6.res 2; have HR6 := Lib.hid hR6; clear hR6))
          obtain ⟨z0, z1, z2, z3⟩ := HR6.out.ret (Nat.le_refl _) HW0.out (.string ⟨#[]⟩) (.int .i64 0) (.bool false)
          refine bodyPost_ret (results_cell_row rfl _ _ w.heap.size 98 #[.string ⟨#[]⟩, .int .i64 0, .bool false] (0, 0) _ rfl z0 Tryz.underlying98 rfl (by kernel_rfl)) rfl ?_
          exact ⟨rfl, z1, z2, z3⟩
        · by_cases c2 : x = 93
          · have k0 : d.toList.isEmpty = false := (HD0.out _).2 (decide_eq_false c0)
            have k1 : rest.toList.isEmpty = false := (HR0.out _).2 (decide_eq_false c1)
            have k2 : 0 < rest.size := by have := HRS.out; omega
            have k3 := HX0.out
            have k6 : ((x : Int) == 93) = true := by rw [c2]; rfl
            have k7 : ((x : Int) != 93) = false := by rw [c2]; rfl
            have k5 : (n : Int) + 1 ≤ (qb.size : Int) := by omega
            have HE := HH.out; rw [if_neg (by rintro (e | e | e) <;> omega), ← HDS.out] at HE; obtain ⟨rfl, rfl, rfl, rfl, rfl, rfl, rfl⟩ := by simpa only [Option.some.injEq, Prod.mk.injEq] using HE
            clear HE HH
            have HC0 := Lib.hid c0; have HC1 := Lib.hid c1; have HC2 := Lib.hid c2; clear c0 c1 c2
            go_wp2_with (first | (go_at_call 125; refine (strings_HasPrefix.calls _ _ _ _ (hG0.out.below hR2.out.bel) HP.out).mono ?_; rintro e w3 ⟨rfl, ⟨n3, rfl⟩⟩; have hR3 := Lib.hid (hR2.out.below (Drawn0.below (Drawn0.step (Drawn0.refl w2) n3)))) | (go_at_call 99; with_reducible refine (hR3.out.wrong hG0.out HQ2.out).mono ?_; rintro e w4 ⟨rfl, hR4⟩; have hc4 := hR4.cell1; have HR4 := Lib.hid hR4; clear hR4) | (go_at_call 126; refine (atoi_num _ _ (hG0.out.below HR4.out.bel) (by have := HDN.out; omega)).mono ?_; rintro e w5 ⟨err, rfl, hb5⟩; have hR5 := Lib.hid (HR4.out.below hb5); have hc5 := hR5.out.cell1; have hf5 := blk_frozen hR5.out.is.1 1; have hR6 := Lib.hid (hR5.out.set1 (qb.extract (n + 1) qb.size)); have p0 := (blk_cell hR6.out.res 0).trans rfl; have p1 := (blk_cell hR6.out.res 1).trans rfl; have p2 := (blk_cell hR6.out.res 2).trans rfl; have q0 := blk_frozen hR6.out.res 0; have q1 := blk_frozen hR6.out.res 1; have q2 := blk_frozen hR6.out.res 2))
            obtain ⟨z0, z1, z2, z3⟩ := hR6.out.ret (Nat.le_refl _) HW0.out (.string ⟨#[]⟩) (.int .i64 (numOf d.data.toList)) (.bool true)
            refine bodyPost_ret (results_cell_row rfl _ _ w.heap.size 98 #[.string ⟨#[]⟩, .int .i64 (numOf d.data.toList), .bool true] (0, 0) _ rfl z0 Tryz.underlying98 rfl (by kernel_rfl)) rfl ?_
            exact ⟨rfl, z1, z2, z3⟩
          · have k0 : d.toList.isEmpty = false := (HD0.out _).2 (decide_eq_false c0)
            have k1 : rest.toList.isEmpty = false := (HR0.out _).2 (decide_eq_false c1)
            have k2 : 0 < rest.size := by have := HRS.out; omega
            have k3 := HX0.out
            have k6 : ((x : Int) == 93) = false := by rw [beq_eq_false_iff_ne]; omega
            have k7 : ((x : Int) != 93) = true := by rw [bne_iff_ne]; omega
            have HE := HH.out; rw [if_pos (by exact .inr (.inr c2))] at HE; obtain ⟨p, hp, HE⟩ := Option.bind_eq_some_iff.1 HE; obtain ⟨rfl, rfl, rfl, rfl, rfl, rfl, rfl⟩ := by simpa only [Option.some.injEq, Prod.mk.injEq] using HE
            have HPP := Lib.hid hp; clear HE HH hp
            have HC0 := Lib.hid c0; have HC1 := Lib.hid c1; have HC2 := Lib.hid c2; clear c0 c1 c2
            go_wp2_with (first | (go_at_call 125; refine (strings_HasPrefix.calls _ _ _ _ (hG0.out.below hR2.out.bel) HP.out).mono ?_; rintro e w3 ⟨rfl, ⟨n3, rfl⟩⟩; have hR3 := Lib.hid (hR2.out.below (Drawn0.below (Drawn0.step (Drawn0.refl w2) n3)))) | (go_at_call 99; with_reducible refine (hR3.out.wrong hG0.out HQ2.out).mono ?_; rintro e w4 ⟨rfl, hR4⟩; have hc4 := hR4.cell1; have HR4 := Lib.hid hR4; clear hR4) | (go_at_call 99; with_reducible refine (HR4.out.wrong hG0.out HPP.out).mono ?_; rintro e w6 ⟨rfl, hR6⟩; have p0 := (blk_cell hR6.res 0).trans rfl; have p1 := (blk_cell hR6.res 1).trans rfl; have p2 := (blk_cell hR6.res 2).trans rfl; have q0 := blk_frozen hR6.res 0; have q1 := blk_frozen hR6.res 1; have q2 := blk_frozen hR6.res 2; have HR6 := Lib.hid hR6; clear hR6))
            obtain ⟨z0, z1, z2, z3⟩ := HR6.out.ret (Nat.le_refl _) HW0.out (.string ⟨#[]⟩) (.int .i64 0) (.bool false)
            refine bodyPost_ret (results_cell_row rfl _ _ w.heap.size 98 #[.string ⟨#[]⟩, .int .i64 0, .bool false] (0, 0) _ rfl z0 Tryz.underlying98 rfl (by kernel_rfl)) rfl ?_
            exact ⟨rfl, z1, z2, z3⟩
    · have hq1 : q = (s0_0, s0_1, s0_2, s0_3) := by have := HQ.out; rw [if_neg (by omega)] at this; exact (Option.some.inj this).symm
      subst hq1
      have k4 : decide ((n : Int) > 1) = false := decide_eq_false (by omega)
      have HCM := Lib.hid cm; clear cm
      by_cases c0 : n = 0
      · have k0 : d.toList.isEmpty = true := (HD0.out _).2 (decide_eq_true c0)
        have HE := HH.out; rw [if_pos (by exact .inl c0)] at HE; obtain ⟨p, hp, HE⟩ := Option.bind_eq_some_iff.1 HE; obtain ⟨rfl, rfl, rfl, rfl, rfl, rfl, rfl⟩ := by simpa only [Option.some.injEq, Prod.mk.injEq] using HE
        have HPP := Lib.hid hp; clear HE HH hp
        have HC0 := Lib.hid c0; clear c0
        go_wp2_with (first | (go_at_call 125; refine (strings_HasPrefix.calls _ _ _ _ (hG0.out.below hR2.out.bel) HP.out).mono ?_; rintro e w3 ⟨rfl, ⟨n3, rfl⟩⟩; have hR3 := Lib.hid (hR2.out.below (Drawn0.below (Drawn0.step (Drawn0.refl w2) n3)))) | (go_at_call 99; with_reducible refine (hR3.out.wrong hG0.out HPP.out).mono ?_; rintro e w6 ⟨rfl, hR6⟩; have p0 := (blk_cell hR6.res 0).trans rfl; have p1 := (blk_cell hR6.res 1).trans rfl; have p2 := (blk_cell hR6.res 2).trans rfl; have q0 := blk_frozen hR6.res 0; have q1 := blk_frozen hR6.res 1; have q2 := blk_frozen hR6.res 2; have HR6 := Lib.hid hR6; clear hR6))
        obtain ⟨z0, z1, z2, z3⟩ := HR6.out.ret (Nat.le_refl _) HW0.out (.string ⟨#[]⟩) (.int .i64 0) (.bool false)
        refine bodyPost_ret (results_cell_row rfl _ _ w.heap.size 98 #[.string ⟨#[]⟩, .int .i64 0, .bool false] (0, 0) _ rfl z0 Tryz.underlying98 rfl (by kernel_rfl)) rfl ?_
        exact ⟨rfl, z1, z2, z3⟩
      · by_cases c1 : n = s0_1.size
        · have k0 : d.toList.isEmpty = false := (HD0.out _).2 (decide_eq_false c0)
          have k1 : rest.toList.isEmpty = true := (HR0.out _).2 (decide_eq_true c1)
          have HE := HH.out; rw [if_pos (by exact .inr (.inl c1))] at HE; obtain ⟨p, hp, HE⟩ := Option.bind_eq_some_iff.1 HE; obtain ⟨rfl, rfl, rfl, rfl, rfl, rfl, rfl⟩ := by simpa only [Option.some.injEq, Prod.mk.injEq] using HE
          have HPP := Lib.hid hp; clear HE HH hp
          have HC0 := Lib.hid c0; have HC1 := Lib.hid c1; clear c0 c1
          go_wp2_with (first | (go_at_call 125; refine (strings_HasPrefix.calls _ _ _ _ (hG0.out.below hR2.out.bel) HP.out).mono ?_; rintro e w3 ⟨rfl, ⟨n3, rfl⟩⟩; have hR3 := Lib.hid (hR2.out.below (Drawn0.below (Drawn0.step (Drawn0.refl w2) n3)))) | (go_at_call 99; with_reducible refine (hR3.out.wrong hG0.out HPP.out).mono ?_; rintro e w6 ⟨rfl, hR6⟩; have p0 := (blk_cell hR6.res 0).trans rfl; have p1 := (blk_cell hR6.res 1).trans rfl; have p2 := (blk_cell hR6.res 2).trans rfl; have q0 := blk_frozen hR6.res 0; have q1 := blk_frozen hR6.res 1; have q2 := blk_frozen hR6.res 2; have HR6 := Lib.hid hR6; clear hR6))
          obtain ⟨z0, z1, z2, z3⟩ := HR6.out.ret (Nat.le_refl _) HW0.out (.string ⟨#[]⟩) (.int .i64 0) (.bool false)
          refine bodyPost_ret (results_cell_row rfl _ _ w.heap.size 98 #[.string ⟨#[]⟩, .int .i64 0, .bool false] (0, 0) _ rfl z0 Tryz.underlying98 rfl (by kernel_rfl)) rfl ?_
          exact ⟨rfl, z1, z2, z3⟩
        · by_cases c2 : x = 93
          · have k0 : d.toList.isEmpty = false := (HD0.out _).2 (decide_eq_false c0)
            have k1 : rest.toList.isEmpty = false := (HR0.out _).2 (decide_eq_false c1)
            have k2 : 0 < rest.size := by have := HRS.out; omega
            have k3 := HX0.out
            have k6 : ((x : Int) == 93) = true := by rw [c2]; rfl
            have k7 : ((x : Int) != 93) = false := by rw [c2]; rfl
            have k5 : (n : Int) + 1 ≤ (s0_1.size : Int) := by omega
            have HE := HH.out; rw [if_neg (by rintro (e | e | e) <;> omega), ← HDS.out] at HE; obtain ⟨rfl, rfl, rfl, rfl, rfl, rfl, rfl⟩ := by simpa only [Option.some.injEq, Prod.mk.injEq] using HE
            clear HE HH
            have HC0 := Lib.hid c0; have HC1 := Lib.hid c1; have HC2 := Lib.hid c2; clear c0 c1 c2
            go_wp2_with (first | (go_at_call 125; refine (strings_HasPrefix.calls _ _ _ _ (hG0.out.below hR2.out.bel) HP.out).mono ?_; rintro e w3 ⟨rfl, ⟨n3, rfl⟩⟩; have hR3 := Lib.hid (hR2.out.below (Drawn0.below (Drawn0.step (Drawn0.refl w2) n3)))) | (go_at_call 126; refine (atoi_num _ _ (hG0.out.below hR3.out.bel) (by have := HDN.out; omega)).mono ?_; rintro e w5 ⟨err, rfl, hb5⟩; have hR5 := Lib.hid (hR3.out.below hb5); have hc5 := hR5.out.cell1; have hf5 := blk_frozen hR5.out.is.1 1; have hR6 := Lib.hid (hR5.out.set1 (s0_1.extract (n + 1) s0_1.size)); have p0 := (blk_cell hR6.out.res 0).trans rfl; have p1 := (blk_cell hR6.out.res 1).trans rfl; have p2 := (blk_cell hR6.out.res 2).trans rfl; have q0 := blk_frozen hR6.out.res 0; have q1 := blk_frozen hR6.out.res 1; have q2 := blk_frozen hR6.out.res 2))
            obtain ⟨z0, z1, z2, z3⟩ := hR6.out.ret (Nat.le_refl _) HW0.out (.string ⟨#[]⟩) (.int .i64 (numOf d.data.toList)) (.bool true)
            refine bodyPost_ret (results_cell_row rfl _ _ w.heap.size 98 #[.string ⟨#[]⟩, .int .i64 (numOf d.data.toList), .bool true] (0, 0) _ rfl z0 Tryz.underlying98 rfl (by kernel_rfl)) rfl ?_
            exact ⟨rfl, z1, z2, z3⟩
          · have k0 : d.toList.isEmpty = false := (HD0.out _).2 (decide_eq_false c0)
            have k1 : rest.toList.isEmpty = false := (HR0.out _).2 (decide_eq_false c1)
            have k2 : 0 < rest.size := by have := HRS.out; omega
            have k3 := HX0.out
            have k6 : ((x : Int) == 93) = false := by rw [beq_eq_false_iff_ne]; omega
            have k7 : ((x : Int) != 93) = true := by rw [bne_iff_ne]; omega
            have HE := HH.out; rw [if_pos (by exact .inr (.inr c2))] at HE; obtain ⟨p, hp, HE⟩ := Option.bind_eq_some_iff.1 HE; obtain ⟨rfl, rfl, rfl, rfl, rfl, rfl, rfl⟩ := by simpa only [Option.some.injEq, Prod.mk.injEq] using HE
            have HPP := Lib.hid hp; clear HE HH hp
            have HC0 := Lib.hid c0; have HC1 := Lib.hid c1; have HC2 := Lib.hid c2; clear c0 c1 c2
            go_wp2_with (first | (go_at_call 125; refine (strings_HasPrefix.calls _ _ _ _ (hG0.out.below hR2.out.bel) HP.out).mono ?_; rintro e w3 ⟨rfl, ⟨n3, rfl⟩⟩; have hR3 := Lib.hid (hR2.out.below (Drawn0.below (Drawn0.step (Drawn0.refl w2) n3)))) | (go_at_call 99; with_reducible refine (hR3.out.wrong hG0.out HPP.out).mono ?_; rintro e w6 ⟨rfl, hR6⟩; have p0 := (blk_cell hR6.res 0).trans rfl; have p1 := (blk_cell hR6.res 1).trans rfl; have p2 := (blk_cell hR6.res 2).trans rfl; have q0 := blk_frozen hR6.res 0; have q1 := blk_frozen hR6.res 1; have q2 := blk_frozen hR6.res 2; have HR6 := Lib.hid hR6; clear hR6))
            obtain ⟨z0, z1, z2, z3⟩ := HR6.out.ret (Nat.le_refl _) HW0.out (.string ⟨#[]⟩) (.int .i64 0) (.bool false)
            refine bodyPost_ret (results_cell_row rfl _ _ w.heap.size 98 #[.string ⟨#[]⟩, .int .i64 0, .bool false] (0, 0) _ rfl z0 Tryz.underlying98 rfl (by kernel_rfl)) rfl ?_
            exact ⟨rfl, z1, z2, z3⟩
  · have HP : Hid (strings_HasPrefix.f d ⟨#[48]⟩ = some false) := Lib.hid (by unfold strings_HasPrefix.f; rw [show (⟨#[48]⟩ : ByteArray).data.toList = [48] from rfl, prefix_zero, beq_eq_false_iff_ne.2 hz])
    have hmo : mostOf d.data.toList = 6 := by unfold mostOf; rw [if_neg hz]
    rw [hmo] at HQ; have HZ := Lib.hid hz; clear hmo hz
    by_cases cm : 6 < n
    · have HQ2 : Hid (path_reader_wrong.f s0_0 s0_1 s0_2 s0_3 6 = some q) := Lib.hid (by have := HQ.out; rwa [if_pos (by omega)] at this)
      have hqs : q.2.1 = s0_1 := wrong_str HQ2.out
      obtain ⟨qa, qb, qc, qd⟩ := q
      simp only at hqs; subst hqs
      have k4 : decide ((n : Int) > 6) = true := decide_eq_true (by omega)
      have HCM := Lib.hid cm; clear cm
      by_cases c0 : n = 0
      · have k0 : d.toList.isEmpty = true := (HD0.out _).2 (decide_eq_true c0)
        have HE := HH.out; rw [if_pos (by exact .inl c0)] at HE; obtain ⟨p, hp, HE⟩ := Option.bind_eq_some_iff.1 HE; obtain ⟨rfl, rfl, rfl, rfl, rfl, rfl, rfl⟩ := by simpa only [Option.some.injEq, Prod.mk.injEq] using HE
        have HPP := Lib.hid hp; clear HE HH hp
        have HC0 := Lib.hid c0; clear c0
        go_wp2_with (first | (go_at_call 125; refine (strings_HasPrefix.calls _ _ _ _ (hG0.out.below hR2.out.bel) HP.out).mono ?_; rintro e w3 ⟨rfl, ⟨n3, rfl⟩⟩; have hR3 := Lib.hid (hR2.out.below (Drawn0.below (Drawn0.step (Drawn0.refl w2) n3)))) | (go_at_call 99; with_reducible refine (hR3.out.wrong hG0.out HQ2.out).mono ?_; rintro e w4 ⟨rfl, hR4⟩; have hc4 := hR4.cell1; have HR4 := Lib.hid hR4; clear hR4) | (go_at_call 99; with_reducible refine (HR4.out.wrong hG0.out HPP.out).mono ?_; rintro e w6 ⟨rfl, hR6⟩; have p0 := (blk_cell hR6.res 0).trans rfl; have p1 := (blk_cell hR6.res 1).trans rfl; have p2 := (blk_cell hR6.res 2).trans rfl; have q0 := blk_frozen hR6.res 0; have q1 := blk_frozen hR6.res 1; have q2 := blk_frozen hR6.res 2; have HR6 := Lib.hid hR6; clear hR6))
        obtain ⟨z0, z1, z2, z3⟩ := HR6.out.ret (Nat.le_refl _) HW0.out (.string ⟨#[]⟩) (.int .i64 0) (.bool false)
        refine bodyPost_ret (results_cell_row rfl _ _ w.heap.size 98 #[.string ⟨#[]⟩, .int .i64 0, .bool false] (0, 0) _ rfl z0 Tryz.underlying98 rfl (by kernel_rfl)) rfl ?_
        exact ⟨rfl, z1, z2, z3⟩
      · by_cases c1 : n = qb.size
        · have k0 : d.toList.isEmpty = false := (HD0.out _).2 (decide_eq_false c0)
          have k1 : rest.toList.isEmpty = true := (HR0.out _).2 (decide_eq_true c1)
          have HE := HH.out; rw [if_pos (by exact .inr (.inl c1))] at HE; obtain ⟨p, hp, HE⟩ := Option.bind_eq_some_iff.1 HE; obtain ⟨rfl, rfl, rfl, rfl, rfl, rfl, rfl⟩ := by simpa only [Option.some.injEq, Prod.mk.injEq] using HE
          have HPP := Lib.hid hp; clear HE HH hp
          have HC0 := Lib.hid c0; have HC1 := Lib.hid c1; clear c0 c1
          go_wp2_with (first | (go_at_call 125; refine (strings_HasPrefix.calls _ _ _ _ (hG0.out.below hR2.out.bel) HP.out).mono ?_; rintro e w3 ⟨rfl, ⟨n3, rfl⟩⟩; have hR3 := Lib.hid (hR2.out.below (Drawn0.below (Drawn0.step (Drawn0.refl w2) n3)))) | (go_at_call 99; with_reducible refine (hR3.out.wrong hG0.out HQ2.out).mono ?_; rintro e w4 ⟨rfl, hR4⟩; have hc4 := hR4.cell1; have HR4 := Lib.hid hR4; clear hR4) | (go_at_call 99; with_reducible refine (HR4.out.wrong hG0.out HPP.out).mono ?_; rintro e w6 ⟨rfl, hR6⟩; have p0 := (blk_cell hR6.res 0).trans rfl; have p1 := (blk_cell hR6.res 1).trans rfl; have p2 := (blk_cell hR6.res 2).trans rfl; have q0 := blk_frozen hR6.res 0; have q1 := blk_frozen hR6.res 1; have q2 := blk_frozen hR6.res 2; have HR6 := Lib.hid hR6; clear hR6))
          obtain ⟨z0, z1, z2, z3⟩ := HR6.out.ret (Nat.le_refl _) HW0.out (.string ⟨#[]⟩) (.int .i64 0) (.bool false)
          refine bodyPost_ret (results_cell_row rfl _ _ w.heap.size 98 #[.string ⟨#[]⟩, .int .i64 0, .bool false] (0, 0) _ rfl z0 Tryz.underlying98 rfl (by kernel_rfl)) rfl ?_
          exact ⟨rfl, z1, z2, z3⟩
        · by_cases c2 : x = 93
          · have k0 : d.toList.isEmpty = false := (HD0.out _).2 (decide_eq_false c0)
            have k1 : rest.toList.isEmpty = false := (HR0.out _).2 (decide_eq_false c1)
            have k2 : 0 < rest.size := by have := HRS.out; omega
            have k3 := HX0.out
            have k6 : ((x : Int) == 93) = true := by rw [c2]; rfl
            have k7 : ((x : Int) != 93) = false := by rw [c2]; rfl
            have k5 : (n : Int) + 1 ≤ (qb.size : Int) := by omega
            have HE := HH.out; rw [if_neg (by rintro (e | e | e) <;> omega), ← HDS.out] at HE; obtain ⟨rfl, rfl, rfl, rfl, rfl, rfl, rfl⟩ := by simpa only [Option.some.injEq, Prod.mk.injEq] using HE
            clear HE HH
            have HC0 := Lib.hid c0; have HC1 := Lib.hid c1; have HC2 := Lib.hid c2; clear c0 c1 c2
            go_wp2_with (first | (go_at_call 125; refine (strings_HasPrefix.calls _ _ _ _ (hG0.out.below hR2.out.bel) HP.out).mono ?_; rintro e w3 ⟨rfl, ⟨n3, rfl⟩⟩; have hR3 := Lib.hid (hR2.out.below (Drawn0.below (Drawn0.step (Drawn0.refl w2) n3)))) | (go_at_call 99; with_reducible refine (hR3.out.wrong hG0.out HQ2.out).mono ?_; rintro e w4 ⟨rfl, hR4⟩; have hc4 := hR4.cell1; have HR4 := Lib.hid hR4; clear hR4) | (go_at_call 126; refine (atoi_num _ _ (hG0.out.below HR4.out.bel) (by have := HDN.out; omega)).mono ?_; rintro e w5 ⟨err, rfl, hb5⟩; have hR5 := Lib.hid (HR4.out.below hb5); have hc5 := hR5.out.cell1; have hf5 := blk_frozen hR5.out.is.1 1; have hR6 := Lib.hid (hR5.out.set1 (qb.extract (n + 1) qb.size)); have p0 := (blk_cell hR6.out.res 0).trans rfl; have p1 := (blk_cell hR6.out.res 1).trans rfl; have p2 := (blk_cell hR6.out.res 2).trans rfl; have q0 := blk_frozen hR6.out.res 0; have q1 := blk_frozen hR6.out.res 1; have q2 := blk_frozen hR6.out.res 2))
            obtain ⟨z0, z1, z2, z3⟩ := hR6.out.ret (Nat.le_refl _) HW0.out (.string ⟨#[]⟩) (.int .i64 (numOf d.data.toList)) (.bool true)
            refine bodyPost_ret (results_cell_row rfl _ _ w.heap.size 98 #[.string ⟨#[]⟩, .int .i64 (numOf d.data.toList), .bool true] (0, 0) _ rfl z0 Tryz.underlying98 rfl (by kernel_rfl)) rfl ?_
            exact ⟨rfl, z1, z2, z3⟩
          · have k0 : d.toList.isEmpty = false := (HD0.out _).2 (decide_eq_false c0)
            have k1 : rest.toList.isEmpty = false := (HR0.out _).2 (decide_eq_false c1)
            have k2 : 0 < rest.size := by have := HRS.out; omega
            have k3 := HX0.out
            have k6 : ((x : Int) == 93) = false := by rw [beq_eq_false_iff_ne]; omega
            have k7 : ((x : Int) != 93) = true := by rw [bne_iff_ne]; omega
            have HE := HH.out; rw [if_pos (by exact .inr (.inr c2))] at HE; obtain ⟨p, hp, HE⟩ := Option.bind_eq_some_iff.1 HE; obtain ⟨rfl, rfl, rfl, rfl, rfl, rfl, rfl⟩ := by simpa only [Option.some.injEq, Prod.mk.injEq] using HE
            have HPP := Lib.hid hp; clear HE HH hp
            have HC0 := Lib.hid c0; have HC1 := Lib.hid c1; have HC2 := Lib.hid c2; clear c0 c1 c2
            go_wp2_with (first | (go_at_call 125; refine (strings_HasPrefix.calls _ _ _ _ (hG0.out.below hR2.out.bel) HP.out).mono ?_; rintro e w3 ⟨rfl, ⟨n3, rfl⟩⟩; have hR3 := Lib.hid (hR2.out.below (Drawn0.below (Drawn0.step (Drawn0.refl w2) n3)))) | (go_at_call 99; with_reducible refine (hR3.out.wrong hG0.out HQ2.out).mono ?_; rintro e w4 ⟨rfl, hR4⟩; have hc4 := hR4.cell1; have HR4 := Lib.hid hR4; clear hR4) | (go_at_call 99; with_reducible refine (HR4.out.wrong hG0.out HPP.out).mono ?_; rintro e w6 ⟨rfl, hR6⟩; have p0 := (blk_cell hR6.res 0).trans rfl; have p1 := (blk_cell hR6.res 1).trans rfl; have p2 := (blk_cell hR6.res 2).trans rfl; have q0 := blk_frozen hR6.res 0; have q1 := blk_frozen hR6.res 1; have q2 := blk_frozen hR6.res 2; have HR6 := Lib.hid hR6; clear hR6))
            obtain ⟨z0, z1, z2, z3⟩ := HR6.out.ret (Nat.le_refl _) HW0.out (.string ⟨#[]⟩) (.int .i64 0) (.bool false)
            refine bodyPost_ret (results_cell_row rfl _ _ w.heap.size 98 #[.string ⟨#[]⟩, .int .i64 0, .bool false] (0, 0) _ rfl z0 Tryz.underlying98 rfl (by kernel_rfl)) rfl ?_
            exact ⟨rfl, z1, z2, z3⟩
    · have hq1 : q = (s0_0, s0_1, s0_2, s0_3) := by have := HQ.out; rw [if_neg (by omega)] at this; exact (Option.some.inj this).symm
      subst hq1
      have k4 : decide ((n : Int) > 6) = false := decide_eq_false (by omega)
      have HCM := Lib.hid cm; clear cm
      by_cases c0 : n = 0
      · have k0 : d.toList.isEmpty = true := (HD0.out _).2 (decide_eq_true c0)
        have HE := HH.out; rw [if_pos (by exact .inl c0)] at HE; obtain ⟨p, hp, HE⟩ := Option.bind_eq_some_iff.1 HE; obtain ⟨rfl, rfl, rfl, rfl, rfl, rfl, rfl⟩ := by simpa only [Option.some.injEq, Prod.mk.injEq] using HE
        have HPP := Lib.hid hp; clear HE HH hp
        have HC0 := Lib.hid c0; clear c0
        go_wp2_with (first | (go_at_call 125; refine (strings_HasPrefix.calls _ _ _ _ (hG0.out.below hR2.out.bel) HP.out).mono ?_; rintro e w3 ⟨rfl, ⟨n3, rfl⟩⟩; have hR3 := Lib.hid (hR2.out.below (Drawn0.below (Drawn0.step (Drawn0.refl w2) n3)))) | (go_at_call 99; with_reducible refine (hR3.out.wrong hG0.out HPP.out).mono ?_; rintro e w6 ⟨rfl, hR6⟩; have p0 := (blk_cell hR6.res 0).trans rfl; have p1 := (blk_cell hR6.res 1).trans rfl; have p2 := (blk_cell hR6.res 2).trans rfl; have q0 := blk_frozen hR6.res 0; have q1 := blk_frozen hR6.res 1; have q2 := blk_frozen hR6.res 2; have HR6 := Lib.hid hR6; clear hR6))
        obtain ⟨z0, z1, z2, z3⟩ := HR6.out.ret (Nat.le_refl _) HW0.out (.string ⟨#[]⟩) (.int .i64 0) (.bool false)
        refine bodyPost_ret (results_cell_row rfl _ _ w.heap.size 98 #[.string ⟨#[]⟩, .int .i64 0, .bool false] (0, 0) _ rfl z0 Tryz.underlying98 rfl (by kernel_rfl)) rfl ?_
        exact ⟨rfl, z1, z2, z3⟩
      · by_cases c1 : n = s0_1.size
        · have k0 : d.toList.isEmpty = false := (HD0.out _).2 (decide_eq_false c0)
          have k1 : rest.toList.isEmpty = true := (HR0.out _).2 (decide_eq_true c1)
          have HE := HH.out; rw [if_pos (by exact .inr (.inl c1))] at HE; obtain ⟨p, hp, HE⟩ := Option.bind_eq_some_iff.1 HE; obtain ⟨rfl, rfl, rfl, rfl, rfl, rfl, rfl⟩ := by simpa only [Option.some.injEq, Prod.mk.injEq] using HE
          have HPP := Lib.hid hp; clear HE HH hp
          have HC0 := Lib.hid c0; have HC1 := Lib.hid c1; clear c0 c1
          go_wp2_with (first | (go_at_call 125; refine (strings_HasPrefix.calls _ _ _ _ (hG0.out.below hR2.out.bel) HP.out).mono ?_; rintro e w3 ⟨rfl, ⟨n3, rfl⟩⟩; have hR3 := Lib.hid (hR2.out.below (Drawn0.below (Drawn0.step (Drawn0.refl w2) n3)))) | (go_at_call 99; with_reducible refine (hR3.out.wrong hG0.out HPP.out).mono ?_; rintro e w6 ⟨rfl, hR6⟩; have p0 := (blk_cell hR6.res 0).trans rfl; have p1 := (blk_cell hR6.res 1).trans rfl; have p2 := (blk_cell hR6.res 2).trans rfl; have q0 := blk_frozen hR6.res 0; have q1 := blk_frozen hR6.res 1; have q2 := blk_frozen hR6.res 2; have HR6 := Lib.hid hR6; clear hR6))
          obtain ⟨z0, z1, z2, z3⟩ := HR6.out.ret (Nat.le_refl _) HW0.out (.string ⟨#[]⟩) (.int .i64 0) (.bool false)
          refine bodyPost_ret (results_cell_row rfl _ _ w.heap.size 98 #[.string ⟨#[]⟩, .int .i64 0, .bool false] (0, 0) _ rfl z0 Tryz.underlying98 rfl (by kernel_rfl)) rfl ?_
          exact ⟨rfl, z1, z2, z3⟩
        · by_cases c2 : x = 93
          · have k0 : d.toList.isEmpty = false := (HD0.out _).2 (decide_eq_false c0)
            have k1 : rest.toList.isEmpty = false := (HR0.out _).2 (decide_eq_false c1)
            have k2 : 0 < rest.size := by have := HRS.out; omega
            have k3 := HX0.out
            have k6 : ((x : Int) == 93) = true := by rw [c2]; rfl
            have k7 : ((x : Int) != 93) = false := by rw [c2]; rfl
            have k5 : (n : Int) + 1 ≤ (s0_1.size : Int) := by omega
            have HE := HH.out; rw [if_neg (by rintro (e | e | e) <;> omega), ← HDS.out] at HE; obtain ⟨rfl, rfl, rfl, rfl, rfl, rfl, rfl⟩ := by simpa only [Option.some.injEq, Prod.mk.injEq] using HE
            clear HE HH
            have HC0 := Lib.hid c0; have HC1 := Lib.hid c1; have HC2 := Lib.hid c2; clear c0 c1 c2
            go_wp2_with (first | (go_at_call 125; refine (strings_HasPrefix.calls _ _ _ _ (hG0.out.below hR2.out.bel) HP.out).mono ?_; rintro e w3 ⟨rfl, ⟨n3, rfl⟩⟩; have hR3 := Lib.hid (hR2.out.below (Drawn0.below (Drawn0.step (Drawn0.refl w2) n3)))) | (go_at_call 126; refine (atoi_num _ _ (hG0.out.below hR3.out.bel) (by have := HDN.out; omega)).mono ?_; rintro e w5 ⟨err, rfl, hb5⟩; have hR5 := Lib.hid (hR3.out.below hb5); have hc5 := hR5.out.cell1; have hf5 := blk_frozen hR5.out.is.1 1; have hR6 := Lib.hid (hR5.out.set1 (s0_1.extract (n + 1) s0_1.size)); have p0 := (blk_cell hR6.out.res 0).trans rfl; have p1 := (blk_cell hR6.out.res 1).trans rfl; have p2 := (blk_cell hR6.out.res 2).trans rfl; have q0 := blk_frozen hR6.out.res 0; have q1 := blk_frozen hR6.out.res 1; have q2 := blk_frozen hR6.out.res 2))
            obtain ⟨z0, z1, z2, z3⟩ := hR6.out.ret (Nat.le_refl _) HW0.out (.string ⟨#[]⟩) (.int .i64 (numOf d.data.toList)) (.bool true)
            refine bodyPost_ret (results_cell_row rfl _ _ w.heap.size 98 #[.string ⟨#[]⟩, .int .i64 (numOf d.data.toList), .bool true] (0, 0) _ rfl z0 Tryz.underlying98 rfl (by kernel_rfl)) rfl ?_
            exact ⟨rfl, z1, z2, z3⟩
          · have k0 : d.toList.isEmpty = false := (HD0.out _).2 (decide_eq_false c0)
            have k1 : rest.toList.isEmpty = false := (HR0.out _).2 (decide_eq_false c1)
            have k2 : 0 < rest.size := by have := HRS.out; omega
            have k3 := HX0.out
            have k6 : ((x : Int) == 93) = false := by rw [beq_eq_false_iff_ne]; omega
            have k7 : ((x : Int) != 93) = true := by rw [bne_iff_ne]; omega
            have HE := HH.out; rw [if_pos (by exact .inr (.inr c2))] at HE; obtain ⟨p, hp, HE⟩ := Option.bind_eq_some_iff.1 HE; obtain ⟨rfl, rfl, rfl, rfl, rfl, rfl, rfl⟩ := by simpa only [Option.some.injEq, Prod.mk.injEq] using HE
            have HPP := Lib.hid hp; clear HE HH hp
            have HC0 := Lib.hid c0; have HC1 := Lib.hid c1; have HC2 := Lib.hid c2; clear c0 c1 c2
            go_wp2_with (first | (go_at_call 125; refine (strings_HasPrefix.calls _ _ _ _ (hG0.out.below hR2.out.bel) HP.out).mono ?_; rintro e w3 ⟨rfl, ⟨n3, rfl⟩⟩; have hR3 := Lib.hid (hR2.out.below (Drawn0.below (Drawn0.step (Drawn0.refl w2) n3)))) | (go_at_call 99; with_reducible refine (hR3.out.wrong hG0.out HPP.out).mono ?_; rintro e w6 ⟨rfl, hR6⟩; have p0 := (blk_cell hR6.res 0).trans rfl; have p1 := (blk_cell hR6.res 1).trans rfl; have p2 := (blk_cell hR6.res 2).trans rfl; have q0 := blk_frozen hR6.res 0; have q1 := blk_frozen hR6.res 1; have q2 := blk_frozen hR6.res 2; have HR6 := Lib.hid hR6; clear hR6))
            obtain ⟨z0, z1, z2, z3⟩ := HR6.out.ret (Nat.le_refl _) HW0.out (.string ⟨#[]⟩) (.int .i64 0) (.bool false)
            refine bodyPost_ret (results_cell_row rfl _ _ w.heap.size 98 #[.string ⟨#[]⟩, .int .i64 0, .bool false] (0, 0) _ rfl z0 Tryz.underlying98 rfl (by kernel_rfl)) rfl ?_
            exact ⟨rfl, z1, z2, z3⟩
end Go.Proofs.YtiooacmplmcphaaGreatDoor.Plug
namespace Go.Proofs.YtiooacmplmcphaaGreatDoor.PX
open RowKit YtiooacmplmcphaaGreatDoorW.PrintWords YtiooacmplmcphaaGreatDoorW.PrintLast YtiooacmplmcphaaGreatDoorW.PrintMore YtiooacmplmcphaaGreatDoor
attribute [local go_sem] max2_int min2_int max_two min_two max_three min_three max_four min_four   -- for this text's walks alone
set_option linter.unusedVariables false
set_option linter.unusedSimpArgs false
def quote_may.f (a0 : Int) : Option (Bool) := (utf_Printable.f a0).bind fun t101 => (if t101 = true then (if a0 = 9 then (some false) else (if a0 = 10 then (some false) else (some (a0 != 13)))) else (some false))
theorem qsa0_ {P : Prop} (h_ : P := by first | ((repeat (first | (with_reducible first | exact HB.out | apply below_alloc | apply pw_below_drewN | apply below_drew1 | (refine Glob.below_set ?_ (by assumption) _ _ _)) | exact HB.out)); done) | (refine Drawn0.below ?_; repeat (first | exact Drawn0.refl _ | assumption | apply Drawn0.step))) : P := h_
theorem qsa1_ {P : Prop} (h_ : P := by (try simp only [List.map_toArray, List.map_cons, List.map_nil]); first | done | rfl | (simp only [List.length_drop, List.length_take]; rfl)) : P := h_
theorem qsa2_ {P : Prop} (h_ : P := by first | rfl | (simp; done) | (simp [*]; done) | (simp; generalize ByteArray.toList _ = l_; cases l_ <;> rfl)) : P := h_
theorem qsa3_ {P : Prop} (h_ : P := by repeat (first | exact Drawn0.refl _ | apply Drawn0.step)) : P := h_
set_option maxHeartbeats 8000000 in
set_option maxRecDepth 100000 in
theorem quote_may.calls (a0 : Int) (r : Bool) (w : World) (hG : Glob.G w) (h : quote_may.f a0 = some r) :
  Calls Tryz.prog 145 #[.int .i64 a0] w fun e w' => e = .returned (.bool r) ∧ Drawn0 w w' := by
 have H : ((utf_Printable.f a0).bind fun t101 => (if t101 = true then (if a0 = 9 then (some false) else (if a0 = 10 then (some false) else (some (a0 != 13)))) else (some false))) = some r := h
 clear h
 replace H := Option.bind_eq_some_iff.mp H
 obtain ⟨t101, A20, H⟩ := H
 replace H : (if t101 = true then (if a0 = 9 then (some false) else (if a0 = 10 then (some false) else (some (a0 != 13)))) else (some false)) = some r := H
 have A2 := Aside0.mk A20
 clear A20
 by_cases c3 : t101 = true
 rotate_left
 ·
  replace c3 := Bool.eq_false_iff.mpr c3
  subst c3
  have H1 : (some false) = some r := by rw [if_neg (show ¬ (false = true) by decide)] at H; exact H
  clear H
  have H := H1
  clear H1
  obtain rfl := Option.some.inj H
  go_enter Tryz.func145, Tryz.ntmps145
  go_wp2_with (first | ((with_reducible refine gate_callee (f := 176) rfl ?_); refine goesL_ (some 4) rfl rfl Tryz.func176 (by kernel_rfl) rfl #[.int .i64 a0] rfl (qsa1_) ?_; (with_reducible refine (utf_Printable.calls a0 false _ (hG.below (qsa0_)) A2.out).mono ?_); rintro e w' ⟨rfl, ⟨nd, rfl⟩⟩; refine ⟨_, rfl, ?_⟩))
  go_ret
  exact ⟨qsa2_, qsa3_⟩
 subst c3
 have H1 : (if a0 = 9 then (some false) else (if a0 = 10 then (some false) else (some (a0 != 13)))) = some r := by rw [if_pos rfl] at H; exact H
 clear H
 have H := H1
 clear H1
 by_cases c4 : a0 = 9
 ·
  rw [if_pos c4] at H
  have c4b0 : (a0 == 9) = true := beq_iff_eq.mpr c4
  have c4b1 : (a0 != 9) = false := bne_eq_false_iff_eq.mpr c4
  clear c4
  obtain rfl := Option.some.inj H
  go_enter Tryz.func145, Tryz.ntmps145
  go_wp2_with (first | ((with_reducible refine gate_callee (f := 176) rfl ?_); refine goesL_ (some 4) rfl rfl Tryz.func176 (by kernel_rfl) rfl #[.int .i64 a0] rfl (qsa1_) ?_; (with_reducible refine (utf_Printable.calls a0 true _ (hG.below (qsa0_)) A2.out).mono ?_); rintro e w' ⟨rfl, ⟨nd, rfl⟩⟩; refine ⟨_, rfl, ?_⟩))
  go_ret
  exact ⟨qsa2_, qsa3_⟩
 rw [if_neg c4] at H
 have c4b0 : (a0 == 9) = false := beq_eq_false_iff_ne.mpr c4
 have c4b1 : (a0 != 9) = true := bne_iff_ne.mpr c4
 by_cases c5 : a0 = 10
 rotate_left
 ·
  rw [if_neg c5] at H
  have c5b0 : (a0 == 10) = false := beq_eq_false_iff_ne.mpr c5
  have c5b1 : (a0 != 10) = true := bne_iff_ne.mpr c5
  obtain rfl := Option.some.inj H
  go_enter Tryz.func145, Tryz.ntmps145
  go_wp2_with (first | ((with_reducible refine gate_callee (f := 176) rfl ?_); refine goesL_ (some 4) rfl rfl Tryz.func176 (by kernel_rfl) rfl #[.int .i64 a0] rfl (qsa1_) ?_; (with_reducible refine (utf_Printable.calls a0 true _ (hG.below (qsa0_)) A2.out).mono ?_); rintro e w' ⟨rfl, ⟨nd, rfl⟩⟩; refine ⟨_, rfl, ?_⟩))
  go_ret
  exact ⟨qsa2_, qsa3_⟩
 rw [if_pos c5] at H
 have c5b0 : (a0 == 10) = true := beq_iff_eq.mpr c5
 have c5b1 : (a0 != 10) = false := bne_eq_false_iff_eq.mpr c5
 clear c5
 obtain rfl := Option.some.inj H
 go_enter Tryz.func145, Tryz.ntmps145
 go_wp2_with (first | ((with_reducible refine gate_callee (f := 176) rfl ?_); refine goesL_ (some 4) rfl rfl Tryz.func176 (by kernel_rfl) rfl #[.int .i64 a0] rfl (qsa1_) ?_; (with_reducible refine (utf_Printable.calls a0 true _ (hG.below (qsa0_)) A2.out).mono ?_); rintro e w' ⟨rfl, ⟨nd, rfl⟩⟩; refine ⟨_, rfl, ?_⟩))
 go_ret
 exact ⟨qsa2_, qsa3_⟩
end Go.Proofs.YtiooacmplmcphaaGreatDoor.PX
namespace Go.Proofs.YtiooacmplmcphaaGreatDoor.PX
open RowKit YtiooacmplmcphaaGreatDoorW.PrintWords YtiooacmplmcphaaGreatDoorW.PrintLast YtiooacmplmcphaaGreatDoorW.PrintMore YtiooacmplmcphaaGreatDoor YtiooacmplmcphaaGreatDoor.Plug
attribute [local go_sem] max2_int min2_int max_two min_two max_three min_three max_four min_four   -- for this text's walks alone
set_option linter.unusedVariables false
set_option linter.unusedSimpArgs false
def quote_one.j0 : Nat → ByteArray → Bool → Option (ByteArray × Int × Int)
  | 0, _, _ => none
  | k + 1, x0, x32 => if x32 = true then ((quote_escape.f x0).bind fun bt101 => (if bt101.2.2 = 0 then ((utf_Encode.f (([bt101.1] : List Int))).bind fun bt107 => (some (bt107.1, bt101.2.1, 0))) else (some ((⟨#[]⟩ : ByteArray), 0, bt101.2.2)))) else ((utf_First.f x0).bind fun bt109 => ((quote_may.f bt109.1).bind fun t111 => (if t111 = true then (if 0 ≤ bt109.2 then (if bt109.2 ≤ (x0.size : Int) then (some (x0.extract 0 (bt109.2 : Int).toNat, bt109.2, 0)) else (none)) else (none)) else (some ((⟨#[]⟩ : ByteArray), 0, 8)))))
def quote_one.f (k : Nat) (a0 : ByteArray) (a1 : Int) : Option (ByteArray × Int × Int) := if 0 < (a0.size : Int) then (if (bt a0 0) = a1 then (if a1 = 39 then (if (a0.size : Int) > 1 then (if 1 < (a0.size : Int) then (if (bt a0 1) = a1 then (some ((⟨#[39]⟩ : ByteArray), 2, 0)) else (some ((⟨#[]⟩ : ByteArray), 0, 0))) else (none)) else (some ((⟨#[]⟩ : ByteArray), 0, 0))) else (some ((⟨#[]⟩ : ByteArray), 0, 0))) else (if a1 = 34 then (quote_one.j0 k a0 ((bt a0 0) == 92)) else (quote_one.j0 k a0 false))) else (none)
theorem qra0_ {P : Prop} (h_ : P := by repeat (first | (with_reducible first | exact HB.out | apply below_alloc | apply pw_below_drewN | apply below_drew1) | exact HB.out)) : P := h_
theorem qra1_ {P : Prop} (h_ : P := by first | ((repeat (first | (with_reducible first | exact HB.out | apply below_alloc | apply pw_below_drewN | apply below_drew1 | (refine Glob.below_set ?_ (by assumption) _ _ _)) | exact HB.out)); done) | (refine Drawn0.below ?_; repeat (first | exact Drawn0.refl _ | assumption | apply Drawn0.step))) : P := h_
theorem qra2_ {P : Prop} (h_ : P := by (try simp only [List.map_toArray, List.map_cons, List.map_nil]); first | done | rfl | (simp only [List.length_drop, List.length_take]; rfl)) : P := h_
theorem qra3_ {P : Prop} (h_ : P := by first | (with_reducible assumption) | assumption) : P := h_
theorem qra4_ {P : Prop} (h_ : P := by first | rfl | (simp [errW_none, errW_some] <;> rfl) | (simp [*, errW_none, errW_some] <;> rfl)) : P := h_
set_option maxHeartbeats 8000000 in
set_option maxRecDepth 100000 in
theorem quote_one.calls (k : Nat) (a0 : ByteArray) (a1 : Int) (r1 : ByteArray) (r2 : Int) (r3 : Int) (w : World) (hG : Glob.G w) (h : quote_one.f k a0 a1 = some (r1, r2, r3)) :
  Calls Tryz.prog 159 #[.string a0, .int .u8 a1] w fun e w' => e = .returned (.tuple #[.string r1, .int .i64 r2, .int .i64 r3]) ∧ Below w.heap.size w w' := by
 have HB := Aside0.mk (Below.refl w.heap.size w)
 have H : (if 0 < (a0.size : Int) then (if (bt a0 0) = a1 then (if a1 = 39 then (if (a0.size : Int) > 1 then (if 1 < (a0.size : Int) then (if (bt a0 1) = a1 then (some ((⟨#[39]⟩ : ByteArray), 2, 0)) else (some ((⟨#[]⟩ : ByteArray), 0, 0))) else (none)) else (some ((⟨#[]⟩ : ByteArray), 0, 0))) else (some ((⟨#[]⟩ : ByteArray), 0, 0))) else (if a1 = 34 then (quote_one.j0 k a0 ((bt a0 0) == 92)) else (quote_one.j0 k a0 false))) else (none)) = some (r1, r2, r3) := h
 clear h
 by_cases c3 : 0 < (a0.size : Int)
 rotate_left
 ·
  rw [if_neg c3] at H
  exact absurd H (by simp)
 rw [if_pos c3] at H
 have c3b0 : decide (0 < (a0.size : Int)) = true := decide_eq_true c3
 have c3b1 : decide (0 < a0.size) = true := decide_eq_true (by omega)
 clear c3
 by_cases c5 : (bt a0 0) = a1
 ·
  rw [if_pos c5] at H
  have c5b0 : ((bt a0 0) == a1) = true := beq_iff_eq.mpr c5
  have c5b1 : ((bt a0 0) != a1) = false := bne_eq_false_iff_eq.mpr c5
  clear c5
  by_cases c6 : a1 = 39
  rotate_left
  ·
   rw [if_neg c6] at H
   have c6b0 : (a1 == 39) = false := beq_eq_false_iff_ne.mpr c6
   have c6b1 : (a1 != 39) = true := bne_iff_ne.mpr c6
   simp only [Option.some.injEq, Prod.mk.injEq] at H
   obtain ⟨rfl, rfl, rfl⟩ := H
   have p4 : 0 ≤ (0 : Int) := (by omega)
   have q4 : 0 < a0.size := (by have : (0 : Int) < (a0.size : Int) := of_decide_eq_true (qra3_); omega)
   have hx4 : ∀ h : 0 < a0.size, ((a0[0]'h).toNat : Int) = bt a0 0 := bt_at a0 0
   clear p4
   have qi4 : (0 < (a0.size : Int)) = True := eq_true (of_decide_eq_true (qra3_))
   replace q4 := eq_true q4
   go_enter Tryz.func159, Tryz.ntmps159
   go_wp2
   go_ret3
   exact ⟨qra4_, qra0_⟩
  rw [if_pos c6] at H
  have c6b0 : (a1 == 39) = true := beq_iff_eq.mpr c6
  have c6b1 : (a1 != 39) = false := bne_eq_false_iff_eq.mpr c6
  clear c6
  by_cases c7 : (a0.size : Int) > 1
  rotate_left
  ·
   rw [if_neg c7] at H
   have c7b0 : decide (1 < (a0.size : Int)) = false := decide_eq_false c7
   have c7b1 : decide (1 < a0.size) = false := decide_eq_false (by omega)
   clear c7
   simp only [Option.some.injEq, Prod.mk.injEq] at H
   obtain ⟨rfl, rfl, rfl⟩ := H
   have p4 : 0 ≤ (0 : Int) := (by omega)
   have q4 : 0 < a0.size := (by have : (0 : Int) < (a0.size : Int) := of_decide_eq_true (qra3_); omega)
   have hx4 : ∀ h : 0 < a0.size, ((a0[0]'h).toNat : Int) = bt a0 0 := bt_at a0 0
   clear p4
   have qi4 : (0 < (a0.size : Int)) = True := eq_true (of_decide_eq_true (qra3_))
   replace q4 := eq_true q4
   go_enter Tryz.func159, Tryz.ntmps159
   go_wp2
   go_ret3
   exact ⟨qra4_, qra0_⟩
  rw [if_pos c7] at H
  have c7b0 : decide (1 < (a0.size : Int)) = true := decide_eq_true c7
  have c7b1 : decide (1 < a0.size) = true := decide_eq_true (by omega)
  clear c7
  by_cases c8 : 1 < (a0.size : Int)
  rotate_left
  ·
   rw [if_neg c8] at H
   exact absurd H (by simp)
  rw [if_pos c8] at H
  have c8b0 : decide (1 < (a0.size : Int)) = true := decide_eq_true c8
  have c8b1 : decide (1 < a0.size) = true := decide_eq_true (by omega)
  clear c8
  by_cases c10 : (bt a0 1) = a1
  rotate_left
  ·
   rw [if_neg c10] at H
   have c10b0 : ((bt a0 1) == a1) = false := beq_eq_false_iff_ne.mpr c10
   have c10b1 : ((bt a0 1) != a1) = true := bne_iff_ne.mpr c10
   simp only [Option.some.injEq, Prod.mk.injEq] at H
   obtain ⟨rfl, rfl, rfl⟩ := H
   have p4 : 0 ≤ (0 : Int) := (by omega)
   have q4 : 0 < a0.size := (by have : (0 : Int) < (a0.size : Int) := of_decide_eq_true (qra3_); omega)
   have hx4 : ∀ h : 0 < a0.size, ((a0[0]'h).toNat : Int) = bt a0 0 := bt_at a0 0
   clear p4
   have qi4 : (0 < (a0.size : Int)) = True := eq_true (of_decide_eq_true (qra3_))
   replace q4 := eq_true q4
   have p9 : 0 ≤ (1 : Int) := (by omega)
   have q9 : 1 < a0.size := (by have : (1 : Int) < (a0.size : Int) := of_decide_eq_true (qra3_); omega)
   have hx9 : ∀ h : 1 < a0.size, ((a0[1]'h).toNat : Int) = bt a0 1 := bt_at a0 1
   clear p9
   have qi9 : (1 < (a0.size : Int)) = True := eq_true (of_decide_eq_true (qra3_))
   replace q9 := eq_true q9
   go_enter Tryz.func159, Tryz.ntmps159
   go_wp2
   go_ret3
   exact ⟨qra4_, qra0_⟩
  rw [if_pos c10] at H
  have c10b0 : ((bt a0 1) == a1) = true := beq_iff_eq.mpr c10
  have c10b1 : ((bt a0 1) != a1) = false := bne_eq_false_iff_eq.mpr c10
  clear c10
  simp only [Option.some.injEq, Prod.mk.injEq] at H
  obtain ⟨rfl, rfl, rfl⟩ := H
  have p4 : 0 ≤ (0 : Int) := (by omega)
  have q4 : 0 < a0.size := (by have : (0 : Int) < (a0.size : Int) := of_decide_eq_true (qra3_); omega)
  have hx4 : ∀ h : 0 < a0.size, ((a0[0]'h).toNat : Int) = bt a0 0 := bt_at a0 0
  clear p4
  have qi4 : (0 < (a0.size : Int)) = True := eq_true (of_decide_eq_true (qra3_))
  replace q4 := eq_true q4
  have p9 : 0 ≤ (1 : Int) := (by omega)
  have q9 : 1 < a0.size := (by have : (1 : Int) < (a0.size : Int) := of_decide_eq_true (qra3_); omega)
  have hx9 : ∀ h : 1 < a0.size, ((a0[1]'h).toNat : Int) = bt a0 1 := bt_at a0 1
  clear p9
  have qi9 : (1 < (a0.size : Int)) = True := eq_true (of_decide_eq_true (qra3_))
  replace q9 := eq_true q9
  go_enter Tryz.func159, Tryz.ntmps159
  go_wp2
  go_ret3
  exact ⟨qra4_, qra0_⟩
 rw [if_neg c5] at H
 have c5b0 : ((bt a0 0) == a1) = false := beq_eq_false_iff_ne.mpr c5
 have c5b1 : ((bt a0 0) != a1) = true := bne_iff_ne.mpr c5
 have HC11 := Aside0.mk H
 clear H
 have p4 : 0 ≤ (0 : Int) := (by omega)
 have q4 : 0 < a0.size := (by have : (0 : Int) < (a0.size : Int) := of_decide_eq_true (qra3_); omega)
 have hx4 : ∀ h : 0 < a0.size, ((a0[0]'h).toNat : Int) = bt a0 0 := bt_at a0 0
 clear p4
 have qi4 : (0 < (a0.size : Int)) = True := eq_true (of_decide_eq_true (qra3_))
 replace q4 := eq_true q4
 go_enter Tryz.func159, Tryz.ntmps159
 go_upto_region 5 with (fail)
 go_cut [32] (fun v32 wc => ∃ (kq : Nat) (x32_10 : Bool), v32 = .bool x32_10 ∧ Aside0 (quote_one.j0 kq a0 x32_10 = some (r1, r2, r3)) ∧ Aside0 (kq ≤ k) ∧ Aside0 (Below w.heap.size w wc))
 case first =>
  have H := HC11.out
  clear HC11
  by_cases c12 : a1 = 34
  rotate_left
  ·
   rw [if_neg c12] at H
   have c12b0 : (a1 == 34) = false := beq_eq_false_iff_ne.mpr c12
   have c12b1 : (a1 != 34) = true := bne_iff_ne.mpr c12
   (first | rw [c12b0] | (simp only [i64_w, i32_w]; rw [c12b0]) | skip)
   have H' := Aside0.mk H
   clear H
   go_wp2
   go_meet
   case rel => exact ⟨_, (false), (by first | rfl | (simp; done) | (simp [*]; done)), H', ⟨by first | omega | exact Nat.le_refl _⟩, ⟨qra0_⟩⟩
  rw [if_pos c12] at H
  have c12b0 : (a1 == 34) = true := beq_iff_eq.mpr c12
  have c12b1 : (a1 != 34) = false := bne_eq_false_iff_eq.mpr c12
  clear c12
  (first | rw [c12b0] | (simp only [i64_w, i32_w]; rw [c12b0]) | skip)
  have H' := Aside0.mk H
  clear H
  have p13 : 0 ≤ (0 : Int) := (by omega)
  have q13 : 0 < a0.size := (by have : (0 : Int) < (a0.size : Int) := of_decide_eq_true (qra3_); omega)
  have hx13 : ∀ h : 0 < a0.size, ((a0[0]'h).toNat : Int) = bt a0 0 := bt_at a0 0
  clear p13
  have qi13 : (0 < (a0.size : Int)) = True := eq_true (of_decide_eq_true (qra3_))
  replace q13 := eq_true q13
  go_wp2
  go_meet
  case rel => exact ⟨_, (((bt a0 0) == 92)), (by first | rfl | (simp; done) | (simp [*]; done)), H', ⟨by first | omega | exact Nat.le_refl _⟩, ⟨qra0_⟩⟩
 case rest =>
  clear HC11
  try clear c1
  try clear p1
  try clear q1
  try clear hx1
  try clear qi1
  try clear p2
  try clear c3
  try clear c3b0
  try clear c3b1
  try clear p4
  try clear q4
  try clear hx4
  try clear qi4
  try clear c5
  try clear c5b0
  try clear c5b1
  try clear c6
  try clear c6b0
  try clear c6b1
  try clear c7
  try clear c7b0
  try clear c7b1
  try clear c8
  try clear c8b0
  try clear c8b1
  try clear p9
  try clear q9
  try clear hx9
  try clear qi9
  try clear c10
  try clear c10b0
  try clear c10b1
  try clear c12
  try clear c12b0
  try clear c12b1
  try clear p13
  try clear q13
  try clear hx13
  try clear qi13
  try clear p13
  try clear p4
  try clear p9
  try clear q13
  try clear q4
  try clear q9
  obtain ⟨kq, x32_10, rfl, HA, HJ10, HB⟩ := hcut
  cases kq with
  | zero => exact absurd HA.out (by simp [quote_one.j0])
  | succ kj10 =>
   have H := HA.out
   clear HA
   simp only [quote_one.j0] at H
   by_cases c14 : x32_10 = true
   rotate_left
   ·
    replace c14 := Bool.eq_false_iff.mpr c14
    subst c14
    have H1 : ((utf_First.f a0).bind fun bt109 => ((quote_may.f bt109.1).bind fun t111 => (if t111 = true then (if 0 ≤ bt109.2 then (if bt109.2 ≤ (a0.size : Int) then (some (a0.extract 0 (bt109.2 : Int).toNat, bt109.2, 0)) else (none)) else (none)) else (some ((⟨#[]⟩ : ByteArray), 0, 8))))) = some (r1, r2, r3) := by rw [if_neg (show ¬ (false = true) by decide)] at H; exact H
    clear H
    have H := H1
    clear H1
    replace H := Option.bind_eq_some_iff.mp H
    obtain ⟨⟨t109, t110⟩, A240, H⟩ := H
    replace H : ((quote_may.f t109).bind fun t111 => (if t111 = true then (if 0 ≤ t110 then (if t110 ≤ (a0.size : Int) then (some (a0.extract 0 (t110 : Int).toNat, t110, 0)) else (none)) else (none)) else (some ((⟨#[]⟩ : ByteArray), 0, 8)))) = some (r1, r2, r3) := H
    have A24 := Aside0.mk A240
    clear A240
    replace H := Option.bind_eq_some_iff.mp H
    obtain ⟨t111, A250, H⟩ := H
    replace H : (if t111 = true then (if 0 ≤ t110 then (if t110 ≤ (a0.size : Int) then (some (a0.extract 0 (t110 : Int).toNat, t110, 0)) else (none)) else (none)) else (some ((⟨#[]⟩ : ByteArray), 0, 8))) = some (r1, r2, r3) := H
    have A25 := Aside0.mk A250
    clear A250
    by_cases c26 : t111 = true
    rotate_left
    ·
     replace c26 := Bool.eq_false_iff.mpr c26
     subst c26
     have H1 : (some ((⟨#[]⟩ : ByteArray), 0, 8)) = some (r1, r2, r3) := by rw [if_neg (show ¬ (false = true) by decide)] at H; exact H
     clear H
     have H := H1
     clear H1
     simp only [Option.some.injEq, Prod.mk.injEq] at H
     obtain ⟨rfl, rfl, rfl⟩ := H
     go_wp2_with (first | ((with_reducible refine gate_callee (f := 175) rfl ?_); refine goesL_ (some 59) rfl rfl Tryz.func175 (by kernel_rfl) rfl #[.string a0] rfl (qra2_) ?_; (with_reducible refine (utf_First.calls a0 t109 t110 _ (hG.below (qra1_)) A24.out).mono ?_); rintro e w30 ⟨rfl, hb⟩; refine ⟨_, rfl, ?_⟩; have n0_ := Aside0.mk (below_step (qra0_) hb); clear HB; have HB := n0_; clear n0_; (try clear hb); (try clear hk)) | ((with_reducible refine gate_callee (f := 145) rfl ?_); refine goesL_ (some 63) rfl rfl Tryz.func145 (by kernel_rfl) rfl #[.int .i64 t109] rfl (qra2_) ?_; (with_reducible refine (quote_may.calls t109 false _ (hG.below (qra1_)) A25.out).mono ?_); rintro e w' ⟨rfl, ⟨nd, rfl⟩⟩; refine ⟨_, rfl, ?_⟩))
     go_ret3
     exact ⟨qra4_, qra0_⟩
    subst c26
    have H1 : (if 0 ≤ t110 then (if t110 ≤ (a0.size : Int) then (some (a0.extract 0 (t110 : Int).toNat, t110, 0)) else (none)) else (none)) = some (r1, r2, r3) := by rw [if_pos rfl] at H; exact H
    clear H
    have H := H1
    clear H1
    by_cases c27 : 0 ≤ t110
    rotate_left
    ·
     rw [if_neg c27] at H
     exact absurd H (by simp)
    rw [if_pos c27] at H
    have c27b0 := eq_true c27
    have c27b1 : decide (0 ≤ t110) = true := decide_eq_true c27
    clear c27
    by_cases c28 : t110 ≤ (a0.size : Int)
    rotate_left
    ·
     rw [if_neg c28] at H
     exact absurd H (by simp)
    rw [if_pos c28] at H
    have c28b0 := eq_true c28
    have c28b1 : decide (t110 ≤ (a0.size : Int)) = true := decide_eq_true c28
    clear c28
    simp only [Option.some.injEq, Prod.mk.injEq] at H
    obtain ⟨rfl, rfl, rfl⟩ := H
    go_wp2_with (first | ((with_reducible refine gate_callee (f := 175) rfl ?_); refine goesL_ (some 59) rfl rfl Tryz.func175 (by kernel_rfl) rfl #[.string a0] rfl (qra2_) ?_; (with_reducible refine (utf_First.calls a0 t109 t110 _ (hG.below (qra1_)) A24.out).mono ?_); rintro e w29 ⟨rfl, hb⟩; refine ⟨_, rfl, ?_⟩; have n0_ := Aside0.mk (below_step (qra0_) hb); clear HB; have HB := n0_; clear n0_; (try clear hb); (try clear hk)) | ((with_reducible refine gate_callee (f := 145) rfl ?_); refine goesL_ (some 63) rfl rfl Tryz.func145 (by kernel_rfl) rfl #[.int .i64 t109] rfl (qra2_) ?_; (with_reducible refine (quote_may.calls t109 true _ (hG.below (qra1_)) A25.out).mono ?_); rintro e w' ⟨rfl, ⟨nd, rfl⟩⟩; refine ⟨_, rfl, ?_⟩))
    go_ret3
    exact ⟨qra4_, qra0_⟩
   subst c14
   have H1 : ((quote_escape.f a0).bind fun bt101 => (if bt101.2.2 = 0 then ((utf_Encode.f (([bt101.1] : List Int))).bind fun bt107 => (some (bt107.1, bt101.2.1, 0))) else (some ((⟨#[]⟩ : ByteArray), 0, bt101.2.2)))) = some (r1, r2, r3) := by rw [if_pos rfl] at H; exact H
   clear H
   have H := H1
   clear H1
   replace H := Option.bind_eq_some_iff.mp H
   obtain ⟨⟨t101, t102, t103⟩, A150, H⟩ := H
   replace H : (if t103 = 0 then ((utf_Encode.f (([t101] : List Int))).bind fun bt107 => (some (bt107.1, t102, 0))) else (some ((⟨#[]⟩ : ByteArray), 0, t103))) = some (r1, r2, r3) := H
   have A15 := Aside0.mk A150
   clear A150
   by_cases c16 : t103 = 0
   rotate_left
   ·
    rw [if_neg c16] at H
    have c16b0 : (t103 == 0) = false := beq_eq_false_iff_ne.mpr c16
    have c16b1 : (t103 != 0) = true := bne_iff_ne.mpr c16
    simp only [Option.some.injEq, Prod.mk.injEq] at H
    obtain ⟨rfl, rfl, rfl⟩ := H
    go_wp2_with (first | ((with_reducible refine gate_callee (f := 189) rfl ?_); refine goesL_ (some 42) rfl rfl Tryz.func189 (by kernel_rfl) rfl #[.string a0] rfl (qra2_) ?_; (with_reducible refine (quote_escape.calls a0 t101 t102 t103 _ (hG.below (qra1_)) A15.out).mono ?_); rintro e w23 ⟨rfl, hb⟩; refine ⟨_, rfl, ?_⟩; have n0_ := Aside0.mk (below_step (qra0_) hb); clear HB; have HB := n0_; clear n0_; (try clear hb); (try clear hk)))
    go_ret3
    exact ⟨qra4_, qra0_⟩
   rw [if_pos c16] at H
   have c16b0 : (t103 == 0) = true := beq_iff_eq.mpr c16
   have c16b1 : (t103 != 0) = false := bne_eq_false_iff_eq.mpr c16
   clear c16
   obtain ⟨y104, hy104⟩ : ∃ y_ : List Int, y_ = (([t101] : List Int)) := ⟨_, rfl⟩
   replace H : ((utf_Encode.f y104).bind fun bt107 => (some (bt107.1, t102, 0))) = some (r1, r2, r3) := by first | (rw [hy104]; with_reducible exact H) | (have H2_ := (Option.bind_some _ _).symm.trans H; rw [hy104]; with_reducible exact H2_) | (have H2_ := (Option.bind_some _ _).symm.trans H; with_reducible exact H2_) | with_reducible exact H | (rw [hy104]; exact H) | exact H
   have Ny104 := Aside0.mk hy104
   clear hy104
   replace H := Option.bind_eq_some_iff.mp H
   obtain ⟨⟨t107, t108⟩, A170, H⟩ := H
   replace H : (some (t107, t102, 0)) = some (r1, r2, r3) := H
   have A17 := Aside0.mk A170
   clear A170
   simp only [Option.some.injEq, Prod.mk.injEq] at H
   obtain ⟨rfl, rfl, rfl⟩ := H
   go_wp2_with (first | ((with_reducible refine gate_callee (f := 189) rfl ?_); refine goesL_ (some 42) rfl rfl Tryz.func189 (by kernel_rfl) rfl #[.string a0] rfl (qra2_) ?_; (with_reducible refine (quote_escape.calls a0 t101 t102 t103 _ (hG.below (qra1_)) A15.out).mono ?_); rintro e w18 ⟨rfl, hb⟩; refine ⟨_, rfl, ?_⟩; have n0_ := Aside0.mk (below_step (qra0_) hb); clear HB; have HB := n0_; clear n0_; (try clear hb); (try clear hk)) | ((with_reducible refine gate_dst (N := 51) rfl ?_); (try (refine gate_guard (by rfl) ?_; dsimp only)); refine Kd.R_lit (Kd.int .i64) _ 3 ?hg (N := 51) ?hd (xs := ([t101] : List Int)) (inner := [.int .i64 t101]) (ok := fun _ => True) (okp := fun _ => True) ?hr ?hp (fun _ hk => hk) trivial (Below.refl _ _) (Nat.le_refl _) (by simp) ?_; (case hd => rfl); (case hg => rfl); (case hr => first | (go_simp; done) | (go_simp; rfl)); (case hp => exact (Reps.one (show Kd.M (Kd.int .i64) _ _ _ t101 [.int .i64 t101] from rfl) (Reps.none _ _))); intro v105 w19 ho20 hb hg_ hnew_; clear hg_ hnew_; (first | rw [← Ny104.out] at ho20 | (simp only [Int.reduceToNat] at ho20; rw [← Ny104.out] at ho20)); have n0_ := Aside0.mk (Kd.R_lower ho20 (below_size (qra0_))); have n1_ := Aside0.mk (below_step (qra0_) hb); clear HB; have HO106 := n0_; have HB := n1_; clear n0_ n1_; clear hb ho20; obtain ⟨Ao21, co21, eo21⟩ := Kd.R_slice HO106.out; subst eo21) | ((with_reducible refine gate_callee (f := 190) rfl ?_); refine goesL_ (some 52) rfl rfl Tryz.func190 (by kernel_rfl) rfl #[.slice Ao21 y104.length co21] rfl (qra2_) ?_; (with_reducible refine (utf_Encode.calls _ _ y104 t107 t108 _ ?side1 ?side2 (hG.below (qra1_)) A17.out).mono ?_); (case side1 => repeat (first | exact (Kd.R_reads' HO106.out).2.2 | (with_reducible refine Kd.C_alloc ?_ _) | (with_reducible refine Kd.C_drewN ?_ _) | (with_reducible refine Kd.C_drew ?_))); (case side2 => exact (Kd.R_reads' HO106.out).2.1); rintro e w22 ⟨rfl, hb⟩; refine ⟨_, rfl, ?_⟩; have n0_ := Aside0.mk (Kd.R_below (by (with_reducible repeat (first | apply Kd.R_alloc | apply Kd.R_drewN | apply Kd.R_drew)); exact HO106.out) hb); have n1_ := Aside0.mk (below_step (qra0_) hb); clear HO106; clear HB; have HO106 := n0_; have HB := n1_; clear n0_ n1_; (try clear hb); (try clear hk)))
   go_ret3
   exact ⟨qra4_, qra0_⟩
end Go.Proofs.YtiooacmplmcphaaGreatDoor.PX
namespace Go.Proofs.YtiooacmplmcphaaGreatDoor.Utf
open RowKit YtiooacmplmcphaaGreatDoor.PX YtiooacmplmcphaaGreatDoor.Plug YtiooacmplmcphaaGreatDoorW.PrintWords YtiooacmplmcphaaGreatDoorW.PrintLast
theorem prog_may (n : Int) : quote_may.f n = some (may n) := by
 unfold quote_may.f
 rw [prog_printable, Option.bind_some]
 unfold may
 cases prt n
 · rfl
 ·
  rw [if_pos rfl]
  by_cases a : n = 9
  · subst a; rfl
  rw [if_neg a]
  by_cases b : n = 10
  · subst b; rfl
  rw [if_neg b, bne_iff_ne.2 a, bne_iff_ne.2 b]; rfl
theorem prog_escape (s : ByteArray) (hs : s.size ≤ 140737488351232) : quote_escape.f s = some ((escB s.data.toList).1, ((escB s.data.toList).2.1 : Int), (escB s.data.toList).2.2) := by
  unfold quote_escape.f; rw [if_pos hs]
theorem prog_one (K : Nat) (s : ByteArray) (q : Nat) (hs : s.size ≤ 140737488351232) (h0 : 0 < s.size) :
  quote_one.f (K + 4) s (q : Int) = some (⟨(oneB s.data.toList q).1.toArray⟩, ((oneB s.data.toList q).2.1 : Int), (oneB s.data.toList q).2.2) := by
 have hL := size_list s
 have hb0 := bt_at_ s 0
 have hb1 := bt_at_ s 1
 rw [show ((0 : Nat) : Int) = 0 from rfl] at hb0
 rw [show ((1 : Nat) : Int) = 1 from rfl] at hb1
 have hne : s.data.toList ≠ [] := fun e => by rw [e, List.length_nil] at hL; omega
 have hj : ∀ b, quote_one.j0 (K + 4) s b = if b = true then ((quote_escape.f s).bind fun bt101 => (if bt101.2.2 = 0 then ((utf_Encode.f (([bt101.1] : List Int))).bind fun bt107 => (some (bt107.1, bt101.2.1, 0))) else (some ((⟨#[]⟩ : ByteArray), 0, bt101.2.2)))) else ((utf_First.f s).bind fun bt109 => ((quote_may.f bt109.1).bind fun t111 => (if t111 = true then (if 0 ≤ bt109.2 then (if bt109.2 ≤ (s.size : Int) then (some (s.extract 0 (bt109.2 : Int).toNat, bt109.2, 0)) else (none)) else (none)) else (some ((⟨#[]⟩ : ByteArray), 0, 8))))) := fun b => by
  rw [show K + 4 = K + 3 + 1 from rfl, quote_one.j0]
 unfold quote_one.f oneB
 rw [if_pos (by omega), hb0, hb1]
 by_cases a : at_ s.data.toList 0 = q
 ·
  rw [if_pos a, if_pos (by omega)]
  by_cases b : q = 39
  rotate_left
  · rw [if_neg (by omega), if_neg (fun e => b e.1)]; rfl
  rw [if_pos (by omega)]
  by_cases c : 1 < s.size
  rotate_left
  · rw [if_neg (by omega), if_neg (show ¬ (q = 39 ∧ 1 < s.data.toList.length ∧ at_ s.data.toList 1 = 39) from fun e => c (by rw [hL]; exact e.2.1))]; rfl
  rw [if_pos (by omega), if_pos (by omega)]
  by_cases d : at_ s.data.toList 1 = 39
  · rw [if_pos (by omega), if_pos ⟨b, by omega, d⟩]; rfl
  rw [if_neg (by omega), if_neg (fun e => d e.2.2)]; rfl
 rw [if_neg a, if_neg (by omega)]
 have last : quote_one.j0 (K + 4) s false = some (⟨(if may (dec s.data.toList).1 = true then (s.data.toList.take (dec s.data.toList).2, (dec s.data.toList).2, (0 : Int)) else ([], 0, 8)).1.toArray⟩, ((if may (dec s.data.toList).1 = true then (s.data.toList.take (dec s.data.toList).2, (dec s.data.toList).2, (0 : Int)) else ([], 0, 8)).2.1 : Int), (if may (dec s.data.toList).1 = true then (s.data.toList.take (dec s.data.toList).2, (dec s.data.toList).2, (0 : Int)) else ([], 0, 8)).2.2) := by
  have hw := dec_len s.data.toList hne
  rw [hj, if_neg (by decide), prog_first, Option.bind_some]
  dsimp only
  rw [prog_may, Option.bind_some]
  cases hm : may (dec s.data.toList).1
  · rw [if_neg (by decide), if_neg (by decide)]; rfl
  ·
   rw [if_pos rfl, if_pos rfl, if_pos (by omega), if_pos (by omega)]
   have : s.extract 0 (((dec s.data.toList).2 : Int)).toNat = ⟨(s.data.toList.take (dec s.data.toList).2).toArray⟩ := by
    have h5 := extract_list s 0 (dec s.data.toList).2
    rw [List.drop_zero, Nat.sub_zero] at h5
    rw [Int.toNat_natCast, ← h5]
   rw [this]
 by_cases b : q = 34
 rotate_left
 ·
  rw [if_neg (by omega), if_neg (fun e => b e.1)]
  exact last
 rw [if_pos (by omega)]
 by_cases c : at_ s.data.toList 0 = 92
 rotate_left
 ·
  rw [if_neg (fun e => c e.2), show (((at_ s.data.toList 0 : Nat) : Int) == 92) = false by rw [beq_eq_false_iff_ne]; omega]
  exact last
 rw [if_pos ⟨b, c⟩, c, hj, show ((((92 : Nat) : Int)) == 92) = true from rfl, if_pos rfl, prog_escape s hs, Option.bind_some]
 dsimp only
 by_cases d : (escB s.data.toList).2.2 = 0
 rotate_left
 · rw [if_neg d, if_pos d]; rfl
 have hsg := (escB_ok _ d).1
 rw [if_pos d, if_neg (by simpa using d), enc_one, if_pos hsg]; rfl
end Go.Proofs.YtiooacmplmcphaaGreatDoor.Utf
namespace Go.Proofs.YtiooacmplmcphaaGreatDoor.Plug
open RowKit YtiooacmplmcphaaGreatDoor YtiooacmplmcphaaGreatDoor.PX YtiooacmplmcphaaGreatDoor.Utf YtiooacmplmcphaaGreatDoorW.PrintWords YtiooacmplmcphaaGreatDoorW.PrintLast
theorem rowF_move {w w1 : World} {B : Nat} {e : TypeId} {v : Value} {n : Nat} {xs : List Value} (h : w.ownsRowF B e 1 v n xs) (hm : ∀ k, v.ownBlock = some k → w1.heap[k]? = w.heap[k]?) : w1.ownsRowF B e 1 v n xs := by
 obtain ⟨h1, h2⟩ := h
 refine ⟨h1, ?_⟩
 rcases h2 with h2 | ⟨g, cap, cur, fz, rfl, hg, hh, r⟩
 · exact .inl h2
 · exact .inr ⟨g, cap, cur, fz, rfl, hg, (hm g (by simp [Value.ownBlock])).trans hh, r⟩
theorem bld_below {T e : TypeId} {B b : Nat} {bs : List Value} {w w1 : World} (h : Lib.IsBuilderF T e B b bs w) (hb : Below w.heap.size w w1) : Lib.IsBuilderF T e B b bs w1 := by
 have key : ∀ p, Lib.BuilderAtF T e B b p bs w → Lib.BuilderAtF T e B b p bs w1 := by
  rintro p ⟨h1, v, h2, h3, h4⟩
  refine ⟨h1, v, (hb.block b (Bld.at_lt h2)).trans h2, rowF_move h3 (fun k hk => hb.block k ?_), h4⟩
  rcases h3.2 with ⟨rfl, _⟩ | ⟨g, cap, cur, fz, rfl, hg, hh, _⟩
  · simp [Value.ownBlock] at hk
  ·
   have : g = k := by simpa [Value.ownBlock] using hk
   subst this; exact Bld.at_lt hh
 exact h.elim (fun x => .inl (key _ x)) (fun x => .inr (key _ x))
theorem one_len (l : List UInt8) (q : Nat) : (oneB l q).1.length ≤ 4 := by
 unfold oneB
 split
 · split <;> simp
 split
 ·
  split
  · simp
  · exact (enc_len _).2
 split
 ·
  by_cases h : l = []
  · subst h; simp
  have := dec_wide l h; simp; omega
 · simp
theorem two_put {w2 : World} {B t : Nat} {x y : Value} (h : w2.heap[B]? = some (.cells #[x, y] t (0, 0))) (a b : Value) :
  ((w2.setCell ⟨B, 0, none⟩ a).setCell ⟨B, 1, none⟩ b).cell? ⟨B, 0, none⟩ = some a ∧ ((w2.setCell ⟨B, 0, none⟩ a).setCell ⟨B, 1, none⟩ b).cell? ⟨B, 1, none⟩ = some b := by
 have h1 := blk_set h 0 a
 have h3 := blk_set h1 1 b
 exact ⟨by rw [blk_cell h3]; rfl, by rw [blk_cell h3]; rfl⟩
def quote_Read.f (a0 : ByteArray) : Option (ByteArray × Int × Int × Int) :=
  if a0.size ≤ 1099511627775 then some (⟨(readB a0.data.toList).1.toArray⟩, ((readB a0.data.toList).2.1 : Int), (readB a0.data.toList).2.2.1, ((readB a0.data.toList).2.2.2 : Int)) else none
set_option maxHeartbeats 1600000 in
set_option maxRecDepth 100000 in
theorem read_go (s : ByteArray) (q : Nat) (hq : q = 39 ∨ q = 34) (w : World) (hG : Glob.G w) (hs : s.size ≤ 1099511627775) (h0 : 0 < s.size) (hx : ∀ h : 0 < s.size, ((s[0]'h).toNat : Int) = (q : Int)) :
  Calls Tryz.prog 127 #[.string s] w fun e w' => e = .returned (.tuple #[.string ⟨(readF s.data.toList.length (s.data.toList.drop 1) q 1 []).1.toArray⟩, .int .i64 ((readF s.data.toList.length (s.data.toList.drop 1) q 1 []).2.1 : Int), .agg #[.int .i64 (readF s.data.toList.length (s.data.toList.drop 1) q 1 []).2.2.1, .int .i64 ((readF s.data.toList.length (s.data.toList.drop 1) q 1 []).2.2.2 : Int)]]) ∧ Below w.heap.size w w' := by
 have hL := Lib.hid (size_list s)
 have he : s.toList.isEmpty = false := by
  rw [Lib.toList_data]
  have := size_list s
  cases h : s.data.toList with
  | nil => rw [h, List.length_nil] at this; omega
  | cons a b => rfl
 obtain ⟨RR, hRR⟩ : ∃ RR, RR = readF s.data.toList.length (s.data.toList.drop 1) q 1 [] := ⟨_, rfl⟩
 rw [← hRR]
 obtain ⟨Q, hQ⟩ : ∃ Q, Q = q := ⟨_, rfl⟩
 rw [← hQ] at hRR
 have HR := Lib.hid hRR
 clear hRR
 rcases hq with rfl | rfl
 all_goals
  go_enter Tryz.func127, Tryz.ntmps127
  go_wp2
  go_loopw [6] (fun a wr => ∃ (i k : Nat) (acc : List UInt8), 1 ≤ i ∧ i ≤ s.size ∧ s.size ≤ i + k ∧ acc.length ≤ 4 * i ∧ Hid (readF k (s.data.toList.drop i) Q i acc = RR) ∧ a = .int .i64 i ∧ Lib.IsBuilderF 106 5 (w.heap.size + 1) (w.heap.size + 1) (Lib.byteCells acc) wr ∧ Below (w.heap.size + 1) (w.alloc (.cells #[.int .i64 0, .int .i64 0] 95)) wr) (fun a _ => s.size - (intOf a).toNat)
  case atStart =>
   have hfr := Lib.fresh_isBuilder 106 5 (w.alloc (.cells #[.int .i64 0, .int .i64 0] 95))
   have hsz : (w.alloc (.cells #[.int .i64 0, .int .i64 0] 95)).heap.size = w.heap.size + 1 := by simp
   rw [hsz] at hfr
   exact ⟨1, s.size, [], Nat.le_refl _, by omega, by omega, by simp, by rw [hL.out]; exact Lib.hid HR.out.symm, rfl, Lib.IsBuilderF.of hfr, (Below.refl _ _).alloc (by simp) _⟩
  case round =>
   obtain ⟨i, k, acc, hi0, hi, hk, hal, hst, rfl, hI, hb⟩ := hrel
   have hbw := ((Below.refl w.heap.size w).alloc (Nat.le_refl _) (.cells #[.int .i64 0, .int .i64 0] 95)).trans (hb.mono (by omega))
   have hGr := hG.below hbw
   have hf0 : wr.heap[w.heap.size]? = some (.cells #[.int .i64 0, .int .i64 0] 95 (0, 0)) := (hb.block w.heap.size (by omega)).trans (heap_alloc_new w _)
   by_cases hlt : i < s.size
   rotate_left
   ·
    have hc : decide ((i : Int) < (s.size : Int)) = false := by simp; omega
    have hc0 : wr.cell? ⟨w.heap.size, 0, none⟩ = some (.int .i64 0) := by rw [blk_cell hf0]; rfl
    have hc1 : wr.cell? ⟨w.heap.size, 1, none⟩ = some (.int .i64 0) := by rw [blk_cell hf0]; rfl
    have hz0 := blk_frozen hf0 0
    have hz1 := blk_frozen hf0 1
    have hst2 := hst.out
    rw [List.drop_of_length_le (by rw [← hL.out]; omega), readF_nil, show i = s.size by omega] at hst2
    have HS := Lib.hid hst2
    clear hst hst2
    go_wp2
    have hset := two_put hf0 (.int .i64 4) (.int .i64 s.size)
    refine bodyPost_ret (v := .tuple #[.string ⟨#[]⟩, .int .i64 0, .agg #[.int .i64 4, .int .i64 s.size]]) (by simp [results, Tryz.results127, go_sem, hset.1, hset.2]) rfl ⟨by rw [← HS.out]; rfl, ?_⟩
    exact (hbw.setCell (p := ⟨w.heap.size, 0, none⟩) (Nat.le_refl _) _).setCell (p := ⟨w.heap.size, 1, none⟩) (Nat.le_refl _) _
   have hc : decide ((i : Int) < (s.size : Int)) = true := by simp; omega
   have hne : s.data.toList.drop i ≠ [] := fun e => by
    have h2 := congrArg List.length e; rw [List.length_drop, ← hL.out, List.length_nil] at h2; omega
   have hlen : (s.data.toList.drop i).length = s.size - i := by rw [List.length_drop, ← hL.out]
   have hone := prog_one 0 (s.extract i s.size) Q (by rw [size_list, drop_list, hlen]; omega) (by rw [size_list, drop_list, hlen]; omega)
   rw [drop_list, hQ] at hone
   have hstep := hst.out
   obtain ⟨k, rfl⟩ : ∃ m, k = m + 1 := ⟨k - 1, by omega⟩
   rw [readF, if_neg hne, hlen, hQ] at hstep
   have h4 := one_len (s.data.toList.drop i) Q
   have hok := oneB_ok (s.data.toList.drop i) Q hne
   rw [hlen, hQ] at hok
   rw [hQ] at h4
   have hH : Hid (Lib.IsBuilderF 106 5 (w.heap.size + 1) (w.heap.size + 1) (Lib.byteCells acc) wr.drew) := by
    rcases hI with h | h
    · exact .inl h.drew
    · exact .inr h.drew
   generalize oneB (s.data.toList.drop i) _ = o at *
   obtain ⟨t, n, e⟩ := o
   simp only at hone hstep h4 hok
   have HO := Lib.hid hone
   clear hone hst hlen hne hI
   have fin : ∀ (w2 : World), Below wr.drew.heap.size wr.drew w2 → w2.heap[w.heap.size]? = some (.cells #[.int .i64 0, .int .i64 0] 95 (0, 0)) ∧ Below w.heap.size w w2 ∧ Below (w.heap.size + 1) (w.alloc (.cells #[.int .i64 0, .int .i64 0] 95)) w2 ∧ Lib.IsBuilderF 106 5 (w.heap.size + 1) (w.heap.size + 1) (Lib.byteCells acc) w2 := by
    intro w2 h2
    have hz := Bld.at_lt hf0
    have hzb := hb.size
    simp at hzb
    exact ⟨(h2.block w.heap.size hz).trans hf0, hbw.drew.trans (h2.mono hbw.size), hb.drew.trans (h2.mono (by simp at hzb ⊢; omega)), bld_below hH.out h2⟩
   have HF := Lib.hid fin
   have HG : Hid (Glob.G wr.drew) := Lib.hid (hGr.below (Below.drew (Below.refl _ _)))
   clear fin hH hf0
   by_cases c4 : e = 4
   ·
    subst c4
    rw [if_pos rfl] at hstep
    have HS : Hid (([], 0, 4, s.size) = RR) := Lib.hid (by rw [show i + (s.size - i) = s.size by omega] at hstep; exact hstep)
    clear hstep hok
    go_wp2
    go_region_with (go_at_call 159; refine (quote_one.calls _ _ _ _ _ _ _ HG.out HO.out).mono ?_; rintro e w2 ⟨rfl, hb2⟩)
    all_goals
     obtain ⟨hf2, hbel, hbelB, hI2⟩ := HF.out _ hb2
     have hc0 : w2.cell? ⟨w.heap.size, 0, none⟩ = some (.int .i64 0) := by rw [blk_cell hf2]; rfl
     have hc1 : w2.cell? ⟨w.heap.size, 1, none⟩ = some (.int .i64 0) := by rw [blk_cell hf2]; rfl
     have hz0 := blk_frozen hf2 0
     have hz1 := blk_frozen hf2 1
     go_wp2
     have hset := two_put hf2 (.int .i64 4) (.int .i64 s.size)
     refine bodyPost_ret (v := .tuple #[.string ⟨#[]⟩, .int .i64 0, .agg #[.int .i64 4, .int .i64 s.size]]) (by simp [results, Tryz.results127, go_sem, hset.1, hset.2]) rfl ⟨by rw [← HS.out]; rfl, ?_⟩
     exact (hbel.setCell (p := ⟨w.heap.size, 0, none⟩) (Nat.le_refl _) _).setCell (p := ⟨w.heap.size, 1, none⟩) (Nat.le_refl _) _
   have d4 : (e == 4) = false := beq_eq_false_iff_ne.2 c4
   rw [if_neg c4] at hstep
   by_cases c0 : e = 0
   rotate_left
   ·
    rw [if_pos c0] at hstep
    have d0 : (e == 0) = false := beq_eq_false_iff_ne.2 c0
    have d0' : (e != 0) = true := bne_iff_ne.2 c0
    have HS : Hid (([], 0, e, i) = RR) := Lib.hid hstep
    clear hstep hok
    go_wp2
    go_region_with (go_at_call 159; refine (quote_one.calls _ _ _ _ _ _ _ HG.out HO.out).mono ?_; rintro e w2 ⟨rfl, hb2⟩)
    all_goals
     obtain ⟨hf2, hbel, hbelB, hI2⟩ := HF.out _ hb2
     have hc0 : w2.cell? ⟨w.heap.size, 0, none⟩ = some (.int .i64 0) := by rw [blk_cell hf2]; rfl
     have hc1 : w2.cell? ⟨w.heap.size, 1, none⟩ = some (.int .i64 0) := by rw [blk_cell hf2]; rfl
     have hz0 := blk_frozen hf2 0
     have hz1 := blk_frozen hf2 1
     go_wp2
     have hset := two_put hf2 (.int .i64 e) (.int .i64 i)
     refine bodyPost_ret (v := .tuple #[.string ⟨#[]⟩, .int .i64 0, .agg #[.int .i64 e, .int .i64 i]]) (by simp [results, Tryz.results127, go_sem, hset.1, hset.2]) rfl ⟨by rw [← HS.out]; rfl, ?_⟩
     exact (hbel.setCell (p := ⟨w.heap.size, 0, none⟩) (Nat.le_refl _) _).setCell (p := ⟨w.heap.size, 1, none⟩) (Nat.le_refl _) _
   subst c0
   rw [if_neg (show ¬ ((0 : Int) ≠ 0) by decide)] at hstep
   by_cases cn : n = 0
   rotate_left
   ·
    rw [if_neg cn] at hstep
    have hle := (hok rfl cn).1
    have HS := Lib.hid hstep
    have dn : (((n : Nat) : Int) == 0) = false := by rw [beq_eq_false_iff_ne]; omega
    clear hstep hok
    go_wp2
    go_region_with (go_at_call 159; refine (quote_one.calls _ _ _ _ _ _ _ HG.out HO.out).mono ?_; rintro e w2 ⟨rfl, hb2⟩)
    all_goals
     obtain ⟨hf2, hbel, hbelB, hI2⟩ := HF.out _ hb2
     have hc0 : w2.cell? ⟨w.heap.size, 0, none⟩ = some (.int .i64 0) := by rw [blk_cell hf2]; rfl
     have hc1 : w2.cell? ⟨w.heap.size, 1, none⟩ = some (.int .i64 0) := by rw [blk_cell hf2]; rfl
     have hz0 := blk_frozen hf2 0
     have hz1 := blk_frozen hf2 1
     go_wp2_with (go_at_call 52; refine (Bld.text 106 Bld.lies_plain _ _ _ ⟨t.toArray⟩ _ hI2 (by rw [Lib.byteCells_length]; show acc.length + t.length ≤ _; omega) (by have := hbelB.size; simp at this; omega)).mono ?_; rintro e w3 ⟨rfl, h3, b3, k3⟩)
     go_roundw
     case rel => exact ⟨i + n, k, acc ++ t, by omega, by omega, by omega, by rw [List.length_append]; omega, Lib.hid (by rw [List.drop_drop, hQ] at *; exact HS.out), by go_num, by rw [Lib.byteCells_append]; exact Or.inr h3, hbelB.trans b3⟩
     case measure => simp [intOf]; omega
   subst cn
   rw [if_pos rfl] at hstep
   have HS : Hid ((acc, i + 1, 0, 0) = RR) := Lib.hid hstep
   clear hstep hok
   go_wp2
   go_region_with (go_at_call 159; refine (quote_one.calls _ _ _ _ _ _ _ HG.out HO.out).mono ?_; rintro e w2 ⟨rfl, hb2⟩)
   all_goals
    obtain ⟨hf2, hbel, hbelB, hI2⟩ := HF.out _ hb2
    have hc0 : w2.cell? ⟨w.heap.size, 0, none⟩ = some (.int .i64 0) := by rw [blk_cell hf2]; rfl
    have hc1 : w2.cell? ⟨w.heap.size, 1, none⟩ = some (.int .i64 0) := by rw [blk_cell hf2]; rfl
    have hz0 := blk_frozen hf2 0
    have hz1 := blk_frozen hf2 1
    go_wp2_with (go_at_call 56; refine (Bld.got _ _ _ acc _ hI2 (by have := hbelB.size; simp at this; omega)).mono ?_; rintro e w3 ⟨rfl, hb3⟩; have hf3 := (hb3.block w.heap.size (by omega)).trans hf2; have hd0 : w3.cell? ⟨w.heap.size, 0, none⟩ = some (.int .i64 0) := by { rw [blk_cell hf3]; rfl }; have hd1 : w3.cell? ⟨w.heap.size, 1, none⟩ = some (.int .i64 0) := by { rw [blk_cell hf3]; rfl }; have hy0 := blk_frozen hf3 0; have hy1 := blk_frozen hf3 1)
    have hset := two_put hf3 (.int .i64 0) (.int .i64 0)
    refine bodyPost_ret (v := .tuple #[.string ⟨acc.toArray⟩, .int .i64 ((i : Int) + 1), .agg #[.int .i64 0, .int .i64 0]]) (by simp [results, Tryz.results127, go_sem, hset.1, hset.2]) rfl ⟨by rw [← HS.out]; rfl, ?_⟩
    exact ((hbel.trans (hb3.mono (by omega))).setCell (p := ⟨w.heap.size, 0, none⟩) (Nat.le_refl _) _).setCell (p := ⟨w.heap.size, 1, none⟩) (Nat.le_refl _) _
set_option maxHeartbeats 1600000 in
set_option maxRecDepth 100000 in
theorem quote_Read.calls (a0 : ByteArray) (r1 : ByteArray) (r2 r3 r4 : Int) (w : World) (hG : Glob.G w) (h : quote_Read.f a0 = some (r1, r2, r3, r4)) :
  Calls Tryz.prog 127 #[.string a0] w fun e w' => e = .returned (.tuple #[.string r1, .int .i64 r2, .agg #[.int .i64 r3, .int .i64 r4]]) ∧ Below w.heap.size w w' := by
 unfold quote_Read.f at h
 by_cases hs : a0.size ≤ 1099511627775
 rotate_left
 · rw [if_neg hs] at h; cases h
 rw [if_pos hs] at h
 simp only [Option.some.injEq, Prod.mk.injEq] at h
 obtain ⟨rfl, rfl, rfl, rfl⟩ := h
 have hL := size_list a0
 have hx : ∀ h : 0 < a0.size, ((a0[0]'h).toNat : Int) = (at_ a0.data.toList 0 : Int) := fun h => by rw [← bt_at_]; exact bt_at a0 0 h
 by_cases hc : a0.data.toList = [] ∨ (at_ a0.data.toList 0 ≠ 39 ∧ at_ a0.data.toList 0 ≠ 34)
 rotate_left
 ·
  have h0 : a0.data.toList ≠ [] := fun e => hc (.inl e)
  have h1 : 0 < a0.size := by rw [hL]; exact List.length_pos_iff.2 h0
  have hq : at_ a0.data.toList 0 = 39 ∨ at_ a0.data.toList 0 = 34 := by
   by_cases c : at_ a0.data.toList 0 = 39
   · exact .inl c
   by_cases d : at_ a0.data.toList 0 = 34
   · exact .inr d
   exact absurd (.inr ⟨c, d⟩) hc
  rw [show readB a0.data.toList = readF a0.data.toList.length (a0.data.toList.drop 1) (at_ a0.data.toList 0) 1 [] by unfold readB; rw [if_neg hc]]
  exact read_go a0 _ hq w hG hs h1 hx
 rw [show readB a0.data.toList = ([], 0, 3, 0) by unfold readB; rw [if_pos hc]]
 by_cases h0 : a0.data.toList = []
 ·
  have he : a0.toList.isEmpty = true := by rw [Lib.toList_data, h0]; rfl
  clear hc hx hL hs hG h0
  go_enter Tryz.func127, Tryz.ntmps127
  go_wp2
  refine bodyPost_ret (v := .tuple #[.string ⟨#[]⟩, .int .i64 0, .agg #[.int .i64 3, .int .i64 0]]) (by simp [results, Tryz.results127, go_sem]) rfl ⟨rfl, ?_⟩
  exact (Below.refl _ w).alloc (Nat.le_refl _) _
 have h1 : 0 < a0.size := by rw [hL]; exact List.length_pos_iff.2 h0
 have he : a0.toList.isEmpty = false := by
  rw [Lib.toList_data]; simpa using h0
 have hq := hc.resolve_left h0
 generalize at_ a0.data.toList 0 = x at *
 have d1 : ((x : Int) == 39) = false := by rw [beq_eq_false_iff_ne]; omega
 have d2 : ((x : Int) == 34) = false := by rw [beq_eq_false_iff_ne]; omega
 have d3 : ((x : Int) != 39) = true := by rw [bne_iff_ne]; omega
 have d4 : ((x : Int) != 34) = true := by rw [bne_iff_ne]; omega
 clear hc hL hs hG h0 hq
 go_enter Tryz.func127, Tryz.ntmps127
 go_wp2
 refine bodyPost_ret (v := .tuple #[.string ⟨#[]⟩, .int .i64 0, .agg #[.int .i64 3, .int .i64 0]]) (by simp [results, Tryz.results127, go_sem]) rfl ⟨rfl, ?_⟩
 exact (Below.refl _ w).alloc (Nat.le_refl _) _
end Go.Proofs.YtiooacmplmcphaaGreatDoor.Plug
namespace Go.Proofs.YtiooacmplmcphaaGreatDoor.Plug
open RowKit YtiooacmplmcphaaGreatDoor YtiooacmplmcphaaGreatDoor.PX YtiooacmplmcphaaGreatDoor.Utf YtiooacmplmcphaaGreatDoorW.PrintWords YtiooacmplmcphaaGreatDoorW.PrintLast YtiooacmplmcphaaGreatDoorW.PrintMore
abbrev KB (x : ByteArray) : Obj := .cells #[.string x, .int .i64 0, .bool false] 98 (0, 0)
structure RdK (w0 w : World) (g B K : Nat) (kv : ByteArray) (a : Int) (b : ByteArray) (c d : Int) (W : World) : Prop where
 at_ : RdAt w0 w g B (KB ⟨#[]⟩) a b c d W
 kb : W.heap[K]? = some (KB kv)
 kg : K ≠ g
 kB : K ≠ B
 wK : w.heap.size ≤ K
 w0K : w0.heap.size ≤ K
section
variable {w0 w : World} {g B K : Nat} {kv : ByteArray} {a : Int} {b : ByteArray} {c d : Int} {W : World}
theorem RdK.below (h : RdK w0 w g B K kv a b c d W) {W' : World} (hb : Below W.heap.size W W') : RdK w0 w g B K kv a b c d W' :=
  ⟨h.at_.below hb, (hb.block K (blk_lt h.kb)).trans h.kb, h.kg, h.kB, h.wK, h.w0K⟩
theorem RdK.drew (h : RdK w0 w g B K kv a b c d W) : RdK w0 w g B K kv a b c d W.drew := h.below (Below.drew (Below.refl _ _))
theorem RdK.set1 (h : RdK w0 w g B K kv a b c d W) (x : ByteArray) : RdK w0 w g B K kv a x c d (W.setCell ⟨g, 1, none⟩ (.string x)) :=
  ⟨h.at_.set1 x, by rw [Below.heap_setCell _ _ _ _ h.kg]; exact h.kb, h.kg, h.kB, h.wK, h.w0K⟩
theorem RdK.setK (h : RdK w0 w g B K kv a b c d W) (x : ByteArray) : RdK w0 w g B K x a b c d (W.setCell ⟨K, 0, none⟩ (.string x)) :=
  ⟨⟨h.at_.is.far (p := ⟨K, 0, none⟩) (fun e => h.kg e.symm) _, h.at_.bel.setCell h.w0K _, keep_far h.at_.keep h.wK _, h.at_.ne, by rw [Below.heap_setCell _ _ _ _ (fun e => h.kB e.symm)]; exact h.at_.res⟩, by simpa using blk_set h.kb 0 (.string x), h.kg, h.kB, h.wK, h.w0K⟩
theorem RdK.fail (h : RdK w0 w g B K kv a b c d W) (hG : Glob.G w0) {m n : Int} {r : Int × ByteArray × Int × Int} (hr : path_reader_fail.f a b c d m n = some r) :
  Calls Tryz.prog 73 #[.pointer (some ⟨g, 0, none⟩), .agg #[.int .i64 m, .int .i64 n]] W fun e w' => e = .returned (.tuple #[]) ∧ RdK w0 w g B K kv r.1 r.2.1 r.2.2.1 r.2.2.2 w' ∧ KeepBut W w' g none :=
 (path_reader_fail.calls g a b c d m n r.1 r.2.1 r.2.2.1 r.2.2.2 w0 W h.at_.is h.at_.bel hG hr).mono fun _ _ ⟨e, i, b, k⟩ => ⟨e, ⟨⟨i, b, h.at_.keep.trans k (.inl rfl), h.at_.ne, k.blk h.at_.res h.at_.ne (by simp)⟩, k.blk h.kb h.kg (by simp), h.kg, h.kB, h.wK, h.w0K⟩, k⟩
theorem RdK.wrong (h : RdK w0 w g B K kv a b c d W) (hG : Glob.G w0) {n : Int} {r : Int × ByteArray × Int × Int} (hr : path_reader_wrong.f a b c d n = some r) :
  Calls Tryz.prog 99 #[.pointer (some ⟨g, 0, none⟩), .int .i64 n] W fun e w' => e = .returned (.tuple #[]) ∧ RdK w0 w g B K kv r.1 r.2.1 r.2.2.1 r.2.2.2 w' ∧ KeepBut W w' g none :=
 (path_reader_wrong.calls g a b c d n r.1 r.2.1 r.2.2.1 r.2.2.2 w0 W h.at_.is h.at_.bel hG hr).mono fun _ _ ⟨e, i, b, k⟩ => ⟨e, ⟨⟨i, b, h.at_.keep.trans k (.inl rfl), h.at_.ne, k.blk h.at_.res h.at_.ne (by simp)⟩, k.blk h.kb h.kg (by simp), h.kg, h.kB, h.wK, h.w0K⟩, k⟩
theorem RdK.k0 (h : RdK w0 w g B K kv a b c d W) : W.cell? ⟨K, 0, none⟩ = some (.string kv) := (blk_cell h.kb 0).trans rfl
theorem RdK.k1 (h : RdK w0 w g B K kv a b c d W) : W.cell? ⟨K, 1, none⟩ = some (.int .i64 0) := (blk_cell h.kb 1).trans rfl
theorem RdK.k2 (h : RdK w0 w g B K kv a b c d W) : W.cell? ⟨K, 2, none⟩ = some (.bool false) := (blk_cell h.kb 2).trans rfl
end
theorem fail_str {a : Int} {b : ByteArray} {c d m n : Int} {q : Int × ByteArray × Int × Int} (h : path_reader_fail.f a b c d m n = some q) : q.1 = a ∧ q.2.1 = b := by
 unfold path_reader_fail.f at h
 split at h <;> exact ⟨congrArg (fun z => z.1) (Option.some.inj h).symm, congrArg (fun z => z.2.1) (Option.some.inj h).symm⟩
def isLet (b : UInt8) : Bool := (decide (97 ≤ b.toNat) && decide (b.toNat ≤ 122)) || (decide (65 ≤ b.toNat) && decide (b.toNat ≤ 90)) || (decide (48 ≤ b.toNat) && decide (b.toNat ≤ 57)) || b.toNat == 45 || b.toNat == 95
def letN (l : List UInt8) : Nat := (l.takeWhile isLet).length
def letters : ByteArray := ⟨#[97, 98, 99, 100, 101, 102, 103, 104, 105, 106, 107, 108, 109, 110, 111, 112, 113, 114, 115, 116, 117, 118, 119, 120, 121, 122, 65, 66, 67, 68, 69, 70, 71, 72, 73, 74, 75, 76, 77, 78, 79, 80, 81, 82, 83, 84, 85, 86, 87, 88, 89, 90, 48, 49, 50, 51, 52, 53, 54, 55, 56, 57, 45, 95]⟩
theorem let_contains (b : UInt8) : letters.data.toList.contains b = isLet b := by
 have : ∀ n : Fin 256, letters.data.toList.contains (UInt8.ofNat n.val) = isLet (UInt8.ofNat n.val) := by decide +kernel
 have h := this ⟨b.toNat, UInt8.toNat_lt b⟩
 simpa using h
theorem letN_le (l : List UInt8) : letN l ≤ l.length := by
  unfold letN; exact (List.takeWhile_prefix (p := isLet)).length_le
theorem trim_let (s : ByteArray) : strings_TrimLeft.f s letters = some (s.extract (letN s.data.toList) s.size) := by
 unfold strings_TrimLeft.f
 rw [if_pos ⟨by decide, by decide⟩]
 have : Lib.trimLeftS s.data.toList letters.data.toList = s.data.toList.drop (letN s.data.toList) := by
  unfold Lib.trimLeftS letN
  rw [← dropWhile_len]
  congr 1
  funext b
  exact let_contains b
 rw [this]
 congr 1
 have h2 : (s.extract (letN s.data.toList) s.size).data.toList = s.data.toList.drop (letN s.data.toList) := drop_list _ _
 cases he : s.extract (letN s.data.toList) s.size with
 | mk d => rw [he] at h2; simp only at h2; rw [← h2]
theorem prefix_one (l : List UInt8) : Lib.hasPrefix l [34] = (at_ l 0 == 34) := by
 cases l with
 | nil => rfl
 | cons a l =>
  show ([34].isPrefixOf (a :: l)) = (a.toNat == 34)
  rw [List.isPrefixOf_cons_cons, List.isPrefixOf_nil_left, Bool.and_true, Bool.eq_iff_iff, beq_iff_eq, beq_iff_eq]
  exact ⟨fun e => by rw [← e]; rfl, fun e => UInt8.toNat_inj.1 (by rw [e]; rfl)⟩
theorem wrong_str' {a : Int} {b : ByteArray} {c d n : Int} {q : Int × ByteArray × Int × Int} (h : path_reader_wrong.f a b c d n = some q) : q.1 = a ∧ q.2.1 = b := by
  unfold path_reader_wrong.f at h; exact fail_str h
theorem readB_most (l : List UInt8) : (readB l).2.1 ≤ l.length := by
 cases h : readB l with
 | mk t r =>
  obtain ⟨n, e, p⟩ := r
  by_cases he : e = 0
  · subst he; exact (readB_means l t n p h).2.2.2
  have := (readB_no l (by rw [h]; exact he)).2
  rw [h] at this; dsimp only at this ⊢; omega
def path_reader_key.f (s0_0 : Int) (s0_1 : ByteArray) (s0_2 : Int) (s0_3 : Int) (a1 : Int) : Option (ByteArray × Int × Bool × Int × ByteArray × Int × Int) :=
  if s0_1.size ≤ 1099511627775 then
    (if at_ s0_1.data.toList 0 = 34 then
      (if (readB s0_1.data.toList).2.2.1 = 0 ∧ (readB s0_1.data.toList).2.2.2 = 0 then some (s0_0, s0_1, s0_2, s0_3) else path_reader_fail.f s0_0 s0_1 s0_2 s0_3 (readB s0_1.data.toList).2.2.1 (wrap64 (wrap64 (s0_0 - (s0_1.size : Int)) + ((readB s0_1.data.toList).2.2.2 : Int)))).bind fun q =>
        some ((⟨(readB s0_1.data.toList).1.toArray⟩ : ByteArray), q.1, s0_1.extract (readB s0_1.data.toList).2.1 s0_1.size, q.2.2.1, q.2.2.2)
    else
      (if letN s0_1.data.toList = 0 then path_reader_wrong.f s0_0 s0_1 s0_2 s0_3 0 else some (s0_0, s0_1, s0_2, s0_3)).bind fun q =>
        some (s0_1.extract 0 (letN s0_1.data.toList), q.1, s0_1.extract (letN s0_1.data.toList) s0_1.size, q.2.2.1, q.2.2.2)).bind fun p =>
    (if 256 < p.1.size then path_reader_fail.f p.2.1 p.2.2.1 p.2.2.2.1 p.2.2.2.2 5 a1 else some (p.2.1, p.2.2.1, p.2.2.2.1, p.2.2.2.2)).bind fun q => some (p.1, 0, false, q.1, q.2.1, q.2.2.1, q.2.2.2)
  else none
attribute [local go_sem high] eqA95
set_option maxHeartbeats 1600000 in
set_option maxRecDepth 100000 in
theorem path_reader_key.calls (g : Nat) (s0_0 : Int) (s0_1 : ByteArray) (s0_2 : Int) (s0_3 : Int) (a1 : Int) (r1 : ByteArray) (r2 : Int) (r3 : Bool) (r4 : Int) (r5 : ByteArray) (r6 : Int) (r7 : Int) (w0 w : World) (hI : IsS138 w0 w g s0_0 s0_1 s0_2 s0_3) (hB : Below w0.heap.size w0 w) (hG : Glob.G w0) (h : path_reader_key.f s0_0 s0_1 s0_2 s0_3 a1 = some (r1, r2, r3, r4, r5, r6, r7)) :
    Calls Tryz.prog 100 #[.pointer (some ⟨g, 0, none⟩), .int .i64 a1] w fun e w' => e = .returned (.agg #[.string r1, .int .i64 r2, .bool r3]) ∧ IsS138 w0 w' g r4 r5 r6 r7 ∧ Below w0.heap.size w0 w' ∧ KeepBut w w' g none := by
  unfold path_reader_key.f at h
  by_cases hs : s0_1.size ≤ 1099511627775
  case neg => rw [if_neg hs] at h; cases h
  rw [if_pos hs] at h
  obtain ⟨p, hp, h⟩ := Option.bind_eq_some_iff.1 h
  obtain ⟨v, hv, h⟩ := Option.bind_eq_some_iff.1 h
  obtain ⟨rfl, rfl, rfl, rfl, rfl, rfl, rfl⟩ := by simpa only [Option.some.injEq, Prod.mk.injEq] using h
  have hL := size_list s0_1
  have hR : RdK w0 w g w.heap.size (w.heap.size + 1) ⟨#[]⟩ s0_0 s0_1 s0_2 s0_3 ((w.alloc (.cells #[.string ⟨#[]⟩, .int .i64 0, .bool false] 98)).alloc (.cells #[.string ⟨#[]⟩, .int .i64 0, .bool false] 98)) := by
    have hlt := hI.lt
    have hsz := hB.size
    have h1 : RdAt w0 w g w.heap.size (KB ⟨#[]⟩) s0_0 s0_1 s0_2 s0_3 (w.alloc (.cells #[.string ⟨#[]⟩, .int .i64 0, .bool false] 98)) :=
      ⟨hI.alloc _, hB.trans (((Below.refl w.heap.size w).alloc (Nat.le_refl _) _).mono hB.size), KeepBut.of_below ((Below.refl w.heap.size w).alloc (Nat.le_refl _) _) g none, fun e => by omega, heap_alloc_new w _⟩
    exact ⟨h1.alloc _, by have := heap_alloc_new (w.alloc (.cells #[.string ⟨#[]⟩, .int .i64 0, .bool false] 98)) (.cells #[.string ⟨#[]⟩, .int .i64 0, .bool false] 98); simpa using this, by omega, by omega, by omega, by omega⟩
  have hRd := Lib.hid hR
  have HW0 := Lib.hid hB.size
  have hG0 := Lib.hid hG
  have hc1 := hR.at_.cell1
  have HL := Lib.hid hL
  clear hI hB hG h hR hL
  by_cases hq : at_ s0_1.data.toList 0 = 34
  · rw [if_pos hq] at hp
    obtain ⟨q, hq2, hp⟩ := Option.bind_eq_some_iff.1 hp
    have HP : Hid (strings_HasPrefix.f s0_1 ⟨#[34]⟩ = some true) := Lib.hid (by unfold strings_HasPrefix.f; rw [show (⟨#[34]⟩ : ByteArray).data.toList = [34] from rfl, prefix_one, hq]; rfl)
    have hRead : quote_Read.f s0_1 = some (⟨(readB s0_1.data.toList).1.toArray⟩, ((readB s0_1.data.toList).2.1 : Int), (readB s0_1.data.toList).2.2.1, ((readB s0_1.data.toList).2.2.2 : Int)) := by
      unfold quote_Read.f; rw [if_pos hs]
    have hbd : (readB s0_1.data.toList).2.1 ≤ s0_1.size := by rw [HL.out]; exact readB_most _
    generalize readB s0_1.data.toList = rb at *
    obtain ⟨t, n, y, z⟩ := rb
    dsimp only at hq2 hp hRead hbd
    generalize (⟨t.toArray⟩ : ByteArray) = T at *
    have HRead := Lib.hid hRead
    have hb2 : (0 : Int) ≤ (n : Int) := Int.natCast_nonneg n
    have hb3 : (n : Int) ≤ (s0_1.size : Int) := by omega
    clear hRead hq
    by_cases c0 : y = 0 ∧ z = 0
    · rw [if_pos c0] at hq2
      obtain rfl := (Option.some.inj hq2).symm
      obtain rfl := (Option.some.inj hp).symm
      have hyz : (y == 0 && ((z : Int) == 0)) = true := by rw [c0.1, c0.2]; rfl
      have HC0 := Lib.hid c0
      clear hq2 hp c0
      dsimp only at hv ⊢
      by_cases c1 : 256 < T.size
      · rw [if_pos c1] at hv
        have hT : decide ((T.size : Int) > 256) = true := decide_eq_true (by omega)
        have HV := Lib.hid hv
        have HC1 := Lib.hid c1
        clear hv c1
        go_enter Tryz.func100, Tryz.ntmps100
        go_wp2_with (first | (go_at_call 125; refine (strings_HasPrefix.calls _ _ _ _ (hG0.out.below hRd.out.at_.bel) HP.out).mono ?_; rintro e w3 ⟨rfl, ⟨n3, rfl⟩⟩; have hR3 := Lib.hid (hRd.out.below (Drawn0.below (Drawn0.step (Drawn0.refl _) n3)))) | (go_at_call 127; refine (quote_Read.calls _ _ _ _ _ _ (hG0.out.below hR3.out.at_.bel) HRead.out).mono ?_; rintro e w4 ⟨rfl, hb4⟩; have hR4 := Lib.hid (hR3.out.below hb4); have HNE := Lib.hid (show w4.heap.size ≠ g from fun e => absurd hR4.out.at_.is.lt (by omega)); have hR5 := Lib.hid (hR4.out.below (((Below.refl w4.heap.size w4).alloc (Nat.le_refl _) (.cells #[.int .i64 y, .int .i64 (z : Int)] 95)))); have hcc1 := hR5.out.at_.cell1; have hcc0 := hR5.out.at_.cell0; have hF := heap_alloc_new w4 (.cells #[.int .i64 y, .int .i64 (z : Int)] 95 (0, 0)); have hf0 := (blk_cell hF 0).trans rfl; have hf1 := (blk_cell hF 1).trans rfl; have HF := Lib.hid hF; clear hF))
        have HR6 := Lib.hid hR5.out
        clear hf0 hf1 hcc0 hcc1 hc1 hyz
        have ha1 := HR6.out.at_.cell1
        have hak := HR6.out.k0
        have hfk := blk_frozen HR6.out.kb 0
        have hR7 := HR6.out.setK T
        have hb1 := hR7.at_.cell1
        have hbf := blk_frozen hR7.at_.is.1 1
        clear hR7
        go_wp2
        go_region
        all_goals
          have hR8 := (((HR6.out.setK T).set1 (s0_1.extract n s0_1.size)).drew)
          generalize World.drew _ = w8 at hR8 ⊢
          replace hR8 := Lib.hid hR8
          have m0 := hR8.out.k0
          go_wp2_with (go_at_call 73; with_reducible refine (hR8.out.fail hG0.out HV.out).mono ?_; rintro e w9 ⟨rfl, hR9, k9⟩; have HR9 := Lib.hid hR9; have s0 := hR9.k0; have s1 := hR9.k1; have s2 := hR9.k2; have p0 := (blk_cell hR9.at_.res 0).trans rfl; have p1 := (blk_cell hR9.at_.res 1).trans rfl; have p2 := (blk_cell hR9.at_.res 2).trans rfl; have q0 := blk_frozen hR9.at_.res 0; have q1 := blk_frozen hR9.at_.res 1; have q2 := blk_frozen hR9.at_.res 2; clear hR9 k9)
          obtain ⟨z0, z1, z2, z3⟩ := HR9.out.at_.ret (Nat.le_refl _) HW0.out (.string T) (.int .i64 0) (.bool false)
          refine bodyPost_ret (results_cell_row rfl _ _ w.heap.size 98 #[.string T, .int .i64 0, .bool false] (0, 0) _ rfl z0 Tryz.underlying98 rfl (by kernel_rfl)) rfl ?_
          exact ⟨rfl, z1, z2, z3⟩
      · rw [if_neg c1] at hv
        have hT : decide ((T.size : Int) > 256) = false := decide_eq_false (by omega)
        obtain rfl := (Option.some.inj hv).symm
        have HC1 := Lib.hid c1
        clear hv c1
        go_enter Tryz.func100, Tryz.ntmps100
        go_wp2_with (first | (go_at_call 125; refine (strings_HasPrefix.calls _ _ _ _ (hG0.out.below hRd.out.at_.bel) HP.out).mono ?_; rintro e w3 ⟨rfl, ⟨n3, rfl⟩⟩; have hR3 := Lib.hid (hRd.out.below (Drawn0.below (Drawn0.step (Drawn0.refl _) n3)))) | (go_at_call 127; refine (quote_Read.calls _ _ _ _ _ _ (hG0.out.below hR3.out.at_.bel) HRead.out).mono ?_; rintro e w4 ⟨rfl, hb4⟩; have hR4 := Lib.hid (hR3.out.below hb4); have HNE := Lib.hid (show w4.heap.size ≠ g from fun e => absurd hR4.out.at_.is.lt (by omega)); have hR5 := Lib.hid (hR4.out.below (((Below.refl w4.heap.size w4).alloc (Nat.le_refl _) (.cells #[.int .i64 y, .int .i64 (z : Int)] 95)))); have hcc1 := hR5.out.at_.cell1; have hcc0 := hR5.out.at_.cell0; have hF := heap_alloc_new w4 (.cells #[.int .i64 y, .int .i64 (z : Int)] 95 (0, 0)); have hf0 := (blk_cell hF 0).trans rfl; have hf1 := (blk_cell hF 1).trans rfl; have HF := Lib.hid hF; clear hF))
        have HR6 := Lib.hid hR5.out
        clear hf0 hf1 hcc0 hcc1 hc1 hyz
        have ha1 := HR6.out.at_.cell1
        have hak := HR6.out.k0
        have hfk := blk_frozen HR6.out.kb 0
        have hR7 := HR6.out.setK T
        have hb1 := hR7.at_.cell1
        have hbf := blk_frozen hR7.at_.is.1 1
        clear hR7
        go_wp2
        go_region
        all_goals
          have hR8 := (((HR6.out.setK T).set1 (s0_1.extract n s0_1.size)).drew)
          generalize World.drew _ = w8 at hR8 ⊢
          replace hR8 := Lib.hid hR8
          have m0 := hR8.out.k0
          have s1 := hR8.out.k1; have s2 := hR8.out.k2; have p0 := (blk_cell hR8.out.at_.res 0).trans rfl; have p1 := (blk_cell hR8.out.at_.res 1).trans rfl; have p2 := (blk_cell hR8.out.at_.res 2).trans rfl; have q0 := blk_frozen hR8.out.at_.res 0; have q1 := blk_frozen hR8.out.at_.res 1; have q2 := blk_frozen hR8.out.at_.res 2
          go_wp2
          obtain ⟨z0, z1, z2, z3⟩ := hR8.out.at_.ret (Nat.le_refl _) HW0.out (.string T) (.int .i64 0) (.bool false)
          refine bodyPost_ret (results_cell_row rfl _ _ w.heap.size 98 #[.string T, .int .i64 0, .bool false] (0, 0) _ rfl z0 Tryz.underlying98 rfl (by kernel_rfl)) rfl ?_
          exact ⟨rfl, z1, z2, z3⟩
    · rw [if_neg c0] at hq2
      obtain rfl := (Option.some.inj hp).symm
      obtain ⟨x1, hx1⟩ : ∃ x1, wrap64 (s0_0 - (s0_1.size : Int)) = x1 := ⟨_, rfl⟩
      obtain ⟨x2, hx2⟩ : ∃ x2, wrap64 (x1 + (z : Int)) = x2 := ⟨_, rfl⟩
      rw [hx1, hx2] at hq2
      have e1 : IntKind.i64.wrap (s0_0 - (s0_1.size : Int)) = x1 := (i64_w _).trans hx1
      have e2 : IntKind.i64.wrap (x1 + (z : Int)) = x2 := (i64_w _).trans hx2
      have hyz : (y == 0 && ((z : Int) == 0)) = false := by
        rw [Bool.eq_false_iff]; intro e; rw [Bool.and_eq_true, beq_iff_eq, beq_iff_eq] at e; exact c0 ⟨e.1, by omega⟩
      have HQ2 := Lib.hid hq2
      have hqs := fail_str hq2
      have HC0 := Lib.hid c0
      clear hx1 hx2 hp c0 hq2
      obtain ⟨qa, qb, qc, qd⟩ := q
      simp only at hqs hv; obtain ⟨rfl, rfl⟩ := hqs
      dsimp only
      by_cases c1 : 256 < T.size
      · rw [if_pos c1] at hv
        have hT : decide ((T.size : Int) > 256) = true := decide_eq_true (by omega)
        have HV := Lib.hid hv
        have HC1 := Lib.hid c1
        clear hv c1
        go_enter Tryz.func100, Tryz.ntmps100
        go_wp2_with (first | (go_at_call 125; refine (strings_HasPrefix.calls _ _ _ _ (hG0.out.below hRd.out.at_.bel) HP.out).mono ?_; rintro e w3 ⟨rfl, ⟨n3, rfl⟩⟩; have hR3 := Lib.hid (hRd.out.below (Drawn0.below (Drawn0.step (Drawn0.refl _) n3)))) | (go_at_call 127; refine (quote_Read.calls _ _ _ _ _ _ (hG0.out.below hR3.out.at_.bel) HRead.out).mono ?_; rintro e w4 ⟨rfl, hb4⟩; have hR4 := Lib.hid (hR3.out.below hb4); have HNE := Lib.hid (show w4.heap.size ≠ g from fun e => absurd hR4.out.at_.is.lt (by omega)); have hR5 := Lib.hid (hR4.out.below (((Below.refl w4.heap.size w4).alloc (Nat.le_refl _) (.cells #[.int .i64 y, .int .i64 (z : Int)] 95)))); have hcc1 := hR5.out.at_.cell1; have hcc0 := hR5.out.at_.cell0; have hF := heap_alloc_new w4 (.cells #[.int .i64 y, .int .i64 (z : Int)] 95 (0, 0)); have hf0 := (blk_cell hF 0).trans rfl; have hf1 := (blk_cell hF 1).trans rfl; have HF := Lib.hid hF; clear hF))
        go_region_held3 (fun W' => W'.cell? ⟨w4.heap.size, 0, none⟩ = some (.int .i64 y) ∧ W'.cell? ⟨w4.heap.size, 1, none⟩ = some (.int .i64 (z : Int)) ∧ W'.cell? ⟨g, 0, none⟩ = some (.int .i64 qa) ∧ W'.cell? ⟨g, 1, none⟩ = some (.string qb))
          (first | exact ⟨hf0, hf1, hcc0, hcc1⟩ | exact ⟨(blk_cell k6 0).trans rfl, (blk_cell k6 1).trans rfl, hR6.at_.cell0, hR6.at_.cell1⟩)
          ((go_at_call 73; with_reducible refine (hR5.out.drew.fail hG0.out HQ2.out).mono ?_; rintro e w6 ⟨rfl, hR6, k6⟩; have k6 := k6.blk HF.out HNE.out (by simp)))
        have HR6 := Lib.hid hR6
        clear e1 e2 hf0 hf1 k6 hcc0 hcc1 hR6 hc1 hyz
        have ha1 := HR6.out.at_.cell1
        have hak := HR6.out.k0
        have hfk := blk_frozen HR6.out.kb 0
        have hR7 := HR6.out.setK T
        have hb1 := hR7.at_.cell1
        have hbf := blk_frozen hR7.at_.is.1 1
        clear hR7
        go_wp2
        go_region
        all_goals
          have hR8 := (((HR6.out.setK T).set1 (qb.extract n qb.size)).drew)
          generalize World.drew _ = w8 at hR8 ⊢
          replace hR8 := Lib.hid hR8
          have m0 := hR8.out.k0
          go_wp2_with (go_at_call 73; with_reducible refine (hR8.out.fail hG0.out HV.out).mono ?_; rintro e w9 ⟨rfl, hR9, k9⟩; have HR9 := Lib.hid hR9; have s0 := hR9.k0; have s1 := hR9.k1; have s2 := hR9.k2; have p0 := (blk_cell hR9.at_.res 0).trans rfl; have p1 := (blk_cell hR9.at_.res 1).trans rfl; have p2 := (blk_cell hR9.at_.res 2).trans rfl; have q0 := blk_frozen hR9.at_.res 0; have q1 := blk_frozen hR9.at_.res 1; have q2 := blk_frozen hR9.at_.res 2; clear hR9 k9)
          obtain ⟨z0, z1, z2, z3⟩ := HR9.out.at_.ret (Nat.le_refl _) HW0.out (.string T) (.int .i64 0) (.bool false)
          refine bodyPost_ret (results_cell_row rfl _ _ w.heap.size 98 #[.string T, .int .i64 0, .bool false] (0, 0) _ rfl z0 Tryz.underlying98 rfl (by kernel_rfl)) rfl ?_
          exact ⟨rfl, z1, z2, z3⟩
      · rw [if_neg c1] at hv
        have hT : decide ((T.size : Int) > 256) = false := decide_eq_false (by omega)
        obtain rfl := (Option.some.inj hv).symm
        have HC1 := Lib.hid c1
        clear hv c1
        go_enter Tryz.func100, Tryz.ntmps100
        go_wp2_with (first | (go_at_call 125; refine (strings_HasPrefix.calls _ _ _ _ (hG0.out.below hRd.out.at_.bel) HP.out).mono ?_; rintro e w3 ⟨rfl, ⟨n3, rfl⟩⟩; have hR3 := Lib.hid (hRd.out.below (Drawn0.below (Drawn0.step (Drawn0.refl _) n3)))) | (go_at_call 127; refine (quote_Read.calls _ _ _ _ _ _ (hG0.out.below hR3.out.at_.bel) HRead.out).mono ?_; rintro e w4 ⟨rfl, hb4⟩; have hR4 := Lib.hid (hR3.out.below hb4); have HNE := Lib.hid (show w4.heap.size ≠ g from fun e => absurd hR4.out.at_.is.lt (by omega)); have hR5 := Lib.hid (hR4.out.below (((Below.refl w4.heap.size w4).alloc (Nat.le_refl _) (.cells #[.int .i64 y, .int .i64 (z : Int)] 95)))); have hcc1 := hR5.out.at_.cell1; have hcc0 := hR5.out.at_.cell0; have hF := heap_alloc_new w4 (.cells #[.int .i64 y, .int .i64 (z : Int)] 95 (0, 0)); have hf0 := (blk_cell hF 0).trans rfl; have hf1 := (blk_cell hF 1).trans rfl; have HF := Lib.hid hF; clear hF))
        go_region_held3 (fun W' => W'.cell? ⟨w4.heap.size, 0, none⟩ = some (.int .i64 y) ∧ W'.cell? ⟨w4.heap.size, 1, none⟩ = some (.int .i64 (z : Int)) ∧ W'.cell? ⟨g, 0, none⟩ = some (.int .i64 qa) ∧ W'.cell? ⟨g, 1, none⟩ = some (.string qb))
          (first | exact ⟨hf0, hf1, hcc0, hcc1⟩ | exact ⟨(blk_cell k6 0).trans rfl, (blk_cell k6 1).trans rfl, hR6.at_.cell0, hR6.at_.cell1⟩)
          ((go_at_call 73; with_reducible refine (hR5.out.drew.fail hG0.out HQ2.out).mono ?_; rintro e w6 ⟨rfl, hR6, k6⟩; have k6 := k6.blk HF.out HNE.out (by simp)))
        have HR6 := Lib.hid hR6
        clear e1 e2 hf0 hf1 k6 hcc0 hcc1 hR6 hc1 hyz
        have ha1 := HR6.out.at_.cell1
        have hak := HR6.out.k0
        have hfk := blk_frozen HR6.out.kb 0
        have hR7 := HR6.out.setK T
        have hb1 := hR7.at_.cell1
        have hbf := blk_frozen hR7.at_.is.1 1
        clear hR7
        go_wp2
        go_region
        all_goals
          have hR8 := (((HR6.out.setK T).set1 (qb.extract n qb.size)).drew)
          generalize World.drew _ = w8 at hR8 ⊢
          replace hR8 := Lib.hid hR8
          have m0 := hR8.out.k0
          have s1 := hR8.out.k1; have s2 := hR8.out.k2; have p0 := (blk_cell hR8.out.at_.res 0).trans rfl; have p1 := (blk_cell hR8.out.at_.res 1).trans rfl; have p2 := (blk_cell hR8.out.at_.res 2).trans rfl; have q0 := blk_frozen hR8.out.at_.res 0; have q1 := blk_frozen hR8.out.at_.res 1; have q2 := blk_frozen hR8.out.at_.res 2
          go_wp2
          obtain ⟨z0, z1, z2, z3⟩ := hR8.out.at_.ret (Nat.le_refl _) HW0.out (.string T) (.int .i64 0) (.bool false)
          refine bodyPost_ret (results_cell_row rfl _ _ w.heap.size 98 #[.string T, .int .i64 0, .bool false] (0, 0) _ rfl z0 Tryz.underlying98 rfl (by kernel_rfl)) rfl ?_
          exact ⟨rfl, z1, z2, z3⟩
  · rw [if_neg hq] at hp
    obtain ⟨q, hq2, hp⟩ := Option.bind_eq_some_iff.1 hp
    have HP : Hid (strings_HasPrefix.f s0_1 ⟨#[34]⟩ = some false) := Lib.hid (by unfold strings_HasPrefix.f; rw [show (⟨#[34]⟩ : ByteArray).data.toList = [34] from rfl, prefix_one, beq_eq_false_iff_ne.2 hq])
    have hn := letN_le s0_1.data.toList
    rw [← HL.out] at hn
    obtain ⟨u, hu, hul⟩ : ∃ u : ByteArray, strings_TrimLeft.f s0_1 letters = some u ∧ u.size + letN s0_1.data.toList = s0_1.size := ⟨_, trim_let s0_1, by
      rw [size_list, drop_list, List.length_drop, ← HL.out]; omega⟩
    generalize letN s0_1.data.toList = n at *
    obtain ⟨T, hT0⟩ : ∃ T : ByteArray, s0_1.extract 0 n = T := ⟨_, rfl⟩
    have hTs : T.size = n := by rw [← hT0, size_list, extract_list, List.length_take, List.drop_zero, ← HL.out]; omega
    rw [hT0] at hp
    obtain rfl := (Option.some.inj hp).symm
    have e1 : IntKind.i64.wrap ((s0_1.size : Int) - (u.size : Int)) = (n : Int) := by rw [show (s0_1.size : Int) - (u.size : Int) = (n : Int) by omega]; exact IntWalk.i64_in _ (by omega)
    have hb2 : (0 : Int) ≤ (n : Int) := Int.natCast_nonneg n
    have hb3 : (n : Int) ≤ (s0_1.size : Int) := by omega
    have HU := Lib.hid hul; have HT := Lib.hid hu; have HTS := Lib.hid hTs; have HQ := Lib.hid hq
    clear hp hq hul hu hTs
    by_cases c0 : n = 0
    · rw [if_pos c0] at hq2
      have HQ2 := Lib.hid hq2
      have hqs := wrong_str' hq2
      have hn0 : ((n : Int) == 0) = true := by rw [c0]; rfl
      have c1 : ¬ 256 < T.size := by have := HTS.out; omega
      have HC0 := Lib.hid c0
      clear hq2 c0
      obtain ⟨qa, qb, qc, qd⟩ := q
      simp only at hqs hv; obtain ⟨rfl, rfl⟩ := hqs
      dsimp only
      rw [if_neg c1] at hv
      have hT : decide ((T.size : Int) > 256) = false := decide_eq_false (by omega)
      obtain rfl := (Option.some.inj hv).symm
      have HC1 := Lib.hid c1
      clear hv c1
      go_enter Tryz.func100, Tryz.ntmps100
      go_wp2_with (go_at_call 125; refine (strings_HasPrefix.calls _ _ _ _ (hG0.out.below hRd.out.at_.bel) HP.out).mono ?_; rintro e w3 ⟨rfl, ⟨n3, rfl⟩⟩; have hR3 := Lib.hid (hRd.out.below (Drawn0.below (Drawn0.step (Drawn0.refl _) n3))))
      have hcc1 := hR3.out.at_.cell1
      go_region_held3 (fun W' => W'.cell? ⟨g, 1, none⟩ = some (.string qb)) (first | exact hcc1 | exact hR4.at_.cell1)
        ((go_at_call 124; refine (strings_TrimLeft.calls _ _ _ _ (hG0.out.below hR3.out.drew.at_.bel) HT.out).mono ?_; rintro e w4 ⟨rfl, hb4⟩; have hR4 := hR3.out.drew.below hb4))
      have HR4 := Lib.hid hR4
      clear hR4
      go_wp2_with (go_at_call 99; with_reducible refine (HR4.out.wrong hG0.out HQ2.out).mono ?_; rintro e w6 ⟨rfl, hR6, k6⟩; have HR6 := Lib.hid hR6; clear hR6 k6)
      have ha1 := HR6.out.at_.cell1
      have hak := HR6.out.k0
      have hfk := blk_frozen HR6.out.kb 0
      have hR7 := HR6.out.setK T
      have hb1 := hR7.at_.cell1
      have hbf := blk_frozen hR7.at_.is.1 1
      clear hR7
      go_region
      all_goals
        have hR8 := (((HR6.out.setK T).set1 (qb.extract n qb.size)).drew)
        generalize World.drew _ = w8 at hR8 ⊢
        replace hR8 := Lib.hid hR8
        have m0 := hR8.out.k0
        have s1 := hR8.out.k1; have s2 := hR8.out.k2; have p0 := (blk_cell hR8.out.at_.res 0).trans rfl; have p1 := (blk_cell hR8.out.at_.res 1).trans rfl; have p2 := (blk_cell hR8.out.at_.res 2).trans rfl; have q0 := blk_frozen hR8.out.at_.res 0; have q1 := blk_frozen hR8.out.at_.res 1; have q2 := blk_frozen hR8.out.at_.res 2
        go_wp2
        obtain ⟨z0, z1, z2, z3⟩ := hR8.out.at_.ret (Nat.le_refl _) HW0.out (.string T) (.int .i64 0) (.bool false)
        refine bodyPost_ret (results_cell_row rfl _ _ w.heap.size 98 #[.string T, .int .i64 0, .bool false] (0, 0) _ rfl z0 Tryz.underlying98 rfl (by kernel_rfl)) rfl ?_
        exact ⟨rfl, z1, z2, z3⟩
    · rw [if_neg c0] at hq2
      obtain rfl := (Option.some.inj hq2).symm
      have hn0 : ((n : Int) == 0) = false := by rw [beq_eq_false_iff_ne]; omega
      have HC0 := Lib.hid c0
      clear hq2 c0
      dsimp only at hv ⊢
      by_cases c1 : 256 < T.size
      · rw [if_pos c1] at hv
        have hT : decide ((T.size : Int) > 256) = true := decide_eq_true (by omega)
        have HV := Lib.hid hv
        have HC1 := Lib.hid c1
        clear hv c1
        go_enter Tryz.func100, Tryz.ntmps100
        go_wp2_with (go_at_call 125; refine (strings_HasPrefix.calls _ _ _ _ (hG0.out.below hRd.out.at_.bel) HP.out).mono ?_; rintro e w3 ⟨rfl, ⟨n3, rfl⟩⟩; have hR3 := Lib.hid (hRd.out.below (Drawn0.below (Drawn0.step (Drawn0.refl _) n3))))
        have hcc1 := hR3.out.at_.cell1
        go_region_held3 (fun W' => W'.cell? ⟨g, 1, none⟩ = some (.string s0_1)) (first | exact hcc1 | exact hR4.at_.cell1)
          ((go_at_call 124; refine (strings_TrimLeft.calls _ _ _ _ (hG0.out.below hR3.out.drew.at_.bel) HT.out).mono ?_; rintro e w4 ⟨rfl, hb4⟩; have hR4 := hR3.out.drew.below hb4))
        have HR4 := Lib.hid hR4
        clear hR4
        have HR6 := Lib.hid HR4.out
        have ha1 := HR6.out.at_.cell1
        have hak := HR6.out.k0
        have hfk := blk_frozen HR6.out.kb 0
        have hR7 := HR6.out.setK T
        have hb1 := hR7.at_.cell1
        have hbf := blk_frozen hR7.at_.is.1 1
        clear hR7
        go_wp2
        go_region
        all_goals
          have hR8 := (((HR6.out.setK T).set1 (s0_1.extract n s0_1.size)).drew)
          generalize World.drew _ = w8 at hR8 ⊢
          replace hR8 := Lib.hid hR8
          have m0 := hR8.out.k0
          go_wp2_with (go_at_call 73; with_reducible refine (hR8.out.fail hG0.out HV.out).mono ?_; rintro e w9 ⟨rfl, hR9, k9⟩; have HR9 := Lib.hid hR9; have s0 := hR9.k0; have s1 := hR9.k1; have s2 := hR9.k2; have p0 := (blk_cell hR9.at_.res 0).trans rfl; have p1 := (blk_cell hR9.at_.res 1).trans rfl; have p2 := (blk_cell hR9.at_.res 2).trans rfl; have q0 := blk_frozen hR9.at_.res 0; have q1 := blk_frozen hR9.at_.res 1; have q2 := blk_frozen hR9.at_.res 2; clear hR9 k9)
          obtain ⟨z0, z1, z2, z3⟩ := HR9.out.at_.ret (Nat.le_refl _) HW0.out (.string T) (.int .i64 0) (.bool false)
          refine bodyPost_ret (results_cell_row rfl _ _ w.heap.size 98 #[.string T, .int .i64 0, .bool false] (0, 0) _ rfl z0 Tryz.underlying98 rfl (by kernel_rfl)) rfl ?_
          exact ⟨rfl, z1, z2, z3⟩
      · rw [if_neg c1] at hv
        have hT : decide ((T.size : Int) > 256) = false := decide_eq_false (by omega)
        obtain rfl := (Option.some.inj hv).symm
        have HC1 := Lib.hid c1
        clear hv c1
        go_enter Tryz.func100, Tryz.ntmps100
        go_wp2_with (go_at_call 125; refine (strings_HasPrefix.calls _ _ _ _ (hG0.out.below hRd.out.at_.bel) HP.out).mono ?_; rintro e w3 ⟨rfl, ⟨n3, rfl⟩⟩; have hR3 := Lib.hid (hRd.out.below (Drawn0.below (Drawn0.step (Drawn0.refl _) n3))))
        have hcc1 := hR3.out.at_.cell1
        go_region_held3 (fun W' => W'.cell? ⟨g, 1, none⟩ = some (.string s0_1)) (first | exact hcc1 | exact hR4.at_.cell1)
          ((go_at_call 124; refine (strings_TrimLeft.calls _ _ _ _ (hG0.out.below hR3.out.drew.at_.bel) HT.out).mono ?_; rintro e w4 ⟨rfl, hb4⟩; have hR4 := hR3.out.drew.below hb4))
        have HR4 := Lib.hid hR4
        clear hR4
        have HR6 := Lib.hid HR4.out
        have ha1 := HR6.out.at_.cell1
        have hak := HR6.out.k0
        have hfk := blk_frozen HR6.out.kb 0
        have hR7 := HR6.out.setK T
        have hb1 := hR7.at_.cell1
        have hbf := blk_frozen hR7.at_.is.1 1
        clear hR7
        go_wp2
        go_region
        all_goals
          have hR8 := (((HR6.out.setK T).set1 (s0_1.extract n s0_1.size)).drew)
          generalize World.drew _ = w8 at hR8 ⊢
          replace hR8 := Lib.hid hR8
          have m0 := hR8.out.k0
          have s1 := hR8.out.k1; have s2 := hR8.out.k2; have p0 := (blk_cell hR8.out.at_.res 0).trans rfl; have p1 := (blk_cell hR8.out.at_.res 1).trans rfl; have p2 := (blk_cell hR8.out.at_.res 2).trans rfl; have q0 := blk_frozen hR8.out.at_.res 0; have q1 := blk_frozen hR8.out.at_.res 1; have q2 := blk_frozen hR8.out.at_.res 2
          go_wp2
          obtain ⟨z0, z1, z2, z3⟩ := hR8.out.at_.ret (Nat.le_refl _) HW0.out (.string T) (.int .i64 0) (.bool false)
          refine bodyPost_ret (results_cell_row rfl _ _ w.heap.size 98 #[.string T, .int .i64 0, .bool false] (0, 0) _ rfl z0 Tryz.underlying98 rfl (by kernel_rfl)) rfl ?_
          exact ⟨rfl, z1, z2, z3⟩
end Go.Proofs.YtiooacmplmcphaaGreatDoor.Plug
namespace Go.Proofs.YtiooacmplmcphaaGreatDoor.Plug
open RowKit YtiooacmplmcphaaGreatDoor YtiooacmplmcphaaGreatDoor.Utf YtiooacmplmcphaaGreatDoorW.PrintWords YtiooacmplmcphaaGreatDoorW.PrintLast
theorem tz_idx : IntKind.u64.wrap (bits .and .u64 16 (IntKind.u64.wrap (-16)) * 285870213051353865) / 288230376151711744 = 15 := by decide +kernel
theorem tz_name : Tryz.prog.globalNamed "math/bits.deBruijn64tab" = some 6 := by kernel_rfl
set_option maxRecDepth 100000 in
theorem trail (w : World) (hG : Glob.G w) : Calls Tryz.prog 192 #[.int .u64 16] w fun e w' => e = .returned (.int .i64 4) ∧ w' = w := by
 have hc : w.cell? ⟨6, 15, none⟩ = some (.int .u8 4) := hG.tz.cell tz_name 15 (by decide)
 have hi := tz_idx
 go_enter Tryz.func192, Tryz.ntmps192
 go_wp2
 go_ret
 exact ⟨rfl, rfl⟩
def hexD : Nat → Nat → List UInt8
 | 0, _ => []
 | k + 1, n => if n < 16 then [hexc n] else hexD k (n / 16) ++ [hexc (n % 16)]
theorem and15 (u : Nat) (h : u < 65536) : bits .and .u64 (u : Int) 15 = ((u % 16 : Nat) : Int) := by
 have h1 := u64_and_nat u 15 (by omega) (by decide)
 rw [show ((15 : Nat) : Int) = 15 from rfl, show u &&& 15 = u % 16 from Nat.and_two_pow_sub_one_eq_mod u 4] at h1
 exact h1
def digitsB : ByteArray := ⟨#[48, 49, 50, 51, 52, 53, 54, 55, 56, 57, 97, 98, 99, 100, 101, 102, 103, 104, 105, 106, 107, 108, 109, 110, 111, 112, 113, 114, 115, 116, 117, 118, 119, 120, 121, 122]⟩
theorem dig_fact : ∀ r : Fin 16, digitsB.data[r.val]? = some (hexc r.val) := by decide +kernel
theorem dig_at (r : Nat) (hr : r < 16) (h : r < (⟨#[48, 49, 50, 51, 52, 53, 54, 55, 56, 57, 97, 98, 99, 100, 101, 102, 103, 104, 105, 106, 107, 108, 109, 110, 111, 112, 113, 114, 115, 116, 117, 118, 119, 120, 121, 122]⟩ : ByteArray).size) :
  (((⟨#[48, 49, 50, 51, 52, 53, 54, 55, 56, 57, 97, 98, 99, 100, 101, 102, 103, 104, 105, 106, 107, 108, 109, 110, 111, 112, 113, 114, 115, 116, 117, 118, 119, 120, 121, 122]⟩ : ByteArray)[r]'h).toNat : Int) = ((hexc r).toNat : Int) := by
 have := dig_fact ⟨r, hr⟩
 simp only at this
 have h2 : digitsB.data[r]? = some (digitsB.data[r]'h) := Array.getElem?_eq_getElem h
 rw [h2] at this
 have h3 := Option.some.inj this
 exact congrArg (fun b : UInt8 => (b.toNat : Int)) h3
set_option maxHeartbeats 1600000 in
set_option maxRecDepth 100000 in
theorem fmt_bits (n : Nat) (hn : n < 65536) (w : World) (hG : Glob.G w) :
    Calls Tryz.prog 136 #[.slice none 0 0, .int .u64 (n : Int), .int .i64 16, .bool false, .bool false] w fun e w' => e = .returned (.tuple #[.slice none 0 0, .string ⟨(hexD 4 n).toArray⟩]) ∧ Below w.heap.size w w' := by
  have hz : Tryz.zeroCells230.size = 65 := by kernel_rfl
  go_enter Tryz.func136, Tryz.ntmps136
  go_wp2_with (first | (go_at_call 192; refine (trail _ (hG.below ((Below.refl _ _).alloc (Nat.le_refl _) _))).mono ?_; rintro e w1 ⟨rfl, rfl⟩) | (go_at_call 171; go_enter Tryz.func171, Tryz.ntmps171) | (go_at_call 170; go_enter Tryz.func170, Tryz.ntmps170))
  go_loopw [1, 13] (fun vu vi wr => ∃ (u q : Nat) (arr : Array Value) (ds : List UInt8), vu = .int .u64 u ∧ vi = .int .i64 ((q : Int) + 1) ∧ 60 < q ∧ q + ds.length = 64 ∧ u < 16 ^ (q - 60) ∧ Hid (hexD (q - 60) u ++ ds = hexD 4 n) ∧ wr.heap[w.heap.size]? = some (.cells arr 230 (0, 0)) ∧ arr.size = 65 ∧ Hid (∀ k (hk : k < ds.length), arr[q + 1 + k]? = some (.int .u8 (ds[k].toNat : Int))) ∧ Below w.heap.size w wr) (fun vu _ _ => (intOf vu).toNat)
  case atStart => exact ⟨n, 64, Tryz.zeroCells230, [], rfl, rfl, by decide, rfl, by omega, Lib.hid (by simp), heap_alloc_new w _, hz, Lib.hid (fun k hk => by simp at hk), (Below.refl _ _).alloc (Nat.le_refl _) _⟩
  case round =>
    obtain ⟨u, q, arr, ds, rfl, rfl, hq, hdl, hu, hst, hblk, har, hds, hb⟩ := hrel
    have hu2 : u < 65536 := by
      rcases (by omega : q = 61 ∨ q = 62 ∨ q = 63 ∨ q = 64) with rfl | rfl | rfl | rfl <;> simp at hu <;> omega
    have hand := and15 u hu2
    have hlt := Bld.at_lt hblk
    have hcell : wr.cell? ⟨w.heap.size, q, none⟩ = some (arr[q]'(by omega)) := by rw [blk_cell hblk]; exact Array.getElem?_eq_getElem (by omega)
    have hfz := blk_frozen hblk q
    by_cases hg : 16 ≤ u
    · have hc : decide ((u : Int) ≥ 16) = true := by simp; omega
      have hr : u % 16 < 16 := by omega
      have hdig := dig_at (u % 16) hr
      have hq2 : 61 < q := by
        rcases (by omega : q = 61 ∨ 61 < q) with rfl | h
        · simp at hu; omega
        · exact h
      have hset := blk_set hblk q (.int .u8 ((hexc (u % 16)).toNat : Int))
      have hst2 := hst.out
      rw [show q - 60 = (q - 1 - 60) + 1 by omega, hexD, if_neg (by omega), List.append_assoc, List.singleton_append] at hst2
      have HS := Lib.hid hst2
      have hu3 : u / 16 < 16 ^ (q - 1 - 60) := by
        rw [Nat.div_lt_iff_lt_mul (by decide), ← Nat.pow_succ]
        rw [show (q - 1 - 60).succ = q - 60 by omega]; exact hu
      have HD : Hid (∀ k (hk : k < (hexc (u % 16) :: ds).length), (arr.setIfInBounds q (.int .u8 ((hexc (u % 16)).toNat : Int)))[q - 1 + 1 + k]? = some (.int .u8 ((hexc (u % 16) :: ds)[k].toNat : Int))) := by
        refine Lib.hid fun k hk => ?_
        rw [show q - 1 + 1 + k = q + k by omega]
        cases k with
        | zero => rw [Nat.add_zero, Array.getElem?_setIfInBounds_self_of_lt (by omega)]; rfl
        | succ k => rw [Array.getElem?_setIfInBounds_ne (by omega)]; have := hds.out k (by simpa using hk); rw [show q + (k + 1) = q + 1 + k by omega]; exact this
      clear hst hst2 hds
      go_wp2
      refine ⟨⟨.int .u64 ((u : Int) / 16), .int .i64 (q : Int), _, _, _, _, _, _, _, _, _, _, _, _, _, _, ⟨u / 16, q - 1, _, hexc (u % 16) :: ds, by first | rfl | (congr 1; omega), by congr 1; omega, by omega, by simp; omega, hu3, Lib.hid HS.out, hset, by simp [har], Lib.hid HD.out, hb.setCell (p := ⟨w.heap.size, q, none⟩) (Nat.le_refl _) _⟩, rfl⟩, ?_⟩
      simp [intOf]; omega
    · have hc : decide ((u : Int) ≥ 16) = false := by simp; omega
      have hdig := dig_at u (by omega)
      have hset := blk_set hblk q (.int .u8 ((hexc u).toNat : Int))
      have hst2 := hst.out
      rw [show q - 60 = (q - 1 - 60) + 1 by omega, hexD, if_pos (by omega), List.singleton_append] at hst2
      have hcv := run_convert_bytes_back (P := Tryz.prog) (wr.setCell ⟨w.heap.size, q, none⟩ (.int .u8 ((hexc u).toNat : Int))) 104 9 5 ⟨w.heap.size, q, none⟩ (65 - q) (hexc u :: ds) (by kernel_rfl) (by kernel_rfl) (by kernel_rfl) (fun k hk => by
        rw [show (Addr.add ⟨w.heap.size, q, none⟩ k) = ⟨w.heap.size, q + k, none⟩ by simp [Addr.add], blk_cell hset]
        cases k with
        | zero => rw [Nat.add_zero, Array.getElem?_setIfInBounds_self_of_lt (by omega)]; rfl
        | succ k => rw [Array.getElem?_setIfInBounds_ne (by omega), show q + (k + 1) = q + 1 + k by omega]; exact hds.out k (by simpa using hk))
      rw [List.length_cons, show ds.length + 1 = 65 - q by omega] at hcv
      have HS := Lib.hid hst2
      have l1 : ((q : Int) ≤ 65) = True := eq_true (by omega)
      have l2 : q ≤ 65 := by omega
      clear hst hst2 hds hset
      go_wp2
      go_ret2
      exact ⟨by rw [← HS.out]; rfl, hb.setCell (p := ⟨w.heap.size, q, none⟩) (Nat.le_refl _) _⟩
set_option maxHeartbeats 1600000 in
set_option maxRecDepth 100000 in
theorem fmt_in (n : Nat) (hn : n < 65536) (w : World) (hG : Glob.G w) :
  Calls Tryz.prog 107 #[.int .i64 (n : Int), .int .i64 16] w fun e w' => e = .returned (.string ⟨(hexD 4 n).toArray⟩) ∧ Below w.heap.size w w' := by
 have hd : decide ((n : Int) < 0) = false := decide_eq_false (by omega)
 go_enter Tryz.func107, Tryz.ntmps107
 go_wp2_with (go_at_call 136; (try rw [hd]); refine (fmt_bits n hn _ hG).mono ?_; rintro e w1 ⟨rfl, hb⟩)
 go_ret
 exact ⟨rfl, hb⟩
set_option maxRecDepth 100000 in
theorem fmt_out (n : Nat) (hn : n < 65536) (w : World) (hG : Glob.G w) :
  Calls Tryz.prog 178 #[.int .i64 (n : Int), .int .i64 16] w fun e w' => e = .returned (.string ⟨(hexD 4 n).toArray⟩) ∧ Below w.heap.size w w' := by
 go_enter Tryz.func178, Tryz.ntmps178
 go_wp2_with (go_at_call 107; refine (fmt_in n hn _ hG).mono ?_; rintro e w1 ⟨rfl, hb⟩)
 go_ret
 exact ⟨rfl, hb⟩
set_option maxRecDepth 100000 in
theorem repeat_none (s : ByteArray) (w : World) : Calls Tryz.prog 179 #[.string s, .int .i64 0] w fun e w' => e = .returned (.string ⟨#[]⟩) ∧ w' = w := by
 go_enter Tryz.func179, Tryz.ntmps179
 go_wp2
 go_ret
 exact ⟨rfl, rfl⟩
set_option maxRecDepth 100000 in
theorem repeat_one (s : ByteArray) (w : World) : Calls Tryz.prog 179 #[.string s, .int .i64 1] w fun e w' => e = .returned (.string s) ∧ w' = w := by
 go_enter Tryz.func179, Tryz.ntmps179
 go_wp2
 go_ret
 exact ⟨rfl, rfl⟩
theorem hexs_two (n : Nat) (h : n < 256) : hexs n 2 = if n < 16 then 48 :: hexD 4 n else hexD 4 n := by
 by_cases c : n < 16
 ·
  rw [if_pos c]
  simp only [hexs, hexD]
  rw [if_pos c, Nat.div_eq_of_lt c, Nat.mod_eq_of_lt c]; rfl
 rw [if_neg c]
 simp only [hexs, hexD]
 rw [if_neg c, if_pos (by omega), show n / 16 % 16 = n / 16 from Nat.mod_eq_of_lt (by omega)]; rfl
theorem hexs_four (n : Nat) (h : n < 65536) (h2 : 4096 ≤ n) : hexs n 4 = hexD 4 n := by
 simp only [hexs, hexD]
 rw [if_neg (by omega), if_neg (by omega), if_neg (by omega), if_pos (by omega), show n / 16 / 16 / 16 % 16 = n / 16 / 16 / 16 from Nat.mod_eq_of_lt (by omega)]
 simp
theorem hexD_len (n : Nat) (h : n < 65536) : (hexD 4 n).length = if n < 16 then 1 else if n < 256 then 2 else if n < 4096 then 3 else 4 := by
 simp only [hexD]
 by_cases c1 : n < 16
 · rw [if_pos c1, if_pos c1]; rfl
 rw [if_neg c1, if_neg c1]
 by_cases c2 : n < 256
 · rw [if_pos c2, if_pos (by omega)]; rfl
 rw [if_neg c2, if_neg (by omega)]
 by_cases c3 : n < 4096
 · rw [if_pos c3, if_pos (by omega)]; rfl
 rw [if_neg c3, if_neg (by omega)]
 rw [if_pos (by omega)]; rfl
end Go.Proofs.YtiooacmplmcphaaGreatDoor.Plug
namespace Go.Proofs.YtiooacmplmcphaaGreatDoor.PX
open RowKit YtiooacmplmcphaaGreatDoorW.PrintWords YtiooacmplmcphaaGreatDoorW.PrintLast YtiooacmplmcphaaGreatDoorW.PrintMore YtiooacmplmcphaaGreatDoor
attribute [local go_sem] max2_int min2_int max_two min_two max_three min_three max_four min_four   -- for this text's walks alone
set_option linter.unusedVariables false
set_option linter.unusedSimpArgs false
def quote_short.j0 : Nat → Int → Int → Bool → Option (Int)
  | 0, _, _, _ => none
  | k + 1, x0, x3, x4 => if x4 = true then (some ((x0) % 256)) else (if x3 = 10 then (some 110) else (if x3 = 9 then (some 116) else (if x3 = 13 then (some 114) else (if x3 = 0 then (some 48) else (some 0)))))
def quote_short.f (k : Nat) (a0 : Int) : Option (Int) := if a0 = 34 then (quote_short.j0 k a0 a0 (a0 == 34)) else (quote_short.j0 k a0 a0 (a0 == 92))
theorem qta0_ {P : Prop} (h_ : P := by first | rfl | (simp; done) | (simp [*]; done) | (simp; generalize ByteArray.toList _ = l_; cases l_ <;> rfl)) : P := h_
theorem qta1_ {P : Prop} (h_ : P := by repeat (first | exact Drawn0.refl _ | apply Drawn0.step)) : P := h_
set_option maxHeartbeats 8000000 in
set_option maxRecDepth 100000 in
theorem quote_short.calls (k : Nat) (a0 : Int) (r : Int) (w : World) (hG : Glob.G w) (h : quote_short.f k a0 = some r) :
  Calls Tryz.prog 144 #[.int .i64 a0] w fun e w' => e = .returned (.int .u8 r) ∧ Drawn0 w w' := by
 have H : (if a0 = 34 then (quote_short.j0 k a0 a0 (a0 == 34)) else (quote_short.j0 k a0 a0 (a0 == 92))) = some r := h
 clear h
 have HC2 := Aside0.mk H
 clear H
 go_enter Tryz.func144, Tryz.ntmps144
 go_upto_if 4 with (fail)
 go_cut [4] (fun v4 wc => ∃ (kq : Nat) (x4_1 : Bool), v4 = .bool x4_1 ∧ Aside0 (quote_short.j0 kq a0 a0 x4_1 = some r) ∧ Aside0 (kq ≤ k) ∧ Drawn0 w wc)
 case first =>
  have H := HC2.out
  clear HC2
  by_cases c3 : a0 = 34
  rotate_left
  ·
   rw [if_neg c3] at H
   have c3b0 : (a0 == 34) = false := beq_eq_false_iff_ne.mpr c3
   have c3b1 : (a0 != 34) = true := bne_iff_ne.mpr c3
   (first | rw [c3b0] | (simp only [i64_w, i32_w]; rw [c3b0]) | skip)
   have H' := Aside0.mk H
   clear H
   go_wp2
   go_meet
   case rel => exact ⟨_, ((a0 == 92)), (by first | rfl | (simp; done) | (simp [*]; done)), H', ⟨by first | omega | exact Nat.le_refl _⟩, qta1_⟩
  rw [if_pos c3] at H
  have c3b0 : (a0 == 34) = true := beq_iff_eq.mpr c3
  have c3b1 : (a0 != 34) = false := bne_eq_false_iff_eq.mpr c3
  clear c3
  (first | rw [c3b0] | (simp only [i64_w, i32_w]; rw [c3b0]) | skip)
  have H' := Aside0.mk H
  clear H
  go_wp2
  go_meet
  case rel => exact ⟨_, ((a0 == 34)), (by first | rfl | (simp; done) | (simp [*]; done)), H', ⟨by first | omega | exact Nat.le_refl _⟩, qta1_⟩
 case rest =>
  clear HC2
  try clear c1
  try clear p2
  try clear c3
  try clear c3b0
  try clear c3b1
  obtain ⟨kq, x4_1, rfl, HA, HJ1, ⟨mc1, rfl⟩⟩ := hcut
  cases kq with
  | zero => exact absurd HA.out (by simp [quote_short.j0])
  | succ kj1 =>
   have H := HA.out
   clear HA
   simp only [quote_short.j0] at H
   by_cases c4 : x4_1 = true
   ·
    subst c4
    have H1 : (some ((a0) % 256)) = some r := by rw [if_pos rfl] at H; exact H
    clear H
    have H := H1
    clear H1
    obtain rfl := Option.some.inj H
    go_wp2
    go_ret
    exact ⟨qta0_, qta1_⟩
   replace c4 := Bool.eq_false_iff.mpr c4
   subst c4
   have H1 : (if a0 = 10 then (some 110) else (if a0 = 9 then (some 116) else (if a0 = 13 then (some 114) else (if a0 = 0 then (some 48) else (some 0))))) = some r := by rw [if_neg (show ¬ (false = true) by decide)] at H; exact H
   clear H
   have H := H1
   clear H1
   by_cases c5 : a0 = 10
   ·
    rw [if_pos c5] at H
    have c5b0 : (a0 == 10) = true := beq_iff_eq.mpr c5
    have c5b1 : (a0 != 10) = false := bne_eq_false_iff_eq.mpr c5
    clear c5
    obtain rfl := Option.some.inj H
    go_wp2
    go_ret
    exact ⟨qta0_, qta1_⟩
   rw [if_neg c5] at H
   have c5b0 : (a0 == 10) = false := beq_eq_false_iff_ne.mpr c5
   have c5b1 : (a0 != 10) = true := bne_iff_ne.mpr c5
   by_cases c6 : a0 = 9
   ·
    rw [if_pos c6] at H
    have c6b0 : (a0 == 9) = true := beq_iff_eq.mpr c6
    have c6b1 : (a0 != 9) = false := bne_eq_false_iff_eq.mpr c6
    clear c6
    obtain rfl := Option.some.inj H
    go_wp2
    go_ret
    exact ⟨qta0_, qta1_⟩
   rw [if_neg c6] at H
   have c6b0 : (a0 == 9) = false := beq_eq_false_iff_ne.mpr c6
   have c6b1 : (a0 != 9) = true := bne_iff_ne.mpr c6
   by_cases c7 : a0 = 13
   ·
    rw [if_pos c7] at H
    have c7b0 : (a0 == 13) = true := beq_iff_eq.mpr c7
    have c7b1 : (a0 != 13) = false := bne_eq_false_iff_eq.mpr c7
    clear c7
    obtain rfl := Option.some.inj H
    go_wp2
    go_ret
    exact ⟨qta0_, qta1_⟩
   rw [if_neg c7] at H
   have c7b0 : (a0 == 13) = false := beq_eq_false_iff_ne.mpr c7
   have c7b1 : (a0 != 13) = true := bne_iff_ne.mpr c7
   by_cases c8 : a0 = 0
   rotate_left
   ·
    rw [if_neg c8] at H
    have c8b0 : (a0 == 0) = false := beq_eq_false_iff_ne.mpr c8
    have c8b1 : (a0 != 0) = true := bne_iff_ne.mpr c8
    obtain rfl := Option.some.inj H
    go_wp2
    go_ret
    exact ⟨qta0_, qta1_⟩
   rw [if_pos c8] at H
   have c8b0 : (a0 == 0) = true := beq_iff_eq.mpr c8
   have c8b1 : (a0 != 0) = false := bne_eq_false_iff_eq.mpr c8
   clear c8
   obtain rfl := Option.some.inj H
   go_wp2
   go_ret
   exact ⟨qta0_, qta1_⟩
end Go.Proofs.YtiooacmplmcphaaGreatDoor.PX
namespace Go.Proofs.YtiooacmplmcphaaGreatDoor.Plug
open RowKit YtiooacmplmcphaaGreatDoor YtiooacmplmcphaaGreatDoor.PX YtiooacmplmcphaaGreatDoor.Utf YtiooacmplmcphaaGreatDoorW.PrintWords YtiooacmplmcphaaGreatDoorW.PrintLast
structure St (w0 : World) (b : Nat) (l : List UInt8) (w : World) : Prop where
 bld : Lib.IsBuilderF 187 5 w0.heap.size b (Lib.byteCells l) w
 bel : Below w0.heap.size w0 w
abbrev Kept (b : Nat) (w w' : World) : Prop := Lib.OthersKept 5 (some b) w w'
theorem kept_below {b : Nat} {w w' : World} (h : Below w.heap.size w w') : Kept b w w' := by
 intro k o hk _ _
 exact (h.block k (Bld.at_lt hk)).trans hk
theorem St.quiet {w0 : World} {b : Nat} {l : List UInt8} {w w' : World} (h : St w0 b l w) (hb : Below w.heap.size w w') : St w0 b l w' := ⟨bld_below h.bld hb, h.bel.trans (hb.mono h.bel.size)⟩
theorem st_byte {w0 : World} {b : Nat} {l : List UInt8} {w : World} (h : St w0 b l w) (c : UInt8) (hl : l.length ≤ 70368744177664) :
  Calls Tryz.prog 55 #[.pointer (some ⟨b, 0, none⟩), .int .u8 (c.toNat : Int)] w fun e w' => e = .returned .nilIface ∧ St w0 b (l ++ [c]) w' ∧ Kept b w w' :=
 (Bld.byte 187 Bld.lies_quote w0.heap.size b _ (c.toNat : Int) w h.bld (by rw [Lib.byteCells_length]; omega) h.bel.size).mono fun e w' ⟨he, h1, h2, h3⟩ => ⟨he, ⟨by rw [Lib.byteCells_append]; exact .inr h1, h.bel.trans h2⟩, h3⟩
theorem st_text {w0 : World} {b : Nat} {l : List UInt8} {w : World} (h : St w0 b l w) (t : List UInt8) (hl : l.length + t.length ≤ 70368744177664) :
  Calls Tryz.prog 52 #[.pointer (some ⟨b, 0, none⟩), .string ⟨t.toArray⟩] w fun e w' => ∃ n : Int, e = .returned (.tuple #[.int .i64 n, .nilIface]) ∧ St w0 b (l ++ t) w' ∧ Kept b w w' :=
 (Bld.text 187 Bld.lies_quote w0.heap.size b _ ⟨t.toArray⟩ w h.bld (by rw [Lib.byteCells_length]; show l.length + t.length ≤ _; omega) h.bel.size).mono fun e w' ⟨he, h1, h2, h3⟩ => ⟨_, he, ⟨by rw [Lib.byteCells_append]; exact .inr h1, h.bel.trans h2⟩, h3⟩
theorem st_sign {w0 : World} {b : Nat} {l : List UInt8} {w : World} (h : St w0 b l w) (n : Int) (hn : sgn n = true) (hl : l.length ≤ 70368744177664) :
  Calls Tryz.prog 146 #[.pointer (some ⟨b, 0, none⟩), .int .i32 n] w fun e w' => ∃ m : Int, e = .returned (.tuple #[.int .i64 m, .nilIface]) ∧ St w0 b (l ++ enc n) w' ∧ Kept b w w' :=
 (Bld.sign 187 Bld.lies_quote w0.heap.size b _ n ((sgn_iff n).1 hn) w h.bld (by rw [Lib.byteCells_length]; omega) h.bel.size).mono fun e w' ⟨he, h1, h2, h3⟩ => ⟨_, he, ⟨by rw [Lib.byteCells_append, enc_cells]; exact .inr h1, h.bel.trans h2⟩, h3⟩
set_option maxHeartbeats 1600000 in
set_option maxRecDepth 100000 in
theorem hex_is {w0 : World} {b : Nat} {l : List UInt8} {w : World} (hG : Glob.G w0) (h : St w0 b l w) (c : UInt8) (n m : Nat) (hnm : (m = 2 ∧ n < 256) ∨ (m = 4 ∧ 4096 ≤ n ∧ n < 65536)) (hl : l.length ≤ 35184372088832) :
  Calls Tryz.prog 147 #[.pointer (some ⟨b, 0, none⟩), .int .u8 (c.toNat : Int), .int .i64 (n : Int), .int .i64 (m : Int)] w fun e w' => e = .returned (.tuple #[]) ∧ St w0 b (l ++ 92 :: c :: hexs n m) w' ∧ Kept b w w' := by
 have hn : n < 65536 := by omega
 have hm4 : m ≤ 4 := by omega
 have hlen := hexD_len n hn
 have hF := fmt_out n hn w (hG.below h.bel)
 have hpad : (n < 16 ∧ m = 2 ∧ hexs n m = 48 :: hexD 4 n ∧ (hexD 4 n).length = 1) ∨ (hexs n m = hexD 4 n ∧ (hexD 4 n).length = m) := by
  rcases hnm with ⟨rfl, h1⟩ | ⟨rfl, h1, h2⟩
  ·
   rw [hexs_two n h1]
   by_cases q : n < 16
   · rw [if_pos q] at hlen ⊢; exact .inl ⟨q, rfl, rfl, hlen⟩
   rw [if_neg q, if_pos h1] at hlen; rw [if_neg q]; exact .inr ⟨rfl, hlen⟩
  ·
   rw [hexs_four n h2 h1]
   rw [if_neg (by omega), if_neg (by omega), if_neg (by omega)] at hlen; exact .inr ⟨rfl, hlen⟩
 generalize hexD 4 n = d at *
 generalize hexs n m = x at *
 clear hlen
 have HF := Lib.hid hF
 have HS := Lib.hid h
 clear hF h hnm hn hG
 rcases hpad with ⟨_, rfl, rfl, hd⟩ | ⟨rfl, hd⟩
 ·
  have hsz : (⟨d.toArray⟩ : ByteArray).size = 1 := hd
  go_enter Tryz.func147, Tryz.ntmps147
  go_wp2_with (go_at_call 178; refine HF.out.mono ?_)
  rintro e w1 ⟨rfl, hb1⟩
  have h1 := HS.out.quiet hb1
  go_wp2_with (go_at_call 55; refine (st_byte h1 92 (by omega)).mono ?_)
  rintro e w2 ⟨rfl, h2, k2⟩
  go_wp2_with (go_at_call 55; refine (st_byte h2 c (by simp; omega)).mono ?_)
  rintro e w3 ⟨rfl, h3, k3⟩
  have h3d := h3.quiet (Below.drew (Below.refl _ w3))
  have k3d := kept_below (b := b) (Below.drew (Below.refl w3.heap.size w3))
  have hp : l.length + 1 + 1 + 1 + 1 ≤ 70368744177664 := by omega
  go_wp2
  go_region_with (first | (go_at_call 179; refine (repeat_one _ _).mono ?_; rintro e w4 ⟨rfl, rfl⟩) | (go_at_call 52; refine (st_text h3d [48] (by simp; omega)).mono ?_; rintro e w5 ⟨n5, rfl, h5, k5⟩))
  all_goals
   go_wp2_with (go_at_call 52; refine (st_text h5 _ (by simp; omega)).mono ?_; rintro e w6 ⟨n6, rfl, h6, k6⟩)
   go_end0
   exact ⟨rfl, by simpa using h6, (kept_below hb1).trans (k2.trans (k3.trans (k3d.trans (k5.trans k6))))⟩
 ·
  have hsz : (⟨x.toArray⟩ : ByteArray).size = m := hd
  go_enter Tryz.func147, Tryz.ntmps147
  go_wp2_with (go_at_call 178; refine HF.out.mono ?_)
  rintro e w1 ⟨rfl, hb1⟩
  have h1 := HS.out.quiet hb1
  go_wp2_with (go_at_call 55; refine (st_byte h1 92 (by omega)).mono ?_)
  rintro e w2 ⟨rfl, h2, k2⟩
  go_wp2_with (go_at_call 55; refine (st_byte h2 c (by simp; omega)).mono ?_)
  rintro e w3 ⟨rfl, h3, k3⟩
  have h3d := h3.quiet (Below.drew (Below.refl _ w3))
  have k3d := kept_below (b := b) (Below.drew (Below.refl w3.heap.size w3))
  have hp : l.length + 1 + 1 + 4 ≤ 70368744177664 := by omega
  go_wp2
  go_region_with (first | (go_at_call 179; (try rw [show (m : Int) - (m : Int) = 0 by omega]); refine (repeat_none _ _).mono ?_; rintro e w4 ⟨rfl, rfl⟩) | (go_at_call 52; refine (st_text h3d [] (by simp; omega)).mono ?_; rintro e w5 ⟨n5, rfl, h5, k5⟩))
  all_goals
   go_wp2_with (go_at_call 52; refine (st_text h5 _ (by simp; omega)).mono ?_; rintro e w6 ⟨n6, rfl, h6, k6⟩)
   go_end0
   exact ⟨rfl, by simpa using h6, (kept_below hb1).trans (k2.trans (k3.trans (k3d.trans (k5.trans k6))))⟩
theorem escS_len (n : Int) : (escS n).length ≤ 10 := by
 unfold escS
 have := enc_len n
 repeat' split
 all_goals first | decide | (simp [hexs_len]; done) | omega
def shortOf (n : Int) : Int := if n = 34 then 34 else if n = 92 then 92 else if n = 10 then 110 else if n = 9 then 116 else if n = 13 then 114 else if n = 0 then 48 else 0
theorem prog_short (k : Nat) (n : Int) : quote_short.f (k + 1) n = some (shortOf n) := by
 have hj : ∀ b, quote_short.j0 (k + 1) n n b = if b = true then (some (n % 256)) else (if n = 10 then (some 110) else (if n = 9 then (some 116) else (if n = 13 then (some 114) else (if n = 0 then (some 48) else (some 0))))) := fun b => by rw [quote_short.j0]
 unfold quote_short.f shortOf
 rw [hj, hj]
 by_cases a : n = 34
 · subst a; rfl
 rw [if_neg a, if_neg a]
 by_cases b : n = 92
 · subst b; rfl
 rw [if_neg b, show (n == 92) = false from beq_eq_false_iff_ne.2 b, if_neg (by decide)]
 by_cases c : n = 10
 · rw [if_pos c, if_pos c]
 rw [if_neg c, if_neg c]
 by_cases d : n = 9
 · rw [if_pos d, if_pos d]
 rw [if_neg d, if_neg d]
 by_cases e : n = 13
 · rw [if_pos e, if_pos e]
 rw [if_neg e, if_neg e]
 by_cases f : n = 0
 · rw [if_pos f, if_pos f]
 rw [if_neg f, if_neg f]
theorem not_may (n : Int) (h : sgn n = true) (hm : may n ≠ true) : n < 65536 ∧ (256 ≤ n → 4096 ≤ n) := by
 have := (sgn_iff n).1 h
 unfold may prt at hm
 simp at hm
 by_cases c : n = 9 ∨ n = 10 ∨ n = 13
 · omega
 omega
set_option maxHeartbeats 1600000 in
set_option maxRecDepth 100000 in
theorem put_is {w0 : World} {b : Nat} {l : List UInt8} {w : World} (hG : Glob.G w0) (h : St w0 b l w) (n : Int) (hs : sgn n = true) (hl : l.length ≤ 35184372088832) :
  Calls Tryz.prog 116 #[.pointer (some ⟨b, 0, none⟩), .int .i64 n] w fun e w' => e = .returned (.tuple #[]) ∧ St w0 b (l ++ escS n) w' ∧ Kept b w w' := by
 have hr := (sgn_nat hs)
 have hGw := hG.below h.bel
 have hsh := Lib.hid (prog_short 0 n)
 have hms := Lib.hid (prog_may n)
 by_cases hc : shortOf n = 0
 rotate_left
 ·
  obtain ⟨c, hc2, hE2⟩ : ∃ c : UInt8, shortOf n = (c.toNat : Int) ∧ escS n = [92, c] := by
   unfold shortOf at hc ⊢
   unfold escS
   by_cases a : n = 34
   · subst a; exact ⟨34, rfl, rfl⟩
   by_cases b : n = 92
   · subst b; exact ⟨92, rfl, rfl⟩
   by_cases c : n = 10
   · subst c; exact ⟨110, rfl, rfl⟩
   by_cases d : n = 9
   · subst d; exact ⟨116, rfl, rfl⟩
   by_cases e : n = 13
   · subst e; exact ⟨114, rfl, rfl⟩
   by_cases f : n = 0
   · subst f; exact ⟨48, rfl, rfl⟩
   rw [if_neg a, if_neg b, if_neg c, if_neg d, if_neg e, if_neg f] at hc; exact absurd rfl hc
  rw [hc2] at hsh hc
  rw [hE2]
  have hne : (((c.toNat : Nat) : Int) != 0) = true := bne_iff_ne.2 hc
  have hne2 : (((c.toNat : Nat) : Int) == 0) = false := beq_eq_false_iff_ne.2 hc
  clear hc hc2 hE2 hms
  go_enter Tryz.func116, Tryz.ntmps116
  go_wp2_with (first | (go_at_call 144; refine (quote_short.calls _ _ _ _ hGw hsh.out).mono ?_; rintro e w1 ⟨rfl, hb1⟩))
  go_wp2_with (go_at_call 55; refine (st_byte (h.quiet (Drawn0.below hb1)) 92 (by omega)).mono ?_)
  rintro e w2 ⟨rfl, h2, k2⟩
  go_wp2_with (go_at_call 55; refine (st_byte h2 c (by simp; omega)).mono ?_)
  rintro e w3 ⟨rfl, h3, k3⟩
  go_wp2
  go_end0
  exact ⟨rfl, by simpa using h3, (kept_below (Drawn0.below hb1)).trans (k2.trans k3)⟩
 have hne : n ≠ 34 ∧ n ≠ 92 ∧ n ≠ 9 ∧ n ≠ 10 ∧ n ≠ 13 ∧ n ≠ 0 := by
  unfold shortOf at hc
  repeat' split at hc
  all_goals omega
 rw [hc] at hsh
 have HE : Hid (escS n = if may n = true then enc n else if n < 256 then 92 :: 120 :: hexs n.toNat 2 else if n < 65536 then 92 :: 117 :: hexs n.toNat 4 else 92 :: 85 :: hexs n.toNat 8) := by
  unfold escS
  rw [if_neg hne.1, if_neg hne.2.1, if_neg hne.2.2.1, if_neg hne.2.2.2.1, if_neg hne.2.2.2.2.1, if_neg hne.2.2.2.2.2]
  exact Lib.hid rfl
 cases hm : may n with
 | true =>
  rw [hm] at hms HE
  clear hne hc
  go_enter Tryz.func116, Tryz.ntmps116
  go_wp2_with (first | (go_at_call 144; refine (quote_short.calls _ _ _ _ hGw hsh.out).mono ?_; rintro e w1 ⟨rfl, hb1⟩) | (go_at_call 145; refine (quote_may.calls _ _ _ (hGw.below (Drawn0.below hb1)) hms.out).mono ?_; rintro e w2 ⟨rfl, hb2⟩) | (go_at_call 146; refine (st_sign ((h.quiet (Drawn0.below hb1)).quiet (Drawn0.below hb2)) n hs (by omega)).mono ?_; rintro e w3 ⟨n3, rfl, h3, k3⟩))
  go_end0
  exact ⟨rfl, by rw [HE.out]; exact h3, (kept_below (Drawn0.below hb1)).trans ((kept_below (Drawn0.below hb2)).trans k3)⟩
 | false =>
  have hnm := not_may n hs (by rw [hm]; decide)
  rw [hm] at hms HE
  clear hne hc
  obtain ⟨N, rfl⟩ : ∃ N : Nat, n = (N : Int) := ⟨n.toNat, by omega⟩
  by_cases q : N < 256
  ·
   have HH : Hid (escS (N : Int) = 92 :: 120 :: hexs N 2) := by rw [HE.out, if_neg (by decide), if_pos (by omega)]; exact Lib.hid rfl
   have hlt : decide ((N : Int) < 256) = true := decide_eq_true (by omega)
   clear HE hm
   go_enter Tryz.func116, Tryz.ntmps116
   go_wp2_with (first | (go_at_call 144; refine (quote_short.calls _ _ _ _ hGw hsh.out).mono ?_; rintro e w1 ⟨rfl, hb1⟩) | (go_at_call 145; refine (quote_may.calls _ _ _ (hGw.below (Drawn0.below hb1)) hms.out).mono ?_; rintro e w2 ⟨rfl, hb2⟩) | (go_at_call 147; refine (hex_is hG ((h.quiet (Drawn0.below hb1)).quiet (Drawn0.below hb2)) 120 N 2 (.inl ⟨rfl, q⟩) (by omega)).mono ?_; rintro e w3 ⟨rfl, h3, k3⟩))
   go_end0
   exact ⟨rfl, by rw [HH.out]; exact h3, (kept_below (Drawn0.below hb1)).trans ((kept_below (Drawn0.below hb2)).trans k3)⟩
  have HH : Hid (escS (N : Int) = 92 :: 117 :: hexs N 4) := by rw [HE.out, if_neg (by decide), if_neg (by omega), if_pos (by omega)]; exact Lib.hid rfl
  have hlt : decide ((N : Int) < 256) = false := decide_eq_false (by omega)
  have hlt2 : decide ((N : Int) < 65536) = true := decide_eq_true (by omega)
  clear HE hm
  go_enter Tryz.func116, Tryz.ntmps116
  go_wp2_with (first | (go_at_call 144; refine (quote_short.calls _ _ _ _ hGw hsh.out).mono ?_; rintro e w1 ⟨rfl, hb1⟩) | (go_at_call 145; refine (quote_may.calls _ _ _ (hGw.below (Drawn0.below hb1)) hms.out).mono ?_; rintro e w2 ⟨rfl, hb2⟩) | (go_at_call 147; refine (hex_is hG ((h.quiet (Drawn0.below hb1)).quiet (Drawn0.below hb2)) 117 N 4 (.inr ⟨rfl, by omega, by omega⟩) (by omega)).mono ?_; rintro e w3 ⟨rfl, h3, k3⟩))
  go_end0
  exact ⟨rfl, by rw [HH.out]; exact h3, (kept_below (Drawn0.below hb1)).trans ((kept_below (Drawn0.below hb2)).trans k3)⟩
end Go.Proofs.YtiooacmplmcphaaGreatDoor.Plug
