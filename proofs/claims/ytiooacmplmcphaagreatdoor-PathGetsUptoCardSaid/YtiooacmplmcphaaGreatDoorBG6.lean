/- Texts that stand behind one another, laid into one: what this claim needs of them. -/
import Derived.Test.YtiooacmplmcphaaGreatDoorBG0
import Derived.Test.YtiooacmplmcphaaGreatDoorBG5
import Derived.Test.YtiooacmplmcphaaGreatDoorBG4
import Derived.Outline
import Derived.Test.YtiooacmplmcphaaGreatDoorBG3
import Derived.Test.YtiooacmplmcphaaGreatDoorBG1
import Derived.KernelRfl
namespace Go.Proofs.YtiooacmplmcphaaGreatDoor.PX
open RowKit YtiooacmplmcphaaGreatDoorW.PrintWords YtiooacmplmcphaaGreatDoorW.PrintLast YtiooacmplmcphaaGreatDoorW.PrintMore YtiooacmplmcphaaGreatDoor
attribute [local go_sem] max2_int min2_int max_two min_two max_three min_three max_four min_four   -- for this text's walks alone
set_option linter.unusedVariables false
set_option linter.unusedSimpArgs false
def grommetref12_text.f (k : Nat) (a0 : Int) (a1 : ByteArray) : Option (Bool) := if a0 = 2 then (if a1.toList = ([116, 114, 117, 101] : List UInt8) then (some true) else (some (a1.toList == ([102, 97, 108, 115, 101] : List UInt8)))) else (if a0 = 3 then ((grommetref06_Resolve.f k a1).bind fun t101 => (some (t101 == 3))) else (if a0 = 4 then ((grommetref01_Decode.f k a1).bind fun bt102 => (some (bt102.2.1 == 0))) else (some (a1.toList == ([] : List UInt8)))))
theorem qnb0_ {P : Prop} (h_ : P := by repeat (first | (with_reducible first | exact HB.out | apply below_alloc | apply pw_below_drewN | apply below_drew1) | exact HB.out)) : P := h_
theorem qnb1_ {P : Prop} (h_ : P := by first | rfl | (simp [errW_none, errW_some] <;> rfl) | (simp [*, errW_none, errW_some] <;> rfl)) : P := h_
theorem qnb2_ {P : Prop} (h_ : P := by first | ((repeat (first | (with_reducible first | exact HB.out | apply below_alloc | apply pw_below_drewN | apply below_drew1 | (refine Glob.below_set ?_ (by assumption) _ _ _)) | exact HB.out)); done) | (refine Drawn0.below ?_; repeat (first | exact Drawn0.refl _ | assumption | apply Drawn0.step))) : P := h_
theorem qnb3_ {P : Prop} (h_ : P := by (try simp only [List.map_toArray, List.map_cons, List.map_nil]); first | done | rfl | (simp only [List.length_drop, List.length_take]; rfl)) : P := h_
set_option maxHeartbeats 8000000 in
set_option maxRecDepth 100000 in
theorem grommetref12_text.calls (k : Nat) (a0 : Int) (a1 : ByteArray) (r : Bool) (w : World) (hG : Glob.G w) (h : grommetref12_text.f k a0 a1 = some r) :
  Calls Tryz.prog 104 #[.int .i64 a0, .string a1] w fun e w' => e = .returned (.bool r) ∧ Below w.heap.size w w' := by
 have hu95 := Tryz.underlying95
 have HB := Aside0.mk (Below.refl w.heap.size w)
 have H : (if a0 = 2 then (if a1.toList = ([116, 114, 117, 101] : List UInt8) then (some true) else (some (a1.toList == ([102, 97, 108, 115, 101] : List UInt8)))) else (if a0 = 3 then ((grommetref06_Resolve.f k a1).bind fun t101 => (some (t101 == 3))) else (if a0 = 4 then ((grommetref01_Decode.f k a1).bind fun bt102 => (some (bt102.2.1 == 0))) else (some (a1.toList == ([] : List UInt8)))))) = some r := h
 clear h
 by_cases c3 : a0 = 2
 ·
  rw [if_pos c3] at H
  have c3b0 : (a0 == 2) = true := beq_iff_eq.mpr c3
  have c3b1 : (a0 != 2) = false := bne_eq_false_iff_eq.mpr c3
  clear c3
  by_cases c4 : a1.toList = ([116, 114, 117, 101] : List UInt8)
  rotate_left
  ·
   rw [if_neg c4] at H
   have c4b0 : (a1.toList == ([116, 114, 117, 101] : List UInt8)) = false := beq_eq_false_iff_ne.mpr c4
   have c4b1 : (a1.toList != ([116, 114, 117, 101] : List UInt8)) = true := bne_iff_ne.mpr c4
   obtain rfl := Option.some.inj H
   go_enter Tryz.func104, Tryz.ntmps104
   go_wp2
   go_ret
   exact ⟨qnb1_, qnb0_⟩
  rw [if_pos c4] at H
  have c4b0 : (a1.toList == ([116, 114, 117, 101] : List UInt8)) = true := beq_iff_eq.mpr c4
  have c4b1 : (a1.toList != ([116, 114, 117, 101] : List UInt8)) = false := bne_eq_false_iff_eq.mpr c4
  clear c4
  obtain rfl := Option.some.inj H
  go_enter Tryz.func104, Tryz.ntmps104
  go_wp2
  go_ret
  exact ⟨qnb1_, qnb0_⟩
 rw [if_neg c3] at H
 have c3b0 : (a0 == 2) = false := beq_eq_false_iff_ne.mpr c3
 have c3b1 : (a0 != 2) = true := bne_iff_ne.mpr c3
 by_cases c5 : a0 = 3
 ·
  rw [if_pos c5] at H
  have c5b0 : (a0 == 3) = true := beq_iff_eq.mpr c5
  have c5b1 : (a0 != 3) = false := bne_eq_false_iff_eq.mpr c5
  clear c5
  replace H := Option.bind_eq_some_iff.mp H
  obtain ⟨t101, A60, H⟩ := H
  replace H : (some (t101 == 3)) = some r := H
  have A6 := Aside0.mk A60
  clear A60
  obtain rfl := Option.some.inj H
  go_enter Tryz.func104, Tryz.ntmps104
  go_wp2_with (first | ((with_reducible refine gate_callee (f := 132) rfl ?_); refine goesL_ (some 19) rfl rfl Tryz.func132 (by kernel_rfl) rfl #[.string a1] rfl (qnb3_) ?_; (with_reducible refine (grommetref06_Resolve.calls k a1 t101 _ (hG.below (qnb2_)) A6.out).mono ?_); rintro e w7 ⟨rfl, hb⟩; refine ⟨_, rfl, ?_⟩; have n0_ := Aside0.mk (below_step (qnb0_) hb); clear HB; have HB := n0_; clear n0_; (try clear hb)))
  go_ret
  exact ⟨qnb1_, qnb0_⟩
 rw [if_neg c5] at H
 have c5b0 : (a0 == 3) = false := beq_eq_false_iff_ne.mpr c5
 have c5b1 : (a0 != 3) = true := bne_iff_ne.mpr c5
 by_cases c8 : a0 = 4
 rotate_left
 ·
  rw [if_neg c8] at H
  have c8b0 : (a0 == 4) = false := beq_eq_false_iff_ne.mpr c8
  have c8b1 : (a0 != 4) = true := bne_iff_ne.mpr c8
  obtain rfl := Option.some.inj H
  go_enter Tryz.func104, Tryz.ntmps104
  go_wp2
  go_ret
  exact ⟨qnb1_, qnb0_⟩
 rw [if_pos c8] at H
 have c8b0 : (a0 == 4) = true := beq_iff_eq.mpr c8
 have c8b1 : (a0 != 4) = false := bne_eq_false_iff_eq.mpr c8
 clear c8
 replace H := Option.bind_eq_some_iff.mp H
 obtain ⟨⟨t102, t105, t106⟩, A90, H⟩ := H
 replace H : (some (t105 == 0)) = some r := H
 have A9 := Aside0.mk A90
 clear A90
 obtain rfl := Option.some.inj H
 go_enter Tryz.func104, Tryz.ntmps104
 go_wp2_with (first | ((with_reducible refine gate_callee (f := 102) rfl ?_); refine goesL_ (some 25) rfl rfl Tryz.func102 (by kernel_rfl) rfl #[.string a1] rfl (qnb3_) ?_; (with_reducible refine (grommetref01_Decode.calls k a1 t102 t105 t106 _ (hG.below (qnb2_)) A9.out).mono ?_); rintro e w10 ⟨v103, rfl, ho0, hb⟩; refine ⟨_, rfl, ?_⟩; have n0_ := Aside0.mk (Kd.R_lower ho0 (below_size (qnb0_))); have n1_ := Aside0.mk (below_step (qnb0_) hb); clear HB; have HO104 := n0_; have HB := n1_; clear n0_ n1_; (try clear hb); (try clear ho0)) | ((with_reducible refine gate_dst (N := 6) rfl ?_); refine box_event ?hg (N := 6) ?hd (cs := #[.int .i64 0, .int .i64 0]) (t := 95) ?hr ?_; (case hd => rfl); (case hg => rfl); (case hr => first | (go_simp; done) | (go_simp; rfl)); intro gb107 hg w11 hbox hb; have n0_ := Aside0.mk (Kd.R_below (by (with_reducible repeat (first | apply Kd.R_alloc | apply Kd.R_drewN | apply Kd.R_drew)); exact HO104.out) hb); have n1_ := Aside0.mk (below_step (qnb0_) hb); have n2_ := Aside0.mk (hbox); have n3_ := Aside0.mk ((by rw [hg]; exact (below_size (qnb0_)) : w.heap.size ≤ gb107)); have n4_ := Aside0.mk ((by rw [hg]; exact (below_size (qnb0_)) : w.heap.size ≤ gb107)); clear HO104; clear HB; have HO104 := n0_; have HB := n1_; have BK107 := n2_; have GW107 := n3_; have GE107 := n4_; clear n0_ n1_ n2_ n3_ n4_; clear hb hbox hg; have hcz12_0 : w11.cell? ⟨gb107, 0, none⟩ = some (.int .i64 0) := (blk_cell BK107.out 0).trans rfl; have hcz12_1 : w11.cell? ⟨gb107, 1, none⟩ = some (.int .i64 0) := (blk_cell BK107.out 1).trans rfl; have hfz12_0 := blk_frozen BK107.out 0; have hfz12_1 := blk_frozen BK107.out 1))
 go_ret
 exact ⟨qnb1_, by repeat (first | (with_reducible first | exact HB.out | apply below_alloc | apply pw_below_drewN | apply below_drew1 | refine below_set ?_ GE107.out) | exact HB.out)⟩
end Go.Proofs.YtiooacmplmcphaaGreatDoor.PX
namespace Go.Proofs.YtiooacmplmcphaaGreatDoor.Plug
open RowKit YtiooacmplmcphaaGreatDoor YtiooacmplmcphaaGreatDoor.PX YtiooacmplmcphaaGreatDoor.Utf YtiooacmplmcphaaGreatDoor.Plain YtiooacmplmcphaaGreatDoorW.PrintWords YtiooacmplmcphaaGreatDoorW.PrintLast
theorem res_bool (l : List UInt8) : (resB l == 2) = (decide (l = [116, 114, 117, 101]) || (l == [102, 97, 108, 115, 101])) := by
 unfold resB
 by_cases h0 : l = [] ∨ l = [126] ∨ l = [110, 117, 108, 108]
 · rw [if_pos h0]; rcases h0 with rfl | rfl | rfl <;> rfl
 rw [if_neg h0]
 by_cases h1 : l = [116, 114, 117, 101] ∨ l = [102, 97, 108, 115, 101]
 · rw [if_pos h1]; rcases h1 with rfl | rfl <;> rfl
 rw [if_neg h1]
 have e1 : ¬ l = [116, 114, 117, 101] := fun h => h1 (.inl h)
 have e2 : ¬ l = [102, 97, 108, 115, 101] := fun h => h1 (.inr h)
 have e3 : (l == [102, 97, 108, 115, 101]) = false := beq_eq_false_iff_ne.2 e2
 rw [decide_eq_false e1, e3]
 split <;> rfl
theorem dec_why (l : List UInt8) : ((decodeB l).2.1 == 0) = ((decodeB l).2.1 == 0 && (decodeB l).2.2 == 0) := by
 unfold decodeB
 split
 · rfl
 · rfl
theorem refText_of (s : ByteArray) (hs : s.size ≤ 1099511627775) (kd : Int) (K : Nat) (hK : s.size + 130 ≤ K) : grommetref12_text.f K kd s = some (textB kd s) := by
 obtain ⟨K, rfl⟩ : ∃ m, K = m + 100 := ⟨K - 100, by omega⟩
 unfold grommetref12_text.f textB
 by_cases h2 : kd = 2
 ·
  rw [if_pos h2, if_pos h2, res_bool, Lib.toList_data]
  by_cases h : s.data.toList = [116, 114, 117, 101]
  · rw [if_pos h, decide_eq_true h]; rfl
  rw [if_neg h, decide_eq_false h]; rfl
 rw [if_neg h2, if_neg h2]
 by_cases h3 : kd = 3
 · rw [if_pos h3, if_pos h3, resolve_ref, Option.bind_some]
 rw [if_neg h3, if_neg h3]
 by_cases h4 : kd = 4
 rotate_left
 · rw [if_neg h4, if_neg h4]
 rw [if_pos h4, if_pos h4, ref_decode s hs _ (by omega), Option.bind_some]; exact congrArg some (dec_why _)
end Go.Proofs.YtiooacmplmcphaaGreatDoor.Plug
namespace Go.Proofs.YtiooacmplmcphaaGreatDoor.PX
open RowKit YtiooacmplmcphaaGreatDoorW.PrintWords YtiooacmplmcphaaGreatDoorW.PrintLast YtiooacmplmcphaaGreatDoorW.PrintMore YtiooacmplmcphaaGreatDoor
attribute [local go_sem] max2_int min2_int max_two min_two max_three min_three max_four min_four   -- for this text's walks alone
set_option linter.unusedVariables false
set_option linter.unusedSimpArgs false
def grommetref12_scalar.f (a0 : Int) : Option (Bool) := if a0 ≥ 1 then (some (decide (a0 ≤ 4))) else (some false)
theorem qob0_ {P : Prop} (h_ : P := by first | rfl | (simp; done) | (simp [*]; done) | (simp; generalize ByteArray.toList _ = l_; cases l_ <;> rfl)) : P := h_
set_option maxHeartbeats 8000000 in
set_option maxRecDepth 100000 in
theorem grommetref12_scalar.calls (a0 : Int) (r : Bool) (w : World) (hG : Glob.G w) (h : grommetref12_scalar.f a0 = some r) :
  Calls Tryz.prog 105 #[.int .i64 a0] w fun e w' => e = .returned (.bool r) ∧ Drawn0 w w' := by
 have H : (if a0 ≥ 1 then (some (decide (a0 ≤ 4))) else (some false)) = some r := h
 clear h
 by_cases c2 : a0 ≥ 1
 ·
  rw [if_pos c2] at H
  have c2b0 : decide (1 ≤ a0) = true := decide_eq_true c2
  clear c2
  obtain rfl := Option.some.inj H
  go_enter Tryz.func105, Tryz.ntmps105
  go_wp2
  go_ret
  exact ⟨qob0_, by repeat (first | exact Drawn0.refl _ | apply Drawn0.step)⟩
 rw [if_neg c2] at H
 have c2b0 : decide (1 ≤ a0) = false := decide_eq_false c2
 clear c2
 obtain rfl := Option.some.inj H
 go_enter Tryz.func105, Tryz.ntmps105
 go_wp2
 go_ret
 exact ⟨qob0_, by repeat (first | exact Drawn0.refl _ | apply Drawn0.step)⟩
end Go.Proofs.YtiooacmplmcphaaGreatDoor.PX
namespace Go.Proofs.YtiooacmplmcphaaGreatDoor.Plug
open RowKit YtiooacmplmcphaaGreatDoor YtiooacmplmcphaaGreatDoor.PX YtiooacmplmcphaaGreatDoor.Utf YtiooacmplmcphaaGreatDoor.Mapk YtiooacmplmcphaaGreatDoorW.PrintWords YtiooacmplmcphaaGreatDoorW.PrintLast YtiooacmplmcphaaGreatDoorW.PrintMore
theorem rscal_of (k : Int) : grommetref12_scalar.f k = some (scB k) := by
 unfold grommetref12_scalar.f scB
 by_cases h : (1 : Int) ≤ k
 · rw [if_pos h, decide_eq_true h, Bool.true_and]
 rw [if_neg h, decide_eq_false h, Bool.false_and]
def grommetref12_node.f (l : List S45) (_root kd : Int) (tt : ByteArray) (kids : List Int) : Option Bool :=
  if tt.size ≤ 1099511627775 ∧ kids.length ≤ 1099511627776 then some (isN l ⟨kd, tt, kids⟩) else none
theorem evens_at : ∀ (l : List Int) (m : Nat), 2 * m + 1 < l.length → (evens l)[m]? = l[2 * m]?
 | [], m, h => by simp at h
 | [_], m, h => by simp at h
 | a :: b :: r, 0, _ => by simp [evens]
 | a :: b :: r, m + 1, h => by
  rw [evens, List.getElem?_cons_succ, evens_at r m (by simp only [List.length_cons] at h; omega), show 2 * (m + 1) = 2 * m + 1 + 1 by omega, List.getElem?_cons_succ, List.getElem?_cons_succ]
theorem evens_half : ∀ (l : List Int), l.length % 2 = 0 → 2 * (evens l).length = l.length
 | [], _ => rfl
 | [_], h => by simp at h
 | a :: b :: r, h => by
  have := evens_half r (by simp only [List.length_cons] at h; omega)
  simp only [evens, List.length_cons]; omega
theorem evens_get (l : List Int) (he : l.length % 2 = 0) (i m : Nat) (hi : i = 2 * m) (h : i < l.length) (hm : m < (evens l).length) : (evens l)[m] = l[i] := by
 have := evens_at l m (by omega)
 subst hi
 rw [List.getElem?_eq_getElem hm, List.getElem?_eq_getElem h] at this
 exact Option.some.inj this
def metUp (l : List S45) (ev : List Int) (m : Nat) : List (Int × ByteArray) := (ev.take m).reverse.map (keyIs l)
def metHas (l : List S45) (ev : List Int) (m : Nat) (x : Int × ByteArray) : Bool := (ev.take m).any (fun y => decide (keyIs l y = x))
theorem met_any (l : List S45) (ev : List Int) (m : Nat) (x : Int × ByteArray) : (metUp l ev m).any (fun y => decide (y = x)) = metHas l ev m x := by
 unfold metUp metHas
 rw [List.any_map, List.any_reverse]; rfl
theorem metHas_succ (l : List S45) (ev : List Int) (m : Nat) (x : Int × ByteArray) (h : m < ev.length) : metHas l ev (m + 1) x = (metHas l ev m x || decide (keyIs l ev[m] = x)) := by
 unfold metHas
 rw [List.take_succ_eq_append_getElem h, List.any_append]; simp
theorem metUp_succ (l : List S45) (ev : List Int) (m : Nat) (h : m < ev.length) : metUp l ev (m + 1) = keyIs l ev[m] :: metUp l ev m := by
 unfold metUp
 rw [List.take_succ_eq_append_getElem h, List.reverse_append]; rfl
theorem metHas_mono (l : List S45) (ev : List Int) (x : Int × ByteArray) (q : Nat) : ∀ m, q ≤ m → m ≤ ev.length → metHas l ev q x = true → metHas l ev m x = true
  | 0, h, _, e => by have : q = 0 := by omega
                     rw [← this]; exact e
  | m + 1, h, hm, e => by
    by_cases h2 : q = m + 1
    · rw [← h2]; exact e
    · rw [metHas_succ l ev m x (by omega), metHas_mono l ev x q m (by omega) (by omega) e]; rfl
theorem metB_on (l : List S45) (ev : List Int) (m : Nat) (h : m < ev.length) : metB l (ev.drop m) (metUp l ev m) = if scB (rd_T45 l ev[m]).f0 = true then (if metHas l ev m (keyIs l ev[m]) = true then false else metB l (ev.drop (m + 1)) (metUp l ev (m + 1))) else false := by
  rw [List.drop_eq_getElem_cons h, metB, met_any, metUp_succ l ev m h]
set_option maxHeartbeats 8000000 in
set_option maxRecDepth 100000 in
theorem node_on (A0 : Option Addr) (c0 : Nat) (l : List S45) (root kd : Int) (tt : ByteArray) (kids : List Int) (A2 : Option Addr) (c2 : Nat) (R : Bool) (w : World)
    (HR : Hid (Kd.C k45 w A0 l.length l)) (H2 : Hid (Kd.C (Kd.int .i64) w A2 kids.length kids)) (hG : Glob.G w) (K : Nat)
    (HT : Hid (grommetref12_text.f K kd tt = some true)) (hkl : kids.length ≤ 1099511627776)
    (q1 : decide (kd < 1) = false) (q2 : decide (6 < kd) = false) (hcase : (scB kd = true ∧ kids.length = 0) ∨ (scB kd = false ∧ (kd == 6) = true ∧ kids.length % 2 = 0) ∨ (scB kd = false ∧ (kd == 6) = false))
    (hR : (if kids.any (farB l) = true then false else metB l (keysB kd kids) []) = R) :
    Calls Tryz.prog 79 #[.agg #[.slice A0 l.length c0, .int .i64 root], .agg #[.int .i64 kd, .string tt, .slice A2 kids.length c2]] w fun e w' => e = .returned (.bool R) ∧ Below w.heap.size w w' := by
  rcases hcase with ⟨hsc, kl⟩ | ⟨hsc, q4, ko⟩ | ⟨hsc, q4⟩
  case' inl =>
    have q4 : (kd == 6) = false := by unfold scB at hsc; rw [Bool.and_eq_true, decide_eq_true_eq, decide_eq_true_eq] at hsc; exact beq_eq_false_iff_ne.2 (by omega)
    have q5 : decide ((0 : Int) < (kids.length : Int)) = false := decide_eq_false (by omega)
    have q6 : decide (0 < kids.length) = false := decide_eq_false (by omega)
    clear kl
  case' inr.inl => have q7 : (kids.length : Int).tmod 2 = 0 := by { rw [Int.tmod_eq_emod_of_nonneg (by omega)]; omega }
  all_goals
    have HS := Lib.hid (rscal_of kd)
    rw [hsc] at HS
    clear hsc
    have HV := Lib.hid hR
    clear hR
    go_enter Tryz.func79, Tryz.ntmps79
    go_wp2_with (first | ((with_reducible refine gate_dst (N := 2) rfl ?_); refine box_event ?hg (N := 2) ?hd (cs := #[.slice A0 l.length c0, .int .i64 root]) (t := 24) ?hr ?_; (case hd => rfl); (case hg => rfl); (case hr => first | (go_simp; done) | (go_simp; rfl)); intro gb hg w1 hgb hb1; have HG1 := Lib.hid hgb; have HB1 := Lib.hid hb1; have HE1 := Lib.hid hg; clear hgb hb1 hg) | ((with_reducible refine gate_dst (N := 3) rfl ?_); refine box_event ?hg (N := 3) ?hd (cs := #[.int .i64 kd, .string tt, .slice A2 kids.length c2]) (t := 45) ?hr ?_; (case hd => rfl); (case hg => rfl); (case hr => first | (go_simp; done) | (go_simp; rfl)); intro nb hn w2 hnb hb2; have HX := Lib.hid (Bx.mk ((hb2.block gb (blk_lt HG1.out)).trans HG1.out) hnb); have HB2 := Lib.hid (HB1.out.trans (hb2.mono HB1.out.size)); have HE2 := Lib.hid hn; clear hnb hb2 hn HG1; obtain ⟨x0, x1, x2, x3, x4⟩ := HX.out.cells) | (go_at_call 104; refine (grommetref12_text.calls _ _ _ _ _ (hG.below HB2.out) HT.out).mono ?_; rintro e w3 ⟨rfl, hb3⟩; have HX3 := Lib.hid (HX.out.below hb3); have HB3 := Lib.hid (HB2.out.trans (hb3.mono HB2.out.size)); clear hb3 HX HB2 x0 x1 x2 x3 x4; obtain ⟨x0, x1, x2, x3, x4⟩ := HX3.out.cells) | (go_at_call 105; refine (grommetref12_scalar.calls _ _ _ (hG.below HB3.out) HS.out).mono ?_; rintro e w4 ⟨rfl, hd4⟩; have HX4 := Lib.hid (HX3.out.below hd4.below); have HB4 := Lib.hid (HB3.out.trans (hd4.below.mono HB3.out.size)); clear hd4 HX3 HB3 x0 x1 x2 x3 x4; obtain ⟨x0, x1, x2, x3, x4⟩ := HX4.out.cells))
    clear x0 x1 x2 x3 x4
    go_loopw [5] (fun v wr => ∃ i : Nat, v = .int .i64 i ∧ i ≤ kids.length ∧ Hid (kids.any (farB l) = (kids.drop i).any (farB l)) ∧ Hid (Below w.heap.size w wr) ∧ Hid (Bx gb nb A0 l.length c0 root kd tt A2 kids.length c2 wr)) (fun v _ => kids.length - (intOf v).toNat)
    case atStart => exact ⟨0, rfl, by omega, Lib.hid rfl, HB4, HX4⟩
    case round =>
      clear HB4 HX4
      obtain ⟨i, rfl, hi, hst, HBR, HXR⟩ := hrel
      obtain ⟨x0, x1, x2, x3, x4⟩ := HXR.out.cells
      by_cases hlt : i < kids.length
      · have hc : decide ((i : Int) < (kids.length : Int)) = true := decide_eq_true (by omega)
        obtain ⟨cd, eA, hx⟩ := Kd.at_int (Kd.C_below H2.out HBR.out) (i : Int) (by omega) (by omega)
        subst eA
        rw [rd_at kids i hlt, Int.toNat_natCast] at hx
        have hst2 := hst.out
        rw [List.drop_eq_getElem_cons hlt, List.any_cons] at hst2
        have p1 : (0 ≤ (i : Int)) = True := eq_true (by omega)
        have p2 : ((i : Int) < (kids.length : Int)) = True := eq_true (by omega)
        have HL := Lib.hid hlt
        clear hst
        generalize kids[i] = k at *
        by_cases n1 : k < 0
        · have HF : Hid (R = false) := Lib.hid (by have h := HV.out; rw [hst2] at h; simp [farB, n1] at h; exact h)
          have n2 : decide (k < 0) = true := decide_eq_true n1
          clear hst2
          go_wp2
          go_quiet (fail)
          go_wp2
          go_ret
          exact ⟨by rw [HF.out]; first | done | rfl, pw_below_drewN HBR.out _⟩
        · have n2 : decide (k < 0) = false := decide_eq_false n1
          by_cases n3 : (l.length : Int) ≤ k
          · have HF : Hid (R = false) := Lib.hid (by have h := HV.out; rw [hst2] at h; simp [farB, n3] at h; exact h)
            have n4 : decide ((l.length : Int) ≤ k) = true := decide_eq_true n3
            clear hst2
            go_wp2
            go_quiet (fail)
            go_wp2
            go_ret
            exact ⟨by rw [HF.out]; first | done | rfl, pw_below_drewN HBR.out _⟩
          · have n4 : decide ((l.length : Int) ≤ k) = false := decide_eq_false n3
            have HST := Lib.hid (show kids.any (farB l) = (kids.drop (i + 1)).any (farB l) by rw [hst2]; unfold farB; rw [n2, show decide (k ≥ (l.length : Int)) = false from n4]; rfl)
            clear hst2
            go_wp2
            go_quiet (fail)
            go_wp2
            go_roundw
            case rel => have := HL.out; exact ⟨i + 1, by go_num, HL.out, HST, Lib.hid (pw_below_drewN HBR.out _), Lib.hid (HXR.out.below (pw_below_drewN (Below.refl _ _) _))⟩
            case measure => have := HL.out; simp [intOf]; omega
      · have hc : decide ((i : Int) < (kids.length : Int)) = false := decide_eq_false (by omega)
        have hst2 := hst.out
        rw [List.drop_of_length_le (by omega), List.any_nil] at hst2
        have HMB := Lib.hid (show metB l (keysB kd kids) [] = R by have h := HV.out; rw [hst2, if_neg Bool.false_ne_true] at h; exact h)
        have HIN := Lib.hid (show ∀ k ∈ kids, 0 ≤ k ∧ k < (l.length : Int) from fun k hk => by
          have h := List.any_eq_false.1 hst2 k hk
          simp [farB] at h
          exact h)
        clear hst hst2
        go_wp2
        clear x0 x1 x2 x3 x4 hc
        by_cases h6 : kd = 6
        · try exact absurd (beq_iff_eq.2 h6) (by rw [q4]; exact Bool.false_ne_true)
          all_goals
            have q8 : (kd == 6) = true := beq_iff_eq.2 h6
            have hev : kids.length % 2 = 0 := ko
            have HEH := Lib.hid (And.intro hev (evens_half kids hev))
            have HM0 := Lib.hid (show metB l ((evens kids).drop 0) (metUp l (evens kids) 0) = R by rw [← HMB.out]; unfold keysB; rw [if_pos h6]; rfl)
            clear h6 hev
            go_loopw [6] (fun v wr => ∃ i m : Nat, v = .int .i64 i ∧ i ≤ kids.length ∧ Hid (i = 2 * m) ∧ Hid (metB l ((evens kids).drop m) (metUp l (evens kids) m) = R) ∧ Hid (Below w.heap.size w wr) ∧ Hid (Bx gb nb A0 l.length c0 root kd tt A2 kids.length c2 wr)) (fun v _ => kids.length - (intOf v).toNat)
            case atStart => exact ⟨0, 0, rfl, by omega, Lib.hid rfl, HM0, HBR, HXR⟩
            case round =>
              clear HBR HXR hlt hi
              obtain ⟨i, m, rfl, hi, him, hst, HBR, HXR⟩ := hrel
              obtain ⟨x0, x1, x2, x3, x4⟩ := HXR.out.cells
              by_cases hlt : i < kids.length
              · have hc : decide ((i : Int) < (kids.length : Int)) = true := decide_eq_true (by omega)
                obtain ⟨cd, eA, hx⟩ := Kd.at_int (Kd.C_below H2.out HBR.out) (i : Int) (by omega) (by omega)
                subst eA
                rw [rd_at kids i hlt, Int.toNat_natCast] at hx
                have hm : m < (evens kids).length := by have := HEH.out; have := him.out; omega
                have HST := Lib.hid (metB_on l (evens kids) m hm)
                rw [hst.out, evens_get kids HEH.out.1 i m him.out hlt hm] at HST
                obtain ⟨j0, j1⟩ := HIN.out kids[i] (List.getElem_mem hlt)
                have HL := Lib.hid (And.intro hlt hm)
                have HKI := Lib.hid (show kids[i] = kids[i] from rfl)
                generalize kids[i] = k at *
                obtain ⟨bd, A3, c3, eB, y0, y1, y2, _, _⟩ := at_T45 (Kd.C_below HR.out HBR.out) k j0 j1
                subst eB
                have hki : keyIs l k = ((rd_T45 l k).f0, (rd_T45 l k).f1) := rfl
                rw [hki] at HST
                clear hki hst
                generalize (rd_T45 l k).f0 = a at *
                generalize (rd_T45 l k).f1 = s at *
                generalize (rd_T45 l k).f2 = f at *
                have p1 : (0 ≤ (i : Int)) = True := eq_true (by omega)
                have p2 : ((i : Int) < (kids.length : Int)) = True := eq_true (by omega)
                have p3 : (0 ≤ k) = True := eq_true j0
                have p4 : (k < (l.length : Int)) = True := eq_true j1
                go_wp2_with (fail)
                have hal : Below wr.heap.size wr (wr.alloc (.cells #[.int .i64 0, .string ⟨#[]⟩, .slice none 0 0] 45 (0, 0))) := below_alloc (Below.refl _ _) _
                obtain ⟨u0, u1, u2, u3, u4⟩ := (HXR.out.below hal).cells
                have v0 := (hal.cell (World.block_lt_of_cell? wr _ y0)).trans y0
                have v1 := (hal.cell (World.block_lt_of_cell? wr _ y1)).trans y1
                have v2 := (hal.cell (World.block_lt_of_cell? wr _ y2)).trans y2
                have v3 := (hal.cell (World.block_lt_of_cell? wr _ hx)).trans hx
                clear hal
                go_region
                have hb8 : Below wr.heap.size wr (World.drew (wr.alloc (.cells #[.int .i64 a, .string s, .slice A3 f.length c3] 45 (0, 0)))) := below_drew1 (below_alloc (Below.refl _ _) _)
                have hk8 : (World.drew (wr.alloc (.cells #[.int .i64 a, .string s, .slice A3 f.length c3] 45 (0, 0)))).heap[wr.heap.size]? = some (.cells #[.int .i64 a, .string s, .slice A3 f.length c3] 45 (0, 0)) := blk_new wr _
                generalize World.drew _ = w8 at hb8 hk8 ⊢
                generalize wr.heap.size = kb at hk8 ⊢
                have HB8 := Lib.hid (HBR.out.trans (hb8.mono HBR.out.size))
                have HX8 := Lib.hid (HXR.out.below hb8)
                have HK8 := Lib.hid hk8
                clear hb8 hk8 HBR HXR x0 x1 x2 x3 x4 y0 y1 y2 u0 u1 u2 u3 u4 v0 v1 v2 v3 hx
                obtain ⟨x0, x1, x2, x3, x4⟩ := HX8.out.cells
                have z0 := (blk_cell HK8.out 0).trans rfl
                have z1 := (blk_cell HK8.out 1).trans rfl
                have HSC := Lib.hid (rscal_of a)
                by_cases hs : scB a = true
                · rw [hs] at HSC
                  have HST2 := Lib.hid (show R = (if metHas l (evens kids) m (a, s) = true then false else metB l ((evens kids).drop (m + 1)) (metUp l (evens kids) (m + 1))) by have h := HST.out; rw [if_pos hs] at h; exact h)
                  clear HST hs
                  go_wp2_with (go_at_call 105; refine (grommetref12_scalar.calls _ _ _ (hG.below HB8.out) HSC.out).mono ?_; rintro e w9 ⟨rfl, hd9⟩; have HX9 := Lib.hid (HX8.out.below hd9.below); have HB9 := Lib.hid (HB8.out.trans (hd9.below.mono HB8.out.size)); have HK9 := Lib.hid ((hd9.below.block _ (blk_lt HK8.out)).trans HK8.out); clear hd9 HX8 HB8 HK8 x0 x1 x2 x3 x4 z0 z1; obtain ⟨x0, x1, x2, x3, x4⟩ := HX9.out.cells; have z0 := (blk_cell HK9.out 0).trans rfl; have z1 := (blk_cell HK9.out 1).trans rfl)
                  clear x0 x1 x2 x3 x4 z0 z1 hc
                  go_loopw [8] (fun v wr => ∃ j q : Nat, v = .int .i64 j ∧ j ≤ i + 1 ∧ Hid (j = 2 * q) ∧ Hid (metHas l (evens kids) q (a, s) = false) ∧ Hid (Below w.heap.size w wr) ∧ Hid (Bx gb nb (some bd) l.length c0 root kd tt (some cd) kids.length c2 wr) ∧ Hid (wr.heap[kb]? = some (.cells #[.int .i64 a, .string s, .slice A3 f.length c3] 45 (0, 0)))) (fun v _ => i + 1 - (intOf v).toNat)
                  case atStart => exact ⟨0, 0, rfl, by omega, Lib.hid rfl, Lib.hid rfl, HB9, HX9, HK9⟩
                  case round =>
                    clear HB9 HX9 HK9
                    obtain ⟨j, q, rfl, hj, hjq, hmt, HBR, HXR, HKR⟩ := hrel
                    obtain ⟨x0, x1, x2, x3, x4⟩ := HXR.out.cells
                    by_cases hlt2 : j < i
                    · have hc : decide ((j : Int) < (i : Int)) = true := decide_eq_true (by omega)
                      have hjk : j < kids.length := by have := HL.out; omega
                      obtain ⟨cd2, eA, hx⟩ := Kd.at_int (Kd.C_below H2.out HBR.out) (j : Int) (by omega) (by omega)
                      cases eA
                      rw [rd_at kids j hjk, Int.toNat_natCast] at hx
                      have hq : q < (evens kids).length := by have := HL.out; have := him.out; have := hjq.out; omega
                      have HSU := Lib.hid (metHas_succ l (evens kids) q (a, s) hq)
                      rw [hmt.out, Bool.false_or, evens_get kids HEH.out.1 j q hjq.out hjk hq] at HSU
                      obtain ⟨j2, j3⟩ := HIN.out kids[j] (List.getElem_mem hjk)
                      have HL2 := Lib.hid (And.intro hlt2 (show q + 1 ≤ m by have := him.out; have := hjq.out; omega))
                      generalize kids[j] = k2 at *
                      obtain ⟨bd2, A4, c4, eB, y0, y1, y2, _, _⟩ := at_T45 (Kd.C_below HR.out HBR.out) k2 j2 j3
                      cases eB
                      have hki : keyIs l k2 = ((rd_T45 l k2).f0, (rd_T45 l k2).f1) := rfl
                      rw [hki] at HSU
                      clear hki hmt
                      generalize (rd_T45 l k2).f0 = a2 at *
                      generalize (rd_T45 l k2).f1 = s2 at *
                      generalize (rd_T45 l k2).f2 = f2 at *
                      have p5 : (0 ≤ (j : Int)) = True := eq_true (by omega)
                      have p6 : ((j : Int) < (kids.length : Int)) = True := eq_true (by omega)
                      have p7 : (0 ≤ k2) = True := eq_true j2
                      have p8 : (k2 < (l.length : Int)) = True := eq_true j3
                      go_wp2_with (fail)
                      have hal : Below wr.heap.size wr (wr.alloc (.cells #[.int .i64 0, .string ⟨#[]⟩, .slice none 0 0] 45 (0, 0))) := below_alloc (Below.refl _ _) _
                      obtain ⟨u0, u1, u2, u3, u4⟩ := (HXR.out.below hal).cells
                      have v0 := (hal.cell (World.block_lt_of_cell? wr _ y0)).trans y0
                      have v1 := (hal.cell (World.block_lt_of_cell? wr _ y1)).trans y1
                      have v2 := (hal.cell (World.block_lt_of_cell? wr _ y2)).trans y2
                      have v3 := (hal.cell (World.block_lt_of_cell? wr _ hx)).trans hx
                      clear hal
                      go_region
                      have hb8 : Below wr.heap.size wr (World.drew (wr.alloc (.cells #[.int .i64 a2, .string s2, .slice A4 f2.length c4] 45 (0, 0)))) := below_drew1 (below_alloc (Below.refl _ _) _)
                      have hk8 : (World.drew (wr.alloc (.cells #[.int .i64 a2, .string s2, .slice A4 f2.length c4] 45 (0, 0)))).heap[wr.heap.size]? = some (.cells #[.int .i64 a2, .string s2, .slice A4 f2.length c4] 45 (0, 0)) := blk_new wr _
                      generalize World.drew _ = w8 at hb8 hk8 ⊢
                      have HB8 := Lib.hid (HBR.out.trans (hb8.mono HBR.out.size))
                      have HX8 := Lib.hid (HXR.out.below hb8)
                      have HK8 := Lib.hid ((hb8.block kb (blk_lt HKR.out)).trans HKR.out)
                      generalize wr.heap.size = ob at hk8 ⊢
                      have HO8 := Lib.hid hk8
                      clear hb8 hk8 HBR HXR HKR x0 x1 x2 x3 x4 y0 y1 y2 u0 u1 u2 u3 u4 v0 v1 v2 v3 hx
                      have z0 := (blk_cell HK8.out 0).trans rfl
                      have z1 := (blk_cell HK8.out 1).trans rfl
                      have z2 := (blk_cell HO8.out 0).trans rfl
                      have z3 := (blk_cell HO8.out 1).trans rfl
                      by_cases e1 : a2 = a
                      · have n1 : (a2 == a) = true := beq_iff_eq.2 e1
                        by_cases e2 : s2 = s
                        · have n2 : (s2.toList == s.toList) = true := beq_iff_eq.2 (by rw [e2])
                          have HF : Hid (R = false) := Lib.hid (by
                            have h := HSU.out
                            rw [e1, e2, decide_eq_true rfl] at h
                            have h2 := metHas_mono l (evens kids) (a, s) (q + 1) m HL2.out.2 (by have := HL.out; omega) h
                            rw [HST2.out, if_pos h2])
                          clear e1 e2 HSU
                          go_wp2
                          go_ret
                          exact ⟨by rw [HF.out]; first | done | rfl, HB8.out⟩
                        · have n2 : (s2.toList == s.toList) = false := beq_eq_false_iff_ne.2 (fun h => e2 (ByteArray.ext (by have h3 := congrArg List.toArray h; rw [Lib.toList_data, Lib.toList_data] at h3; simpa using h3)))
                          have HMT : Hid (metHas l (evens kids) (q + 1) (a, s) = false) := Lib.hid (by rw [HSU.out]; exact decide_eq_false (fun h => e2 (Prod.mk.inj h).2))
                          clear e1 e2 HSU
                          go_wp2
                          go_roundw
                          case rel => have := HL2.out; have := hjq.out; exact ⟨j + 2, q + 1, by go_num, by omega, Lib.hid (by omega), HMT, HB8, HX8, HK8⟩
                          case measure => have := HL2.out; simp [intOf]; omega
                      · have n1 : (a2 == a) = false := beq_eq_false_iff_ne.2 e1
                        have HMT : Hid (metHas l (evens kids) (q + 1) (a, s) = false) := Lib.hid (by rw [HSU.out]; exact decide_eq_false (fun h => e1 (Prod.mk.inj h).1))
                        clear e1 HSU
                        go_wp2
                        go_roundw
                        case rel => have := HL2.out; have := hjq.out; exact ⟨j + 2, q + 1, by go_num, by omega, Lib.hid (by omega), HMT, HB8, HX8, HK8⟩
                        case measure => have := HL2.out; simp [intOf]; omega
                    · have hc : decide ((j : Int) < (i : Int)) = false := decide_eq_false (by omega)
                      have HMN : Hid (metB l ((evens kids).drop (m + 1)) (metUp l (evens kids) (m + 1)) = R) := Lib.hid (by
                        have h := hmt.out
                        have hqm : metHas l (evens kids) m (a, s) = false := by
                          cases hv : metHas l (evens kids) m (a, s) with
                          | false => rfl
                          | true => rw [metHas_mono l (evens kids) (a, s) m q (by have := him.out; have := hjq.out; omega) (by have := HL.out; have := him.out; have := hjq.out; have := HEH.out; omega) hv] at h; cases h
                        rw [HST2.out, if_neg (by rw [hqm]; exact Bool.false_ne_true)])
                      go_wp2
                      go_roundw
                      case rel => have := HL.out; have := him.out; exact ⟨i + 2, m + 1, by go_num, by have := HEH.out; omega, Lib.hid (by omega), HMN, HBR, HXR⟩
                      case measure => have := HL.out; simp [intOf]; omega
                · have hs' : scB a = false := Bool.eq_false_iff.2 hs
                  have HF : Hid (R = false) := Lib.hid (by have h := HST.out; rw [if_neg hs] at h; exact h)
                  rw [hs'] at HSC
                  clear hs hs' HST
                  go_wp2_with (go_at_call 105; refine (grommetref12_scalar.calls _ _ _ (hG.below HB8.out) HSC.out).mono ?_; rintro e w9 ⟨rfl, hd9⟩; have HB9 := Lib.hid (HB8.out.trans (hd9.below.mono HB8.out.size)))
                  go_ret
                  exact ⟨by rw [HF.out]; first | done | rfl, HB9.out⟩
              · have hc : decide ((i : Int) < (kids.length : Int)) = false := decide_eq_false (by omega)
                have HF : Hid (R = true) := Lib.hid (by
                  have h := hst.out
                  rw [List.drop_of_length_le (by have := HEH.out; have := him.out; omega), metB] at h
                  exact h.symm)
                clear hst
                go_wp2
                go_ret
                exact ⟨by rw [HF.out]; first | done | rfl, HBR.out⟩
        · try exact absurd (beq_iff_eq.1 q4) h6
          all_goals
            have q8 : (kd == 6) = false := beq_eq_false_iff_ne.2 h6
            have HF : Hid (R = true) := Lib.hid (by rw [← HMB.out]; unfold keysB; rw [if_neg h6]; rfl)
            clear h6
            go_loopw [6] (fun v wr => v = .int .i64 0 ∧ Hid (Below w.heap.size w wr) ∧ Hid (Bx gb nb A0 l.length c0 root kd tt A2 kids.length c2 wr)) (fun _ _ => 0)
            case atStart => exact ⟨rfl, HBR, HXR⟩
            case round =>
              clear HBR HXR
              obtain ⟨rfl, HBR, HXR⟩ := hrel
              obtain ⟨x0, x1, x2, x3, x4⟩ := HXR.out.cells
              by_cases hn : 0 < kids.length
              · first
                  | exact absurd hn (by have := of_decide_eq_false q5; omega)
                  | (have hc : decide ((0 : Int) < (kids.length : Int)) = true := decide_eq_true (by omega)
                     go_wp2
                     go_ret
                     exact ⟨by rw [HF.out]; first | done | rfl, HBR.out⟩)
              · have hc : decide ((0 : Int) < (kids.length : Int)) = false := decide_eq_false (by omega)
                go_wp2
                go_ret
                exact ⟨by rw [HF.out]; first | done | rfl, HBR.out⟩
set_option maxHeartbeats 8000000 in
set_option maxRecDepth 100000 in
theorem grommetref12_node.calls (A0 : Option Addr) (c0 : Nat) (l : List S45) (root kd : Int) (tt : ByteArray) (A2 : Option Addr) (c2 : Nat) (kids : List Int) (r : Bool) (w : World)
  (hr0 : Kd.C k45 w A0 l.length l) (_hc0 : l.length ≤ c0) (hr1 : Kd.C (Kd.int .i64) w A2 kids.length kids) (_hc1 : kids.length ≤ c2) (hG : Glob.G w) (h : grommetref12_node.f l root kd tt kids = some r) :
  Calls Tryz.prog 79 #[.agg #[.slice A0 l.length c0, .int .i64 root], .agg #[.int .i64 kd, .string tt, .slice A2 kids.length c2]] w fun e w' => e = .returned (.bool r) ∧ Below w.heap.size w w' := by
 unfold grommetref12_node.f at h
 by_cases hz : tt.size ≤ 1099511627775 ∧ kids.length ≤ 1099511627776
 rotate_left
 · rw [if_neg hz] at h; cases h
 rw [if_pos hz] at h
 have hR := Option.some.inj h
 obtain ⟨hz1, hz2⟩ := hz
 have HR := Lib.hid hr0
 have H2 := Lib.hid hr1
 have HRR := Lib.hid hR
 obtain ⟨tx, htx⟩ : ∃ b, textB kd tt = b := ⟨_, rfl⟩
 have HT := Lib.hid (show grommetref12_text.f (tt.size + 130) kd tt = some tx by rw [← htx]; exact refText_of tt hz1 kd _ (Nat.le_refl _))
 have HTX := Lib.hid htx
 clear h hr0 hr1 hR _hc0 _hc1 htx
 by_cases k1 : kd < 1
 ·
  have HF : Hid (r = false) := Lib.hid (by rw [← HRR.out]; simp [isN, nodeB, k1])
  have q1 : decide (kd < 1) = true := decide_eq_true k1
  go_enter Tryz.func79, Tryz.ntmps79
  go_wp2_with (first | ((with_reducible refine gate_dst (N := 2) rfl ?_); refine box_event ?hg (N := 2) ?hd (cs := #[.slice A0 l.length c0, .int .i64 root]) (t := 24) ?hr ?_; (case hd => rfl); (case hg => rfl); (case hr => first | (go_simp; done) | (go_simp; rfl)); intro gb hg w1 hgb hb1; have HG1 := Lib.hid hgb; have HB1 := Lib.hid hb1; have HE1 := Lib.hid hg; clear hgb hb1 hg) | ((with_reducible refine gate_dst (N := 3) rfl ?_); refine box_event ?hg (N := 3) ?hd (cs := #[.int .i64 kd, .string tt, .slice A2 kids.length c2]) (t := 45) ?hr ?_; (case hd => rfl); (case hg => rfl); (case hr => first | (go_simp; done) | (go_simp; rfl)); intro nb hn w2 hnb hb2; have HX := Lib.hid (Bx.mk ((hb2.block gb (blk_lt HG1.out)).trans HG1.out) hnb); have HB2 := Lib.hid (HB1.out.trans (hb2.mono HB1.out.size)); have HE2 := Lib.hid hn; clear hnb hb2 hn HG1; obtain ⟨x0, x1, x2, x3, x4⟩ := HX.out.cells))
  go_ret
  exact ⟨by rw [HF.out]; first | done | rfl, HB2.out⟩
 have q1 : decide (kd < 1) = false := decide_eq_false k1
 by_cases k6 : 6 < kd
 ·
  have HF : Hid (r = false) := Lib.hid (by rw [← HRR.out]; simp [isN, nodeB, k1, k6])
  have q2 : decide (6 < kd) = true := decide_eq_true k6
  go_enter Tryz.func79, Tryz.ntmps79
  go_wp2_with (first | ((with_reducible refine gate_dst (N := 2) rfl ?_); refine box_event ?hg (N := 2) ?hd (cs := #[.slice A0 l.length c0, .int .i64 root]) (t := 24) ?hr ?_; (case hd => rfl); (case hg => rfl); (case hr => first | (go_simp; done) | (go_simp; rfl)); intro gb hg w1 hgb hb1; have HG1 := Lib.hid hgb; have HB1 := Lib.hid hb1; have HE1 := Lib.hid hg; clear hgb hb1 hg) | ((with_reducible refine gate_dst (N := 3) rfl ?_); refine box_event ?hg (N := 3) ?hd (cs := #[.int .i64 kd, .string tt, .slice A2 kids.length c2]) (t := 45) ?hr ?_; (case hd => rfl); (case hg => rfl); (case hr => first | (go_simp; done) | (go_simp; rfl)); intro nb hn w2 hnb hb2; have HX := Lib.hid (Bx.mk ((hb2.block gb (blk_lt HG1.out)).trans HG1.out) hnb); have HB2 := Lib.hid (HB1.out.trans (hb2.mono HB1.out.size)); have HE2 := Lib.hid hn; clear hnb hb2 hn HG1; obtain ⟨x0, x1, x2, x3, x4⟩ := HX.out.cells))
  go_ret
  exact ⟨by rw [HF.out]; first | done | rfl, HB2.out⟩
 have q2 : decide (6 < kd) = false := decide_eq_false k6
 cases tx with
 | false =>
  have HF : Hid (r = false) := Lib.hid (by rw [← HRR.out]; simp [isN, nodeB, k1, k6, HTX.out])
  go_enter Tryz.func79, Tryz.ntmps79
  go_wp2_with (first | ((with_reducible refine gate_dst (N := 2) rfl ?_); refine box_event ?hg (N := 2) ?hd (cs := #[.slice A0 l.length c0, .int .i64 root]) (t := 24) ?hr ?_; (case hd => rfl); (case hg => rfl); (case hr => first | (go_simp; done) | (go_simp; rfl)); intro gb hg w1 hgb hb1; have HG1 := Lib.hid hgb; have HB1 := Lib.hid hb1; have HE1 := Lib.hid hg; clear hgb hb1 hg) | ((with_reducible refine gate_dst (N := 3) rfl ?_); refine box_event ?hg (N := 3) ?hd (cs := #[.int .i64 kd, .string tt, .slice A2 kids.length c2]) (t := 45) ?hr ?_; (case hd => rfl); (case hg => rfl); (case hr => first | (go_simp; done) | (go_simp; rfl)); intro nb hn w2 hnb hb2; have HX := Lib.hid (Bx.mk ((hb2.block gb (blk_lt HG1.out)).trans HG1.out) hnb); have HB2 := Lib.hid (HB1.out.trans (hb2.mono HB1.out.size)); have HE2 := Lib.hid hn; clear hnb hb2 hn HG1; obtain ⟨x0, x1, x2, x3, x4⟩ := HX.out.cells) | (go_at_call 104; refine (grommetref12_text.calls _ _ _ _ _ (hG.below HB2.out) HT.out).mono ?_; rintro e w3 ⟨rfl, hb3⟩; have HX3 := Lib.hid (HX.out.below hb3); have HB3 := Lib.hid (HB2.out.trans (hb3.mono HB2.out.size)); clear hb3 HX HB2 x0 x1 x2 x3 x4; obtain ⟨x0, x1, x2, x3, x4⟩ := HX3.out.cells))
  go_ret
  exact ⟨by rw [HF.out]; first | done | rfl, HB3.out⟩
 | true =>
  have HN1 := Lib.hid (show nodeB l ⟨kd, tt, kids⟩ true (keysB kd kids) = r by rw [← HRR.out]; unfold isN; rw [show textB kd tt = true from HTX.out])
  by_cases ks4 : kd ≤ 4
  ·
   have hsc : scB kd = true := by unfold scB; rw [decide_eq_true (by omega : (1 : Int) ≤ kd), decide_eq_true ks4]; rfl
   have q4 : (kd == 6) = false := beq_eq_false_iff_ne.2 (by omega)
   by_cases kl : 0 < kids.length
   rotate_left
   ·
    refine node_on A0 c0 l root kd tt kids A2 c2 r w HR H2 hG _ HT hz2 q1 q2 (.inl ⟨hsc, by omega⟩) ?_
    exact (nodeB_on l kd tt kids _ k1 k6 (by rw [q4, decide_eq_false kl]; simp)).symm.trans HN1.out
   have HF : Hid (r = false) := Lib.hid (by rw [← HN1.out, nodeB, if_neg k1, if_neg k6, if_neg (by simp), if_pos (by simp [hsc, kl])])
   have HS := Lib.hid (rscal_of kd)
   rw [hsc] at HS
   have q5 : decide ((0 : Int) < (kids.length : Int)) = true := decide_eq_true (by omega)
   have q6 : decide (0 < kids.length) = true := decide_eq_true kl
   go_enter Tryz.func79, Tryz.ntmps79
   go_wp2_with (first | ((with_reducible refine gate_dst (N := 2) rfl ?_); refine box_event ?hg (N := 2) ?hd (cs := #[.slice A0 l.length c0, .int .i64 root]) (t := 24) ?hr ?_; (case hd => rfl); (case hg => rfl); (case hr => first | (go_simp; done) | (go_simp; rfl)); intro gb hg w1 hgb hb1; have HG1 := Lib.hid hgb; have HB1 := Lib.hid hb1; have HE1 := Lib.hid hg; clear hgb hb1 hg) | ((with_reducible refine gate_dst (N := 3) rfl ?_); refine box_event ?hg (N := 3) ?hd (cs := #[.int .i64 kd, .string tt, .slice A2 kids.length c2]) (t := 45) ?hr ?_; (case hd => rfl); (case hg => rfl); (case hr => first | (go_simp; done) | (go_simp; rfl)); intro nb hn w2 hnb hb2; have HX := Lib.hid (Bx.mk ((hb2.block gb (blk_lt HG1.out)).trans HG1.out) hnb); have HB2 := Lib.hid (HB1.out.trans (hb2.mono HB1.out.size)); have HE2 := Lib.hid hn; clear hnb hb2 hn HG1; obtain ⟨x0, x1, x2, x3, x4⟩ := HX.out.cells) | (go_at_call 104; refine (grommetref12_text.calls _ _ _ _ _ (hG.below HB2.out) HT.out).mono ?_; rintro e w3 ⟨rfl, hb3⟩; have HX3 := Lib.hid (HX.out.below hb3); have HB3 := Lib.hid (HB2.out.trans (hb3.mono HB2.out.size)); clear hb3 HX HB2 x0 x1 x2 x3 x4; obtain ⟨x0, x1, x2, x3, x4⟩ := HX3.out.cells) | (go_at_call 105; refine (grommetref12_scalar.calls _ _ _ (hG.below HB3.out) HS.out).mono ?_; rintro e w4 ⟨rfl, hd4⟩; have HX4 := Lib.hid (HX3.out.below hd4.below); have HB4 := Lib.hid (HB3.out.trans (hd4.below.mono HB3.out.size)); clear hd4 HX3 HB3 x0 x1 x2 x3 x4; obtain ⟨x0, x1, x2, x3, x4⟩ := HX4.out.cells))
   go_ret
   exact ⟨by rw [HF.out]; first | done | rfl, HB4.out⟩
  have hsc : scB kd = false := by unfold scB; rw [decide_eq_false ks4, Bool.and_false]
  by_cases k66 : kd = 6
  rotate_left
  ·
   have q4 : (kd == 6) = false := beq_eq_false_iff_ne.2 k66
   refine node_on A0 c0 l root kd tt kids A2 c2 r w HR H2 hG _ HT hz2 q1 q2 (.inr (.inr ⟨hsc, q4⟩)) ?_
   exact (nodeB_on l kd tt kids _ k1 k6 (by rw [hsc, q4]; rfl)).symm.trans HN1.out
  have q4 : (kd == 6) = true := beq_iff_eq.2 k66
  by_cases ko : kids.length % 2 = 0
  ·
   refine node_on A0 c0 l root kd tt kids A2 c2 r w HR H2 hG _ HT hz2 q1 q2 (.inr (.inl ⟨hsc, q4, ko⟩)) ?_
   exact (nodeB_on l kd tt kids _ k1 k6 (by rw [hsc, ko]; simp)).symm.trans HN1.out
  have HF : Hid (r = false) := Lib.hid (by rw [← HN1.out, nodeB, if_neg k1, if_neg k6, if_neg (by simp), if_pos (by simp [k66]; omega)])
  have HS := Lib.hid (rscal_of kd)
  have q7 : (kids.length : Int).tmod 2 = 1 := by rw [Int.tmod_eq_emod_of_nonneg (by omega)]; omega
  rw [hsc] at HS
  clear k66 ko
  go_enter Tryz.func79, Tryz.ntmps79
  go_wp2_with (first | ((with_reducible refine gate_dst (N := 2) rfl ?_); refine box_event ?hg (N := 2) ?hd (cs := #[.slice A0 l.length c0, .int .i64 root]) (t := 24) ?hr ?_; (case hd => rfl); (case hg => rfl); (case hr => first | (go_simp; done) | (go_simp; rfl)); intro gb hg w1 hgb hb1; have HG1 := Lib.hid hgb; have HB1 := Lib.hid hb1; have HE1 := Lib.hid hg; clear hgb hb1 hg) | ((with_reducible refine gate_dst (N := 3) rfl ?_); refine box_event ?hg (N := 3) ?hd (cs := #[.int .i64 kd, .string tt, .slice A2 kids.length c2]) (t := 45) ?hr ?_; (case hd => rfl); (case hg => rfl); (case hr => first | (go_simp; done) | (go_simp; rfl)); intro nb hn w2 hnb hb2; have HX := Lib.hid (Bx.mk ((hb2.block gb (blk_lt HG1.out)).trans HG1.out) hnb); have HB2 := Lib.hid (HB1.out.trans (hb2.mono HB1.out.size)); have HE2 := Lib.hid hn; clear hnb hb2 hn HG1; obtain ⟨x0, x1, x2, x3, x4⟩ := HX.out.cells) | (go_at_call 104; refine (grommetref12_text.calls _ _ _ _ _ (hG.below HB2.out) HT.out).mono ?_; rintro e w3 ⟨rfl, hb3⟩; have HX3 := Lib.hid (HX.out.below hb3); have HB3 := Lib.hid (HB2.out.trans (hb3.mono HB2.out.size)); clear hb3 HX HB2 x0 x1 x2 x3 x4; obtain ⟨x0, x1, x2, x3, x4⟩ := HX3.out.cells) | (go_at_call 105; refine (grommetref12_scalar.calls _ _ _ (hG.below HB3.out) HS.out).mono ?_; rintro e w4 ⟨rfl, hd4⟩; have HX4 := Lib.hid (HX3.out.below hd4.below); have HB4 := Lib.hid (HB3.out.trans (hd4.below.mono HB3.out.size)); clear hd4 HX3 HB3 x0 x1 x2 x3 x4; obtain ⟨x0, x1, x2, x3, x4⟩ := HX4.out.cells))
  go_ret
  exact ⟨by rw [HF.out]; first | done | rfl, HB4.out⟩
end Go.Proofs.YtiooacmplmcphaaGreatDoor.Plug
namespace Go.Proofs.YtiooacmplmcphaaGreatDoor.PX
open RowKit YtiooacmplmcphaaGreatDoorW.PrintWords YtiooacmplmcphaaGreatDoorW.PrintLast YtiooacmplmcphaaGreatDoorW.PrintMore YtiooacmplmcphaaGreatDoor YtiooacmplmcphaaGreatDoor.Plug
attribute [local go_sem] max2_int min2_int max_two min_two max_three min_three max_four min_four   -- for this text's walks alone
set_option linter.unusedVariables false
set_option linter.unusedSimpArgs false
mutual
def grommetref12_Right.j0 : Nat → Bool → List (S45) → Int → Option (Bool)
  | 0, _, _, _ => none
  | k + 1, x29, x102000, x102001 => if x29 = true then (some false) else (grommetref12_Right.l0 k 0 x102000 x102001)
def grommetref12_Right.l0 : Nat → Int → List (S45) → Int → Option (Bool)
  | 0, _, _, _ => none
  | k + 1, x3, x102000, x102001 => if x3 < (x102000.length : Int) then (if 0 ≤ x3 then ((grommetref12_node.f x102000 x102001 ((rd_T45 x102000 x3).f0) ((rd_T45 x102000 x3).f1) ((rd_T45 x102000 x3).f2)).bind fun t103 => (if t103 = true then (grommetref12_Right.l0 k (wrap64 (x3 + 1)) x102000 x102001) else (some false))) else (none)) else ((grommetref12_uses.f k x102000 x102001).bind fun bt104 => (grommetref12_Right.l1 k bt104.1 bt104.2 0 x102000 x102001))
def grommetref12_Right.l1 : Nat → List Int → List Bool → Int → List (S45) → Int → Option (Bool)
  | 0, _, _, _, _, _ => none
  | k + 1, x4, x5, x6, x102000, x102001 => if x6 < (x102000.length : Int) then (if 0 ≤ x6 then (if x6 < (x5.length : Int) then (if rdOf false x5 x6 = true then (if x6 < (x4.length : Int) then (if (rd x4 x6) > 1 then (some false) else (if x6 = x102001 then (some false) else (grommetref12_Right.l1 k x4 x5 (wrap64 (x6 + 1)) x102000 x102001))) else (none)) else (grommetref12_Right.l1 k x4 x5 (wrap64 (x6 + 1)) x102000 x102001)) else (none)) else (none)) else (some true)
end
def grommetref12_Right.f (k : Nat) (l0_0 : List (S45)) (a0_1 : Int) : Option (Bool) := if (l0_0.length : Int) < 1 then (grommetref12_Right.j0 k true l0_0 a0_1) else (if (l0_0.length : Int) > 4096 then (grommetref12_Right.j0 k true l0_0 a0_1) else (if a0_1 < 0 then (grommetref12_Right.j0 k true l0_0 a0_1) else (grommetref12_Right.j0 k (decide (a0_1 ≥ (l0_0.length : Int))) l0_0 a0_1)))
def grommetref12_Right.T6 : Bool × List (List Nat × List Nat) := (true, [([], []), ([], []), ([1], [1]), ([], []), ([2, 3], [2, 3]), ([4], [4]), ([0, 5], [0, 5]), ([6], [6])])
def grommetref12_Right.B6 : List Nat := [0, 0, 2, 0, 14, 30, 63, 127]
theorem grommetref12_Right.tab6 : rtab .any (opsOf Tryz.f50 6) = grommetref12_Right.T6 := by kernel_rfl
theorem grommetref12_Right.bits6 : waitsOk grommetref12_Right.T6.2 grommetref12_Right.B6 = true := by kernel_rfl
theorem qbb0_ {P : Prop} (h_ : P := by repeat (first | (with_reducible first | exact HB.out | apply below_alloc | apply pw_below_drewN | apply below_drew1 | refine below_set ?_ GE101.out) | exact HB.out)) : P := h_
theorem qbb1_ {P : Prop} (h_ : P := by (with_reducible repeat (first | refine blk_drewN ?_ _ | refine blk_drew ?_ | refine blk_alloc ?_ _)); exact BK101.out) : P := h_
theorem qbb2_ {P : Prop} (h_ : P := by first | (with_reducible assumption) | assumption) : P := h_
theorem qbb3_ {P : Prop} (h_ : P := by first | ((repeat (first | (with_reducible first | exact HB.out | apply below_alloc | apply pw_below_drewN | apply below_drew1 | (refine Glob.below_set ?_ (by assumption) _ _ _)) | exact HB.out)); done) | (refine Drawn0.below ?_; repeat (first | exact Drawn0.refl _ | assumption | apply Drawn0.step))) : P := h_
theorem qbb4_ {P : Prop} (h_ : P := by first | rfl | (simp [errW_none, errW_some] <;> rfl) | (simp [*, errW_none, errW_some] <;> rfl)) : P := h_
theorem qbb5_ {P : Prop} (h_ : P := by first | rfl | (simp; done) | (simp [*]; done)) : P := h_
theorem qbb6_ {P : Prop} (h_ : P := by first | exact H' | (rw [← Nbq28.out]; exact H')) : P := h_
theorem qbb7_ {P : Prop} (h_ : P := by (try simp only [List.map_toArray, List.map_cons, List.map_nil]); first | done | rfl | (simp only [List.length_drop, List.length_take]; rfl)) : P := h_
theorem qbb8_ {P : Prop} (h_ : P := by repeat (first | (with_reducible first | exact HB.out | apply below_alloc | apply pw_below_drewN | apply below_drew1) | exact HB.out)) : P := h_
theorem qbb9_ {P : Prop} (h_ : P := by intro w'; go_simp; with_reducible rfl) : P := h_
theorem qbb10_ {P : Prop} (h_ : P := by simp only [Act.put, List.setIfInBounds_toArray, List.set_cons_zero, List.set_cons_succ, i64_w, i32_w]; rfl) : P := h_
theorem qbb11_ {P : Prop} (h_ : P := by rintro w' ⟨s0, s1, s2, s3, s4⟩; go_simp; with_reducible rfl) : P := h_
set_option maxHeartbeats 8000000 in
set_option maxRecDepth 100000 in
theorem grommetref12_Right.calls (k : Nat) (A0_0 : Option Addr) (c0_0 : Nat) (l0_0 : List (S45)) (a0_1 : Int) (r : Bool) (w : World) (hr0_0 : Kd.C k45 w A0_0 l0_0.length l0_0) (hc0_0 : l0_0.length ≤ c0_0) (hG : Glob.G w) (h : grommetref12_Right.f k l0_0 a0_1 = some r) :
  Calls Tryz.prog 50 #[.agg #[.slice A0_0 l0_0.length c0_0, .int .i64 a0_1]] w fun e w' => e = .returned (.bool r) ∧ Below w.heap.size w w' := by
 have hu24 := Tryz.underlying24
 have hu45 := Tryz.underlying45
 have HR0_0 := Aside0.mk hr0_0
 have HC0_0 := Aside0.mk hc0_0
 clear hr0_0 hc0_0
 have HB := Aside0.mk (Below.refl w.heap.size w)
 have H : (if (l0_0.length : Int) < 1 then (grommetref12_Right.j0 k true l0_0 a0_1) else (if (l0_0.length : Int) > 4096 then (grommetref12_Right.j0 k true l0_0 a0_1) else (if a0_1 < 0 then (grommetref12_Right.j0 k true l0_0 a0_1) else (grommetref12_Right.j0 k (decide (a0_1 ≥ (l0_0.length : Int))) l0_0 a0_1)))) = some r := h
 clear h
 have HC2 := Aside0.mk H
 clear H
 go_enter Tryz.func50, Tryz.ntmps50
 go_upto_region 1 with (first | ((with_reducible refine gate_dst (N := 1) rfl ?_); (try (refine gate_guard (by rfl) ?_; dsimp only)); refine box_event ?hg (N := 1) ?hd (cs := #[.slice A0_0 l0_0.length c0_0, .int .i64 a0_1]) (t := 24) ?hr ?_; (case hd => rfl); (case hg => rfl); (case hr => first | (go_simp; done) | (go_simp; rfl)); intro gb101 hg w3 hbox hb; have n0_ := Aside0.mk (below_step (qbb8_) hb); have n1_ := Aside0.mk (hbox); have n2_ := Aside0.mk ((by rw [hg]; exact (below_size (qbb8_)) : w.heap.size ≤ gb101)); have n3_ := Aside0.mk ((by rw [hg]; exact (below_size (qbb8_)) : w.heap.size ≤ gb101)); clear HB; have HB := n0_; have BK101 := n1_; have GW101 := n2_; have GE101 := n3_; clear n0_ n1_ n2_ n3_; clear hb hbox hg))
 (try simp only [Act.put, List.setIfInBounds_toArray, List.set_cons_zero, List.set_cons_succ])
 go_cut [29] (fun v29 wc => ∃ (kq : Nat) (x29_1 : Bool), v29 = .bool x29_1 ∧ Aside0 (grommetref12_Right.j0 kq x29_1 l0_0 a0_1 = some r) ∧ Aside0 (kq ≤ k) ∧ Aside0 (wc.heap[gb101]? = some (.cells #[(.slice A0_0 l0_0.length c0_0), .int .i64 a0_1] 24 (0, 0))) ∧ Aside0 (Below w.heap.size w wc))
 case first =>
  have H := HC2.out
  clear HC2
  by_cases c4 : (l0_0.length : Int) < 1
  ·
   rw [if_pos c4] at H
   have c4b0 : decide ((l0_0.length : Int) < 1) = true := decide_eq_true c4
   have c4b1 : decide (l0_0.length < 1) = true := decide_eq_true (by omega)
   clear c4
   (first | rw [c4b0] | (simp only [i64_w, i32_w]; rw [c4b0]) | skip)
   have H' := Aside0.mk H
   clear H
   have hcz5_0 : w3.cell? ⟨gb101, 0, none⟩ = some (.slice A0_0 l0_0.length c0_0) := (blk_cell BK101.out 0).trans rfl
   have hcz5_1 : w3.cell? ⟨gb101, 1, none⟩ = some (.int .i64 a0_1) := (blk_cell BK101.out 1).trans rfl
   have hfz5_0 := blk_frozen BK101.out 0
   have hfz5_1 := blk_frozen BK101.out 1
   go_wp2
   go_meet
   case rel => exact ⟨_, (true), (qbb5_), (qbb6_), ⟨by first | omega | exact Nat.le_refl _⟩, ⟨qbb1_⟩, ⟨qbb0_⟩⟩
  rw [if_neg c4] at H
  have c4b0 : decide ((l0_0.length : Int) < 1) = false := decide_eq_false c4
  have c4b1 : decide (l0_0.length < 1) = false := decide_eq_false (by omega)
  clear c4
  (first | rw [c4b0] | (simp only [i64_w, i32_w]; rw [c4b0]) | skip)
  by_cases c6 : (l0_0.length : Int) > 4096
  ·
   rw [if_pos c6] at H
   have c6b0 : decide (4096 < (l0_0.length : Int)) = true := decide_eq_true c6
   have c6b1 : decide (4096 < l0_0.length) = true := decide_eq_true (by omega)
   clear c6
   have H' := Aside0.mk H
   clear H
   have hcz7_0 : w3.cell? ⟨gb101, 0, none⟩ = some (.slice A0_0 l0_0.length c0_0) := (blk_cell BK101.out 0).trans rfl
   have hcz7_1 : w3.cell? ⟨gb101, 1, none⟩ = some (.int .i64 a0_1) := (blk_cell BK101.out 1).trans rfl
   have hfz7_0 := blk_frozen BK101.out 0
   have hfz7_1 := blk_frozen BK101.out 1
   go_wp2
   go_meet
   case rel => exact ⟨_, (true), (qbb5_), (qbb6_), ⟨by first | omega | exact Nat.le_refl _⟩, ⟨qbb1_⟩, ⟨qbb0_⟩⟩
  rw [if_neg c6] at H
  have c6b0 : decide (4096 < (l0_0.length : Int)) = false := decide_eq_false c6
  have c6b1 : decide (4096 < l0_0.length) = false := decide_eq_false (by omega)
  clear c6
  by_cases c8 : a0_1 < 0
  ·
   rw [if_pos c8] at H
   have c8b0 : decide (a0_1 < 0) = true := decide_eq_true c8
   clear c8
   have H' := Aside0.mk H
   clear H
   have hcz9_0 : w3.cell? ⟨gb101, 0, none⟩ = some (.slice A0_0 l0_0.length c0_0) := (blk_cell BK101.out 0).trans rfl
   have hcz9_1 : w3.cell? ⟨gb101, 1, none⟩ = some (.int .i64 a0_1) := (blk_cell BK101.out 1).trans rfl
   have hfz9_0 := blk_frozen BK101.out 0
   have hfz9_1 := blk_frozen BK101.out 1
   go_wp2
   go_meet
   case rel => exact ⟨_, (true), (qbb5_), (qbb6_), ⟨by first | omega | exact Nat.le_refl _⟩, ⟨qbb1_⟩, ⟨qbb0_⟩⟩
  rw [if_neg c8] at H
  have c8b0 : decide (a0_1 < 0) = false := decide_eq_false c8
  clear c8
  have H' := Aside0.mk H
  clear H
  have hcz10_0 : w3.cell? ⟨gb101, 0, none⟩ = some (.slice A0_0 l0_0.length c0_0) := (blk_cell BK101.out 0).trans rfl
  have hcz10_1 : w3.cell? ⟨gb101, 1, none⟩ = some (.int .i64 a0_1) := (blk_cell BK101.out 1).trans rfl
  have hfz10_0 := blk_frozen BK101.out 0
  have hfz10_1 := blk_frozen BK101.out 1
  go_wp2
  go_meet
  case rel => exact ⟨_, (decide (a0_1 ≥ (l0_0.length : Int))), (qbb5_), (qbb6_), ⟨by first | omega | exact Nat.le_refl _⟩, ⟨qbb1_⟩, ⟨qbb0_⟩⟩
 case rest =>
  clear HC2
  try clear p2
  try clear c4
  try clear c4b0
  try clear c4b1
  try clear c5
  try clear c6
  try clear c6b0
  try clear c6b1
  try clear c8
  try clear c8b0
  try clear hcz10_0
  try clear hcz10_1
  try clear hcz5_0
  try clear hcz5_1
  try clear hcz7_0
  try clear hcz7_1
  try clear hcz9_0
  try clear hcz9_1
  try clear hfz10_0
  try clear hfz10_1
  try clear hfz5_0
  try clear hfz5_1
  try clear hfz7_0
  try clear hfz7_1
  try clear hfz9_0
  try clear hfz9_1
  obtain ⟨kq, x29_1, rfl, HA, HJ1, BK101, HB⟩ := hcut
  cases kq with
  | zero => exact absurd HA.out (by simp [grommetref12_Right.j0])
  | succ kj1 =>
   have H := HA.out
   clear HA
   simp only [grommetref12_Right.j0] at H
   by_cases c11 : x29_1 = true
   ·
    subst c11
    have H1 : (some false) = some r := by rw [if_pos rfl] at H; exact H
    clear H
    have H := H1
    clear H1
    obtain rfl := Option.some.inj H
    go_wp2
    go_ret
    exact ⟨qbb4_, qbb0_⟩
   replace c11 := Bool.eq_false_iff.mpr c11
   subst c11
   have H1 : (grommetref12_Right.l0 kj1 0 l0_0 a0_1) = some r := by rw [if_neg (show ¬ (false = true) by decide)] at H; exact H
   clear H
   have H := H1
   clear H1
   have H' := Aside0.mk H
   clear H
   go_wp2
   go_loopg [3] kj1 (fun kq v3 w' => ∃ (x3_2 : Int), v3 = .int .i64 x3_2 ∧ Aside0 (grommetref12_Right.l0 kq x3_2 l0_0 a0_1 = some r) ∧ Aside0 (kq ≤ kj1) ∧ Aside0 (w'.heap[gb101]? = some (.cells #[(.slice A0_0 l0_0.length c0_0), .int .i64 a0_1] 24 (0, 0))) ∧ Aside0 (Below w.heap.size w w'))
   case atStart => exact ⟨(0), (qbb5_), H', ⟨Nat.le_refl _⟩, ⟨qbb1_⟩, ⟨qbb0_⟩⟩
   case round =>
    clear H'
    try clear c1
    try clear p2
    try clear c4
    try clear c4b0
    try clear c4b1
    try clear c5
    try clear c6
    try clear c6b0
    try clear c6b1
    try clear c8
    try clear c8b0
    try clear c11
    try clear hcz10_0
    try clear hcz10_1
    try clear hcz5_0
    try clear hcz5_1
    try clear hcz7_0
    try clear hcz7_1
    try clear hcz9_0
    try clear hcz9_1
    try clear hfz10_0
    try clear hfz10_1
    try clear hfz5_0
    try clear hfz5_1
    try clear hfz7_0
    try clear hfz7_1
    try clear hfz9_0
    try clear hfz9_1
    try clear p2
    obtain ⟨x3_2, rfl, HA, HK2, BK101, HB⟩ := hrel
    cases gk with
    | zero => exact absurd HA.out (by simp [grommetref12_Right.l0])
    | succ k2 =>
     have H := HA.out
     clear HA
     simp only [grommetref12_Right.l0] at H
     by_cases c12 : x3_2 < (l0_0.length : Int)
     rotate_left
     ·
      rw [if_neg c12] at H
      have c12b0 : decide (x3_2 < (l0_0.length : Int)) = false := decide_eq_false c12
      clear c12
      replace H := Option.bind_eq_some_iff.mp H
      obtain ⟨⟨t104, t107⟩, A220, H⟩ := H
      replace H : (grommetref12_Right.l1 k2 t104 t107 0 l0_0 a0_1) = some r := H
      have A22 := Aside0.mk A220
      clear A220
      have H' := Aside0.mk H
      clear H
      have hcz23_0 : wr.cell? ⟨gb101, 0, none⟩ = some (.slice A0_0 l0_0.length c0_0) := (blk_cell BK101.out 0).trans rfl
      have hcz23_1 : wr.cell? ⟨gb101, 1, none⟩ = some (.int .i64 a0_1) := (blk_cell BK101.out 1).trans rfl
      have hfz23_0 := blk_frozen BK101.out 0
      have hfz23_1 := blk_frozen BK101.out 1
      go_wp2_with (first | ((with_reducible refine gate_callee (f := 80) rfl ?_); refine goesL_ (some 47) rfl rfl Tryz.func80 (by kernel_rfl) rfl #[.agg #[.slice A0_0 l0_0.length c0_0, .int .i64 a0_1]] rfl (qbb7_) ?_; (with_reducible refine (grommetref12_uses.calls k2 _ _ l0_0 a0_1 t104 t107 _ ?side1 ?side2 (hG.below (qbb3_)) A22.out).mono ?_); (case side1 => repeat (first | exact (Kd.C_below HR0_0.out HB.out) | (with_reducible refine Kd.C_alloc ?_ _) | (with_reducible refine Kd.C_drewN ?_ _) | (with_reducible refine Kd.C_drew ?_))); (case side2 => exact HC0_0.out); rintro e w24 ⟨v105, v108, rfl, ho0, ho1, hb⟩; refine ⟨_, rfl, ?_⟩; have n0_ := Aside0.mk (Kd.R_lower ho0 (below_size (qbb0_))); have n1_ := Aside0.mk (Kd.R_lower ho1 (below_size (qbb0_))); have n2_ := Aside0.mk (blk_below (g := gb101) (o := .cells #[.slice A0_0 l0_0.length c0_0, .int .i64 a0_1] 24 (0, 0)) (qbb1_) hb); have n3_ := Aside0.mk (below_step (qbb0_) hb); clear BK101; clear HB; have HO106 := n0_; have HO109 := n1_; have BK101 := n2_; have HB := n3_; clear n0_ n1_ n2_ n3_; (try clear hb); (try clear ho0); (try clear ho1)))
      go_loopg [6] k2 (fun kq v6 w' => ∃ (x6_3 : Int), v6 = .int .i64 x6_3 ∧ Aside0 (grommetref12_Right.l1 kq t104 t107 x6_3 l0_0 a0_1 = some r) ∧ Aside0 (kq ≤ k2) ∧ Aside0 (Kd.R (Kd.int .i64) 3 w' w.heap.size (fun _ => True) v105 t104) ∧ Aside0 (Kd.R Kd.bool 4 w' w.heap.size (fun _ => True) v108 t107) ∧ Aside0 (w'.heap[gb101]? = some (.cells #[(.slice A0_0 l0_0.length c0_0), .int .i64 a0_1] 24 (0, 0))) ∧ Aside0 (Below w.heap.size w w'))
      case atStart => exact ⟨(0), (qbb5_), H', ⟨Nat.le_refl _⟩, ⟨by (with_reducible repeat (first | apply Kd.R_alloc | apply Kd.R_drewN | apply Kd.R_drew)); exact HO106.out⟩, ⟨by (with_reducible repeat (first | apply Kd.R_alloc | apply Kd.R_drewN | apply Kd.R_drew)); exact HO109.out⟩, ⟨qbb1_⟩, ⟨qbb0_⟩⟩
      case round =>
       clear H'
       try clear c1
       try clear p1
       try clear q1
       try clear hx1
       try clear p2
       try clear c4
       try clear c4b0
       try clear c4b1
       try clear c5
       try clear c6
       try clear c6b0
       try clear c6b1
       try clear p6
       try clear c7
       try clear c8
       try clear c8b0
       try clear c10
       try clear p10
       try clear q10
       try clear hx10
       try clear c11
       try clear c12
       try clear c12b0
       try clear c13
       try clear c13b0
       try clear c15
       try clear hcz10_0
       try clear hcz10_1
       try clear hcz16_0
       try clear hcz16_1
       try clear hcz19_0
       try clear hcz19_1
       try clear hcz23_0
       try clear hcz23_1
       try clear hcz5_0
       try clear hcz5_1
       try clear hcz7_0
       try clear hcz7_1
       try clear hcz9_0
       try clear hcz9_1
       try clear hfz10_0
       try clear hfz10_1
       try clear hfz16_0
       try clear hfz16_1
       try clear hfz19_0
       try clear hfz19_1
       try clear hfz23_0
       try clear hfz23_1
       try clear hfz5_0
       try clear hfz5_1
       try clear hfz7_0
       try clear hfz7_1
       try clear hfz9_0
       try clear hfz9_1
       try clear hx102_0
       try clear hx102_1
       try clear hx102_2
       try clear p102
       try clear p2
       try clear q102
       obtain ⟨x6_3, rfl, HA, HK3, HO_4, HO_5, BK101, HB⟩ := hrel
       cases gk with
       | zero => exact absurd HA.out (by simp [grommetref12_Right.l1])
       | succ k3 =>
        have H := HA.out
        clear HA
        simp only [grommetref12_Right.l1] at H
        by_cases c25 : x6_3 < (l0_0.length : Int)
        rotate_left
        ·
         rw [if_neg c25] at H
         have c25b0 : decide (x6_3 < (l0_0.length : Int)) = false := decide_eq_false c25
         clear c25
         obtain rfl := Option.some.inj H
         have hcz44_0 : wr.cell? ⟨gb101, 0, none⟩ = some (.slice A0_0 l0_0.length c0_0) := (blk_cell BK101.out 0).trans rfl
         have hcz44_1 : wr.cell? ⟨gb101, 1, none⟩ = some (.int .i64 a0_1) := (blk_cell BK101.out 1).trans rfl
         have hfz44_0 := blk_frozen BK101.out 0
         have hfz44_1 := blk_frozen BK101.out 1
         go_wp2
         go_ret
         exact ⟨qbb4_, qbb0_⟩
        rw [if_pos c25] at H
        have c25b0 : decide (x6_3 < (l0_0.length : Int)) = true := decide_eq_true c25
        clear c25
        by_cases c26 : 0 ≤ x6_3
        rotate_left
        ·
         rw [if_neg c26] at H
         exact absurd H (by simp)
        rw [if_pos c26] at H
        have c26b0 : decide (0 ≤ x6_3) = true := decide_eq_true c26
        clear c26
        by_cases c27 : x6_3 < (t107.length : Int)
        rotate_left
        ·
         rw [if_neg c27] at H
         exact absurd H (by simp)
        rw [if_pos c27] at H
        have c27b0 : decide (x6_3 < (t107.length : Int)) = true := decide_eq_true c27
        clear c27
        obtain ⟨bq28, hbq28⟩ : ∃ b_ : Bool, b_ = (rdOf false t107 x6_3) := ⟨_, rfl⟩
        replace H : (if bq28 = true then (if x6_3 < (t104.length : Int) then (if (rd t104 x6_3) > 1 then (some false) else (if x6_3 = a0_1 then (some false) else (grommetref12_Right.l1 k3 t104 t107 (wrap64 (x6_3 + 1)) l0_0 a0_1))) else (none)) else (grommetref12_Right.l1 k3 t104 t107 (wrap64 (x6_3 + 1)) l0_0 a0_1)) = some r := by rw [← hbq28] at H; exact H
        have Nbq28 := Aside0.mk hbq28
        clear hbq28
        by_cases c29 : bq28 = true
        rotate_left
        ·
         replace c29 := Bool.eq_false_iff.mpr c29
         subst c29
         have H1 : (grommetref12_Right.l1 k3 t104 t107 (wrap64 (x6_3 + 1)) l0_0 a0_1) = some r := by rw [if_neg (show ¬ (false = true) by decide)] at H; exact H
         clear H
         have H := H1
         clear H1
         have H' := Aside0.mk H
         clear H
         have hcz42_0 : wr.cell? ⟨gb101, 0, none⟩ = some (.slice A0_0 l0_0.length c0_0) := (blk_cell BK101.out 0).trans rfl
         have hcz42_1 : wr.cell? ⟨gb101, 1, none⟩ = some (.int .i64 a0_1) := (blk_cell BK101.out 1).trans rfl
         have hfz42_0 := blk_frozen BK101.out 0
         have hfz42_1 := blk_frozen BK101.out 1
         obtain ⟨Ao43, co43, eo43⟩ := Kd.R_slice HO_5.out
         subst eo43
         have p110 : 0 ≤ (x6_3 : Int) := of_decide_eq_true (qbb2_)
         have q110 : x6_3 < (t107.length : Int) := of_decide_eq_true (qbb2_)
         obtain ⟨ad110, e110, hx110_0⟩ := Kd.at_bool (Kd.R_reads' HO_5.out).2.2 x6_3 p110 q110
         (try rw [← Nbq28.out] at hx110_0)
         (try rw [← Nbq28.out] at hw110_0)
         cases e110
         replace p110 := eq_true p110
         replace q110 := eq_true q110
         go_wp2
         go_roundg k3
         case measure => have := HJ1.out; have := HK2.out; have := HK3.out; omega
         case rel => exact ⟨(wrap64 (x6_3 + 1)), (qbb5_), (qbb6_), ⟨by have := HJ1.out; have := HK2.out; have := HK3.out; omega⟩, ⟨by (with_reducible repeat (first | apply Kd.R_alloc | apply Kd.R_drewN | apply Kd.R_drew)); exact HO_4.out⟩, ⟨by (with_reducible repeat (first | apply Kd.R_alloc | apply Kd.R_drewN | apply Kd.R_drew)); exact HO_5.out⟩, ⟨qbb1_⟩, ⟨qbb0_⟩⟩
        subst c29
        have H1 : (if x6_3 < (t104.length : Int) then (if (rd t104 x6_3) > 1 then (some false) else (if x6_3 = a0_1 then (some false) else (grommetref12_Right.l1 k3 t104 t107 (wrap64 (x6_3 + 1)) l0_0 a0_1))) else (none)) = some r := by rw [if_pos rfl] at H; exact H
        clear H
        have H := H1
        clear H1
        by_cases c30 : x6_3 < (t104.length : Int)
        rotate_left
        ·
         rw [if_neg c30] at H
         exact absurd H (by simp)
        rw [if_pos c30] at H
        have c30b0 : decide (x6_3 < (t104.length : Int)) = true := decide_eq_true c30
        clear c30
        by_cases c31 : (rd t104 x6_3) > 1
        ·
         rw [if_pos c31] at H
         have c31b0 : decide (1 < (rd t104 x6_3)) = true := decide_eq_true c31
         clear c31
         obtain rfl := Option.some.inj H
         have hcz32_0 : wr.cell? ⟨gb101, 0, none⟩ = some (.slice A0_0 l0_0.length c0_0) := (blk_cell BK101.out 0).trans rfl
         have hcz32_1 : wr.cell? ⟨gb101, 1, none⟩ = some (.int .i64 a0_1) := (blk_cell BK101.out 1).trans rfl
         have hfz32_0 := blk_frozen BK101.out 0
         have hfz32_1 := blk_frozen BK101.out 1
         obtain ⟨Ao33, co33, eo33⟩ := Kd.R_slice HO_5.out
         subst eo33
         have p110 : 0 ≤ (x6_3 : Int) := of_decide_eq_true (qbb2_)
         have q110 : x6_3 < (t107.length : Int) := of_decide_eq_true (qbb2_)
         obtain ⟨ad110, e110, hx110_0⟩ := Kd.at_bool (Kd.R_reads' HO_5.out).2.2 x6_3 p110 q110
         (try rw [← Nbq28.out] at hx110_0)
         (try rw [← Nbq28.out] at hw110_0)
         cases e110
         replace p110 := eq_true p110
         replace q110 := eq_true q110
         obtain ⟨Ao34, co34, eo34⟩ := Kd.R_slice HO_4.out
         subst eo34
         have p111 : 0 ≤ (x6_3 : Int) := of_decide_eq_true (qbb2_)
         have q111 : x6_3 < (t104.length : Int) := of_decide_eq_true (qbb2_)
         obtain ⟨ad111, e111, hx111_0⟩ := Kd.at_int (Kd.R_reads' HO_4.out).2.2 x6_3 p111 q111
         cases e111
         replace p111 := eq_true p111
         replace q111 := eq_true q111
         go_wp2
         go_ret
         exact ⟨qbb4_, qbb0_⟩
        rw [if_neg c31] at H
        have c31b0 : decide (1 < (rd t104 x6_3)) = false := decide_eq_false c31
        clear c31
        by_cases c35 : x6_3 = a0_1
        ·
         rw [if_pos c35] at H
         have c35b0 : (x6_3 == a0_1) = true := beq_iff_eq.mpr c35
         have c35b1 : (x6_3 != a0_1) = false := bne_eq_false_iff_eq.mpr c35
         clear c35
         obtain rfl := Option.some.inj H
         have hcz36_0 : wr.cell? ⟨gb101, 0, none⟩ = some (.slice A0_0 l0_0.length c0_0) := (blk_cell BK101.out 0).trans rfl
         have hcz36_1 : wr.cell? ⟨gb101, 1, none⟩ = some (.int .i64 a0_1) := (blk_cell BK101.out 1).trans rfl
         have hfz36_0 := blk_frozen BK101.out 0
         have hfz36_1 := blk_frozen BK101.out 1
         obtain ⟨Ao37, co37, eo37⟩ := Kd.R_slice HO_5.out
         subst eo37
         have p110 : 0 ≤ (x6_3 : Int) := of_decide_eq_true (qbb2_)
         have q110 : x6_3 < (t107.length : Int) := of_decide_eq_true (qbb2_)
         obtain ⟨ad110, e110, hx110_0⟩ := Kd.at_bool (Kd.R_reads' HO_5.out).2.2 x6_3 p110 q110
         (try rw [← Nbq28.out] at hx110_0)
         (try rw [← Nbq28.out] at hw110_0)
         cases e110
         replace p110 := eq_true p110
         replace q110 := eq_true q110
         obtain ⟨Ao38, co38, eo38⟩ := Kd.R_slice HO_4.out
         subst eo38
         have p111 : 0 ≤ (x6_3 : Int) := of_decide_eq_true (qbb2_)
         have q111 : x6_3 < (t104.length : Int) := of_decide_eq_true (qbb2_)
         obtain ⟨ad111, e111, hx111_0⟩ := Kd.at_int (Kd.R_reads' HO_4.out).2.2 x6_3 p111 q111
         cases e111
         replace p111 := eq_true p111
         replace q111 := eq_true q111
         go_wp2
         go_ret
         exact ⟨qbb4_, qbb0_⟩
        rw [if_neg c35] at H
        have c35b0 : (x6_3 == a0_1) = false := beq_eq_false_iff_ne.mpr c35
        have c35b1 : (x6_3 != a0_1) = true := bne_iff_ne.mpr c35
        have H' := Aside0.mk H
        clear H
        have hcz39_0 : wr.cell? ⟨gb101, 0, none⟩ = some (.slice A0_0 l0_0.length c0_0) := (blk_cell BK101.out 0).trans rfl
        have hcz39_1 : wr.cell? ⟨gb101, 1, none⟩ = some (.int .i64 a0_1) := (blk_cell BK101.out 1).trans rfl
        have hfz39_0 := blk_frozen BK101.out 0
        have hfz39_1 := blk_frozen BK101.out 1
        obtain ⟨Ao40, co40, eo40⟩ := Kd.R_slice HO_5.out
        subst eo40
        have p110 : 0 ≤ (x6_3 : Int) := of_decide_eq_true (qbb2_)
        have q110 : x6_3 < (t107.length : Int) := of_decide_eq_true (qbb2_)
        obtain ⟨ad110, e110, hx110_0⟩ := Kd.at_bool (Kd.R_reads' HO_5.out).2.2 x6_3 p110 q110
        (try rw [← Nbq28.out] at hx110_0)
        (try rw [← Nbq28.out] at hw110_0)
        cases e110
        replace p110 := eq_true p110
        replace q110 := eq_true q110
        obtain ⟨Ao41, co41, eo41⟩ := Kd.R_slice HO_4.out
        subst eo41
        have p111 : 0 ≤ (x6_3 : Int) := of_decide_eq_true (qbb2_)
        have q111 : x6_3 < (t104.length : Int) := of_decide_eq_true (qbb2_)
        obtain ⟨ad111, e111, hx111_0⟩ := Kd.at_int (Kd.R_reads' HO_4.out).2.2 x6_3 p111 q111
        cases e111
        replace p111 := eq_true p111
        replace q111 := eq_true q111
        go_wp2
        go_roundg k3
        case measure => have := HJ1.out; have := HK2.out; have := HK3.out; omega
        case rel => exact ⟨(wrap64 (x6_3 + 1)), (qbb5_), (qbb6_), ⟨by have := HJ1.out; have := HK2.out; have := HK3.out; omega⟩, ⟨by (with_reducible repeat (first | apply Kd.R_alloc | apply Kd.R_drewN | apply Kd.R_drew)); exact HO_4.out⟩, ⟨by (with_reducible repeat (first | apply Kd.R_alloc | apply Kd.R_drewN | apply Kd.R_drew)); exact HO_5.out⟩, ⟨qbb1_⟩, ⟨qbb0_⟩⟩
     rw [if_pos c12] at H
     have c12b0 : decide (x3_2 < (l0_0.length : Int)) = true := decide_eq_true c12
     clear c12
     by_cases c13 : 0 ≤ x3_2
     rotate_left
     ·
      rw [if_neg c13] at H
      exact absurd H (by simp)
     rw [if_pos c13] at H
     have c13b0 : decide (0 ≤ x3_2) = true := decide_eq_true c13
     clear c13
     replace H := Option.bind_eq_some_iff.mp H
     obtain ⟨t103, A140, H⟩ := H
     replace H : (if t103 = true then (grommetref12_Right.l0 k2 (wrap64 (x3_2 + 1)) l0_0 a0_1) else (some false)) = some r := H
     have A14 := Aside0.mk A140
     clear A140
     by_cases c15 : t103 = true
     rotate_left
     ·
      replace c15 := Bool.eq_false_iff.mpr c15
      subst c15
      have H1 : (some false) = some r := by rw [if_neg (show ¬ (false = true) by decide)] at H; exact H
      clear H
      have H := H1
      clear H1
      obtain rfl := Option.some.inj H
      have hcz19_0 : wr.cell? ⟨gb101, 0, none⟩ = some (.slice A0_0 l0_0.length c0_0) := (blk_cell BK101.out 0).trans rfl
      have hcz19_1 : wr.cell? ⟨gb101, 1, none⟩ = some (.int .i64 a0_1) := (blk_cell BK101.out 1).trans rfl
      have hfz19_0 := blk_frozen BK101.out 0
      have hfz19_1 := blk_frozen BK101.out 1
      try go_wp2
      have n0_ := Aside0.mk (blk_drew BK101.out)
      have n1_ := Aside0.mk (below_drew1 HB.out)
      clear BK101
      clear HB
      have BK101 := n0_
      have HB := n1_
      clear n0_ n1_
      have p102 : 0 ≤ (x3_2 : Int) := of_decide_eq_true (qbb2_)
      have q102 : x3_2 < (l0_0.length : Int) := of_decide_eq_true (qbb2_)
      obtain ⟨ad102, A102_2, c102_2, e102, hx102_0, hx102_1, hx102_2, hl102_2, hi102_2⟩ := at_T45 HR0_0.out x3_2 p102 q102
      have KX102_2 := Aside0.mk hx102_2
      have hw102_2 := hx102_2
      have hw102_1 := hx102_1
      have hw102_0 := hx102_0
      cases e102
      replace hx102_0 := (HB.out.cell (World.block_lt_of_cell? w _ hx102_0)).trans hx102_0
      replace hx102_1 := (HB.out.cell (World.block_lt_of_cell? w _ hx102_1)).trans hx102_1
      replace hx102_2 := (HB.out.cell (World.block_lt_of_cell? w _ hx102_2)).trans hx102_2
      have HR102_2 := Aside0.mk hi102_2
      have HC102_2 := Aside0.mk hl102_2
      clear hi102_2 hl102_2
      replace p102 := eq_true p102
      replace q102 := eq_true q102
      refine start_ (n := 8) (S := fun w' => w'.cell? ⟨gb101, 0, none⟩ = some (.slice (some ad102) l0_0.length c0_0) ∧ w'.cell? ⟨gb101, 1, none⟩ = some (.int .i64 a0_1) ∧ w'.cell? (ad102.add ((x3_2).toNat * 3)) = some (.int .i64 ((rd_T45 l0_0 x3_2).f0)) ∧ w'.cell? ⟨(ad102.add ((x3_2).toNat * 3)).block, (ad102.add ((x3_2).toNat * 3)).off + 1, none⟩ = some (.string ((rd_T45 l0_0 x3_2).f1)) ∧ w'.cell? ⟨(ad102.add ((x3_2).toNat * 3)).block, (ad102.add ((x3_2).toNat * 3)).off + 2, none⟩ = some (.slice A102_2 ((rd_T45 l0_0 x3_2).f2).length c102_2)) (ds := []) #[false, false, false, false, false, false, false, false] (by kernel_rfl) rfl rfl ⟨(blk_cell BK101.out 0).trans rfl, (blk_cell BK101.out 1).trans rfl, ((HB.out.cell (World.block_lt_of_cell? w _ hw102_0)).trans hw102_0), ((HB.out.cell (World.block_lt_of_cell? w _ hw102_1)).trans hw102_1), ((HB.out.cell (World.block_lt_of_cell? w _ hw102_2)).trans hw102_2)⟩ (fun hHeld => ?_); refine with_tabW grommetref12_Right.tab6 grommetref12_Right.bits6 (fun HT_ HW_ => ?_)
      generalize wr.drew = w20 at BK101 HB HR102_2 hx102_0 hx102_1 hx102_2 hHeld ⊢
      refine pure_ (i := 1) (N := some 38) (v := ?_) (a' := ?_) #[false, true, false, false, false, false, false, false] rfl rfl (any_of HT_.out (by kernel_rfl)) (fun _ _ _ h => h) (Or.inl ⟨by rfl, ?_⟩) ?_ ?_
      rotate_left
      exact qbb9_
      rotate_left
      exact qbb10_
      refine pure_ (i := 3) (N := some 40) (v := ?_) (a' := ?_) #[false, true, false, true, false, false, false, false] rfl rfl (any_of HT_.out (by kernel_rfl)) (fun _ _ _ h => h) (Or.inl ⟨by rfl, ?_⟩) ?_ ?_
      rotate_left
      exact qbb9_
      rotate_left
      exact qbb10_
      refine take_ (i := 0) (N := some 37) (v := ?_) (a' := ?_) #[true, true, false, true, false, false, false, false] rfl rfl (take_ofW HT_.out HW_.out (by kernel_rfl)) (fun _ _ _ h => h) (Or.inl ⟨by rfl, ?_⟩) hHeld ?_ ?_
      rotate_left
      exact qbb11_
      rotate_left
      exact qbb10_
      refine take_ (i := 2) (N := some 39) (v := ?_) (a' := ?_) #[true, true, true, true, false, false, false, false] rfl rfl (take_ofW HT_.out HW_.out (by kernel_rfl)) (fun _ _ _ h => h) (Or.inl ⟨by rfl, ?_⟩) hHeld ?_ ?_
      rotate_left
      exact qbb11_
      rotate_left
      exact qbb10_
      refine pure_ (i := 4) (N := some 41) (v := ?_) (a' := ?_) #[true, true, true, true, true, false, false, false] rfl rfl (any_of HT_.out (by kernel_rfl)) (fun _ _ _ h => h) (Or.inl ⟨by rfl, ?_⟩) ?_ ?_
      rotate_left
      exact qbb9_
      rotate_left
      exact qbb10_
      refine take_ (i := 5) (N := some 42) (v := ?_) (a' := ?_) #[true, true, true, true, true, true, false, false] rfl rfl (take_ofW HT_.out HW_.out (by kernel_rfl)) (fun _ _ _ h => h) (Or.inl ⟨by rfl, ?_⟩) hHeld ?_ ?_
      rotate_left
      exact qbb11_
      rotate_left
      exact qbb10_
      refine one_ (i := 6) (N := some 43) #[true, true, true, true, true, true, true, false] rfl rfl (one_of HT_.out (by kernel_rfl)) (by decide) (fun K hK => ?_)
      refine goes_ Tryz.func79 (by kernel_rfl) rfl #[.agg #[.slice (some ad102) l0_0.length c0_0, .int .i64 a0_1], .agg #[.int .i64 ((rd_T45 l0_0 x3_2).f0), .string ((rd_T45 l0_0 x3_2).f1), .slice A102_2 ((rd_T45 l0_0 x3_2).f2).length c102_2]] (by rfl) rfl rfl (qbb7_) ?_
      with_reducible refine (grommetref12_node.calls _ _ l0_0 a0_1 ((rd_T45 l0_0 x3_2).f0) ((rd_T45 l0_0 x3_2).f1) _ _ ((rd_T45 l0_0 x3_2).f2) false _ ?side1 ?side2 ?side3 ?side4 (hG.below (qbb3_)) A14.out).mono ?_
      (case side1 => repeat (first | exact (Kd.C_below HR0_0.out HB.out) | (with_reducible refine Kd.C_alloc ?_ _) | (with_reducible refine Kd.C_drewN ?_ _) | (with_reducible refine Kd.C_drew ?_)))
      (case side2 => exact HC0_0.out)
      (case side3 => repeat (first | exact (Kd.C_below HR102_2.out HB.out) | (with_reducible refine Kd.C_alloc ?_ _) | (with_reducible refine Kd.C_drewN ?_ _) | (with_reducible refine Kd.C_drew ?_)))
      (case side4 => exact HC102_2.out)
      rintro e w21 ⟨rfl, hb⟩
      refine ⟨_, rfl, ?_⟩
      have n0_ := Aside0.mk (blk_below (g := gb101) (o := .cells #[.slice (some ad102) l0_0.length c0_0, .int .i64 a0_1] 24 (0, 0)) (qbb1_) hb)
      have n1_ := Aside0.mk (below_step (qbb0_) hb)
      clear BK101
      clear HB
      have BK101 := n0_
      have HB := n1_
      clear n0_ n1_
      (try clear hb)
      (try clear hb2)
      (try clear hk)
      (try clear hi)
      refine hK.out _ _ ⟨(blk_cell BK101.out 0).trans rfl, (blk_cell BK101.out 1).trans rfl, ((HB.out.cell (World.block_lt_of_cell? w _ hw102_0)).trans hw102_0), ((HB.out.cell (World.block_lt_of_cell? w _ hw102_1)).trans hw102_1), ((HB.out.cell (World.block_lt_of_cell? w _ hw102_2)).trans hw102_2)⟩ (fun hHeld => ?_)
      clear hK K
      refine norm_ (a' := ?_) ?_ ?_
      rotate_left
      ·
       show Act.put _ (some 43) _ = _
       simp only [Act.put, List.setIfInBounds_toArray, List.set_cons_zero, List.set_cons_succ, i64_w, i32_w]
       rfl
      refine pure_ (i := 7) (N := some 44) (v := ?_) (a' := ?_) #[true, true, true, true, true, true, true, true] rfl rfl (any_of HT_.out (by kernel_rfl)) (fun _ _ _ h => h) (Or.inl ⟨by rfl, ?_⟩) ?_ ?_
      rotate_left
      exact qbb9_
      rotate_left
      exact qbb10_
      refine done_ (done_of HT_.out (by kernel_rfl)) ?_
      try go_wp2
      go_ret
      exact ⟨qbb4_, qbb0_⟩
     subst c15
     have H1 : (grommetref12_Right.l0 k2 (wrap64 (x3_2 + 1)) l0_0 a0_1) = some r := by rw [if_pos rfl] at H; exact H
     clear H
     have H := H1
     clear H1
     have H' := Aside0.mk H
     clear H
     have hcz16_0 : wr.cell? ⟨gb101, 0, none⟩ = some (.slice A0_0 l0_0.length c0_0) := (blk_cell BK101.out 0).trans rfl
     have hcz16_1 : wr.cell? ⟨gb101, 1, none⟩ = some (.int .i64 a0_1) := (blk_cell BK101.out 1).trans rfl
     have hfz16_0 := blk_frozen BK101.out 0
     have hfz16_1 := blk_frozen BK101.out 1
     try go_wp2
     have n0_ := Aside0.mk (blk_drew BK101.out)
     have n1_ := Aside0.mk (below_drew1 HB.out)
     clear BK101
     clear HB
     have BK101 := n0_
     have HB := n1_
     clear n0_ n1_
     have p102 : 0 ≤ (x3_2 : Int) := of_decide_eq_true (qbb2_)
     have q102 : x3_2 < (l0_0.length : Int) := of_decide_eq_true (qbb2_)
     obtain ⟨ad102, A102_2, c102_2, e102, hx102_0, hx102_1, hx102_2, hl102_2, hi102_2⟩ := at_T45 HR0_0.out x3_2 p102 q102
     have KX102_2 := Aside0.mk hx102_2
     have hw102_2 := hx102_2
     have hw102_1 := hx102_1
     have hw102_0 := hx102_0
     cases e102
     replace hx102_0 := (HB.out.cell (World.block_lt_of_cell? w _ hx102_0)).trans hx102_0
     replace hx102_1 := (HB.out.cell (World.block_lt_of_cell? w _ hx102_1)).trans hx102_1
     replace hx102_2 := (HB.out.cell (World.block_lt_of_cell? w _ hx102_2)).trans hx102_2
     have HR102_2 := Aside0.mk hi102_2
     have HC102_2 := Aside0.mk hl102_2
     clear hi102_2 hl102_2
     replace p102 := eq_true p102
     replace q102 := eq_true q102
     refine start_ (n := 8) (S := fun w' => w'.cell? ⟨gb101, 0, none⟩ = some (.slice (some ad102) l0_0.length c0_0) ∧ w'.cell? ⟨gb101, 1, none⟩ = some (.int .i64 a0_1) ∧ w'.cell? (ad102.add ((x3_2).toNat * 3)) = some (.int .i64 ((rd_T45 l0_0 x3_2).f0)) ∧ w'.cell? ⟨(ad102.add ((x3_2).toNat * 3)).block, (ad102.add ((x3_2).toNat * 3)).off + 1, none⟩ = some (.string ((rd_T45 l0_0 x3_2).f1)) ∧ w'.cell? ⟨(ad102.add ((x3_2).toNat * 3)).block, (ad102.add ((x3_2).toNat * 3)).off + 2, none⟩ = some (.slice A102_2 ((rd_T45 l0_0 x3_2).f2).length c102_2)) (ds := []) #[false, false, false, false, false, false, false, false] (by kernel_rfl) rfl rfl ⟨(blk_cell BK101.out 0).trans rfl, (blk_cell BK101.out 1).trans rfl, ((HB.out.cell (World.block_lt_of_cell? w _ hw102_0)).trans hw102_0), ((HB.out.cell (World.block_lt_of_cell? w _ hw102_1)).trans hw102_1), ((HB.out.cell (World.block_lt_of_cell? w _ hw102_2)).trans hw102_2)⟩ (fun hHeld => ?_); refine with_tabW grommetref12_Right.tab6 grommetref12_Right.bits6 (fun HT_ HW_ => ?_)
     generalize wr.drew = w17 at BK101 HB HR102_2 hx102_0 hx102_1 hx102_2 hHeld ⊢
     refine pure_ (i := 1) (N := some 38) (v := ?_) (a' := ?_) #[false, true, false, false, false, false, false, false] rfl rfl (any_of HT_.out (by kernel_rfl)) (fun _ _ _ h => h) (Or.inl ⟨by rfl, ?_⟩) ?_ ?_
     rotate_left
     exact qbb9_
     rotate_left
     exact qbb10_
     refine pure_ (i := 3) (N := some 40) (v := ?_) (a' := ?_) #[false, true, false, true, false, false, false, false] rfl rfl (any_of HT_.out (by kernel_rfl)) (fun _ _ _ h => h) (Or.inl ⟨by rfl, ?_⟩) ?_ ?_
     rotate_left
     exact qbb9_
     rotate_left
     exact qbb10_
     refine take_ (i := 0) (N := some 37) (v := ?_) (a' := ?_) #[true, true, false, true, false, false, false, false] rfl rfl (take_ofW HT_.out HW_.out (by kernel_rfl)) (fun _ _ _ h => h) (Or.inl ⟨by rfl, ?_⟩) hHeld ?_ ?_
     rotate_left
     exact qbb11_
     rotate_left
     exact qbb10_
     refine take_ (i := 2) (N := some 39) (v := ?_) (a' := ?_) #[true, true, true, true, false, false, false, false] rfl rfl (take_ofW HT_.out HW_.out (by kernel_rfl)) (fun _ _ _ h => h) (Or.inl ⟨by rfl, ?_⟩) hHeld ?_ ?_
     rotate_left
     exact qbb11_
     rotate_left
     exact qbb10_
     refine pure_ (i := 4) (N := some 41) (v := ?_) (a' := ?_) #[true, true, true, true, true, false, false, false] rfl rfl (any_of HT_.out (by kernel_rfl)) (fun _ _ _ h => h) (Or.inl ⟨by rfl, ?_⟩) ?_ ?_
     rotate_left
     exact qbb9_
     rotate_left
     exact qbb10_
     refine take_ (i := 5) (N := some 42) (v := ?_) (a' := ?_) #[true, true, true, true, true, true, false, false] rfl rfl (take_ofW HT_.out HW_.out (by kernel_rfl)) (fun _ _ _ h => h) (Or.inl ⟨by rfl, ?_⟩) hHeld ?_ ?_
     rotate_left
     exact qbb11_
     rotate_left
     exact qbb10_
     refine one_ (i := 6) (N := some 43) #[true, true, true, true, true, true, true, false] rfl rfl (one_of HT_.out (by kernel_rfl)) (by decide) (fun K hK => ?_)
     refine goes_ Tryz.func79 (by kernel_rfl) rfl #[.agg #[.slice (some ad102) l0_0.length c0_0, .int .i64 a0_1], .agg #[.int .i64 ((rd_T45 l0_0 x3_2).f0), .string ((rd_T45 l0_0 x3_2).f1), .slice A102_2 ((rd_T45 l0_0 x3_2).f2).length c102_2]] (by rfl) rfl rfl (qbb7_) ?_
     with_reducible refine (grommetref12_node.calls _ _ l0_0 a0_1 ((rd_T45 l0_0 x3_2).f0) ((rd_T45 l0_0 x3_2).f1) _ _ ((rd_T45 l0_0 x3_2).f2) true _ ?side1 ?side2 ?side3 ?side4 (hG.below (qbb3_)) A14.out).mono ?_
     (case side1 => repeat (first | exact (Kd.C_below HR0_0.out HB.out) | (with_reducible refine Kd.C_alloc ?_ _) | (with_reducible refine Kd.C_drewN ?_ _) | (with_reducible refine Kd.C_drew ?_)))
     (case side2 => exact HC0_0.out)
     (case side3 => repeat (first | exact (Kd.C_below HR102_2.out HB.out) | (with_reducible refine Kd.C_alloc ?_ _) | (with_reducible refine Kd.C_drewN ?_ _) | (with_reducible refine Kd.C_drew ?_)))
     (case side4 => exact HC102_2.out)
     rintro e w18 ⟨rfl, hb⟩
     refine ⟨_, rfl, ?_⟩
     have n0_ := Aside0.mk (blk_below (g := gb101) (o := .cells #[.slice (some ad102) l0_0.length c0_0, .int .i64 a0_1] 24 (0, 0)) (qbb1_) hb)
     have n1_ := Aside0.mk (below_step (qbb0_) hb)
     clear BK101
     clear HB
     have BK101 := n0_
     have HB := n1_
     clear n0_ n1_
     (try clear hb)
     (try clear hb2)
     (try clear hk)
     (try clear hi)
     refine hK.out _ _ ⟨(blk_cell BK101.out 0).trans rfl, (blk_cell BK101.out 1).trans rfl, ((HB.out.cell (World.block_lt_of_cell? w _ hw102_0)).trans hw102_0), ((HB.out.cell (World.block_lt_of_cell? w _ hw102_1)).trans hw102_1), ((HB.out.cell (World.block_lt_of_cell? w _ hw102_2)).trans hw102_2)⟩ (fun hHeld => ?_)
     clear hK K
     refine norm_ (a' := ?_) ?_ ?_
     rotate_left
     ·
      show Act.put _ (some 43) _ = _
      simp only [Act.put, List.setIfInBounds_toArray, List.set_cons_zero, List.set_cons_succ, i64_w, i32_w]
      rfl
     refine pure_ (i := 7) (N := some 44) (v := ?_) (a' := ?_) #[true, true, true, true, true, true, true, true] rfl rfl (any_of HT_.out (by kernel_rfl)) (fun _ _ _ h => h) (Or.inl ⟨by rfl, ?_⟩) ?_ ?_
     rotate_left
     exact qbb9_
     rotate_left
     exact qbb10_
     refine done_ (done_of HT_.out (by kernel_rfl)) ?_
     try go_wp2
     go_roundg k2
     case measure => have := HJ1.out; have := HK2.out; omega
     case rel => exact ⟨(wrap64 (x3_2 + 1)), (qbb5_), (qbb6_), ⟨by have := HJ1.out; have := HK2.out; omega⟩, ⟨qbb1_⟩, ⟨qbb0_⟩⟩
end Go.Proofs.YtiooacmplmcphaaGreatDoor.PX
namespace Go.Proofs.YtiooacmplmcphaaGreatDoor.Graphs
open RowKit YtiooacmplmcphaaGreatDoor YtiooacmplmcphaaGreatDoor.PX YtiooacmplmcphaaGreatDoor.Plug YtiooacmplmcphaaGreatDoor.Mapk YtiooacmplmcphaaGreatDoor.Paths YtiooacmplmcphaaGreatDoorW.PrintWords YtiooacmplmcphaaGreatDoorW.PrintLast YtiooacmplmcphaaGreatDoorW.PrintMore
theorem w1 (a : Nat) (h : a ≤ 2199023255552) : wrap64 ((a : Int) + 1) = ((a + 1 : Nat) : Int) := by unfold wrap64; omega
theorem rdT_at (l : List Nd) (i : Nat) (h : i < l.length) : rd_T45 l (i : Int) = l[i] := by
 unfold rd_T45
 rw [Int.toNat_natCast, List.getD_eq_getElem?_getD, List.getElem?_eq_getElem h]; rfl
theorem rdOf_set (d : Bool) (u : List Bool) (k : Int) (j : Int) (v : Bool) (hk0 : 0 ≤ k) (hk1 : k < (u.length : Int)) (hj : 0 ≤ j) : rdOf d (u.set k.toNat v) j = if j = k then v else rdOf d u j := by
 unfold rdOf
 rw [List.getD_eq_getElem?_getD, List.getD_eq_getElem?_getD, List.getElem?_set]
 by_cases h : j = k
 rotate_left
 · rw [if_neg (by omega), if_neg h]
 subst h; rw [if_pos rfl, if_pos rfl, if_pos (by omega)]; rfl
structure Cnt (n : Nat) (u : List Int) (f : List Bool) (c : Int → Nat) (m : Int → Bool) (T : Nat) : Prop where
 lu : u.length = n
 lf : f.length = n
 u : ∀ j : Int, 0 ≤ j → j < (n : Int) → rd u j = (c j : Nat)
 f : ∀ j : Int, 0 ≤ j → j < (n : Int) → rdOf false f j = m j
 c : ∀ j : Int, c j ≤ T
theorem Cnt.kid {n : Nat} {u : List Int} {f : List Bool} {c : Int → Nat} {m : Int → Bool} {T : Nat} (h : Cnt n u f c m T) (hT : T < 1152921504606846976) (k : Int) (k0 : 0 ≤ k) (k1 : k < (n : Int)) :
  Cnt n (u.set k.toNat (wrap64 (rd u k + 1))) f (fun j => c j + if j = k then 1 else 0) m (T + 1) := by
 refine ⟨by rw [List.length_set]; exact h.lu, h.lf, fun j j0 j1 => ?_, h.f, fun j => ?_⟩
 ·
  rw [rd_set_ u k j _ k0 (by rw [h.lu]; exact k1) j0]
  have := h.u j j0 j1
  have := h.c j
  by_cases e : j = k
  rotate_left
  · rw [if_neg e, if_neg e, Nat.add_zero]; exact h.u j j0 j1
  subst e; rw [if_pos rfl, if_pos rfl, h.u j j0 j1]; unfold wrap64; omega
 ·
  have := h.c j
  split <;> omega
theorem Cnt.key {n : Nat} {u : List Int} {f : List Bool} {c : Int → Nat} {m : Int → Bool} {T : Nat} (h : Cnt n u f c m T) (k : Int) (k0 : 0 ≤ k) (k1 : k < (n : Int)) :
  Cnt n u (f.set k.toNat true) c (fun j => m j || decide (j = k)) T := by
 refine ⟨h.lu, by rw [List.length_set]; exact h.lf, h.u, fun j j0 j1 => ?_, h.c⟩
 rw [rdOf_set false f k j true k0 (by rw [h.lf]; exact k1) j0, h.f j j0 j1]
 by_cases e : j = k
 · rw [if_pos e, decide_eq_true e, Bool.or_true]
 rw [if_neg e, decide_eq_false e, Bool.or_false]
def markK (isMap : Bool) : Bool → List Int → Int → Bool
 | _, [], _ => false
 | b, k :: r, j => (isMap && b && decide (j = k)) || markK isMap (!b) r j
theorem markK_evens : ∀ (l : List Int) (j : Int), l.length % 2 = 0 → markK true true l j = (evens l).contains j
 | [], j, _ => rfl
 | [_], j, h => by simp at h
 | a :: b :: r, j, h => by
  have := markK_evens r j (by simp only [List.length_cons] at h; omega)
  simp [markK, evens, this]
theorem markK_no : ∀ (l : List Int) (b : Bool) (j : Int), markK false b l j = false
 | [], _, _ => rfl
 | a :: r, b, j => by simp [markK, markK_no r]
theorem uses_l1 (l : List Nd) (root : Int) (hl : l.length ≤ 4096) (kd : Int) (tt : ByteArray) (kids : List Int) (hk : kids.length ≤ 1099511627776) (hr : ∀ k ∈ kids, 0 ≤ k ∧ k < (l.length : Int)) (x6 : Int) :
  ∀ (d i K : Nat) (u : List Int) (f : List Bool) (c : Int → Nat) (m : Int → Bool) (T : Nat), kids.length = i + d → Cnt l.length u f c m T → T + d < 1152921504606846976 →
   ∃ u' f', grommetref12_uses.l1 (K + d + 1) u f x6 (i : Int) l root kd tt kids = grommetref12_uses.l0 K u' f' (wrap64 (x6 + 1)) l root ∧ Cnt l.length u' f' (fun j => c j + (kids.drop i).count j) (fun j => m j || markK (decide (kd = 6)) (decide (i % 2 = 0)) (kids.drop i) j) (T + d)
 | 0, i, K, u, f, c, m, T, hi, h, _ => by
  refine ⟨u, f, ?_, ?_⟩
  · rw [grommetref12_uses.l1, if_neg (by omega)]
  · rw [List.drop_of_length_le (by omega)]; simpa [markK] using h
 | d + 1, i, K, u, f, c, m, T, hi, h, hT => by
  have hlt : i < kids.length := by omega
  obtain ⟨k0, k1⟩ := hr kids[i] (List.getElem_mem hlt)
  have hdr : kids.drop i = kids[i] :: kids.drop (i + 1) := List.drop_eq_getElem_cons hlt
  have h1 := h.kid (by omega) kids[i] k0 k1
  have e1 : rd kids (i : Int) = kids[i] := rd_at kids i hlt
  have hm : Int.tmod (i : Int) 2 = ((i % 2 : Nat) : Int) := by rw [Int.tmod_eq_emod_of_nonneg (by omega)]; omega
  have fin : ∀ (f2 : List Bool) (m2 : Int → Bool), Cnt l.length (u.set kids[i].toNat (wrap64 (rd u kids[i] + 1))) f2 (fun j => c j + if j = kids[i] then 1 else 0) m2 (T + 1) → (∀ j, m2 j = (m j || (decide (kd = 6) && decide (i % 2 = 0) && decide (j = kids[i])))) →
    ∃ u' f', grommetref12_uses.l1 (K + d + 1) (u.set kids[i].toNat (wrap64 (rd u kids[i] + 1))) f2 x6 ((i + 1 : Nat) : Int) l root kd tt kids = grommetref12_uses.l0 K u' f' (wrap64 (x6 + 1)) l root ∧ Cnt l.length u' f' (fun j => c j + (kids.drop i).count j) (fun j => m j || markK (decide (kd = 6)) (decide (i % 2 = 0)) (kids.drop i) j) (T + (d + 1)) := fun f2 m2 h2 hm2 => by
   obtain ⟨u', f', e2, h3⟩ := uses_l1 l root hl kd tt kids hk hr x6 d (i + 1) K _ _ _ _ _ (by omega) h2 (by omega)
   refine ⟨u', f', e2, ?_⟩
   have eT : T + 1 + d = T + (d + 1) := by omega
   rw [eT] at h3
   have ec : (fun j => (c j + if j = kids[i] then 1 else 0) + (kids.drop (i + 1)).count j) = fun j => c j + (kids.drop i).count j := by
    funext j
    rw [hdr, List.count_cons]
    by_cases e : j = kids[i]
    · subst e; simp; omega
    have : (kids[i] == j) = false := beq_eq_false_iff_ne.2 (fun q => e q.symm)
    simp [e, this]
   have em : (fun j => m2 j || markK (decide (kd = 6)) (decide ((i + 1) % 2 = 0)) (kids.drop (i + 1)) j) = fun j => m j || markK (decide (kd = 6)) (decide (i % 2 = 0)) (kids.drop i) j := by
    funext j
    have : decide ((i + 1) % 2 = 0) = !decide (i % 2 = 0) := by
     by_cases e : i % 2 = 0
     · rw [decide_eq_true e, decide_eq_false (by omega)]; rfl
     rw [decide_eq_false e, decide_eq_true (by omega)]; rfl
    rw [hm2, hdr, markK, this, Bool.or_assoc]
   rw [ec, em] at h3
   exact h3
  rw [show K + (d + 1) + 1 = (K + d + 1) + 1 by omega, grommetref12_uses.l1, if_pos (by omega), if_pos (by omega), e1, if_pos k0, if_pos (by rw [h.lu]; exact k1), Option.bind_some, w1 i (by omega)]
  by_cases h6 : kd = 6
  rotate_left
  ·
   rw [if_neg h6]
   exact fin _ _ h1 (fun j => by rw [decide_eq_false h6]; simp)
  rw [if_pos h6]
  by_cases he : i % 2 = 0
  rotate_left
  ·
   rw [if_neg (by rw [hm]; omega)]
   exact fin _ _ h1 (fun j => by rw [decide_eq_false he]; simp)
  rw [if_pos (by rw [hm, he]; rfl), if_pos (by rw [h.lf]; exact k1)]
  refine fin _ _ (h1.key kids[i] k0 k1) (fun j => by rw [decide_eq_true h6, decide_eq_true he]; simp)
theorem allL_cons (n : Nd) (r : List Nd) : allL (n :: r) = n.f2.length + allL r := by simp [allL]
theorem cntL_cons (n : Nd) (r : List Nd) (j : Int) : cntL (n :: r) j = n.f2.count j + cntL r j := by simp [cntL]
def keyL (r : List Nd) (j : Int) : Bool := r.any fun n => (keysB n.f0 n.f2).contains j
theorem uses_l0 (l : List Nd) (root : Int) (hl : l.length ≤ 4096) (hz : ∀ n ∈ l, n.f2.length ≤ 1099511627776) (hn : ∀ n ∈ l, NodeG l n) :
  ∀ (d i K : Nat) (u : List Int) (f : List Bool) (c : Int → Nat) (m : Int → Bool) (T : Nat), l.length = i + d → Cnt l.length u f c m T → T + allL (l.drop i) < 1152921504606846976 → allL (l.drop i) + 2 * d + 1 ≤ K →
   ∃ u' f', grommetref12_uses.l0 K u f (i : Int) l root = some (u', f') ∧ Cnt l.length u' f' (fun j => c j + cntL (l.drop i) j) (fun j => m j || keyL (l.drop i) j) (T + allL (l.drop i))
 | 0, i, K, u, f, c, m, T, hi, h, _, hK => by
  obtain ⟨K, rfl⟩ : ∃ k, K = k + 1 := ⟨K - 1, by omega⟩
  refine ⟨u, f, ?_, ?_⟩
  · rw [grommetref12_uses.l0, if_neg (by omega)]
  · rw [List.drop_of_length_le (by omega)]; simpa [cntL, keyL, allL] using h
 | d + 1, i, K, u, f, c, m, T, hi, h, hT, hK => by
  have hlt : i < l.length := by omega
  have hdr : l.drop i = l[i] :: l.drop (i + 1) := List.drop_eq_getElem_cons hlt
  have hal : allL (l.drop i) = l[i].f2.length + allL (l.drop (i + 1)) := by rw [hdr, allL_cons]
  obtain ⟨K, rfl⟩ : ∃ k, K = (k + l[i].f2.length + 1) + 1 := ⟨K - l[i].f2.length - 2, by omega⟩
  rw [grommetref12_uses.l0, if_pos (by omega), if_pos (by omega), rdT_at l i hlt]
  have hN := hn l[i] (List.getElem_mem hlt)
  obtain ⟨u1, f1, e1, h1⟩ := uses_l1 l root hl l[i].f0 l[i].f1 l[i].f2 (hz _ (List.getElem_mem hlt)) hN.range (i : Int) l[i].f2.length 0 K u f c m T (by omega) h (by omega)
  rw [show ((0 : Nat) : Int) = 0 from rfl] at e1
  rw [e1, w1 i (by omega)]
  obtain ⟨u2, f2, e2, h2⟩ := uses_l0 l root hl hz hn d (i + 1) K u1 f1 _ _ _ (by omega) h1 (by omega) (by omega)
  refine ⟨u2, f2, e2, ?_⟩
  have eT : T + l[i].f2.length + allL (l.drop (i + 1)) = T + allL (l.drop i) := by omega
  rw [eT] at h2
  have ec : (fun j => (c j + (l[i].f2.drop 0).count j) + cntL (l.drop (i + 1)) j) = fun j => c j + cntL (l.drop i) j := by
   funext j; rw [hdr, cntL_cons, List.drop_zero]; omega
  have em : (fun j => (m j || markK (decide (l[i].f0 = 6)) (decide (0 % 2 = 0)) (l[i].f2.drop 0) j) || keyL (l.drop (i + 1)) j) = fun j => m j || keyL (l.drop i) j := by
   funext j
   rw [hdr]
   have : markK (decide (l[i].f0 = 6)) (decide (0 % 2 = 0)) (l[i].f2.drop 0) j = (keysB l[i].f0 l[i].f2).contains j := by
    unfold keysB
    by_cases e : l[i].f0 = 6
    rotate_left
    · rw [if_neg e, decide_eq_false e, markK_no]; rfl
    rw [if_pos e, decide_eq_true e]; exact markK_evens _ j (hN.even e)
   rw [this, Bool.or_assoc]; rfl
  rw [ec, em] at h2
  exact h2
theorem uses_of (l : List Nd) (root : Int) (hl : l.length ≤ 4096) (hz : ∀ n ∈ l, n.f2.length ≤ 1099511627776) (hn : ∀ n ∈ l, NodeG l n) (K : Nat) (hK : allL l + 2 * l.length + 1 ≤ K) :
  ∃ u f, grommetref12_uses.f K l root = some (u, f) ∧ Cnt l.length u f (cntL l) (keyL l) (allL l) := by
 have hal : allL l ≤ 4096 * 1099511627776 := Nat.le_trans (all_le l _ hz) (Nat.mul_le_mul_right _ (by omega))
 have h0 : Cnt l.length (List.replicate l.length 0) (List.replicate l.length false) (fun _ => 0) (fun _ => false) 0 := by
  refine ⟨List.length_replicate, List.length_replicate, fun j _ _ => ?_, fun j _ _ => ?_, fun _ => Nat.le_refl _⟩
  · unfold rd; simp [List.getD_eq_getElem?_getD, List.getElem?_replicate]; split <;> simp
  · unfold rdOf; simp [List.getD_eq_getElem?_getD, List.getElem?_replicate]; split <;> simp
 obtain ⟨u, f, e, h⟩ := uses_l0 l root hl hz hn l.length 0 K _ _ _ _ _ (by omega) h0 (by simp; omega) (by simpa using hK)
 refine ⟨u, f, ?_, by simpa using h⟩
 unfold grommetref12_uses.f
 rw [if_pos (by omega), if_pos (by omega), if_pos (by omega), Int.toNat_natCast]
 exact e
def badJ (l : List Nd) (root : Int) (j : Nat) : Bool := keyL l j && (decide (1 < cntL l j) || decide ((j : Int) = root))
theorem right_l1 (l : List Nd) (root : Int) (hl : l.length ≤ 4096) (u : List Int) (f : List Bool) (T : Nat) (h : Cnt l.length u f (cntL l) (keyL l) T) : ∀ (d i K : Nat), l.length = i + d → d + 1 ≤ K →
  grommetref12_Right.l1 K u f (i : Int) l root = some ((List.range' i d).all fun j => !badJ l root j)
 | 0, i, K, hi, hK => by
  obtain ⟨K, rfl⟩ : ∃ k, K = k + 1 := ⟨K - 1, by omega⟩
  rw [grommetref12_Right.l1, if_neg (by omega)]; rfl
 | d + 1, i, K, hi, hK => by
  obtain ⟨K, rfl⟩ : ∃ k, K = k + 1 := ⟨K - 1, by omega⟩
  have hlu := h.lu
  have hlf := h.lf
  have ih := right_l1 l root hl u f T h d (i + 1) K (by omega) (by omega)
  rw [List.range'_succ, List.all_cons]
  rw [grommetref12_Right.l1, if_pos (by omega), if_pos (by omega), if_pos (by rw [hlf]; omega), h.f i (by omega) (by omega), h.u i (by omega) (by omega), w1 i (by omega), ih]
  unfold badJ
  by_cases hk : keyL l (i : Int) = true
  rotate_left
  · rw [if_neg hk, Bool.eq_false_iff.2 hk]; rfl
  rw [if_pos hk, if_pos (by rw [hlu]; omega), hk]
  by_cases hc : 1 < cntL l (i : Int)
  · rw [if_pos (by omega), decide_eq_true hc]; rfl
  rw [if_neg (by omega), decide_eq_false hc]
  by_cases hr : (i : Int) = root
  · rw [if_pos hr, decide_eq_true hr]; rfl
  rw [if_neg hr, decide_eq_false hr]; rfl
theorem right_l0 (l : List Nd) (root : Int) (hl : l.length ≤ 4096) (hs : sizesB l = true) : ∀ (d i K : Nat), l.length = i + d →
  grommetref12_Right.l0 (K + d + 1) (i : Int) l root = if (l.drop i).all (isN l) = true then ((grommetref12_uses.f K l root).bind fun bt104 => (grommetref12_Right.l1 K bt104.1 bt104.2 0 l root)) else some false
 | 0, i, K, hi => by
  rw [grommetref12_Right.l0, if_neg (by omega), List.drop_of_length_le (by omega)]; rfl
 | d + 1, i, K, hi => by
  have hlt : i < l.length := by omega
  have hsz := sizes_iff hs l[i] (List.getElem_mem hlt)
  rw [show K + (d + 1) + 1 = (K + d + 1) + 1 by omega, grommetref12_Right.l0, if_pos (by omega), if_pos (by omega), rdT_at l i hlt, List.drop_eq_getElem_cons hlt, List.all_cons]
  have hnd : grommetref12_node.f l root l[i].f0 l[i].f1 l[i].f2 = some (isN l l[i]) := by unfold grommetref12_node.f; rw [if_pos hsz]
  rw [hnd, Option.bind_some, w1 i (by omega)]
  by_cases c : isN l l[i] = true
  rotate_left
  · rw [if_neg c, Bool.eq_false_iff.2 c]; rfl
  rw [if_pos c, right_l0 l root hl hs d (i + 1) K (by omega), c, Bool.true_and]
theorem ref_right (l : List Nd) (root : Int) (hs : sizesB l = true) (K : Nat) (hK : allL l + 4 * l.length + 10 ≤ K) : grommetref12_Right.f K l root = some (rightB l root) := by
 obtain ⟨K, rfl⟩ : ∃ k, K = k + 1 := ⟨K - 1, by omega⟩
 unfold grommetref12_Right.f
 have hj : grommetref12_Right.j0 (K + 1) true l root = some false := by rw [grommetref12_Right.j0, if_pos rfl]
 by_cases k0 : l.length = 0
 · rw [if_pos (by omega), hj]; unfold rightB; rw [if_pos k0]
 rw [if_neg (by omega)]
 by_cases k1 : 4096 < l.length
 · rw [if_pos (by omega), hj]; unfold rightB; rw [if_neg k0, if_pos k1]
 rw [if_neg (by omega)]
 by_cases k2 : root < 0
 · rw [if_pos k2, hj]; unfold rightB; rw [if_neg k0, if_neg k1, if_pos k2]
 rw [if_neg k2]
 by_cases k3 : (l.length : Int) ≤ root
 · rw [show decide (root ≥ (l.length : Int)) = true from decide_eq_true k3, hj]; unfold rightB; rw [if_neg k0, if_neg k1, if_neg k2, if_pos k3]
 rw [show decide (root ≥ (l.length : Int)) = false from decide_eq_false k3, grommetref12_Right.j0, if_neg Bool.false_ne_true]
 obtain ⟨K2, e2⟩ : ∃ k, K = k + l.length + 1 := ⟨K - l.length - 1, by omega⟩
 rw [e2, show (0 : Int) = ((0 : Nat) : Int) from rfl, right_l0 l root (by omega) hs l.length 0 K2 (by omega), List.drop_zero]
 by_cases ha : l.all (isN l) = true
 rotate_left
 ·
  rw [if_neg ha]
  refine congrArg some ?_
  cases hr : rightB l root with
  | false => rfl
  | true => exact absurd (List.all_eq_true.2 ((right_iff l root hs).1 hr).is) ha
 rw [if_pos ha]
 have hall : ∀ n ∈ l, isN l n = true := List.all_eq_true.1 ha
 obtain ⟨u, f, e, hc⟩ := uses_of l root (by omega) (fun n hn => (sizes_iff hs n hn).2) (fun n hn => isN_node (hall n hn)) K2 (by omega)
 have e3 := right_l1 l root (by omega) u f _ hc l.length 0 K2 (by omega) (by omega)
 rw [e, Option.bind_some, show (0 : Int) = ((0 : Nat) : Int) from rfl, e3]
 refine congrArg some (Bool.eq_iff_iff.2 ?_)
 rw [right_iff l root hs, List.all_eq_true]
 constructor
 ·
  intro h
  refine ⟨k0, by omega, by omega, by omega, hall, fun n hn k hk => ?_⟩
  have hr := isN_range (hall n hn) k (keys_sub _ _ k hk)
  have hb := h k.toNat (by rw [List.mem_range']; exact ⟨k.toNat, by omega, by omega⟩)
  have hkl : keyL l k = true := List.any_eq_true.2 ⟨n, hn, by rw [List.contains_iff_mem]; exact hk⟩
  unfold badJ at hb
  rw [show ((k.toNat : Nat) : Int) = k by omega, hkl, Bool.true_and, Bool.not_eq_true', Bool.or_eq_false_iff, decide_eq_false_iff_not, decide_eq_false_iff_not] at hb
  rw [if_neg hb.2]; omega
 ·
  intro h j hj
  rw [List.mem_range'] at hj
  obtain ⟨i, hi, rfl⟩ := hj
  unfold badJ
  cases hkl : keyL l ((0 + 1 * i : Nat) : Int) with
  | false => rfl
  | true =>
   obtain ⟨n, hn, hk⟩ := List.any_eq_true.1 hkl
   have := h.sole n hn _ (List.contains_iff_mem.1 hk)
   split at this <;> rename_i hr
   ·
    have h1 := sum_mem (f := fun n => (keysB n.f0 n.f2).count ((0 + 1 * i : Nat) : Int)) l n hn
    have h2 := List.count_pos_iff.2 (List.contains_iff_mem.1 hk)
    have h3 := cnt_split l ((0 + 1 * i : Nat) : Int) (fun n hn => (h.node hn).even)
    omega
   · rw [Bool.true_and, decide_eq_false (by omega), decide_eq_false hr]; rfl
theorem bytes_eq {a b : ByteArray} : a.toList = b.toList ↔ a = b := by
  refine ⟨fun h => ByteArray.ext (by rw [Lib.toList_data, Lib.toList_data] at h; have := congrArg List.toArray h; simpa using this), fun h => by rw [h]⟩
def findG (l : List Nd) (at_ : Int) (x : Int × ByteArray) : Int × Bool := if (rd_T45 l at_).f0 = 6 then (match firstF l (rd_T45 l at_).f2 x with | some p => (p.2, true) | none => (0, false)) else (0, false)
theorem findB_eq (l : List Nd) (root at_ : Int) (x : Int × ByteArray) (h : RightG l at_) (hr : rightB l root = true) : findB l root at_ x.1 x.2 = findG l at_ x := by
 have hm := rd_mem l at_ h.r0 h.r1
 have h1 := h.r1
 have h0 := h.r0
 unfold findB findG
 rw [if_neg (by rw [hr]; simp), if_neg (by omega), if_neg (by omega)]
 by_cases c : (rd_T45 l at_).f0 = 6
 rotate_left
 · rw [if_pos c, if_neg c]
 rw [if_neg (by omega), if_pos c, entF_first l _ _ _ (by have := (h.node hm).nodup; unfold keysB at this; rwa [if_pos c] at this)]
 split <;> rename_i p hp <;> split at hp
 · rename_i q hq; cases hp; rw [hq]
 · cases hp
 · cases hp
 · rename_i hq; rw [hq]
theorem prog_find (l : List Nd) (root at_ : Int) (x : Int × ByteArray) (hs : sizesB l = true) (h : RightG l at_) (hr : rightB l root = true) (hx : (-9223372036854775808 ≤ x.1 ∧ x.1 ≤ 9223372036854775807) ∧ x.2.size ≤ 1099511627776) : iso_Find.f l root at_ x.1 x.2 = some (findG l at_ x) := by
 unfold iso_Find.f
 rw [if_pos ⟨hs, hx.1, hx.2⟩, findB_eq l root at_ x h hr]
def getG (l : List Nd) (root : Int) (k : List St) : Int × Int := if (fmtB k).2 = 0 then (if rightB l root = true then walkG l k root else (0, 1)) else (0, 1)
theorem stepG_key (l : List Nd) (at_ : Int) (x : St) (h : x.f2 = false) : stepG l at_ x = if (rd_T45 l at_).f0 = 6 then (if (findG l at_ (4, x.f0)).2 = true then ((findG l at_ (4, x.f0)).1, 0) else (0, 6)) else (0, 17) := by
 unfold stepG findG
 rw [if_neg (by rw [h]; simp)]
 by_cases c : (rd_T45 l at_).f0 = 6
 rotate_left
 · rw [if_neg c, if_neg c]
 rw [if_pos c, if_pos c, if_pos c]
 cases firstF l (rd_T45 l at_).f2 (4, x.f0) <;> rfl
theorem stepG_idx (l : List Nd) (at_ : Int) (x : St) (h : x.f2 = true) : stepG l at_ x = if (rd_T45 l at_).f0 = 5 then (if x.f1 < ((rd_T45 l at_).f2.length : Int) then (rd (rd_T45 l at_).f2 x.f1, 0) else (0, 6)) else (0, 17) := by
 unfold stepG
 rw [if_pos h]
end Go.Proofs.YtiooacmplmcphaaGreatDoor.Graphs
namespace Go.Proofs.YtiooacmplmcphaaGreatDoor.Plug
open RowKit YtiooacmplmcphaaGreatDoor YtiooacmplmcphaaGreatDoor.PX YtiooacmplmcphaaGreatDoor.Utf YtiooacmplmcphaaGreatDoor.Mapk YtiooacmplmcphaaGreatDoor.Graphs YtiooacmplmcphaaGreatDoorW.PrintWords YtiooacmplmcphaaGreatDoorW.PrintLast YtiooacmplmcphaaGreatDoorW.PrintMore
def idxF (l : List Nd) : List Int → Nat → Int × ByteArray → Int
 | a :: _ :: r, i, x => if keyIs l a = x then (i : Int) else idxF l r (i + 2) x
 | _, _, _ => -1
theorem idxF_cases (l : List Nd) : ∀ (ks : List Int) (i : Nat) (x : Int × ByteArray), (firstF l ks x = none ∧ idxF l ks i x = -1) ∨ ∃ p, ∃ j : Nat, firstF l ks x = some p ∧ idxF l ks i x = ((i + j : Nat) : Int) ∧ j + 1 < ks.length ∧ ks[j + 1]? = some p.2
 | [], _, _ => .inl ⟨rfl, rfl⟩
 | [_], _, _ => .inl ⟨rfl, rfl⟩
 | a :: b :: r, i, x => by
  rw [firstF, idxF]
  by_cases c : keyIs l a = x
  ·
   rw [if_pos c, if_pos c]
   exact .inr ⟨(a, b), 0, rfl, rfl, by simp, by simp⟩
  rw [if_neg c, if_neg c]
  rcases idxF_cases l r (i + 2) x with h | ⟨p, j, h1, h2, h3, h4⟩
  · exact .inl h
  · exact .inr ⟨p, j + 2, h1, by rw [h2]; congr 1; omega, by simp only [List.length_cons]; omega, by simpa using h4⟩
set_option maxHeartbeats 8000000 in
set_option maxRecDepth 100000 in
theorem key_is (A0 : Option Addr) (c0 : Nat) (l : List Nd) (root kd : Int) (tt : ByteArray) (kids : List Int) (A2 : Option Addr) (c2 : Nat) (a2 : Int) (a3 : ByteArray) (w : World)
    (hr : Kd.C k45 w A0 l.length l) (h2 : Kd.C (Kd.int .i64) w A2 kids.length kids) (hin : ∀ k ∈ kids, 0 ≤ k ∧ k < (l.length : Int)) (hlen : kids.length ≤ 1099511627776) :
    Calls Tryz.prog 81 #[.agg #[.slice A0 l.length c0, .int .i64 root], .agg #[.int .i64 kd, .string tt, .slice A2 kids.length c2], .int .i64 a2, .string a3] w fun e w' => e = .returned (.int .i64 (idxF l kids 0 (a2, a3))) ∧ Below w.heap.size w w' := by
  have HR := Lib.hid hr
  have H2 := Lib.hid h2
  have HIN := Lib.hid hin
  clear hr h2 hin
  obtain ⟨E, hE⟩ : ∃ E, idxF l kids 0 (a2, a3) = E := ⟨_, rfl⟩
  rw [hE]
  have HE := Lib.hid (show idxF l (kids.drop 0) 0 (a2, a3) = E from hE)
  clear hE
  go_enter Tryz.func81, Tryz.ntmps81
  go_wp2_with (first | ((with_reducible refine gate_dst (N := 4) rfl ?_); refine box_event ?hg (N := 4) ?hd (cs := #[.slice A0 l.length c0, .int .i64 root]) (t := 24) ?hr ?_; (case hd => rfl); (case hg => rfl); (case hr => first | (go_simp; done) | (go_simp; rfl)); intro gb hg w1 hgb hb1; have HG1 := Lib.hid hgb; have HB1 := Lib.hid hb1; clear hgb hb1 hg) | ((with_reducible refine gate_dst (N := 5) rfl ?_); refine box_event ?hg (N := 5) ?hd (cs := #[.int .i64 kd, .string tt, .slice A2 kids.length c2]) (t := 45) ?hr ?_; (case hd => rfl); (case hg => rfl); (case hr => first | (go_simp; done) | (go_simp; rfl)); intro nb hn w2 hnb hb2; have HX := Lib.hid (Bx.mk ((hb2.block gb (blk_lt HG1.out)).trans HG1.out) hnb); have HB2 := Lib.hid (HB1.out.trans (hb2.mono HB1.out.size)); clear hnb hb2 hn HG1 HB1))
  go_loopw [9] (fun v wr => ∃ i : Nat, v = .int .i64 i ∧ i ≤ kids.length + 1 ∧ Hid (idxF l (kids.drop i) i (a2, a3) = E) ∧ Hid (Below w.heap.size w wr) ∧ Hid (Bx gb nb A0 l.length c0 root kd tt A2 kids.length c2 wr)) (fun v _ => kids.length + 1 - (intOf v).toNat)
  case atStart => exact ⟨0, rfl, by omega, HE, HB2, HX⟩
  case round =>
    clear HB2 HX HE
    obtain ⟨i, rfl, hi, hst, HBR, HXR⟩ := hrel
    obtain ⟨x0, x1, x2, x3, x4⟩ := HXR.out.cells
    by_cases hlt : i + 1 < kids.length
    · have hc : decide ((i : Int) + 1 < (kids.length : Int)) = true := decide_eq_true (by omega)
      have hdr : kids.drop i = kids[i] :: kids[i + 1] :: kids.drop (i + 2) := by rw [List.drop_eq_getElem_cons (by omega), List.drop_eq_getElem_cons (by omega)]
      obtain ⟨cd, eA, hx0⟩ := Kd.at_int (Kd.C_below H2.out HBR.out) (i : Int) (by omega) (by omega)
      subst eA
      rw [rd_at kids i (by omega), Int.toNat_natCast] at hx0
      obtain ⟨j0, j1⟩ := HIN.out kids[i] (List.getElem_mem _)
      have hst2 := hst.out
      rw [hdr, idxF] at hst2
      have HL := Lib.hid hlt
      clear hdr hst
      generalize kids[i] = k0 at *
      obtain ⟨bd, A3, c3, eB, y0, y1, y2, _, _⟩ := at_T45 (Kd.C_below HR.out HBR.out) k0 j0 j1
      subst eB
      have hki : keyIs l k0 = ((rd_T45 l k0).f0, (rd_T45 l k0).f1) := rfl
      rw [hki] at hst2
      clear hki
      generalize (rd_T45 l k0).f0 = a at *
      generalize (rd_T45 l k0).f1 = s at *
      generalize (rd_T45 l k0).f2 = f at *
      have HS := Lib.hid hst2
      have p1 : (0 ≤ (i : Int)) = True := eq_true (by omega)
      have p2 : ((i : Int) < (kids.length : Int)) = True := eq_true (by omega)
      have p3 : (0 ≤ k0) = True := eq_true j0
      have p4 : (k0 < (l.length : Int)) = True := eq_true j1
      clear hst2
      go_wp2_with (fail)
      have hal : Below wr.heap.size wr (wr.alloc (.cells #[.int .i64 0, .string ⟨#[]⟩, .slice none 0 0] 45 (0, 0))) := below_alloc (Below.refl _ _) _
      obtain ⟨u0, u1, u2, u3, u4⟩ := (HXR.out.below hal).cells
      have v0 := (hal.cell (World.block_lt_of_cell? wr _ y0)).trans y0
      have v1 := (hal.cell (World.block_lt_of_cell? wr _ y1)).trans y1
      have v2 := (hal.cell (World.block_lt_of_cell? wr _ y2)).trans y2
      have v3 := (hal.cell (World.block_lt_of_cell? wr _ hx0)).trans hx0
      clear hal
      go_region
      have hb8 : Below wr.heap.size wr (World.drew (wr.alloc (.cells #[.int .i64 a, .string s, .slice A3 f.length c3] 45 (0, 0)))) := below_drew1 (below_alloc (Below.refl _ _) _)
      have hk8 : (World.drew (wr.alloc (.cells #[.int .i64 a, .string s, .slice A3 f.length c3] 45 (0, 0)))).heap[wr.heap.size]? = some (.cells #[.int .i64 a, .string s, .slice A3 f.length c3] 45 (0, 0)) := blk_new wr _
      generalize World.drew _ = w8 at hb8 hk8 ⊢
      have HB8 := Lib.hid (HBR.out.trans (hb8.mono HBR.out.size))
      have HX8 := Lib.hid (HXR.out.below hb8)
      have h80 := (blk_cell hk8 0).trans rfl
      have h81 := (blk_cell hk8 1).trans rfl
      clear hb8 hk8 HBR HXR x0 x1 x2 x3 x4 y0 y1 y2 u0 u1 u2 u3 u4 v0 v1 v2 v3 hx0
      by_cases e1 : a = a2
      · have n1 : (a == a2) = true := beq_iff_eq.2 e1
        by_cases e2 : s = a3
        · have n2 : (s.toList == a3.toList) = true := beq_iff_eq.2 (by rw [e2])
          have HF : Hid (E = (i : Int)) := Lib.hid (by have h := HS.out; rw [if_pos (by rw [e1, e2])] at h; exact h.symm)
          clear e1 e2 HS
          go_wp2
          go_ret
          exact ⟨by rw [HF.out]; first | done | rfl, HB8.out⟩
        · have n2 : (s.toList == a3.toList) = false := beq_eq_false_iff_ne.2 (fun h => e2 (bytes_eq.1 h))
          have HST : Hid (idxF l (kids.drop (i + 2)) (i + 2) (a2, a3) = E) := Lib.hid (by have h := HS.out; rw [if_neg (fun q => e2 (Prod.mk.inj q).2)] at h; exact h)
          clear e1 e2 HS
          go_wp2
          go_roundw
          case rel => have := HL.out; exact ⟨i + 2, by go_num, by omega, HST, HB8, HX8⟩
          case measure => have := HL.out; simp [intOf]; omega
      · have n1 : (a == a2) = false := beq_eq_false_iff_ne.2 e1
        have HST : Hid (idxF l (kids.drop (i + 2)) (i + 2) (a2, a3) = E) := Lib.hid (by have h := HS.out; rw [if_neg (fun q => e1 (Prod.mk.inj q).1)] at h; exact h)
        clear e1 HS
        go_wp2
        go_roundw
        case rel => have := HL.out; exact ⟨i + 2, by go_num, by omega, HST, HB8, HX8⟩
        case measure => have := HL.out; simp [intOf]; omega
    · have hc : decide ((i : Int) + 1 < (kids.length : Int)) = false := decide_eq_false (by omega)
      have HF : Hid (E = -1) := Lib.hid (by
        have h := hst.out
        have h1 : (kids.drop i).length ≤ 1 := by rw [List.length_drop]; omega
        match hd : kids.drop i, h1 with
        | [], _ => rw [hd] at h; exact h.symm
        | [_], _ => rw [hd] at h; exact h.symm)
      clear hst
      go_wp2
      go_ret
      exact ⟨by rw [HF.out]; first | done | rfl, HBR.out⟩
def grommetref13_Find.f (l : List Nd) (root at_ kind : Int) (text : ByteArray) : Option (Int × Bool) := if sizesB l = true then some (findB l root at_ kind text) else none
set_option maxHeartbeats 8000000 in
set_option maxRecDepth 100000 in
theorem grommetref13_Find.calls (A0 : Option Addr) (c0 : Nat) (l : List S45) (root at_ kind : Int) (text : ByteArray) (r1 : Int) (r2 : Bool) (w : World) (hr0 : Kd.C k45 w A0 l.length l) (hc0 : l.length ≤ c0) (hG : Glob.G w) (h : grommetref13_Find.f l root at_ kind text = some (r1, r2)) :
    Calls Tryz.prog 51 #[.agg #[.slice A0 l.length c0, .int .i64 root], .int .i64 at_, .int .i64 kind, .string text] w fun e w' => e = .returned (.tuple #[.int .i64 r1, .bool r2]) ∧ Below w.heap.size w w' := by
  unfold grommetref13_Find.f at h
  by_cases hz1 : sizesB l = true
  · rw [if_pos hz1] at h
    have hR := Option.some.inj h
    have HR := Lib.hid hr0
    obtain ⟨rt, hrt⟩ : ∃ b, rightB l root = b := ⟨_, rfl⟩
    obtain ⟨K, hK⟩ : ∃ K, allL l + 4 * l.length + 10 ≤ K := ⟨_, Nat.le_refl _⟩
    have HRT := Lib.hid (show grommetref12_Right.f K l root = some rt by rw [ref_right l root hz1 K hK, hrt])
    clear hK
    have HZ := Lib.hid (show ∀ m ∈ l, m.f1.size ≤ 1099511627775 ∧ m.f2.length ≤ 1099511627776 from fun m hm => by
      have := List.all_eq_true.1 hz1 m hm
      simp at this
      exact this)
    clear h hr0 hz1
    cases rt with
    | false =>
      have HF : Hid (r1 = 0 ∧ r2 = false) := Lib.hid (by unfold findB at hR; rw [if_pos hrt] at hR; exact ⟨(Prod.mk.inj hR).1.symm, (Prod.mk.inj hR).2.symm⟩)
      clear hR hrt
      go_enter Tryz.func51, Tryz.ntmps51
      go_wp2_with (first | ((with_reducible refine gate_dst (N := 4) rfl ?_); refine box_event ?hg (N := 4) ?hd (cs := #[.slice A0 l.length c0, .int .i64 root]) (t := 24) ?hr ?_; (case hd => rfl); (case hg => rfl); (case hr => first | (go_simp; done) | (go_simp; rfl)); intro gb hg w1 hgb hb1; have HG1 := Lib.hid hgb; have HB1 := Lib.hid hb1; clear hgb hb1 hg; have x0 := (blk_cell HG1.out 0).trans rfl; have x1 := (blk_cell HG1.out 1).trans rfl) | (go_at_call 50; refine (grommetref12_Right.calls K _ _ _ _ _ _ (Kd.C_below HR.out HB1.out) hc0 (hG.below HB1.out) HRT.out).mono ?_; rintro e w2 ⟨rfl, hb2⟩; have HG2 := Lib.hid ((hb2.block _ (blk_lt HG1.out)).trans HG1.out); have HB2 := Lib.hid (HB1.out.trans (hb2.mono HB1.out.size)); clear hb2 HG1 HB1 x0 x1; have x0 := (blk_cell HG2.out 0).trans rfl; have x1 := (blk_cell HG2.out 1).trans rfl))
      go_ret2
      exact ⟨by rw [HF.out.1, HF.out.2]; first | done | rfl, HB2.out⟩
    | true =>
      have HN := Lib.hid (usesB_none l root hrt)
      have hfb : findB l root at_ kind text = (if at_ < 0 then (0, false) else if (l.length : Int) ≤ at_ then (0, false) else if (rd_T45 l at_).f0 ≠ 6 then (0, false)
          else match entF l (rd_T45 l at_).f2 (fun _ => none) (kind, text) with
          | some p => (p.2, true)
          | none => (0, false)) := by unfold findB; rw [hrt, if_neg (by simp)]; first | done | rfl
      rw [hfb] at hR
      clear hfb hrt
      by_cases k1 : at_ < 0
      · have HF : Hid (r1 = 0 ∧ r2 = false) := Lib.hid (by rw [if_pos k1] at hR; exact ⟨(Prod.mk.inj hR).1.symm, (Prod.mk.inj hR).2.symm⟩)
        have q1 : decide (at_ < 0) = true := decide_eq_true k1
        clear hR
        go_enter Tryz.func51, Tryz.ntmps51
        go_wp2_with (first | ((with_reducible refine gate_dst (N := 4) rfl ?_); refine box_event ?hg (N := 4) ?hd (cs := #[.slice A0 l.length c0, .int .i64 root]) (t := 24) ?hr ?_; (case hd => rfl); (case hg => rfl); (case hr => first | (go_simp; done) | (go_simp; rfl)); intro gb hg w1 hgb hb1; have HG1 := Lib.hid hgb; have HB1 := Lib.hid hb1; clear hgb hb1 hg; have x0 := (blk_cell HG1.out 0).trans rfl; have x1 := (blk_cell HG1.out 1).trans rfl) | (go_at_call 50; refine (grommetref12_Right.calls K _ _ _ _ _ _ (Kd.C_below HR.out HB1.out) hc0 (hG.below HB1.out) HRT.out).mono ?_; rintro e w2 ⟨rfl, hb2⟩; have HG2 := Lib.hid ((hb2.block _ (blk_lt HG1.out)).trans HG1.out); have HB2 := Lib.hid (HB1.out.trans (hb2.mono HB1.out.size)); clear hb2 HG1 HB1 x0 x1; have x0 := (blk_cell HG2.out 0).trans rfl; have x1 := (blk_cell HG2.out 1).trans rfl))
        go_ret2
        exact ⟨by rw [HF.out.1, HF.out.2]; first | done | rfl, HB2.out⟩
      · have q1 : decide (at_ < 0) = false := decide_eq_false k1
        rw [if_neg k1] at hR
        by_cases k2 : (l.length : Int) ≤ at_
        · have HF : Hid (r1 = 0 ∧ r2 = false) := Lib.hid (by rw [if_pos k2] at hR; exact ⟨(Prod.mk.inj hR).1.symm, (Prod.mk.inj hR).2.symm⟩)
          have q2 : decide ((l.length : Int) ≤ at_) = true := decide_eq_true k2
          clear hR
          go_enter Tryz.func51, Tryz.ntmps51
          go_wp2_with (first | ((with_reducible refine gate_dst (N := 4) rfl ?_); refine box_event ?hg (N := 4) ?hd (cs := #[.slice A0 l.length c0, .int .i64 root]) (t := 24) ?hr ?_; (case hd => rfl); (case hg => rfl); (case hr => first | (go_simp; done) | (go_simp; rfl)); intro gb hg w1 hgb hb1; have HG1 := Lib.hid hgb; have HB1 := Lib.hid hb1; clear hgb hb1 hg; have x0 := (blk_cell HG1.out 0).trans rfl; have x1 := (blk_cell HG1.out 1).trans rfl) | (go_at_call 50; refine (grommetref12_Right.calls K _ _ _ _ _ _ (Kd.C_below HR.out HB1.out) hc0 (hG.below HB1.out) HRT.out).mono ?_; rintro e w2 ⟨rfl, hb2⟩; have HG2 := Lib.hid ((hb2.block _ (blk_lt HG1.out)).trans HG1.out); have HB2 := Lib.hid (HB1.out.trans (hb2.mono HB1.out.size)); clear hb2 HG1 HB1 x0 x1; have x0 := (blk_cell HG2.out 0).trans rfl; have x1 := (blk_cell HG2.out 1).trans rfl))
          go_ret2
          exact ⟨by rw [HF.out.1, HF.out.2]; first | done | rfl, HB2.out⟩
        · have q2 : decide ((l.length : Int) ≤ at_) = false := decide_eq_false k2
          rw [if_neg k2] at hR
          have j0 : 0 ≤ at_ := by omega
          have j1 : at_ < (l.length : Int) := by omega
          have p1 := eq_true j0
          have p2 := eq_true j1
          have hnr := HN.out _ (rd_mem l at_ j0 j1)
          have hzz := HZ.out _ (rd_mem l at_ j0 j1)
          obtain ⟨bd, A2, c2, eA, y0, y1, y2, hc2, hC⟩ := at_T45 HR.out at_ j0 j1
          subst eA
          generalize rd_T45 l at_ = n at *
          obtain ⟨kd, tt, kids⟩ := n
          dsimp only at y0 y1 y2 hc2 hC hzz hR
          have HC := Lib.hid hC
          have HNR := Lib.hid hnr
          have HZZ := Lib.hid hzz
          clear k1 k2 hC hnr hzz
          by_cases k3 : kd ≠ 6
          · have HF : Hid (r1 = 0 ∧ r2 = false) := Lib.hid (by rw [if_pos k3] at hR; exact ⟨(Prod.mk.inj hR).1.symm, (Prod.mk.inj hR).2.symm⟩)
            have q3 : (kd != 6) = true := bne_iff_ne.2 k3
            have q4 : (kd == 6) = false := beq_eq_false_iff_ne.2 k3
            clear hR k3
            go_enter Tryz.func51, Tryz.ntmps51
            go_wp2_with (first | ((with_reducible refine gate_dst (N := 4) rfl ?_); refine box_event ?hg (N := 4) ?hd (cs := #[.slice (some bd) l.length c0, .int .i64 root]) (t := 24) ?hr ?_; (case hd => rfl); (case hg => rfl); (case hr => first | (go_simp; done) | (go_simp; rfl)); intro gb hg w1 hgb hb1; have HG1 := Lib.hid hgb; have HB1 := Lib.hid hb1; clear hgb hb1 hg; have x0 := (blk_cell HG1.out 0).trans rfl; have x1 := (blk_cell HG1.out 1).trans rfl) | (go_at_call 50; refine (grommetref12_Right.calls K _ _ _ _ _ _ (Kd.C_below HR.out HB1.out) hc0 (hG.below HB1.out) HRT.out).mono ?_; rintro e w2 ⟨rfl, hb2⟩; have HG2 := Lib.hid ((hb2.block _ (blk_lt HG1.out)).trans HG1.out); have HB2 := Lib.hid (HB1.out.trans (hb2.mono HB1.out.size)); clear hb2 HG1 HB1 x0 x1; have x0 := (blk_cell HG2.out 0).trans rfl; have x1 := (blk_cell HG2.out 1).trans rfl; replace y0 := (HB2.out.cell (World.block_lt_of_cell? w _ y0)).trans y0))
            go_ret2
            exact ⟨by rw [HF.out.1, HF.out.2]; first | done | rfl, HB2.out⟩
          · have q3 : (kd != 6) = false := by have := Decidable.not_not.1 k3; rw [this]; rfl
            have q4 : (kd == 6) = true := by have := Decidable.not_not.1 k3; rw [this]; rfl
            rw [if_neg k3] at hR
            have HV := Lib.hid hR
            clear hR k3
            go_enter Tryz.func51, Tryz.ntmps51
            go_wp2_with (first | ((with_reducible refine gate_dst (N := 4) rfl ?_); refine box_event ?hg (N := 4) ?hd (cs := #[.slice (some bd) l.length c0, .int .i64 root]) (t := 24) ?hr ?_; (case hd => rfl); (case hg => rfl); (case hr => first | (go_simp; done) | (go_simp; rfl)); intro gb hg w1 hgb hb1; have HG1 := Lib.hid hgb; have HB1 := Lib.hid hb1; clear hgb hb1 hg; have x0 := (blk_cell HG1.out 0).trans rfl; have x1 := (blk_cell HG1.out 1).trans rfl) | (go_at_call 50; refine (grommetref12_Right.calls K _ _ _ _ _ _ (Kd.C_below HR.out HB1.out) hc0 (hG.below HB1.out) HRT.out).mono ?_; rintro e w2 ⟨rfl, hb2⟩; have HG2 := Lib.hid ((hb2.block _ (blk_lt HG1.out)).trans HG1.out); have HB2 := Lib.hid (HB1.out.trans (hb2.mono HB1.out.size)); clear hb2 HG1 HB1 x0 x1; have x0 := (blk_cell HG2.out 0).trans rfl; have x1 := (blk_cell HG2.out 1).trans rfl; replace y0 := (HB2.out.cell (World.block_lt_of_cell? w _ y0)).trans y0))
            have hnd : ((evens kids).map (keyIs l)).Nodup := by
              have h := (isN_node HNR.out).nodup
              have e6 : kd = 6 := beq_iff_eq.1 q4
              unfold keysB at h
              dsimp only at h
              rwa [if_pos e6] at h
            have hen := entF_first l kids (fun _ => none) (kind, text) hnd
            clear hnd
            have ha1 := (HB2.out.cell (World.block_lt_of_cell? w _ y1)).trans y1
            have ha2 := (HB2.out.cell (World.block_lt_of_cell? w _ y2)).trans y2
            clear y1 y2
            rcases idxF_cases l kids 0 (kind, text) with ⟨e1, e2⟩ | ⟨p, j, e1, e2, hj, e3⟩
            · have HF : Hid (r1 = 0 ∧ r2 = false) := Lib.hid (by have h := HV.out; rw [hen, e1] at h; exact ⟨(Prod.mk.inj h).1.symm, (Prod.mk.inj h).2.symm⟩)
              have HI := Lib.hid e2
              clear e1 e2 hen HV
              go_region_held3 (fun W' => W'.cell? ⟨gb, 0, none⟩ = some (.slice (some bd) l.length c0) ∧ W'.cell? ⟨gb, 1, none⟩ = some (.int .i64 root) ∧ W'.cell? (bd.add (at_.toNat * 3)) = some (.int .i64 kd) ∧ W'.cell? ⟨(bd.add (at_.toNat * 3)).block, (bd.add (at_.toNat * 3)).off + 1, none⟩ = some (.string tt) ∧ W'.cell? ⟨(bd.add (at_.toNat * 3)).block, (bd.add (at_.toNat * 3)).off + 2, none⟩ = some (.slice A2 kids.length c2))
                (first | exact ⟨x0, x1, y0, ha1, ha2⟩ | exact ⟨f0, f1, f2, f3, f4⟩)
                (first | (go_at_call 81; refine (key_is _ c0 l root kd tt kids A2 c2 kind text _ (Kd.C_below HR.out (below_drew1 HB2.out)) (Kd.C_below HC.out (below_drew1 HB2.out)) (fun k hk => isN_range HNR.out k hk) HZZ.out.2).mono ?_; rw [HI.out]; rintro e w9 ⟨rfl, hb9⟩; have f0 := (hb9.cell (World.block_lt_of_cell? w2 _ x0)).trans x0; have f1 := (hb9.cell (World.block_lt_of_cell? w2 _ x1)).trans x1; have f2 := (hb9.cell (World.block_lt_of_cell? w2 _ y0)).trans y0; have f3 := (hb9.cell (World.block_lt_of_cell? w2 _ ha1)).trans ha1; have f4 := (hb9.cell (World.block_lt_of_cell? w2 _ ha2)).trans ha2; have HB9 := Lib.hid ((below_drew1 HB2.out).trans (hb9.mono HB2.out.size))))
              all_goals
                clear x0 x1 y0 ha1 ha2
                go_wp2
                go_ret2
                exact ⟨by rw [HF.out.1, HF.out.2]; first | done | rfl, HB9.out⟩
            · obtain ⟨pa, pb⟩ := p
              have HF : Hid (r1 = pb ∧ r2 = true) := Lib.hid (by have h := HV.out; rw [hen, e1] at h; exact ⟨(Prod.mk.inj h).1.symm, (Prod.mk.inj h).2.symm⟩)
              rw [Nat.zero_add] at e2
              have HI := Lib.hid e2
              obtain ⟨cd, eA2, hx⟩ := Kd.at_int HC.out ((j + 1 : Nat) : Int) (by omega) (by omega)
              subst eA2
              have hkj : rd kids ((j + 1 : Nat) : Int) = pb := by
                rw [rd_at kids (j + 1) hj]
                rw [List.getElem?_eq_getElem hj] at e3
                exact Option.some.inj e3
              rw [hkj, Int.toNat_natCast] at hx
              have hzk := HZZ.out.2
              have n1 : decide ((j : Int) < 0) = false := decide_eq_false (by omega)
              have p3 : (0 ≤ (j : Int) + 1) = True := eq_true (by omega)
              have p4 : ((j : Int) + 1 < (kids.length : Int)) = True := eq_true (by omega)
              have p5 : ((j : Int) + 1).toNat = j + 1 := by omega
              clear e1 e2 hen HV e3 hkj
              go_region_held3 (fun W' => W'.cell? ⟨gb, 0, none⟩ = some (.slice (some bd) l.length c0) ∧ W'.cell? ⟨gb, 1, none⟩ = some (.int .i64 root) ∧ W'.cell? (bd.add (at_.toNat * 3)) = some (.int .i64 kd) ∧ W'.cell? ⟨(bd.add (at_.toNat * 3)).block, (bd.add (at_.toNat * 3)).off + 1, none⟩ = some (.string tt) ∧ W'.cell? ⟨(bd.add (at_.toNat * 3)).block, (bd.add (at_.toNat * 3)).off + 2, none⟩ = some (.slice (some cd) kids.length c2))
                (first | exact ⟨x0, x1, y0, ha1, ha2⟩ | exact ⟨f0, f1, f2, f3, f4⟩)
                (first | (go_at_call 81; refine (key_is _ c0 l root kd tt kids (some cd) c2 kind text _ (Kd.C_below HR.out (below_drew1 HB2.out)) (Kd.C_below HC.out (below_drew1 HB2.out)) (fun k hk => isN_range HNR.out k hk) HZZ.out.2).mono ?_; rw [HI.out]; rintro e w9 ⟨rfl, hb9⟩; have f0 := (hb9.cell (World.block_lt_of_cell? w2 _ x0)).trans x0; have f1 := (hb9.cell (World.block_lt_of_cell? w2 _ x1)).trans x1; have f2 := (hb9.cell (World.block_lt_of_cell? w2 _ y0)).trans y0; have f3 := (hb9.cell (World.block_lt_of_cell? w2 _ ha1)).trans ha1; have f4 := (hb9.cell (World.block_lt_of_cell? w2 _ ha2)).trans ha2; have HB9 := Lib.hid ((below_drew1 HB2.out).trans (hb9.mono HB2.out.size))))
              all_goals
                clear x0 x1 y0 ha1 ha2
                replace hx := (HB9.out.cell (World.block_lt_of_cell? w _ hx)).trans hx
                have hx2 : w9.cell? ⟨cd.block, cd.off + (j + 1), none⟩ = some (.int .i64 pb) := hx
                go_wp2
                go_ret2
                exact ⟨by rw [HF.out.1, HF.out.2]; first | done | rfl, HB9.out⟩
  · rw [if_neg hz1] at h; cases h
end Go.Proofs.YtiooacmplmcphaaGreatDoor.Plug
namespace Go.Proofs.YtiooacmplmcphaaGreatDoor.Paths
open RowKit YtiooacmplmcphaaGreatDoor.PX YtiooacmplmcphaaGreatDoor.Plug YtiooacmplmcphaaGreatDoor.Utf YtiooacmplmcphaaGreatDoorW.PrintWords YtiooacmplmcphaaGreatDoorW.PrintLast
set_option maxRecDepth 100000 in
theorem alive16 : grommetlaw16_alive.f = some true := by kernel_rfl
abbrev Sr := S58
def conv (x : Sr) : St := ⟨x.f0, x.f1, x.f2⟩
theorem rd_ref (l : List Sr) (i : Nat) (h : i < l.length) : rd_T58 l (i : Int) = l[i] := by
  unfold rd_T58; rw [Int.toNat_natCast, List.getD_eq_getElem?_getD, List.getElem?_eq_getElem h]; rfl
theorem theirs_l0 (l : List Sr) (hl : l.length ≤ 1099511627775) : ∀ (d i K : Nat), l.length = i + d → d + 1 ≤ K →
  grommetlaw16_theirs.l0 K ((l.take i).map conv) l (l.length : Int) (i : Int) = some (l.map conv)
 | 0, i, K, hd, hK => by
  obtain ⟨K, rfl⟩ : ∃ m, K = m + 1 := ⟨K - 1, by omega⟩
  rw [grommetlaw16_theirs.l0, if_neg (by omega), List.take_of_length_le (by omega)]
 | d + 1, i, K, hd, hK => by
  obtain ⟨K, rfl⟩ : ∃ m, K = m + 1 := ⟨K - 1, by omega⟩
  have h1 : i < l.length := by omega
  have hw : wrap64 ((i : Int) + 1) = ((i + 1 : Nat) : Int) := by unfold wrap64; omega
  rw [grommetlaw16_theirs.l0, if_pos (by omega), if_pos (by omega), if_pos (by omega), if_pos (by rw [List.length_map, List.length_take]; omega), rd_ref l i h1, hw]
  have : (l.take i).map conv ++ [(⟨l[i].f0, l[i].f1, l[i].f2⟩ : St)] = (l.take (i + 1)).map conv := by
   rw [List.take_succ_eq_append_getElem h1, List.map_append]; rfl
  rw [this]
  exact theirs_l0 l hl d (i + 1) K (by omega) (by omega)
theorem theirs_of (l : List Sr) (hl : l.length ≤ 1099511627775) (K : Nat) (hK : l.length + 1 ≤ K) : grommetlaw16_theirs.f K l = some (l.map conv) := by
 unfold grommetlaw16_theirs.f
 exact theirs_l0 l hl l.length 0 K (by omega) hK
theorem long_l0 (x0 m : List Sr) (hm : m.length ≤ 1099511627775) : ∀ (d i K : Nat) (x3 : Int), m.length = i + d → d + 1 ≤ K → ∃ b, grommetlaw16_long.l0 K x0 x3 m (m.length : Int) (i : Int) = some b ∧ (b = false → x0.length ≤ 100)
 | 0, i, K, x3, hd, hK => by
  obtain ⟨K, rfl⟩ : ∃ m, K = m + 1 := ⟨K - 1, by omega⟩
  rw [grommetlaw16_long.l0, if_neg (by omega)]
  by_cases c : (x0.length : Int) > 100
  rotate_left
  · rw [if_neg c]; exact ⟨_, rfl, fun _ => by omega⟩
  rw [if_pos c]; exact ⟨true, rfl, fun e => by cases e⟩
 | d + 1, i, K, x3, hd, hK => by
  obtain ⟨K, rfl⟩ : ∃ m, K = m + 1 := ⟨K - 1, by omega⟩
  have hw : wrap64 ((i : Int) + 1) = ((i + 1 : Nat) : Int) := by unfold wrap64; omega
  rw [grommetlaw16_long.l0, if_pos (by omega), if_pos (by omega), if_pos (by omega), hw]
  exact long_l0 x0 m hm d (i + 1) K _ (by omega) (by omega)
theorem long_of (l : List Sr) (hl : l.length ≤ 1099511627775) (K : Nat) (hK : 102 ≤ K) : ∃ b, grommetlaw16_long.f K l = some b ∧ (b = false → l.length ≤ 100) := by
 unfold grommetlaw16_long.f
 have h0 : 0 ≤ mn (l.length : Int) 100 := by unfold mn; split <;> omega
 have h1 : mn (l.length : Int) 100 ≤ (l.length : Int) := by unfold mn; split <;> omega
 have h2 : mn (l.length : Int) 100 ≤ 100 := by unfold mn; split <;> omega
 rw [if_pos h0, if_pos h1, Option.bind_some]
 exact long_l0 l _ (by rw [List.length_take]; omega) (l.take (mn (l.length : Int) 100).toNat).length 0 K 0 (by omega) (by rw [List.length_take]; omega)
end Go.Proofs.YtiooacmplmcphaaGreatDoor.Paths
namespace Go.Proofs.YtiooacmplmcphaaGreatDoor.PX
open RowKit YtiooacmplmcphaaGreatDoorW.PrintWords YtiooacmplmcphaaGreatDoorW.PrintLast YtiooacmplmcphaaGreatDoorW.PrintMore YtiooacmplmcphaaGreatDoor
attribute [local go_sem] max2_int min2_int max_two min_two max_three min_three max_four min_four   -- for this text's walks alone
set_option linter.unusedVariables false
set_option linter.unusedSimpArgs false
def grommetref16_letter.f (a0 : Int) : Option (Bool) := if a0 ≥ 97 then (if a0 ≤ 122 then (some true) else (if a0 ≥ 65 then (if a0 ≤ 90 then (some true) else (if a0 ≥ 48 then (if a0 ≤ 57 then (some true) else (if a0 = 45 then (some true) else (some (a0 == 95)))) else (if a0 = 45 then (some true) else (some (a0 == 95))))) else (if a0 ≥ 48 then (if a0 ≤ 57 then (some true) else (if a0 = 45 then (some true) else (some (a0 == 95)))) else (if a0 = 45 then (some true) else (some (a0 == 95)))))) else (if a0 ≥ 65 then (if a0 ≤ 90 then (some true) else (if a0 ≥ 48 then (if a0 ≤ 57 then (some true) else (if a0 = 45 then (some true) else (some (a0 == 95)))) else (if a0 = 45 then (some true) else (some (a0 == 95))))) else (if a0 ≥ 48 then (if a0 ≤ 57 then (some true) else (if a0 = 45 then (some true) else (some (a0 == 95)))) else (if a0 = 45 then (some true) else (some (a0 == 95)))))
theorem qrb0_ {P : Prop} (h_ : P := by first | rfl | (simp; done) | (simp [*]; done) | (simp; generalize ByteArray.toList _ = l_; cases l_ <;> rfl)) : P := h_
theorem qrb1_ {P : Prop} (h_ : P := by repeat (first | exact Drawn0.refl _ | apply Drawn0.step)) : P := h_
set_option maxHeartbeats 8000000 in
set_option maxRecDepth 100000 in
theorem grommetref16_letter.calls (a0 : Int) (r : Bool) (w : World) (hG : Glob.G w) (h : grommetref16_letter.f a0 = some r) :
  Calls Tryz.prog 101 #[.int .u8 a0] w fun e w' => e = .returned (.bool r) ∧ Drawn0 w w' := by
 have H : (if a0 ≥ 97 then (if a0 ≤ 122 then (some true) else (if a0 ≥ 65 then (if a0 ≤ 90 then (some true) else (if a0 ≥ 48 then (if a0 ≤ 57 then (some true) else (if a0 = 45 then (some true) else (some (a0 == 95)))) else (if a0 = 45 then (some true) else (some (a0 == 95))))) else (if a0 ≥ 48 then (if a0 ≤ 57 then (some true) else (if a0 = 45 then (some true) else (some (a0 == 95)))) else (if a0 = 45 then (some true) else (some (a0 == 95)))))) else (if a0 ≥ 65 then (if a0 ≤ 90 then (some true) else (if a0 ≥ 48 then (if a0 ≤ 57 then (some true) else (if a0 = 45 then (some true) else (some (a0 == 95)))) else (if a0 = 45 then (some true) else (some (a0 == 95))))) else (if a0 ≥ 48 then (if a0 ≤ 57 then (some true) else (if a0 = 45 then (some true) else (some (a0 == 95)))) else (if a0 = 45 then (some true) else (some (a0 == 95)))))) = some r := h
 clear h
 by_cases c2 : a0 ≥ 97
 rotate_left
 ·
  rw [if_neg c2] at H
  have c2b0 : decide (97 ≤ a0) = false := decide_eq_false c2
  clear c2
  by_cases c14 : a0 ≥ 65
  rotate_left
  ·
   rw [if_neg c14] at H
   have c14b0 : decide (65 ≤ a0) = false := decide_eq_false c14
   clear c14
   by_cases c20 : a0 ≥ 48
   rotate_left
   ·
    rw [if_neg c20] at H
    have c20b0 : decide (48 ≤ a0) = false := decide_eq_false c20
    clear c20
    by_cases c23 : a0 = 45
    rotate_left
    ·
     rw [if_neg c23] at H
     have c23b0 : (a0 == 45) = false := beq_eq_false_iff_ne.mpr c23
     have c23b1 : (a0 != 45) = true := bne_iff_ne.mpr c23
     obtain rfl := Option.some.inj H
     go_enter Tryz.func101, Tryz.ntmps101
     go_wp2
     go_ret
     exact ⟨qrb0_, qrb1_⟩
    rw [if_pos c23] at H
    have c23b0 : (a0 == 45) = true := beq_iff_eq.mpr c23
    have c23b1 : (a0 != 45) = false := bne_eq_false_iff_eq.mpr c23
    clear c23
    obtain rfl := Option.some.inj H
    go_enter Tryz.func101, Tryz.ntmps101
    go_wp2
    go_ret
    exact ⟨qrb0_, qrb1_⟩
   rw [if_pos c20] at H
   have c20b0 : decide (48 ≤ a0) = true := decide_eq_true c20
   clear c20
   by_cases c21 : a0 ≤ 57
   ·
    rw [if_pos c21] at H
    have c21b0 : decide (a0 ≤ 57) = true := decide_eq_true c21
    clear c21
    obtain rfl := Option.some.inj H
    go_enter Tryz.func101, Tryz.ntmps101
    go_wp2
    go_ret
    exact ⟨qrb0_, qrb1_⟩
   rw [if_neg c21] at H
   have c21b0 : decide (a0 ≤ 57) = false := decide_eq_false c21
   clear c21
   by_cases c22 : a0 = 45
   rotate_left
   ·
    rw [if_neg c22] at H
    have c22b0 : (a0 == 45) = false := beq_eq_false_iff_ne.mpr c22
    have c22b1 : (a0 != 45) = true := bne_iff_ne.mpr c22
    obtain rfl := Option.some.inj H
    go_enter Tryz.func101, Tryz.ntmps101
    go_wp2
    go_ret
    exact ⟨qrb0_, qrb1_⟩
   rw [if_pos c22] at H
   have c22b0 : (a0 == 45) = true := beq_iff_eq.mpr c22
   have c22b1 : (a0 != 45) = false := bne_eq_false_iff_eq.mpr c22
   clear c22
   obtain rfl := Option.some.inj H
   go_enter Tryz.func101, Tryz.ntmps101
   go_wp2
   go_ret
   exact ⟨qrb0_, qrb1_⟩
  rw [if_pos c14] at H
  have c14b0 : decide (65 ≤ a0) = true := decide_eq_true c14
  clear c14
  by_cases c15 : a0 ≤ 90
  ·
   rw [if_pos c15] at H
   have c15b0 : decide (a0 ≤ 90) = true := decide_eq_true c15
   clear c15
   obtain rfl := Option.some.inj H
   go_enter Tryz.func101, Tryz.ntmps101
   go_wp2
   go_ret
   exact ⟨qrb0_, qrb1_⟩
  rw [if_neg c15] at H
  have c15b0 : decide (a0 ≤ 90) = false := decide_eq_false c15
  clear c15
  by_cases c16 : a0 ≥ 48
  rotate_left
  ·
   rw [if_neg c16] at H
   have c16b0 : decide (48 ≤ a0) = false := decide_eq_false c16
   clear c16
   by_cases c19 : a0 = 45
   rotate_left
   ·
    rw [if_neg c19] at H
    have c19b0 : (a0 == 45) = false := beq_eq_false_iff_ne.mpr c19
    have c19b1 : (a0 != 45) = true := bne_iff_ne.mpr c19
    obtain rfl := Option.some.inj H
    go_enter Tryz.func101, Tryz.ntmps101
    go_wp2
    go_ret
    exact ⟨qrb0_, qrb1_⟩
   rw [if_pos c19] at H
   have c19b0 : (a0 == 45) = true := beq_iff_eq.mpr c19
   have c19b1 : (a0 != 45) = false := bne_eq_false_iff_eq.mpr c19
   clear c19
   obtain rfl := Option.some.inj H
   go_enter Tryz.func101, Tryz.ntmps101
   go_wp2
   go_ret
   exact ⟨qrb0_, qrb1_⟩
  rw [if_pos c16] at H
  have c16b0 : decide (48 ≤ a0) = true := decide_eq_true c16
  clear c16
  by_cases c17 : a0 ≤ 57
  ·
   rw [if_pos c17] at H
   have c17b0 : decide (a0 ≤ 57) = true := decide_eq_true c17
   clear c17
   obtain rfl := Option.some.inj H
   go_enter Tryz.func101, Tryz.ntmps101
   go_wp2
   go_ret
   exact ⟨qrb0_, qrb1_⟩
  rw [if_neg c17] at H
  have c17b0 : decide (a0 ≤ 57) = false := decide_eq_false c17
  clear c17
  by_cases c18 : a0 = 45
  rotate_left
  ·
   rw [if_neg c18] at H
   have c18b0 : (a0 == 45) = false := beq_eq_false_iff_ne.mpr c18
   have c18b1 : (a0 != 45) = true := bne_iff_ne.mpr c18
   obtain rfl := Option.some.inj H
   go_enter Tryz.func101, Tryz.ntmps101
   go_wp2
   go_ret
   exact ⟨qrb0_, qrb1_⟩
  rw [if_pos c18] at H
  have c18b0 : (a0 == 45) = true := beq_iff_eq.mpr c18
  have c18b1 : (a0 != 45) = false := bne_eq_false_iff_eq.mpr c18
  clear c18
  obtain rfl := Option.some.inj H
  go_enter Tryz.func101, Tryz.ntmps101
  go_wp2
  go_ret
  exact ⟨qrb0_, qrb1_⟩
 rw [if_pos c2] at H
 have c2b0 : decide (97 ≤ a0) = true := decide_eq_true c2
 clear c2
 by_cases c3 : a0 ≤ 122
 ·
  rw [if_pos c3] at H
  have c3b0 : decide (a0 ≤ 122) = true := decide_eq_true c3
  clear c3
  obtain rfl := Option.some.inj H
  go_enter Tryz.func101, Tryz.ntmps101
  go_wp2
  go_ret
  exact ⟨qrb0_, qrb1_⟩
 rw [if_neg c3] at H
 have c3b0 : decide (a0 ≤ 122) = false := decide_eq_false c3
 clear c3
 by_cases c4 : a0 ≥ 65
 rotate_left
 ·
  rw [if_neg c4] at H
  have c4b0 : decide (65 ≤ a0) = false := decide_eq_false c4
  clear c4
  by_cases c10 : a0 ≥ 48
  rotate_left
  ·
   rw [if_neg c10] at H
   have c10b0 : decide (48 ≤ a0) = false := decide_eq_false c10
   clear c10
   by_cases c13 : a0 = 45
   rotate_left
   ·
    rw [if_neg c13] at H
    have c13b0 : (a0 == 45) = false := beq_eq_false_iff_ne.mpr c13
    have c13b1 : (a0 != 45) = true := bne_iff_ne.mpr c13
    obtain rfl := Option.some.inj H
    go_enter Tryz.func101, Tryz.ntmps101
    go_wp2
    go_ret
    exact ⟨qrb0_, qrb1_⟩
   rw [if_pos c13] at H
   have c13b0 : (a0 == 45) = true := beq_iff_eq.mpr c13
   have c13b1 : (a0 != 45) = false := bne_eq_false_iff_eq.mpr c13
   clear c13
   obtain rfl := Option.some.inj H
   go_enter Tryz.func101, Tryz.ntmps101
   go_wp2
   go_ret
   exact ⟨qrb0_, qrb1_⟩
  rw [if_pos c10] at H
  have c10b0 : decide (48 ≤ a0) = true := decide_eq_true c10
  clear c10
  by_cases c11 : a0 ≤ 57
  ·
   rw [if_pos c11] at H
   have c11b0 : decide (a0 ≤ 57) = true := decide_eq_true c11
   clear c11
   obtain rfl := Option.some.inj H
   go_enter Tryz.func101, Tryz.ntmps101
   go_wp2
   go_ret
   exact ⟨qrb0_, qrb1_⟩
  rw [if_neg c11] at H
  have c11b0 : decide (a0 ≤ 57) = false := decide_eq_false c11
  clear c11
  by_cases c12 : a0 = 45
  rotate_left
  ·
   rw [if_neg c12] at H
   have c12b0 : (a0 == 45) = false := beq_eq_false_iff_ne.mpr c12
   have c12b1 : (a0 != 45) = true := bne_iff_ne.mpr c12
   obtain rfl := Option.some.inj H
   go_enter Tryz.func101, Tryz.ntmps101
   go_wp2
   go_ret
   exact ⟨qrb0_, qrb1_⟩
  rw [if_pos c12] at H
  have c12b0 : (a0 == 45) = true := beq_iff_eq.mpr c12
  have c12b1 : (a0 != 45) = false := bne_eq_false_iff_eq.mpr c12
  clear c12
  obtain rfl := Option.some.inj H
  go_enter Tryz.func101, Tryz.ntmps101
  go_wp2
  go_ret
  exact ⟨qrb0_, qrb1_⟩
 rw [if_pos c4] at H
 have c4b0 : decide (65 ≤ a0) = true := decide_eq_true c4
 clear c4
 by_cases c5 : a0 ≤ 90
 ·
  rw [if_pos c5] at H
  have c5b0 : decide (a0 ≤ 90) = true := decide_eq_true c5
  clear c5
  obtain rfl := Option.some.inj H
  go_enter Tryz.func101, Tryz.ntmps101
  go_wp2
  go_ret
  exact ⟨qrb0_, qrb1_⟩
 rw [if_neg c5] at H
 have c5b0 : decide (a0 ≤ 90) = false := decide_eq_false c5
 clear c5
 by_cases c6 : a0 ≥ 48
 rotate_left
 ·
  rw [if_neg c6] at H
  have c6b0 : decide (48 ≤ a0) = false := decide_eq_false c6
  clear c6
  by_cases c9 : a0 = 45
  rotate_left
  ·
   rw [if_neg c9] at H
   have c9b0 : (a0 == 45) = false := beq_eq_false_iff_ne.mpr c9
   have c9b1 : (a0 != 45) = true := bne_iff_ne.mpr c9
   obtain rfl := Option.some.inj H
   go_enter Tryz.func101, Tryz.ntmps101
   go_wp2
   go_ret
   exact ⟨qrb0_, qrb1_⟩
  rw [if_pos c9] at H
  have c9b0 : (a0 == 45) = true := beq_iff_eq.mpr c9
  have c9b1 : (a0 != 45) = false := bne_eq_false_iff_eq.mpr c9
  clear c9
  obtain rfl := Option.some.inj H
  go_enter Tryz.func101, Tryz.ntmps101
  go_wp2
  go_ret
  exact ⟨qrb0_, qrb1_⟩
 rw [if_pos c6] at H
 have c6b0 : decide (48 ≤ a0) = true := decide_eq_true c6
 clear c6
 by_cases c7 : a0 ≤ 57
 ·
  rw [if_pos c7] at H
  have c7b0 : decide (a0 ≤ 57) = true := decide_eq_true c7
  clear c7
  obtain rfl := Option.some.inj H
  go_enter Tryz.func101, Tryz.ntmps101
  go_wp2
  go_ret
  exact ⟨qrb0_, qrb1_⟩
 rw [if_neg c7] at H
 have c7b0 : decide (a0 ≤ 57) = false := decide_eq_false c7
 clear c7
 by_cases c8 : a0 = 45
 rotate_left
 ·
  rw [if_neg c8] at H
  have c8b0 : (a0 == 45) = false := beq_eq_false_iff_ne.mpr c8
  have c8b1 : (a0 != 45) = true := bne_iff_ne.mpr c8
  obtain rfl := Option.some.inj H
  go_enter Tryz.func101, Tryz.ntmps101
  go_wp2
  go_ret
  exact ⟨qrb0_, qrb1_⟩
 rw [if_pos c8] at H
 have c8b0 : (a0 == 45) = true := beq_iff_eq.mpr c8
 have c8b1 : (a0 != 45) = false := bne_eq_false_iff_eq.mpr c8
 clear c8
 obtain rfl := Option.some.inj H
 go_enter Tryz.func101, Tryz.ntmps101
 go_wp2
 go_ret
 exact ⟨qrb0_, qrb1_⟩
def grommetref16_bare.l0 : Nat → ByteArray → Int → Option (Bool)
  | 0, _, _ => none
  | k + 1, x0, x3 => if x3 < (x0.size : Int) then (if 0 ≤ x3 then ((grommetref16_letter.f (bt x0 x3)).bind fun t101 => (if t101 = true then (grommetref16_bare.l0 k x0 (wrap64 (x3 + 1))) else (some false))) else (none)) else (some (x0.toList != ([] : List UInt8)))
def grommetref16_bare.f (k : Nat) (a0 : ByteArray) : Option (Bool) := grommetref16_bare.l0 k a0 0
theorem qqb0_ {P : Prop} (h_ : P := by first | ((repeat (first | (with_reducible first | exact HB.out | apply below_alloc | apply pw_below_drewN | apply below_drew1 | (refine Glob.below_set ?_ (by assumption) _ _ _)) | exact HB.out)); done) | (refine Drawn0.below ?_; repeat (first | exact Drawn0.refl _ | assumption | apply Drawn0.step))) : P := h_
theorem qqb1_ {P : Prop} (h_ : P := by repeat (first | exact Drawn0.refl _ | apply Drawn0.step)) : P := h_
theorem qqb2_ {P : Prop} (h_ : P := by (try simp only [List.map_toArray, List.map_cons, List.map_nil]); first | done | rfl | (simp only [List.length_drop, List.length_take]; rfl)) : P := h_
theorem qqb3_ {P : Prop} (h_ : P := by first | (with_reducible assumption) | assumption) : P := h_
theorem qqb4_ {P : Prop} (h_ : P := by first | rfl | (simp; done) | (simp [*]; done) | (simp; generalize ByteArray.toList _ = l_; cases l_ <;> rfl)) : P := h_
set_option maxHeartbeats 8000000 in
set_option maxRecDepth 100000 in
theorem grommetref16_bare.calls (k : Nat) (a0 : ByteArray) (r : Bool) (w : World) (hG : Glob.G w) (h : grommetref16_bare.f k a0 = some r) :
  Calls Tryz.prog 77 #[.string a0] w fun e w' => e = .returned (.bool r) ∧ Drawn0 w w' := by
 have H : (grommetref16_bare.l0 k a0 0) = some r := h
 clear h
 have H' := Aside0.mk H
 clear H
 go_enter Tryz.func77, Tryz.ntmps77
 go_wp2
 go_loopg [3] k (fun kq v3 w' => ∃ (x3_1 : Int), v3 = .int .i64 x3_1 ∧ Aside0 (grommetref16_bare.l0 kq a0 x3_1 = some r) ∧ Aside0 (kq ≤ k) ∧ Drawn0 w w')
 case atStart => exact ⟨(0), (by first | rfl | (simp; done) | (simp [*]; done)), H', ⟨Nat.le_refl _⟩, qqb1_⟩
 case round =>
  clear H'
  obtain ⟨x3_1, rfl, HA, HK1, ⟨m1, rfl⟩⟩ := hrel
  cases gk with
  | zero => exact absurd HA.out (by simp [grommetref16_bare.l0])
  | succ k1 =>
   have H := HA.out
   clear HA
   simp only [grommetref16_bare.l0] at H
   by_cases c2 : x3_1 < (a0.size : Int)
   rotate_left
   ·
    rw [if_neg c2] at H
    have c2b0 : decide (x3_1 < (a0.size : Int)) = false := decide_eq_false c2
    clear c2
    obtain rfl := Option.some.inj H
    go_wp2
    go_ret
    exact ⟨qqb4_, qqb1_⟩
   rw [if_pos c2] at H
   have c2b0 : decide (x3_1 < (a0.size : Int)) = true := decide_eq_true c2
   clear c2
   by_cases c3 : 0 ≤ x3_1
   rotate_left
   ·
    rw [if_neg c3] at H
    exact absurd H (by simp)
   rw [if_pos c3] at H
   have c3b0 : decide (0 ≤ x3_1) = true := decide_eq_true c3
   clear c3
   replace H := Option.bind_eq_some_iff.mp H
   obtain ⟨t101, A50, H⟩ := H
   replace H : (if t101 = true then (grommetref16_bare.l0 k1 a0 (wrap64 (x3_1 + 1))) else (some false)) = some r := H
   have A5 := Aside0.mk A50
   clear A50
   by_cases c6 : t101 = true
   rotate_left
   ·
    replace c6 := Bool.eq_false_iff.mpr c6
    subst c6
    have H1 : (some false) = some r := by rw [if_neg (show ¬ (false = true) by decide)] at H; exact H
    clear H
    have H := H1
    clear H1
    obtain rfl := Option.some.inj H
    have p4 : 0 ≤ (x3_1 : Int) := of_decide_eq_true (qqb3_)
    have q4 : x3_1 < (a0.size : Int) := of_decide_eq_true (qqb3_)
    have hx4 := bt_at a0 x3_1
    replace p4 := eq_true p4
    replace q4 := eq_true q4
    go_wp2_with (first | ((with_reducible refine gate_callee (f := 101) rfl ?_); refine goesL_ (some 13) rfl rfl Tryz.func101 (by kernel_rfl) rfl #[.int .u8 (bt a0 x3_1)] rfl (qqb2_) ?_; (with_reducible refine (grommetref16_letter.calls (bt a0 x3_1) false _ (hG.below (qqb0_)) A5.out).mono ?_); rintro e w' ⟨rfl, ⟨nd, rfl⟩⟩; refine ⟨_, rfl, ?_⟩))
    go_ret
    exact ⟨qqb4_, qqb1_⟩
   subst c6
   have H1 : (grommetref16_bare.l0 k1 a0 (wrap64 (x3_1 + 1))) = some r := by rw [if_pos rfl] at H; exact H
   clear H
   have H := H1
   clear H1
   have H' := Aside0.mk H
   clear H
   have p4 : 0 ≤ (x3_1 : Int) := of_decide_eq_true (qqb3_)
   have q4 : x3_1 < (a0.size : Int) := of_decide_eq_true (qqb3_)
   have hx4 := bt_at a0 x3_1
   replace p4 := eq_true p4
   replace q4 := eq_true q4
   go_wp2_with (first | ((with_reducible refine gate_callee (f := 101) rfl ?_); refine goesL_ (some 13) rfl rfl Tryz.func101 (by kernel_rfl) rfl #[.int .u8 (bt a0 x3_1)] rfl (qqb2_) ?_; (with_reducible refine (grommetref16_letter.calls (bt a0 x3_1) true _ (hG.below (qqb0_)) A5.out).mono ?_); rintro e w' ⟨rfl, ⟨nd, rfl⟩⟩; refine ⟨_, rfl, ?_⟩))
   go_roundg k1
   case measure => have := HK1.out; omega
   case rel => exact ⟨(wrap64 (x3_1 + 1)), (by first | rfl | (simp; done) | (simp [*]; done)), H', ⟨by have := HK1.out; omega⟩, qqb1_⟩
end Go.Proofs.YtiooacmplmcphaaGreatDoor.PX
