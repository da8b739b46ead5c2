/- Texts that stand behind one another, laid into one: functions of the program and of its reference, what each comes to, and plain laws of that. -/
import Derived.Test.YtephdpgkildeoaaDoorBC0
import Derived.Test.YtephdpgkildeoaaDoorBC1
import Derived.Lib.AtoiAllCases
import Derived.KernelRfl
import Derived.Lib.ItoaLen
/- YtephdpgkildeoaaDoorFGrommetref06Resolve: what print.py told of Go functions, for this claim. -/
namespace Go.Proofs.YtephdpgkildeoaaDoor.PX
open Go.RowKit Go.Proofs.YtephdpgkildeoaaDoorW.PrintWords Go.Proofs.YtephdpgkildeoaaDoorW.PrintLast Go.Proofs.YtephdpgkildeoaaDoorW.PrintMore Go.Proofs.YtephdpgkildeoaaDoor
attribute [local go_sem] max2_int min2_int max_two min_two max_three min_three max_four min_four   -- for this text's walks alone
set_option linter.unusedVariables false
set_option linter.unusedSimpArgs false

/-! ### grommetref06_Resolve: function 18 -/
mutual
def grommetref06_Resolve.j0 : Nat → ByteArray → Bool → Bool → Option (Int)
  | 0, _, _, _ => none
  | k + 1, x0, x4, x10 => if x10 = true then (some 1) else (if x0.toList = ([116, 114, 117, 101] : List UInt8) then (grommetref06_Resolve.j1 k x4 true) else (grommetref06_Resolve.j1 k x4 (x0.toList == ([102, 97, 108, 115, 101] : List UInt8))))
def grommetref06_Resolve.j1 : Nat → Bool → Bool → Option (Int)
  | 0, _, _ => none
  | k + 1, x4, x21 => if x21 = true then (some 2) else (if x4 = true then (some 3) else (some 4))
end
def grommetref06_Resolve.f (k : Nat) (a0 : ByteArray) : Option (Int) := (grommetref06_Number.f k a0).bind fun bt101 => (if a0.toList = ([] : List UInt8) then (grommetref06_Resolve.j0 k a0 bt101.2 true) else (if a0.toList = ([126] : List UInt8) then (grommetref06_Resolve.j0 k a0 bt101.2 true) else (grommetref06_Resolve.j0 k a0 bt101.2 (a0.toList == ([110, 117, 108, 108] : List UInt8)))))
theorem grommetref06_Resolve.mono_l : ∀ k, (∀ y0 y1 y2, LeO (grommetref06_Resolve.j0 k y0 y1 y2) (grommetref06_Resolve.j0 (k + 1) y0 y1 y2)) ∧ (∀ y0 y1, LeO (grommetref06_Resolve.j1 k y0 y1) (grommetref06_Resolve.j1 (k + 1) y0 y1))
  | 0 => ⟨fun _ _ _ r h => by simp [grommetref06_Resolve.j0] at h, fun _ _ r h => by simp [grommetref06_Resolve.j1] at h⟩
  | k + 1 => by
    obtain ⟨ih0, ih1⟩ := grommetref06_Resolve.mono_l k
    refine ⟨?_, ?_⟩
    · intro y0 y1 y2
      unfold grommetref06_Resolve.j0
      repeat' first
      | (with_reducible exact ih0 _ _ _)
      | (with_reducible exact ih1 _ _)
      | (with_reducible exact grommetref06_Number.mono _ _)
      | (with_reducible exact LeO.refl _)
      | (with_reducible exact LeO.none _)
      | (with_reducible refine LeO.ite ?_ ?_)
      | (with_reducible refine LeO.bind ?_ (fun _ => ?_))
      | exact ih0 _ _ _
      | exact ih1 _ _
      | exact grommetref06_Number.mono _ _
      | exact LeO.none _
      | refine LeO.ite ?_ ?_
      | refine LeO.bind ?_ (fun _ => ?_)
    · intro y0 y1
      unfold grommetref06_Resolve.j1
      repeat' first
      | (with_reducible exact ih0 _ _ _)
      | (with_reducible exact ih1 _ _)
      | (with_reducible exact grommetref06_Number.mono _ _)
      | (with_reducible exact LeO.refl _)
      | (with_reducible exact LeO.none _)
      | (with_reducible refine LeO.ite ?_ ?_)
      | (with_reducible refine LeO.bind ?_ (fun _ => ?_))
      | exact ih0 _ _ _
      | exact ih1 _ _
      | exact grommetref06_Number.mono _ _
      | exact LeO.none _
      | refine LeO.ite ?_ ?_
      | refine LeO.bind ?_ (fun _ => ?_)
theorem grommetref06_Resolve.mono : ∀ a0 k, LeO (grommetref06_Resolve.f k a0) (grommetref06_Resolve.f (k + 1) a0) := by
  intro a0 k
  obtain ⟨ih0, ih1⟩ := grommetref06_Resolve.mono_l k
  unfold grommetref06_Resolve.f
  repeat' first
      | (with_reducible exact ih0 _ _ _)
      | (with_reducible exact ih1 _ _)
      | (with_reducible exact grommetref06_Number.mono _ _)
      | (with_reducible exact LeO.refl _)
      | (with_reducible exact LeO.none _)
      | (with_reducible refine LeO.ite ?_ ?_)
      | (with_reducible refine LeO.bind ?_ (fun _ => ?_))
      | exact ih0 _ _ _
      | exact ih1 _ _
      | exact grommetref06_Number.mono _ _
      | exact LeO.none _
      | refine LeO.ite ?_ ?_
      | refine LeO.bind ?_ (fun _ => ?_)
set_option maxHeartbeats 8000000 in
set_option maxRecDepth 100000 in
theorem grommetref06_Resolve.calls (k : Nat) (a0 : ByteArray) (r : Int) (w : World) (hG : Glob.G w) (h : grommetref06_Resolve.f k a0 = some r) :
    Calls Tryd.prog 18 #[.string a0] w fun e w' => e = .returned (.int .i64 r) ∧ Below w.heap.size w w' := by
  have HB := Aside0.mk (Below.refl w.heap.size w)
  have H : ((grommetref06_Number.f k a0).bind fun bt101 => (if a0.toList = ([] : List UInt8) then (grommetref06_Resolve.j0 k a0 bt101.2 true) else (if a0.toList = ([126] : List UInt8) then (grommetref06_Resolve.j0 k a0 bt101.2 true) else (grommetref06_Resolve.j0 k a0 bt101.2 (a0.toList == ([110, 117, 108, 108] : List UInt8)))))) = some r := h
  clear h
  replace H := Option.bind_eq_some_iff.mp H
  obtain ⟨⟨t101, t102⟩, A20, H⟩ := H
  replace H : (if a0.toList = ([] : List UInt8) then (grommetref06_Resolve.j0 k a0 t102 true) else (if a0.toList = ([126] : List UInt8) then (grommetref06_Resolve.j0 k a0 t102 true) else (grommetref06_Resolve.j0 k a0 t102 (a0.toList == ([110, 117, 108, 108] : List UInt8))))) = some r := H
  have A2 := Aside0.mk A20
  clear A20
  have HC3 := Aside0.mk H
  clear H
  go_enter Tryd.func18, Tryd.ntmps18
  go_upto_region 2 with (first | ((with_reducible refine gate_callee (f := 16) rfl ?_); refine goesL_ (some 7) rfl rfl Tryd.func16 (by kernel_rfl) rfl #[.string a0] rfl (by (try simp only [List.map_toArray, List.map_cons, List.map_nil]); first | done | rfl | (simp only [List.length_drop, List.length_take]; rfl)) ?_; (with_reducible refine (grommetref06_Number.calls k a0 t101 t102 _ (hG.below (by first | ((repeat (first | (with_reducible first | exact HB.out | apply below_alloc | apply pw_below_drewN | apply below_drew1 | (refine Glob.below_set ?_ (by assumption) _ _ _)) | exact HB.out)); done) | (refine Drawn0.below ?_; repeat (first | exact Drawn0.refl _ | assumption | apply Drawn0.step)))) A2.out).mono ?_); rintro e w4 ⟨rfl, hb⟩; refine ⟨_, rfl, ?_⟩; have n0_ := Aside0.mk (below_step (by repeat (first | (with_reducible first | exact HB.out | apply below_alloc | apply pw_below_drewN | apply below_drew1) | exact HB.out)) hb); clear HB; have HB := n0_; clear n0_; (try clear hb); (try clear hb2); (try clear hk); (try clear hi)))
  (try simp only [Act.put, List.setIfInBounds_toArray, List.set_cons_zero, List.set_cons_succ])
  go_cut [10] (fun v10 wc => ∃ (kq : Nat) (x10_2 : Bool), v10 = .bool x10_2 ∧ Aside0 (grommetref06_Resolve.j0 kq a0 t102 x10_2 = some r) ∧ Aside0 (kq ≤ k) ∧ Aside0 (Below w.heap.size w wc))
  case first =>
    have H := HC3.out
    clear HC3
    by_cases c5 : a0.toList = ([] : List UInt8)
    · rw [if_pos c5] at H
      have c5b0 : (a0.toList == ([] : List UInt8)) = true := beq_iff_eq.mpr c5
      have c5b1 : (a0.toList != ([] : List UInt8)) = false := bne_eq_false_iff_eq.mpr c5
      clear c5
      (first | rw [c5b0] | (simp only [i64_w, i32_w]; rw [c5b0]) | skip)
      have H' := Aside0.mk H
      clear H
      go_wp2
      go_meet
      case rel => exact ⟨_, (true), (by first | rfl | (simp; done) | (simp [*]; done)), H', ⟨by first | omega | exact Nat.le_refl _⟩, ⟨by repeat (first | (with_reducible first | exact HB.out | apply below_alloc | apply pw_below_drewN | apply below_drew1) | exact HB.out)⟩⟩
    · rw [if_neg c5] at H
      have c5b0 : (a0.toList == ([] : List UInt8)) = false := beq_eq_false_iff_ne.mpr c5
      have c5b1 : (a0.toList != ([] : List UInt8)) = true := bne_iff_ne.mpr c5
      (first | rw [c5b0] | (simp only [i64_w, i32_w]; rw [c5b0]) | skip)
      by_cases c6 : a0.toList = ([126] : List UInt8)
      · rw [if_pos c6] at H
        have c6b0 : (a0.toList == ([126] : List UInt8)) = true := beq_iff_eq.mpr c6
        have c6b1 : (a0.toList != ([126] : List UInt8)) = false := bne_eq_false_iff_eq.mpr c6
        clear c6
        have H' := Aside0.mk H
        clear H
        go_wp2
        go_meet
        case rel => exact ⟨_, (true), (by first | rfl | (simp; done) | (simp [*]; done)), H', ⟨by first | omega | exact Nat.le_refl _⟩, ⟨by repeat (first | (with_reducible first | exact HB.out | apply below_alloc | apply pw_below_drewN | apply below_drew1) | exact HB.out)⟩⟩
      · rw [if_neg c6] at H
        have c6b0 : (a0.toList == ([126] : List UInt8)) = false := beq_eq_false_iff_ne.mpr c6
        have c6b1 : (a0.toList != ([126] : List UInt8)) = true := bne_iff_ne.mpr c6
        have H' := Aside0.mk H
        clear H
        go_wp2
        go_meet
        case rel => exact ⟨_, ((a0.toList == ([110, 117, 108, 108] : List UInt8))), (by first | rfl | (simp; done) | (simp [*]; done)), H', ⟨by first | omega | exact Nat.le_refl _⟩, ⟨by repeat (first | (with_reducible first | exact HB.out | apply below_alloc | apply pw_below_drewN | apply below_drew1) | exact HB.out)⟩⟩
  case rest =>
    clear HC3
    try clear c1
    try clear p2
    try clear c5
    try clear c5b0
    try clear c5b1
    try clear c6
    try clear c6b0
    try clear c6b1
    obtain ⟨kq, x10_2, rfl, HA, HJ2, HB⟩ := hcut
    cases kq with
    | zero => exact absurd HA.out (by simp [grommetref06_Resolve.j0])
    | succ kj2 =>
      have H := HA.out
      clear HA
      simp only [grommetref06_Resolve.j0] at H
      by_cases c7 : x10_2 = true
      · subst c7
        have H1 : (some 1) = some r := by rw [if_pos rfl] at H; exact H
        clear H
        have H := H1
        clear H1
        obtain rfl := Option.some.inj H
        go_wp2
        go_ret
        exact ⟨by first | rfl | (simp [errW_none, errW_some] <;> rfl) | (simp [*, errW_none, errW_some] <;> rfl), by repeat (first | (with_reducible first | exact HB.out | apply below_alloc | apply pw_below_drewN | apply below_drew1) | exact HB.out)⟩
      · replace c7 := Bool.eq_false_iff.mpr c7
        subst c7
        have H1 : (if a0.toList = ([116, 114, 117, 101] : List UInt8) then (grommetref06_Resolve.j1 kj2 t102 true) else (grommetref06_Resolve.j1 kj2 t102 (a0.toList == ([102, 97, 108, 115, 101] : List UInt8)))) = some r := by rw [if_neg (show ¬ (false = true) by decide)] at H; exact H
        clear H
        have H := H1
        clear H1
        have HC8 := Aside0.mk H
        clear H
        go_upto_region 4 with (fail)
        go_cut [21] (fun v21 wc => ∃ (kq : Nat) (x21_7 : Bool), v21 = .bool x21_7 ∧ Aside0 (grommetref06_Resolve.j1 kq t102 x21_7 = some r) ∧ Aside0 (kq ≤ kj2) ∧ Aside0 (Below w.heap.size w wc))
        case first =>
          have H := HC8.out
          clear HC8
          by_cases c9 : a0.toList = ([116, 114, 117, 101] : List UInt8)
          · rw [if_pos c9] at H
            have c9b0 : (a0.toList == ([116, 114, 117, 101] : List UInt8)) = true := beq_iff_eq.mpr c9
            have c9b1 : (a0.toList != ([116, 114, 117, 101] : List UInt8)) = false := bne_eq_false_iff_eq.mpr c9
            clear c9
            (first | rw [c9b0] | (simp only [i64_w, i32_w]; rw [c9b0]) | skip)
            have H' := Aside0.mk H
            clear H
            go_wp2
            go_meet
            case rel => exact ⟨_, (true), (by first | rfl | (simp; done) | (simp [*]; done)), H', ⟨by have := HJ2.out; first | omega | exact Nat.le_refl _⟩, ⟨by repeat (first | (with_reducible first | exact HB.out | apply below_alloc | apply pw_below_drewN | apply below_drew1) | exact HB.out)⟩⟩
          · rw [if_neg c9] at H
            have c9b0 : (a0.toList == ([116, 114, 117, 101] : List UInt8)) = false := beq_eq_false_iff_ne.mpr c9
            have c9b1 : (a0.toList != ([116, 114, 117, 101] : List UInt8)) = true := bne_iff_ne.mpr c9
            (first | rw [c9b0] | (simp only [i64_w, i32_w]; rw [c9b0]) | skip)
            have H' := Aside0.mk H
            clear H
            go_wp2
            go_meet
            case rel => exact ⟨_, ((a0.toList == ([102, 97, 108, 115, 101] : List UInt8))), (by first | rfl | (simp; done) | (simp [*]; done)), H', ⟨by have := HJ2.out; first | omega | exact Nat.le_refl _⟩, ⟨by repeat (first | (with_reducible first | exact HB.out | apply below_alloc | apply pw_below_drewN | apply below_drew1) | exact HB.out)⟩⟩
        case rest =>
          clear HC8
          try clear c1
          try clear p2
          try clear c5
          try clear c5b0
          try clear c5b1
          try clear c6
          try clear c6b0
          try clear c6b1
          try clear c7
          try clear c9
          try clear c9b0
          try clear c9b1
          try clear p2
          obtain ⟨kq, x21_7, rfl, HA, HJ7, HB⟩ := hcut
          cases kq with
          | zero => exact absurd HA.out (by simp [grommetref06_Resolve.j1])
          | succ kj7 =>
            have H := HA.out
            clear HA
            simp only [grommetref06_Resolve.j1] at H
            by_cases c10 : x21_7 = true
            · subst c10
              have H1 : (some 2) = some r := by rw [if_pos rfl] at H; exact H
              clear H
              have H := H1
              clear H1
              obtain rfl := Option.some.inj H
              go_wp2
              go_ret
              exact ⟨by first | rfl | (simp [errW_none, errW_some] <;> rfl) | (simp [*, errW_none, errW_some] <;> rfl), by repeat (first | (with_reducible first | exact HB.out | apply below_alloc | apply pw_below_drewN | apply below_drew1) | exact HB.out)⟩
            · replace c10 := Bool.eq_false_iff.mpr c10
              subst c10
              have H1 : (if t102 = true then (some 3) else (some 4)) = some r := by rw [if_neg (show ¬ (false = true) by decide)] at H; exact H
              clear H
              have H := H1
              clear H1
              by_cases c11 : t102 = true
              · subst c11
                have H1 : (some 3) = some r := by rw [if_pos rfl] at H; exact H
                clear H
                have H := H1
                clear H1
                obtain rfl := Option.some.inj H
                go_wp2
                go_ret
                exact ⟨by first | rfl | (simp [errW_none, errW_some] <;> rfl) | (simp [*, errW_none, errW_some] <;> rfl), by repeat (first | (with_reducible first | exact HB.out | apply below_alloc | apply pw_below_drewN | apply below_drew1) | exact HB.out)⟩
              · replace c11 := Bool.eq_false_iff.mpr c11
                subst c11
                have H1 : (some 4) = some r := by rw [if_neg (show ¬ (false = true) by decide)] at H; exact H
                clear H
                have H := H1
                clear H1
                obtain rfl := Option.some.inj H
                go_wp2
                go_ret
                exact ⟨by first | rfl | (simp [errW_none, errW_some] <;> rfl) | (simp [*, errW_none, errW_some] <;> rfl), by repeat (first | (with_reducible first | exact HB.out | apply below_alloc | apply pw_below_drewN | apply below_drew1) | exact HB.out)⟩

end Go.Proofs.YtephdpgkildeoaaDoor.PX

/- YtephdpgkildeoaaDoorFGrommetlaw06PlainResolves: what print.py told of Go functions, for this claim. -/
namespace Go.Proofs.YtephdpgkildeoaaDoor.PX
open Go.RowKit Go.Proofs.YtephdpgkildeoaaDoorW.PrintWords Go.Proofs.YtephdpgkildeoaaDoorW.PrintLast Go.Proofs.YtephdpgkildeoaaDoorW.PrintMore Go.Proofs.YtephdpgkildeoaaDoor Go.Proofs.YtephdpgkildeoaaDoor.Plug
attribute [local go_sem] max2_int min2_int max_two min_two max_three min_three max_four min_four   -- for this text's walks alone
set_option linter.unusedVariables false
set_option linter.unusedSimpArgs false

/-! ### grommetlaw06_PlainResolves: function 5 -/
def grommetlaw06_PlainResolves.f (k : Nat) (a0 : ByteArray) (a1 : Int) : Option (Bool) := (plain_Number.f a0).bind fun bt101 => ((grommetref06_Number.f k a0).bind fun bt103 => (if bt101.1 = bt103.1 then (if (bt101.2 == bt103.2) = true then ((plain_Resolve.f a0).bind fun t105 => ((grommetref06_Resolve.f k a0).bind fun t106 => (if t105 = t106 then ((plain_Text.f a1).bind fun t107 => ((grommetref06_Text.f k a1).bind fun t108 => (if t107.toList = t108.toList then ((grommetlaw06_alive.f k).bind fun t109 => (some t109)) else (some false)))) else (some false)))) else (some false)) else (some false)))
theorem grommetlaw06_PlainResolves.mono : ∀ a0 a1 k, LeO (grommetlaw06_PlainResolves.f k a0 a1) (grommetlaw06_PlainResolves.f (k + 1) a0 a1) := by
  intro a0 a1 k
  unfold grommetlaw06_PlainResolves.f
  repeat' first
      | (with_reducible exact grommetlaw06_alive.mono _)
      | (with_reducible exact grommetref06_Number.mono _ _)
      | (with_reducible exact grommetref06_Resolve.mono _ _)
      | (with_reducible exact grommetref06_Text.mono _ _)
      | (with_reducible exact LeO.refl _)
      | (with_reducible exact LeO.none _)
      | (with_reducible refine LeO.ite ?_ ?_)
      | (with_reducible refine LeO.bind ?_ (fun _ => ?_))
      | exact grommetlaw06_alive.mono _
      | exact grommetref06_Number.mono _ _
      | exact grommetref06_Resolve.mono _ _
      | exact grommetref06_Text.mono _ _
      | exact LeO.none _
      | refine LeO.ite ?_ ?_
      | refine LeO.bind ?_ (fun _ => ?_)
set_option maxHeartbeats 8000000 in
set_option maxRecDepth 100000 in
theorem grommetlaw06_PlainResolves.calls (k : Nat) (a0 : ByteArray) (a1 : Int) (r : Bool) (w : World) (hG : Glob.G w) (h : grommetlaw06_PlainResolves.f k a0 a1 = some r) :
    Calls Tryd.prog 5 #[.string a0, .int .i64 a1] w fun e w' => e = .returned (.bool r) ∧ Below w.heap.size w w' := by
  have HB := Aside0.mk (Below.refl w.heap.size w)
  have H : ((plain_Number.f a0).bind fun bt101 => ((grommetref06_Number.f k a0).bind fun bt103 => (if bt101.1 = bt103.1 then (if (bt101.2 == bt103.2) = true then ((plain_Resolve.f a0).bind fun t105 => ((grommetref06_Resolve.f k a0).bind fun t106 => (if t105 = t106 then ((plain_Text.f a1).bind fun t107 => ((grommetref06_Text.f k a1).bind fun t108 => (if t107.toList = t108.toList then ((grommetlaw06_alive.f k).bind fun t109 => (some t109)) else (some false)))) else (some false)))) else (some false)) else (some false)))) = some r := h
  clear h
  replace H := Option.bind_eq_some_iff.mp H
  obtain ⟨⟨t101, t102⟩, A30, H⟩ := H
  replace H : ((grommetref06_Number.f k a0).bind fun bt103 => (if t101 = bt103.1 then (if (t102 == bt103.2) = true then ((plain_Resolve.f a0).bind fun t105 => ((grommetref06_Resolve.f k a0).bind fun t106 => (if t105 = t106 then ((plain_Text.f a1).bind fun t107 => ((grommetref06_Text.f k a1).bind fun t108 => (if t107.toList = t108.toList then ((grommetlaw06_alive.f k).bind fun t109 => (some t109)) else (some false)))) else (some false)))) else (some false)) else (some false))) = some r := H
  have A3 := Aside0.mk A30
  clear A30
  replace H := Option.bind_eq_some_iff.mp H
  obtain ⟨⟨t103, t104⟩, A40, H⟩ := H
  replace H : (if t101 = t103 then (if (t102 == t104) = true then ((plain_Resolve.f a0).bind fun t105 => ((grommetref06_Resolve.f k a0).bind fun t106 => (if t105 = t106 then ((plain_Text.f a1).bind fun t107 => ((grommetref06_Text.f k a1).bind fun t108 => (if t107.toList = t108.toList then ((grommetlaw06_alive.f k).bind fun t109 => (some t109)) else (some false)))) else (some false)))) else (some false)) else (some false)) = some r := H
  have A4 := Aside0.mk A40
  clear A40
  by_cases c5 : t101 = t103
  · rw [if_pos c5] at H
    have c5b0 : (t101 == t103) = true := beq_iff_eq.mpr c5
    have c5b1 : (t101 != t103) = false := bne_eq_false_iff_eq.mpr c5
    clear c5
    by_cases c6 : (t102 == t104) = true
    · rw [if_pos c6] at H
      have c6b0 : (t102 == t104) = true := c6
      (try (have c6b1 : decide (t102 = t104) = true := by simpa using c6))
      (try (have c6b2 : (t102 == t104) = true := by simpa using c6))
      clear c6
      replace H := Option.bind_eq_some_iff.mp H
      obtain ⟨t105, A70, H⟩ := H
      replace H : ((grommetref06_Resolve.f k a0).bind fun t106 => (if t105 = t106 then ((plain_Text.f a1).bind fun t107 => ((grommetref06_Text.f k a1).bind fun t108 => (if t107.toList = t108.toList then ((grommetlaw06_alive.f k).bind fun t109 => (some t109)) else (some false)))) else (some false))) = some r := H
      have A7 := Aside0.mk A70
      clear A70
      replace H := Option.bind_eq_some_iff.mp H
      obtain ⟨t106, A80, H⟩ := H
      replace H : (if t105 = t106 then ((plain_Text.f a1).bind fun t107 => ((grommetref06_Text.f k a1).bind fun t108 => (if t107.toList = t108.toList then ((grommetlaw06_alive.f k).bind fun t109 => (some t109)) else (some false)))) else (some false)) = some r := H
      have A8 := Aside0.mk A80
      clear A80
      by_cases c9 : t105 = t106
      · rw [if_pos c9] at H
        have c9b0 : (t105 == t106) = true := beq_iff_eq.mpr c9
        have c9b1 : (t105 != t106) = false := bne_eq_false_iff_eq.mpr c9
        clear c9
        replace H := Option.bind_eq_some_iff.mp H
        obtain ⟨t107, A100, H⟩ := H
        replace H : ((grommetref06_Text.f k a1).bind fun t108 => (if t107.toList = t108.toList then ((grommetlaw06_alive.f k).bind fun t109 => (some t109)) else (some false))) = some r := H
        have A10 := Aside0.mk A100
        clear A100
        replace H := Option.bind_eq_some_iff.mp H
        obtain ⟨t108, A110, H⟩ := H
        replace H : (if t107.toList = t108.toList then ((grommetlaw06_alive.f k).bind fun t109 => (some t109)) else (some false)) = some r := H
        have A11 := Aside0.mk A110
        clear A110
        by_cases c12 : t107.toList = t108.toList
        · rw [if_pos c12] at H
          have c12b0 : (t107.toList == t108.toList) = true := beq_iff_eq.mpr c12
          have c12b1 : (t107.toList != t108.toList) = false := bne_eq_false_iff_eq.mpr c12
          clear c12
          replace H := Option.bind_eq_some_iff.mp H
          obtain ⟨t109, A130, H⟩ := H
          replace H : (some t109) = some r := H
          have A13 := Aside0.mk A130
          clear A130
          obtain rfl := Option.some.inj H
          go_enter Tryd.func5, Tryd.ntmps5
          go_wp2_with (first | ((with_reducible refine gate_callee (f := 15) rfl ?_); refine goesL_ (some 11) rfl rfl Tryd.func15 (by kernel_rfl) rfl #[.string a0] rfl (by (try simp only [List.map_toArray, List.map_cons, List.map_nil]); first | done | rfl | (simp only [List.length_drop, List.length_take]; rfl)) ?_; (with_reducible refine (plain_Number.calls a0 t101 t102 _ (hG.below (by first | ((repeat (first | (with_reducible first | exact HB.out | apply below_alloc | apply pw_below_drewN | apply below_drew1 | (refine Glob.below_set ?_ (by assumption) _ _ _)) | exact HB.out)); done) | (refine Drawn0.below ?_; repeat (first | exact Drawn0.refl _ | assumption | apply Drawn0.step)))) A3.out).mono ?_); rintro e w14 ⟨rfl, hb⟩; refine ⟨_, rfl, ?_⟩; have n0_ := Aside0.mk (below_step (by repeat (first | (with_reducible first | exact HB.out | apply below_alloc | apply pw_below_drewN | apply below_drew1) | exact HB.out)) hb); clear HB; have HB := n0_; clear n0_; (try clear hb); (try clear hb2); (try clear hk); (try clear hi)) | ((with_reducible refine gate_callee (f := 16) rfl ?_); refine goesL_ (some 16) rfl rfl Tryd.func16 (by kernel_rfl) rfl #[.string a0] rfl (by (try simp only [List.map_toArray, List.map_cons, List.map_nil]); first | done | rfl | (simp only [List.length_drop, List.length_take]; rfl)) ?_; (with_reducible refine (grommetref06_Number.calls k a0 t103 t104 _ (hG.below (by first | ((repeat (first | (with_reducible first | exact HB.out | apply below_alloc | apply pw_below_drewN | apply below_drew1 | (refine Glob.below_set ?_ (by assumption) _ _ _)) | exact HB.out)); done) | (refine Drawn0.below ?_; repeat (first | exact Drawn0.refl _ | assumption | apply Drawn0.step)))) A4.out).mono ?_); rintro e w15 ⟨rfl, hb⟩; refine ⟨_, rfl, ?_⟩; have n0_ := Aside0.mk (below_step (by repeat (first | (with_reducible first | exact HB.out | apply below_alloc | apply pw_below_drewN | apply below_drew1) | exact HB.out)) hb); clear HB; have HB := n0_; clear n0_; (try clear hb); (try clear hb2); (try clear hk); (try clear hi)) | (go_at_call 17; (with_reducible refine (plain_Resolve.calls a0 t105 _ (hG.below (by first | ((repeat (first | (with_reducible first | exact HB.out | apply below_alloc | apply pw_below_drewN | apply below_drew1 | (refine Glob.below_set ?_ (by assumption) _ _ _)) | exact HB.out)); done) | (refine Drawn0.below ?_; repeat (first | exact Drawn0.refl _ | assumption | apply Drawn0.step)))) A7.out).mono ?_); rintro e w16 ⟨rfl, hb⟩; have n0_ := Aside0.mk (below_step (by repeat (first | (with_reducible first | exact HB.out | apply below_alloc | apply pw_below_drewN | apply below_drew1) | exact HB.out)) hb); clear HB; have HB := n0_; clear n0_; (try clear hb); (try clear hb2); (try clear hk); (try clear hi)) | (go_at_call 18; (with_reducible refine (grommetref06_Resolve.calls k a0 t106 _ (hG.below (by first | ((repeat (first | (with_reducible first | exact HB.out | apply below_alloc | apply pw_below_drewN | apply below_drew1 | (refine Glob.below_set ?_ (by assumption) _ _ _)) | exact HB.out)); done) | (refine Drawn0.below ?_; repeat (first | exact Drawn0.refl _ | assumption | apply Drawn0.step)))) A8.out).mono ?_); rintro e w17 ⟨rfl, hb⟩; have n0_ := Aside0.mk (below_step (by repeat (first | (with_reducible first | exact HB.out | apply below_alloc | apply pw_below_drewN | apply below_drew1) | exact HB.out)) hb); clear HB; have HB := n0_; clear n0_; (try clear hb); (try clear hb2); (try clear hk); (try clear hi)) | (go_at_call 19; (with_reducible refine (plain_Text.calls a1 t107 _ (hG.below (by first | ((repeat (first | (with_reducible first | exact HB.out | apply below_alloc | apply pw_below_drewN | apply below_drew1 | (refine Glob.below_set ?_ (by assumption) _ _ _)) | exact HB.out)); done) | (refine Drawn0.below ?_; repeat (first | exact Drawn0.refl _ | assumption | apply Drawn0.step)))) A10.out).mono ?_); rintro e w18 ⟨rfl, hb⟩; have n0_ := Aside0.mk (below_step (by repeat (first | (with_reducible first | exact HB.out | apply below_alloc | apply pw_below_drewN | apply below_drew1) | exact HB.out)) hb); clear HB; have HB := n0_; clear n0_; (try clear hb); (try clear hb2); (try clear hk); (try clear hi)) | (go_at_call 20; (with_reducible refine (grommetref06_Text.calls k a1 t108 _ (hG.below (by first | ((repeat (first | (with_reducible first | exact HB.out | apply below_alloc | apply pw_below_drewN | apply below_drew1 | (refine Glob.below_set ?_ (by assumption) _ _ _)) | exact HB.out)); done) | (refine Drawn0.below ?_; repeat (first | exact Drawn0.refl _ | assumption | apply Drawn0.step)))) A11.out).mono ?_); rintro e w19 ⟨rfl, hb⟩; have n0_ := Aside0.mk (below_step (by repeat (first | (with_reducible first | exact HB.out | apply below_alloc | apply pw_below_drewN | apply below_drew1) | exact HB.out)) hb); clear HB; have HB := n0_; clear n0_; (try clear hb); (try clear hb2); (try clear hk); (try clear hi)) | (go_at_call 12; (with_reducible refine (grommetlaw06_alive.calls k  t109 _ (hG.below (by first | ((repeat (first | (with_reducible first | exact HB.out | apply below_alloc | apply pw_below_drewN | apply below_drew1 | (refine Glob.below_set ?_ (by assumption) _ _ _)) | exact HB.out)); done) | (refine Drawn0.below ?_; repeat (first | exact Drawn0.refl _ | assumption | apply Drawn0.step)))) A13.out).mono ?_); rintro e w20 ⟨rfl, hb⟩; have n0_ := Aside0.mk (below_step (by repeat (first | (with_reducible first | exact HB.out | apply below_alloc | apply pw_below_drewN | apply below_drew1) | exact HB.out)) hb); clear HB; have HB := n0_; clear n0_; (try clear hb); (try clear hb2); (try clear hk); (try clear hi)))
          go_ret
          exact ⟨by first | rfl | (simp [errW_none, errW_some] <;> rfl) | (simp [*, errW_none, errW_some] <;> rfl), by repeat (first | (with_reducible first | exact HB.out | apply below_alloc | apply pw_below_drewN | apply below_drew1) | exact HB.out)⟩
        · rw [if_neg c12] at H
          have c12b0 : (t107.toList == t108.toList) = false := beq_eq_false_iff_ne.mpr c12
          have c12b1 : (t107.toList != t108.toList) = true := bne_iff_ne.mpr c12
          obtain rfl := Option.some.inj H
          go_enter Tryd.func5, Tryd.ntmps5
          go_wp2_with (first | ((with_reducible refine gate_callee (f := 15) rfl ?_); refine goesL_ (some 11) rfl rfl Tryd.func15 (by kernel_rfl) rfl #[.string a0] rfl (by (try simp only [List.map_toArray, List.map_cons, List.map_nil]); first | done | rfl | (simp only [List.length_drop, List.length_take]; rfl)) ?_; (with_reducible refine (plain_Number.calls a0 t101 t102 _ (hG.below (by first | ((repeat (first | (with_reducible first | exact HB.out | apply below_alloc | apply pw_below_drewN | apply below_drew1 | (refine Glob.below_set ?_ (by assumption) _ _ _)) | exact HB.out)); done) | (refine Drawn0.below ?_; repeat (first | exact Drawn0.refl _ | assumption | apply Drawn0.step)))) A3.out).mono ?_); rintro e w21 ⟨rfl, hb⟩; refine ⟨_, rfl, ?_⟩; have n0_ := Aside0.mk (below_step (by repeat (first | (with_reducible first | exact HB.out | apply below_alloc | apply pw_below_drewN | apply below_drew1) | exact HB.out)) hb); clear HB; have HB := n0_; clear n0_; (try clear hb); (try clear hb2); (try clear hk); (try clear hi)) | ((with_reducible refine gate_callee (f := 16) rfl ?_); refine goesL_ (some 16) rfl rfl Tryd.func16 (by kernel_rfl) rfl #[.string a0] rfl (by (try simp only [List.map_toArray, List.map_cons, List.map_nil]); first | done | rfl | (simp only [List.length_drop, List.length_take]; rfl)) ?_; (with_reducible refine (grommetref06_Number.calls k a0 t103 t104 _ (hG.below (by first | ((repeat (first | (with_reducible first | exact HB.out | apply below_alloc | apply pw_below_drewN | apply below_drew1 | (refine Glob.below_set ?_ (by assumption) _ _ _)) | exact HB.out)); done) | (refine Drawn0.below ?_; repeat (first | exact Drawn0.refl _ | assumption | apply Drawn0.step)))) A4.out).mono ?_); rintro e w22 ⟨rfl, hb⟩; refine ⟨_, rfl, ?_⟩; have n0_ := Aside0.mk (below_step (by repeat (first | (with_reducible first | exact HB.out | apply below_alloc | apply pw_below_drewN | apply below_drew1) | exact HB.out)) hb); clear HB; have HB := n0_; clear n0_; (try clear hb); (try clear hb2); (try clear hk); (try clear hi)) | (go_at_call 17; (with_reducible refine (plain_Resolve.calls a0 t105 _ (hG.below (by first | ((repeat (first | (with_reducible first | exact HB.out | apply below_alloc | apply pw_below_drewN | apply below_drew1 | (refine Glob.below_set ?_ (by assumption) _ _ _)) | exact HB.out)); done) | (refine Drawn0.below ?_; repeat (first | exact Drawn0.refl _ | assumption | apply Drawn0.step)))) A7.out).mono ?_); rintro e w23 ⟨rfl, hb⟩; have n0_ := Aside0.mk (below_step (by repeat (first | (with_reducible first | exact HB.out | apply below_alloc | apply pw_below_drewN | apply below_drew1) | exact HB.out)) hb); clear HB; have HB := n0_; clear n0_; (try clear hb); (try clear hb2); (try clear hk); (try clear hi)) | (go_at_call 18; (with_reducible refine (grommetref06_Resolve.calls k a0 t106 _ (hG.below (by first | ((repeat (first | (with_reducible first | exact HB.out | apply below_alloc | apply pw_below_drewN | apply below_drew1 | (refine Glob.below_set ?_ (by assumption) _ _ _)) | exact HB.out)); done) | (refine Drawn0.below ?_; repeat (first | exact Drawn0.refl _ | assumption | apply Drawn0.step)))) A8.out).mono ?_); rintro e w24 ⟨rfl, hb⟩; have n0_ := Aside0.mk (below_step (by repeat (first | (with_reducible first | exact HB.out | apply below_alloc | apply pw_below_drewN | apply below_drew1) | exact HB.out)) hb); clear HB; have HB := n0_; clear n0_; (try clear hb); (try clear hb2); (try clear hk); (try clear hi)) | (go_at_call 19; (with_reducible refine (plain_Text.calls a1 t107 _ (hG.below (by first | ((repeat (first | (with_reducible first | exact HB.out | apply below_alloc | apply pw_below_drewN | apply below_drew1 | (refine Glob.below_set ?_ (by assumption) _ _ _)) | exact HB.out)); done) | (refine Drawn0.below ?_; repeat (first | exact Drawn0.refl _ | assumption | apply Drawn0.step)))) A10.out).mono ?_); rintro e w25 ⟨rfl, hb⟩; have n0_ := Aside0.mk (below_step (by repeat (first | (with_reducible first | exact HB.out | apply below_alloc | apply pw_below_drewN | apply below_drew1) | exact HB.out)) hb); clear HB; have HB := n0_; clear n0_; (try clear hb); (try clear hb2); (try clear hk); (try clear hi)) | (go_at_call 20; (with_reducible refine (grommetref06_Text.calls k a1 t108 _ (hG.below (by first | ((repeat (first | (with_reducible first | exact HB.out | apply below_alloc | apply pw_below_drewN | apply below_drew1 | (refine Glob.below_set ?_ (by assumption) _ _ _)) | exact HB.out)); done) | (refine Drawn0.below ?_; repeat (first | exact Drawn0.refl _ | assumption | apply Drawn0.step)))) A11.out).mono ?_); rintro e w26 ⟨rfl, hb⟩; have n0_ := Aside0.mk (below_step (by repeat (first | (with_reducible first | exact HB.out | apply below_alloc | apply pw_below_drewN | apply below_drew1) | exact HB.out)) hb); clear HB; have HB := n0_; clear n0_; (try clear hb); (try clear hb2); (try clear hk); (try clear hi)))
          go_ret
          exact ⟨by first | rfl | (simp [errW_none, errW_some] <;> rfl) | (simp [*, errW_none, errW_some] <;> rfl), by repeat (first | (with_reducible first | exact HB.out | apply below_alloc | apply pw_below_drewN | apply below_drew1) | exact HB.out)⟩
      · rw [if_neg c9] at H
        have c9b0 : (t105 == t106) = false := beq_eq_false_iff_ne.mpr c9
        have c9b1 : (t105 != t106) = true := bne_iff_ne.mpr c9
        obtain rfl := Option.some.inj H
        go_enter Tryd.func5, Tryd.ntmps5
        go_wp2_with (first | ((with_reducible refine gate_callee (f := 15) rfl ?_); refine goesL_ (some 11) rfl rfl Tryd.func15 (by kernel_rfl) rfl #[.string a0] rfl (by (try simp only [List.map_toArray, List.map_cons, List.map_nil]); first | done | rfl | (simp only [List.length_drop, List.length_take]; rfl)) ?_; (with_reducible refine (plain_Number.calls a0 t101 t102 _ (hG.below (by first | ((repeat (first | (with_reducible first | exact HB.out | apply below_alloc | apply pw_below_drewN | apply below_drew1 | (refine Glob.below_set ?_ (by assumption) _ _ _)) | exact HB.out)); done) | (refine Drawn0.below ?_; repeat (first | exact Drawn0.refl _ | assumption | apply Drawn0.step)))) A3.out).mono ?_); rintro e w27 ⟨rfl, hb⟩; refine ⟨_, rfl, ?_⟩; have n0_ := Aside0.mk (below_step (by repeat (first | (with_reducible first | exact HB.out | apply below_alloc | apply pw_below_drewN | apply below_drew1) | exact HB.out)) hb); clear HB; have HB := n0_; clear n0_; (try clear hb); (try clear hb2); (try clear hk); (try clear hi)) | ((with_reducible refine gate_callee (f := 16) rfl ?_); refine goesL_ (some 16) rfl rfl Tryd.func16 (by kernel_rfl) rfl #[.string a0] rfl (by (try simp only [List.map_toArray, List.map_cons, List.map_nil]); first | done | rfl | (simp only [List.length_drop, List.length_take]; rfl)) ?_; (with_reducible refine (grommetref06_Number.calls k a0 t103 t104 _ (hG.below (by first | ((repeat (first | (with_reducible first | exact HB.out | apply below_alloc | apply pw_below_drewN | apply below_drew1 | (refine Glob.below_set ?_ (by assumption) _ _ _)) | exact HB.out)); done) | (refine Drawn0.below ?_; repeat (first | exact Drawn0.refl _ | assumption | apply Drawn0.step)))) A4.out).mono ?_); rintro e w28 ⟨rfl, hb⟩; refine ⟨_, rfl, ?_⟩; have n0_ := Aside0.mk (below_step (by repeat (first | (with_reducible first | exact HB.out | apply below_alloc | apply pw_below_drewN | apply below_drew1) | exact HB.out)) hb); clear HB; have HB := n0_; clear n0_; (try clear hb); (try clear hb2); (try clear hk); (try clear hi)) | (go_at_call 17; (with_reducible refine (plain_Resolve.calls a0 t105 _ (hG.below (by first | ((repeat (first | (with_reducible first | exact HB.out | apply below_alloc | apply pw_below_drewN | apply below_drew1 | (refine Glob.below_set ?_ (by assumption) _ _ _)) | exact HB.out)); done) | (refine Drawn0.below ?_; repeat (first | exact Drawn0.refl _ | assumption | apply Drawn0.step)))) A7.out).mono ?_); rintro e w29 ⟨rfl, hb⟩; have n0_ := Aside0.mk (below_step (by repeat (first | (with_reducible first | exact HB.out | apply below_alloc | apply pw_below_drewN | apply below_drew1) | exact HB.out)) hb); clear HB; have HB := n0_; clear n0_; (try clear hb); (try clear hb2); (try clear hk); (try clear hi)) | (go_at_call 18; (with_reducible refine (grommetref06_Resolve.calls k a0 t106 _ (hG.below (by first | ((repeat (first | (with_reducible first | exact HB.out | apply below_alloc | apply pw_below_drewN | apply below_drew1 | (refine Glob.below_set ?_ (by assumption) _ _ _)) | exact HB.out)); done) | (refine Drawn0.below ?_; repeat (first | exact Drawn0.refl _ | assumption | apply Drawn0.step)))) A8.out).mono ?_); rintro e w30 ⟨rfl, hb⟩; have n0_ := Aside0.mk (below_step (by repeat (first | (with_reducible first | exact HB.out | apply below_alloc | apply pw_below_drewN | apply below_drew1) | exact HB.out)) hb); clear HB; have HB := n0_; clear n0_; (try clear hb); (try clear hb2); (try clear hk); (try clear hi)))
        go_ret
        exact ⟨by first | rfl | (simp [errW_none, errW_some] <;> rfl) | (simp [*, errW_none, errW_some] <;> rfl), by repeat (first | (with_reducible first | exact HB.out | apply below_alloc | apply pw_below_drewN | apply below_drew1) | exact HB.out)⟩
    · rw [if_neg c6] at H
      have c6b0 : (t102 == t104) = false := by simpa using c6
      (try (have c6b1 : decide (t102 = t104) = false := by simpa using c6))
      (try (have c6b2 : (t102 == t104) = false := by simpa using c6))
      (try (have c6b3 : ¬ (t102 = t104) := by simpa using c6))
      clear c6
      obtain rfl := Option.some.inj H
      go_enter Tryd.func5, Tryd.ntmps5
      go_wp2_with (first | ((with_reducible refine gate_callee (f := 15) rfl ?_); refine goesL_ (some 11) rfl rfl Tryd.func15 (by kernel_rfl) rfl #[.string a0] rfl (by (try simp only [List.map_toArray, List.map_cons, List.map_nil]); first | done | rfl | (simp only [List.length_drop, List.length_take]; rfl)) ?_; (with_reducible refine (plain_Number.calls a0 t101 t102 _ (hG.below (by first | ((repeat (first | (with_reducible first | exact HB.out | apply below_alloc | apply pw_below_drewN | apply below_drew1 | (refine Glob.below_set ?_ (by assumption) _ _ _)) | exact HB.out)); done) | (refine Drawn0.below ?_; repeat (first | exact Drawn0.refl _ | assumption | apply Drawn0.step)))) A3.out).mono ?_); rintro e w31 ⟨rfl, hb⟩; refine ⟨_, rfl, ?_⟩; have n0_ := Aside0.mk (below_step (by repeat (first | (with_reducible first | exact HB.out | apply below_alloc | apply pw_below_drewN | apply below_drew1) | exact HB.out)) hb); clear HB; have HB := n0_; clear n0_; (try clear hb); (try clear hb2); (try clear hk); (try clear hi)) | ((with_reducible refine gate_callee (f := 16) rfl ?_); refine goesL_ (some 16) rfl rfl Tryd.func16 (by kernel_rfl) rfl #[.string a0] rfl (by (try simp only [List.map_toArray, List.map_cons, List.map_nil]); first | done | rfl | (simp only [List.length_drop, List.length_take]; rfl)) ?_; (with_reducible refine (grommetref06_Number.calls k a0 t103 t104 _ (hG.below (by first | ((repeat (first | (with_reducible first | exact HB.out | apply below_alloc | apply pw_below_drewN | apply below_drew1 | (refine Glob.below_set ?_ (by assumption) _ _ _)) | exact HB.out)); done) | (refine Drawn0.below ?_; repeat (first | exact Drawn0.refl _ | assumption | apply Drawn0.step)))) A4.out).mono ?_); rintro e w32 ⟨rfl, hb⟩; refine ⟨_, rfl, ?_⟩; have n0_ := Aside0.mk (below_step (by repeat (first | (with_reducible first | exact HB.out | apply below_alloc | apply pw_below_drewN | apply below_drew1) | exact HB.out)) hb); clear HB; have HB := n0_; clear n0_; (try clear hb); (try clear hb2); (try clear hk); (try clear hi)))
      go_ret
      exact ⟨by first | rfl | (simp [errW_none, errW_some] <;> rfl) | (simp [*, errW_none, errW_some] <;> rfl), by repeat (first | (with_reducible first | exact HB.out | apply below_alloc | apply pw_below_drewN | apply below_drew1) | exact HB.out)⟩
  · rw [if_neg c5] at H
    have c5b0 : (t101 == t103) = false := beq_eq_false_iff_ne.mpr c5
    have c5b1 : (t101 != t103) = true := bne_iff_ne.mpr c5
    obtain rfl := Option.some.inj H
    go_enter Tryd.func5, Tryd.ntmps5
    go_wp2_with (first | ((with_reducible refine gate_callee (f := 15) rfl ?_); refine goesL_ (some 11) rfl rfl Tryd.func15 (by kernel_rfl) rfl #[.string a0] rfl (by (try simp only [List.map_toArray, List.map_cons, List.map_nil]); first | done | rfl | (simp only [List.length_drop, List.length_take]; rfl)) ?_; (with_reducible refine (plain_Number.calls a0 t101 t102 _ (hG.below (by first | ((repeat (first | (with_reducible first | exact HB.out | apply below_alloc | apply pw_below_drewN | apply below_drew1 | (refine Glob.below_set ?_ (by assumption) _ _ _)) | exact HB.out)); done) | (refine Drawn0.below ?_; repeat (first | exact Drawn0.refl _ | assumption | apply Drawn0.step)))) A3.out).mono ?_); rintro e w33 ⟨rfl, hb⟩; refine ⟨_, rfl, ?_⟩; have n0_ := Aside0.mk (below_step (by repeat (first | (with_reducible first | exact HB.out | apply below_alloc | apply pw_below_drewN | apply below_drew1) | exact HB.out)) hb); clear HB; have HB := n0_; clear n0_; (try clear hb); (try clear hb2); (try clear hk); (try clear hi)) | ((with_reducible refine gate_callee (f := 16) rfl ?_); refine goesL_ (some 16) rfl rfl Tryd.func16 (by kernel_rfl) rfl #[.string a0] rfl (by (try simp only [List.map_toArray, List.map_cons, List.map_nil]); first | done | rfl | (simp only [List.length_drop, List.length_take]; rfl)) ?_; (with_reducible refine (grommetref06_Number.calls k a0 t103 t104 _ (hG.below (by first | ((repeat (first | (with_reducible first | exact HB.out | apply below_alloc | apply pw_below_drewN | apply below_drew1 | (refine Glob.below_set ?_ (by assumption) _ _ _)) | exact HB.out)); done) | (refine Drawn0.below ?_; repeat (first | exact Drawn0.refl _ | assumption | apply Drawn0.step)))) A4.out).mono ?_); rintro e w34 ⟨rfl, hb⟩; refine ⟨_, rfl, ?_⟩; have n0_ := Aside0.mk (below_step (by repeat (first | (with_reducible first | exact HB.out | apply below_alloc | apply pw_below_drewN | apply below_drew1) | exact HB.out)) hb); clear HB; have HB := n0_; clear n0_; (try clear hb); (try clear hb2); (try clear hk); (try clear hi)))
    go_ret
    exact ⟨by first | rfl | (simp [errW_none, errW_some] <;> rfl) | (simp [*, errW_none, errW_some] <;> rfl), by repeat (first | (with_reducible first | exact HB.out | apply below_alloc | apply pw_below_drewN | apply below_drew1) | exact HB.out)⟩

end Go.Proofs.YtephdpgkildeoaaDoor.PX

/- The program's Is and Cut, on any text, and the reference's Is, are plain functions on its bytes; conditions: texts that lie in memory. -/
set_option linter.unusedVariables false
namespace Go.Proofs.YtephdpgkildeoaaDoor.Plain
open Go.RowKit Go.Proofs.YtephdpgkildeoaaDoor.PX Go.Proofs.YtephdpgkildeoaaDoor.Plug Go.Proofs.YtephdpgkildeoaaDoor.Utf Go.Proofs.YtephdpgkildeoaaDoorW.PrintWords Go.Proofs.YtephdpgkildeoaaDoorW.PrintLast

theorem okFrom_iff (l : List UInt8) (flow : Bool) : ∀ k i, okFrom k l flow i = true ↔ ∀ j, i ≤ j → j < i + k → j < l.length → okAt l flow j = true
  | 0, i => ⟨fun _ j h1 h2 => by omega, fun _ => rfl⟩
  | k + 1, i => by
    unfold okFrom
    by_cases h : i < l.length
    · rw [if_pos h, Bool.and_eq_true, okFrom_iff l flow k (i + 1)]
      constructor
      · rintro ⟨h1, h2⟩ j a b c
        by_cases e : j = i
        · subst e; exact h1
        · exact h2 j (by omega) (by omega) c
      · exact fun h2 => ⟨h2 i (by omega) (by omega) h, fun j a b c => h2 j (by omega) (by omega) c⟩
    · rw [if_neg h]
      exact ⟨fun _ j a _ c => by omega, fun _ => rfl⟩

theorem endF_iff (l : List UInt8) (flow : Bool) : ∀ k i, i ≤ l.length → l.length ≤ i + k → (endF k l flow i = l.length ↔ ∀ j, i ≤ j → j < l.length → endsAt l flow j = false)
  | 0, i, h, h2 => by
    simp only [endF]
    exact ⟨fun _ j a b => by omega, fun _ => by omega⟩
  | k + 1, i, h, h2 => by
    by_cases hi : i < l.length
    · cases he : endsAt l flow i with
      | true =>
        have e : endF (k + 1) l flow i = i := by simp only [endF]; rw [if_pos hi, if_pos he]
        rw [e]
        constructor
        · omega
        · intro q; have := q i (by omega) hi; rw [he] at this; cases this
      | false =>
        have e : endF (k + 1) l flow i = endF k l flow (i + 1) := by simp only [endF]; rw [if_pos hi, if_neg (by rw [he]; decide)]
        rw [e, endF_iff l flow k (i + 1) (by omega) (by omega)]
        constructor
        · intro q j a b
          by_cases e2 : j = i
          · subst e2; exact he
          · exact q j (by omega) b
        · exact fun q j a b => q j (by omega) b
    · rw [endF_end _ _ _ _ hi]
      exact ⟨fun _ j a b => by omega, fun _ => by omega⟩

theorem endOf_iff (l : List UInt8) (flow : Bool) : endOf l flow = l.length ↔ ∀ j, j < l.length → endsAt l flow j = false := by
  unfold endOf
  rw [endF_iff l flow l.length 0 (Nat.zero_le _) (by omega)]
  exact ⟨fun h j a => h j (Nat.zero_le _) a, fun h j _ a => h j a⟩

theorem okAll (l : List UInt8) (flow : Bool) : okFrom l.length l flow 0 = true ↔ (∀ j, j < l.length → at_ l j ≠ 9 ∧ at_ l j ≠ 10 ∧ at_ l j ≠ 13) ∧ endOf l flow = l.length := by
  rw [okFrom_iff, endOf_iff]
  unfold okAt
  simp only [Bool.and_eq_true, bne_iff_ne, ne_eq, Bool.not_eq_true', Nat.zero_le, true_implies, Nat.zero_add]
  exact ⟨fun h => ⟨fun j a => ⟨(h j a a).1.1.1, (h j a a).1.1.2, (h j a a).1.2⟩, fun j a => (h j a a).2⟩, fun h j a _ => ⟨⟨⟨(h.1 j a).1, (h.1 j a).2.1⟩, (h.1 j a).2.2⟩, h.2 j a⟩⟩

theorem contains_iff (l : List UInt8) (c : UInt8) : l.contains c = true ↔ ∃ j, j < l.length ∧ at_ l j = c.toNat := by
  rw [List.contains_iff_mem, List.mem_iff_getElem]
  constructor
  · rintro ⟨j, h, rfl⟩
    exact ⟨j, h, by unfold at_; rw [List.getD_eq_getElem?_getD, List.getElem?_eq_getElem h]; rfl⟩
  · rintro ⟨j, h, e⟩
    refine ⟨j, h, UInt8.toNat_inj.1 ?_⟩
    rw [← e]; unfold at_; rw [List.getD_eq_getElem?_getD, List.getElem?_eq_getElem h]; rfl

theorem index_at (s : ByteArray) (c : Nat) (h : c < 256) : strings_IndexByte.f s (c : Int) = some (Lib.indexByte s.data.toList (UInt8.ofNat c)) := by
  unfold strings_IndexByte.f; rw [Int.toNat_natCast]

/-- What is trimmed at no end is as it was. -/
theorem trim_same (l cs : List UInt8) : Lib.trimS l cs = l ↔ l = [] ∨ (cs.contains (l.getD 0 0) = false ∧ cs.contains (l.getD (l.length - 1) 0) = false) := by
  by_cases hl : l = []
  · subst hl; exact ⟨fun _ => .inl rfl, fun _ => rfl⟩
  have h0 := List.length_pos_iff.2 hl
  constructor
  · intro e
    right
    have hR : (Lib.trimRightS l cs).length ≤ l.length := by unfold Lib.trimRightS; rw [List.length_reverse]; exact Nat.le_trans (List.dropWhile_sublist _).length_le (by simp)
    have hL : (Lib.trimS l cs).length ≤ (Lib.trimRightS l cs).length := by unfold Lib.trimS Lib.trimLeftS; exact (List.dropWhile_sublist _).length_le
    have hRe : Lib.trimRightS l cs = l := by
      have hlen : (Lib.trimRightS l cs).length = l.length := by rw [e] at hL; omega
      unfold Lib.trimRightS at hlen ⊢
      rw [List.length_reverse] at hlen
      have := (List.dropWhile_sublist (l := l.reverse) (cs.contains ·)).eq_of_length (by rw [hlen, List.length_reverse])
      rw [this, List.reverse_reverse]
    have hLe : Lib.trimLeftS l cs = l := by unfold Lib.trimS at e; rw [hRe] at e; exact e
    constructor
    · cases l with
      | nil => exact absurd rfl hl
      | cons a r =>
        unfold Lib.trimLeftS at hLe
        cases hc : cs.contains a with
        | false => simpa using hc
        | true =>
          rw [List.dropWhile_cons_of_pos hc] at hLe
          have := congrArg List.length hLe
          have h2 := (List.dropWhile_sublist (l := r) (cs.contains ·)).length_le
          rw [List.length_cons] at this
          exact absurd (Nat.le_trans (Nat.le_of_eq this.symm) h2) (Nat.not_succ_le_self _)
    · unfold Lib.trimRightS at hRe
      have hRe2 : l.reverse.dropWhile (cs.contains ·) = l.reverse := by rw [← List.reverse_reverse (l.reverse.dropWhile _), hRe]
      have hg : l.reverse.getD 0 0 = l.getD (l.length - 1) 0 := by
        rw [List.getD_eq_getElem?_getD, List.getElem?_reverse (by omega), List.getD_eq_getElem?_getD]; simp
      rw [← hg]
      cases hr : l.reverse with
      | nil => simp at hr; exact absurd hr hl
      | cons a r =>
        rw [hr] at hRe2
        cases hc : cs.contains a with
        | false => simpa using hc
        | true =>
          rw [List.dropWhile_cons_of_pos hc] at hRe2
          have := congrArg List.length hRe2
          have h2 := (List.dropWhile_sublist (l := r) (cs.contains ·)).length_le
          rw [List.length_cons] at this
          exact absurd (Nat.le_trans (Nat.le_of_eq this.symm) h2) (Nat.not_succ_le_self _)
  · rintro (h | ⟨ha, hb⟩)
    · exact absurd h hl
    have hR : Lib.trimRightS l cs = l := by
      have := Lib.trimRightS_take l cs l.length (Nat.le_refl _) (fun j b hj hb => by rw [List.getElem?_eq_none hj] at hb; cases hb) (fun b _ hb2 => by
        rw [List.getD_eq_getElem?_getD, hb2] at hb; exact hb)
      rw [this, List.take_length]
    unfold Lib.trimS
    rw [hR]
    have := Lib.trimLeftS_drop l cs 0 (Nat.zero_le _) (fun j b hj => by omega) (fun b hb2 => by
      rw [List.getD_eq_getElem?_getD, hb2] at ha; exact ha)
    rw [this, List.drop_zero]

theorem getD_nat (l : List UInt8) (i : Nat) : (l.getD i 0) = UInt8.ofNat (at_ l i) := by unfold at_; simp

theorem blank_contains (n : Nat) (h : n < 256) : ([32] : List UInt8).contains (UInt8.ofNat n) = (n == 32) := by
  rw [Bool.eq_iff_iff, beq_iff_eq]
  simp only [List.contains_cons, List.contains_nil, Bool.or_false, beq_iff_eq]
  rw [← UInt8.toNat_inj, u8 n h]; rfl

theorem trim_blank (l : List UInt8) : Lib.trimS l [32] = l ↔ l = [] ∨ (at_ l 0 ≠ 32 ∧ at_ l (l.length - 1) ≠ 32) := by
  rw [trim_same, getD_nat, getD_nat, blank_contains _ (at_lt _ _), blank_contains _ (at_lt _ _)]
  simp

theorem toList_mk (l : List UInt8) : (⟨l.toArray⟩ : ByteArray).data.toList = l := rfl

theorem gap_drop (l : List UInt8) (flow : Bool) (h : l ≠ []) : gapB flow (l.drop 1) = (decide (l.length = 1) || at_ l 1 == 32 || (flow && flowAt (at_ l 1))) := by
  unfold gapB
  rw [at_drop]
  congr 2
  rw [Bool.eq_iff_iff, decide_eq_true_iff, decide_eq_true_iff, List.drop_eq_nil_iff]
  have := List.length_pos_iff.2 h
  omega

theorem pIs_j0 (k : Nat) (s : ByteArray) (flow b : Bool) : plain_Is.j0 (k + 1) s flow b = if b = true then (some false) else (if 0 < (s.size : Int) then ((strings_IndexByte.f (⟨#[63, 58, 44, 91, 93, 123, 125, 35, 38, 42, 33, 124, 62, 39, 34, 37, 64, 96]⟩ : ByteArray) (bt s 0)).bind fun t106 => (if t106 ≥ 0 then (plain_Is.j1 k s flow (decide (t106 ≥ 0))) else (if (bt s 0) = 45 then (if 1 ≤ (s.size : Int) then ((plain_isGap.f (s.extract 1 s.size) flow).bind fun t107 => (plain_Is.j1 k s flow t107)) else (none)) else (plain_Is.j1 k s flow false)))) else (none)) := by
  rw [plain_Is.j0]
theorem pIs_j1 (k : Nat) (s : ByteArray) (flow b : Bool) : plain_Is.j1 (k + 1) s flow b = if b = true then (some false) else ((strings_Trim.f s (⟨#[9, 10, 13]⟩ : ByteArray)).bind fun t108 => (if t108.toList = s.toList then ((strings_IndexByte.f s 9).bind fun t109 => (if t109 ≥ 0 then (some false) else ((strings_IndexByte.f s 10).bind fun t110 => (if t110 ≥ 0 then (some false) else ((strings_IndexByte.f s 13).bind fun t111 => (if t111 ≥ 0 then (some false) else ((plain_end.f s flow).bind fun t112 => (some (t112 == (s.size : Int)))))))))) else (some false))) := by
  rw [plain_Is.j1]

theorem idx_pos (l : List UInt8) (c : UInt8) : (Lib.indexByte l c ≥ 0) ↔ ∃ j, j < l.length ∧ at_ l j = c.toNat := by
  rw [← contains_iff, ← index_some]; simp

theorem tail_is (k : Nat) (s : ByteArray) (flow : Bool) (hs : s.size ≤ 140737488351232) (hne : s.data.toList ≠ []) : plain_Is.j1 (k + 1) s flow false = some (okFrom s.data.toList.length s.data.toList flow 0) := by
  have hL := size_list s
  have ho := okAll s.data.toList flow
  have hT : strings_Trim.f s (⟨#[9, 10, 13]⟩ : ByteArray) = some ⟨(Lib.trimS s.data.toList [9, 10, 13]).toArray⟩ := by
    unfold strings_Trim.f; rw [if_pos ⟨by omega, by decide, by decide⟩]
  have e := pIs_j1 k s flow false
  rw [if_neg (by decide), hT, Option.bind_some, Lib.toList_data, Lib.toList_data, toList_mk] at e
  rw [e]
  by_cases hb : ∃ j, j < s.data.toList.length ∧ (at_ s.data.toList j = 9 ∨ at_ s.data.toList j = 10 ∨ at_ s.data.toList j = 13)
  · have hf : okFrom s.data.toList.length s.data.toList flow 0 = false := by
      rw [Bool.eq_false_iff]; intro q
      obtain ⟨j, hj, h3⟩ := hb
      have := (ho.1 q).1 j hj
      omega
    rw [hf]
    split
    · have i9 := index_at s 9 (by decide); have i10 := index_at s 10 (by decide); have i13 := index_at s 13 (by decide)
      rw [show (9 : Int) = ((9 : Nat) : Int) from rfl, show (10 : Int) = ((10 : Nat) : Int) from rfl, show (13 : Int) = ((13 : Nat) : Int) from rfl, i9, i10, i13]
      simp only [Option.bind_some]
      have p9 := idx_pos s.data.toList (UInt8.ofNat 9); have p10 := idx_pos s.data.toList (UInt8.ofNat 10); have p13 := idx_pos s.data.toList (UInt8.ofNat 13)
      split
      · rfl
      · rename_i n9
        split
        · rfl
        · rename_i n10
          split
          · rfl
          · rename_i n13
            obtain ⟨j, hj, h3⟩ := hb
            rcases h3 with h3 | h3 | h3
            · exact absurd (p9.2 ⟨j, hj, h3⟩) n9
            · exact absurd (p10.2 ⟨j, hj, h3⟩) n10
            · exact absurd (p13.2 ⟨j, hj, h3⟩) n13
    · rfl
  · have hn : ∀ j, j < s.data.toList.length → at_ s.data.toList j ≠ 9 ∧ at_ s.data.toList j ≠ 10 ∧ at_ s.data.toList j ≠ 13 := fun j hj =>
      ⟨fun h => hb ⟨j, hj, .inl h⟩, fun h => hb ⟨j, hj, .inr (.inl h)⟩, fun h => hb ⟨j, hj, .inr (.inr h)⟩⟩
    have h0 := List.length_pos_iff.2 hne
    have hc : ∀ j, j < s.data.toList.length → ([9, 10, 13] : List UInt8).contains (s.data.toList.getD j 0) = false := by
      intro j hj
      have := hn j hj
      rw [getD_nat, Bool.eq_false_iff]
      intro q
      have hlt := at_lt s.data.toList j
      simp only [List.contains_cons, List.contains_nil, Bool.or_false, Bool.or_eq_true, beq_iff_eq] at q
      rcases q with q | q | q
      all_goals
        have q2 := congrArg UInt8.toNat q
        rw [u8 _ hlt] at q2
        simp at q2; omega
    have ht : Lib.trimS s.data.toList [9, 10, 13] = s.data.toList := (trim_same _ _).2 (.inr ⟨hc 0 (by omega), hc _ (by omega)⟩)
    rw [if_pos ht]
    have i9 := index_at s 9 (by decide); have i10 := index_at s 10 (by decide); have i13 := index_at s 13 (by decide)
    rw [show (9 : Int) = ((9 : Nat) : Int) from rfl, show (10 : Int) = ((10 : Nat) : Int) from rfl, show (13 : Int) = ((13 : Nat) : Int) from rfl, i9, i10, i13]
    simp only [Option.bind_some]
    rw [if_neg (fun q => by obtain ⟨j, hj, e⟩ := (idx_pos _ _).1 q; exact (hn j hj).1 e), if_neg (fun q => by obtain ⟨j, hj, e⟩ := (idx_pos _ _).1 q; exact (hn j hj).2.1 e),
      if_neg (fun q => by obtain ⟨j, hj, e⟩ := (idx_pos _ _).1 q; exact (hn j hj).2.2 e)]
    unfold plain_end.f
    rw [if_pos hs, Option.bind_some]
    refine congrArg some (Bool.eq_iff_iff.2 ?_)
    rw [ho, beq_iff_eq]
    constructor
    · exact fun q => ⟨hn, by omega⟩
    · intro q; have := q.2; omega

theorem prog_Is (k : Nat) (s : ByteArray) (flow : Bool) (hs : s.size ≤ 140737488351232) : plain_Is.f (k + 2) s flow = some (isB s.data.toList flow) := by
  have hL := size_list s
  unfold plain_Is.f isB
  rw [Lib.toList_data]
  by_cases h0 : s.data.toList = []
  · rw [if_pos h0, h0, pIs_j0, if_pos rfl]; simp
  have hpos := List.length_pos_iff.2 h0
  rw [if_neg h0, decide_eq_true h0]
  by_cases h1 : s.data.toList = [45, 45, 45]
  · rw [if_pos h1, h1, pIs_j0, if_pos rfl]; simp
  have hT : strings_Trim.f s (⟨#[32]⟩ : ByteArray) = some ⟨(Lib.trimS s.data.toList [32]).toArray⟩ := by
    unfold strings_Trim.f; rw [if_pos ⟨by omega, by decide, by decide⟩]
  have hC : utf_Check.f s = some (fault s.data.toList) := by unfold utf_Check.f; rw [if_pos hs]
  rw [if_neg h1, hT, hC, decide_eq_true h1]
  simp only [Option.bind_some]
  rw [Lib.toList_data, toList_mk]
  have htb := trim_blank s.data.toList
  by_cases h2 : Lib.trimS s.data.toList [32] = s.data.toList
  · rw [if_pos h2]
    rcases htb.1 h2 with h | ⟨ha, hb⟩
    · exact absurd h h0
    have ha' : (at_ s.data.toList 0 != 32) = true := by simpa using ha
    have hb' : (at_ s.data.toList (s.data.toList.length - 1) != 32) = true := by simpa using hb
    rw [ha', hb']
    have hf : (!((fault s.data.toList).1 == 0) || (!((fault s.data.toList).2 == 0))) = !decide (fault s.data.toList = (0, 0)) := by
      generalize fault s.data.toList = f
      obtain ⟨a, b⟩ := f
      by_cases x : a = 0 <;> by_cases y : b = 0 <;> simp [x, y]
    rw [hf]
    cases hfd : decide (fault s.data.toList = (0, 0)) with
    | false => rw [pIs_j0, Bool.not_false, if_pos rfl]; rfl
    | true =>
      have e := pIs_j0 (k + 1) s flow (!true)
      rw [if_neg (by decide), if_pos (by omega)] at e
      unfold strings_IndexByte.f at e
      rw [Option.bind_some, bt_zero] at e
      have him := index_mark (at_ s.data.toList 0) (at_lt _ _)
      rw [e]
      cases hm : markAt (at_ s.data.toList 0) with
      | true =>
        rw [hm, decide_eq_true_iff] at him
        rw [if_pos him, decide_eq_true him, pIs_j1, if_pos rfl]; simp
      | false =>
        rw [hm, decide_eq_false_iff_not] at him
        rw [if_neg him]
        by_cases hd : at_ s.data.toList 0 = 45
        · rw [if_pos (by omega), if_pos (by omega), prog_isGap, Option.bind_some, drop_list, gap_drop _ _ h0, hd]
          by_cases h45 : s.data.toList.length = 1
          · have : s.data.toList = [45] := by
              obtain ⟨c, hc⟩ := List.length_eq_one_iff.1 h45
              rw [hc] at hd ⊢
              have : c.toNat = 45 := hd
              rw [show c = 45 from UInt8.toNat_inj.1 this]
            rw [decide_eq_true h45, pIs_j1, Bool.true_or, Bool.true_or, if_pos rfl, decide_eq_false (fun q => q this)]
            simp
          · have hn : s.data.toList ≠ [45] := fun q => h45 (by rw [q]; rfl)
            rw [decide_eq_false h45, decide_eq_true hn, Bool.false_or]
            cases hg : (at_ s.data.toList 1 == 32 || (flow && flowAt (at_ s.data.toList 1))) with
            | true => rw [pIs_j1, if_pos rfl]; simp
            | false => rw [tail_is k s flow hs h0]; simp
        · have hn : s.data.toList ≠ [45] := fun q => hd (by rw [q]; rfl)
          have hd' : (at_ s.data.toList 0 == 45) = false := by simpa using hd
          rw [if_neg (by omega), tail_is k s flow hs h0, decide_eq_true hn, hd']; simp
  · rw [if_neg h2, pIs_j0, if_pos rfl]
    have hx : at_ s.data.toList 0 = 32 ∨ at_ s.data.toList (s.data.toList.length - 1) = 32 := by
      by_cases x : at_ s.data.toList 0 = 32
      · exact .inl x
      · by_cases y : at_ s.data.toList (s.data.toList.length - 1) = 32
        · exact .inr y
        · exact absurd (htb.2 (.inr ⟨x, y⟩)) h2
    rcases hx with x | x
    · rw [x]; simp
    · rw [x]; simp

/-! Cut -/
theorem trimR_keeps (l : List UInt8) : ∀ n j, trimR l n ≤ j → j < n → at_ l j = 32
  | 0, _, _, h => by omega
  | n + 1, j, h1, h2 => by
    unfold trimR at h1
    by_cases a : at_ l n = 32
    · rw [if_pos a] at h1
      by_cases e : j = n
      · subst e; exact a
      · exact trimR_keeps l n j h1 (by omega)
    · rw [if_neg a] at h1; omega
theorem trimR_last (l : List UInt8) : ∀ n, 0 < trimR l n → at_ l (trimR l n - 1) ≠ 32
  | 0, h => by simp [trimR] at h
  | n + 1, h => by
    by_cases a : at_ l n = 32
    · have e : trimR l (n + 1) = trimR l n := by rw [trimR, if_pos a]
      rw [e] at h ⊢
      exact trimR_last l n h
    · have e : trimR l (n + 1) = n + 1 := by rw [trimR, if_neg a]
      rw [e]; exact a

theorem trimRight_take (l : List UInt8) (n : Nat) (h : n ≤ l.length) : Lib.trimRightS (l.take n) [32] = l.take (trimR l n) := by
  have hle := trimR_le l n
  have hlen : (l.take n).length = n := by rw [List.length_take]; omega
  have hg : ∀ j b, (l.take n)[j]? = some b → j < n ∧ b = UInt8.ofNat (at_ l j) := by
    intro j b hb
    have hj : j < n := by
      by_cases q : j < n
      · exact q
      · rw [List.getElem?_eq_none (by omega)] at hb; cases hb
    rw [List.getElem?_take, if_pos hj] at hb
    refine ⟨hj, ?_⟩
    rw [← getD_nat, List.getD_eq_getElem?_getD, hb]; rfl
  have := Lib.trimRightS_take (l.take n) [32] (trimR l n) (by omega) (fun j b hj hb => by
      obtain ⟨h1, rfl⟩ := hg j b hb
      rw [blank_contains _ (at_lt _ _), trimR_keeps l n j hj h1]; rfl) (fun b h0 hb => by
      obtain ⟨h1, rfl⟩ := hg _ b hb
      rw [blank_contains _ (at_lt _ _)]
      simpa using trimR_last l n h0)
  rw [this, List.take_take, Nat.min_eq_left hle]

theorem extract_mk (s : ByteArray) (n : Nat) : s.extract 0 n = ⟨(s.data.toList.take n).toArray⟩ := by
  apply of_list
  rw [Lib.extract_data]; simp

theorem prog_Cut (s : ByteArray) (flow : Bool) (hs : s.size ≤ 140737488351232) :
    plain_Cut.f s flow = some (s.extract 0 (trimR s.data.toList (endOf s.data.toList flow)), (endOf s.data.toList flow : Int)) := by
  have hL := size_list s
  have he := endOf_le s.data.toList flow
  unfold plain_Cut.f plain_end.f
  rw [if_pos hs, Option.bind_some, if_pos (by omega), if_pos (by omega), Int.toNat_natCast]
  unfold strings_TrimRight.f
  have hz : (s.extract 0 (endOf s.data.toList flow)).size ≤ 9223372036854775807 := by rw [size_list, extract_mk, toList_mk, List.length_take]; omega
  rw [if_pos ⟨hz, by decide, by decide⟩, Option.bind_some, extract_mk, toList_mk, trimRight_take _ _ he, extract_mk]

/-! the reference's Is -/
theorem ref_is (s : ByteArray) (flow : Bool) (hs : s.size ≤ 140737488351232) : Ev (fun k => grommetref06_Is.f k s flow) (isB s.data.toList flow) := by
  have hL := size_list s
  have hfrom := is_from s flow hs s.size 0
  obtain ⟨K, hK⟩ := check_ev s hs
  refine Ev.of (fun k => grommetref06_Is.mono s flow k) (k := K + s.size + 60) ?_
  unfold grommetref06_Is.f isB
  rw [show grommetref01_Check.f (K + s.size + 60) s = some (fault s.data.toList) from hK _ (by omega), Option.bind_some, Lib.toList_data]
  have hw : ∀ q : 0 < s.size, wrap64 ((s.size : Int) - 1) = ((s.size - 1 : Nat) : Int) := fun q => by unfold wrap64; omega
  by_cases hf : (fault s.data.toList).1 = 0
  · have hfd : decide (fault s.data.toList = (0, 0)) = true := by
      rw [decide_eq_true_iff]
      unfold fault at hf ⊢
      split
      · rename_i c; rw [if_pos c] at hf; cases hf
      · rfl
    rw [if_pos hf, hfd]
    have hj : ∀ b : Bool, grommetref06_Is.j0 (K + s.size + 60) s flow b = some (!b && okFrom s.data.toList.length s.data.toList flow 0) := by
      intro b
      rw [show K + s.size + 60 = K + s.size + 59 + 1 from rfl, is_j0]
      cases b with
      | true => rw [if_pos rfl]; rfl
      | false =>
        have := hfrom (K + s.size + 59) (by omega) (by omega) (by omega)
        rw [show ((0 : Nat) : Int) = 0 from rfl] at this
        rw [if_neg (by decide), this, hL]; rfl
    simp only [hj]
    by_cases h0 : s.data.toList = []
    · rw [if_pos h0, h0]; rfl
    rw [if_neg h0, decide_eq_true h0]
    by_cases h1 : s.data.toList = [45]
    · rw [if_pos h1, h1]; rfl
    rw [if_neg h1, decide_eq_true h1]
    by_cases h2 : s.data.toList = [45, 45, 45]
    · rw [if_pos h2, h2]; rfl
    have hpos := List.length_pos_iff.2 h0
    rw [if_neg h2, decide_eq_true h2, if_pos (by omega), bt_zero]
    by_cases h3 : at_ s.data.toList 0 = 32
    · rw [if_pos (by omega), h3]; rfl
    have h3' : (at_ s.data.toList 0 != 32) = true := by simpa using h3
    rw [if_neg (by omega), h3', hw (by omega), if_pos (by omega), if_pos (by omega), bt_at_, hL]
    by_cases h4 : at_ s.data.toList (s.data.toList.length - 1) = 32
    · rw [if_pos (by omega), h4]; rfl
    have h4' : (at_ s.data.toList (s.data.toList.length - 1) != 32) = true := by simpa using h4
    have hmk : ∀ c : Nat, grommetref06_Has.f (K + s.data.toList.length + 60) (⟨#[63, 58, 44, 91, 93, 123, 125, 35, 38, 42, 33, 124, 62, 39, 34, 37, 64, 96]⟩ : ByteArray) (c : Int) = some (markAt c) := fun c => has_marks (K + s.data.toList.length + 20) c
    have hfl : ∀ c : Nat, grommetref06_Has.f (K + s.data.toList.length + 60) (⟨#[44, 91, 93, 123, 125]⟩ : ByteArray) (c : Int) = some (flowAt c) := fun c => has_flows (K + s.data.toList.length + 20) c
    rw [if_neg (by omega), h4', hmk, Option.bind_some]
    cases hm : markAt (at_ s.data.toList 0) with
    | true => rw [if_pos rfl]; rfl
    | false =>
      rw [if_neg (by decide)]
      by_cases hd : at_ s.data.toList 0 = 45
      · have h45 : 1 < s.data.toList.length := by
          by_cases q : 1 < s.data.toList.length
          · exact q
          · obtain ⟨c, hc⟩ := List.length_eq_one_iff.1 (show s.data.toList.length = 1 by omega)
            rw [hc] at hd h1
            have : c.toNat = 45 := hd
            exact absurd (by rw [show c = 45 from UInt8.toNat_inj.1 this]) h1
        rw [if_pos (by omega), if_pos (by omega), show bt s 1 = (at_ s.data.toList 1 : Int) from bt_at_ s 1, hd]
        by_cases h5 : at_ s.data.toList 1 = 32
        · rw [if_pos (by omega), h5]; rfl
        have h5' : (at_ s.data.toList 1 == 32) = false := by simpa using h5
        rw [if_neg (by omega), h5']
        cases flow with
        | true => rw [if_pos rfl, hfl, Option.bind_some]; simp
        | false => rw [if_neg (by decide)]; simp
      · have hd' : (at_ s.data.toList 0 == 45) = false := by simpa using hd
        rw [if_neg (by omega), hd']; simp
  · have hfd : decide (fault s.data.toList = (0, 0)) = false := by
      rw [decide_eq_false_iff_not]; intro q; rw [q] at hf; exact hf rfl
    rw [if_neg hf, hfd, show K + s.size + 60 = K + s.size + 59 + 1 from rfl, is_j0, if_pos rfl]; simp
end Go.Proofs.YtephdpgkildeoaaDoor.Plain

/- The package's example (a key is cut, and five answers more) holds; the pure statements that the program's answers are the reference's on Is and Cut. -/
namespace Go.Proofs.YtephdpgkildeoaaDoor.Plain
open Go.RowKit Go.Proofs.YtephdpgkildeoaaDoor.PX Go.Proofs.YtephdpgkildeoaaDoor.Plug Go.Proofs.YtephdpgkildeoaaDoor.Utf Go.Proofs.YtephdpgkildeoaaDoorW.PrintWords Go.Proofs.YtephdpgkildeoaaDoorW.PrintLast

theorem num5 : numB [45, 53] = (-5, true) := by decide +kernel
theorem text10 : Lib.itoa 10 = [49, 48] := by decide +kernel
theorem cutA : plain_Cut.f (⟨#[97, 32, 98, 58, 32, 99]⟩ : ByteArray) false = some (⟨#[97, 32, 98]⟩, 3) := by
  rw [prog_Cut _ _ (by decide)]; rfl
theorem isA : isB [45, 53] true = true := by decide +kernel
theorem isN : isB [97, 58, 32, 98] false = false := by decide +kernel

theorem alive_eq (k : Nat) : grommetlaw06_alive.f (k + 2) = some true := by
  unfold grommetlaw06_alive.f
  have e1 : plain_Number.f (⟨#[45, 53]⟩ : ByteArray) = some (-5, true) := by unfold plain_Number.f; rw [if_pos (by decide)]; exact congrArg some num5
  have e2 : plain_Is.f (k + 2) (⟨#[45, 53]⟩ : ByteArray) true = some true := by rw [prog_Is k _ _ (by decide)]; exact congrArg some isA
  have e3 : plain_Is.f (k + 2) (⟨#[97, 58, 32, 98]⟩ : ByteArray) false = some false := by rw [prog_Is k _ _ (by decide)]; exact congrArg some isN
  have e4 : plain_Text.f 10 = some ⟨([49, 48] : List UInt8).toArray⟩ := by unfold plain_Text.f strconv_Itoa.f; rw [if_pos (by decide), text10]; rfl
  have e5 : plain_Resolve.f (⟨#[]⟩ : ByteArray) = some 1 := rfl
  rw [cutA, e1, e2, e3, e4, e5]
  simp only [Option.bind_some, Lib.toList_data]
  rfl
theorem alive_ev : Ev (fun k => grommetlaw06_alive.f k) true := ⟨2, fun k hk => by
  obtain ⟨k, rfl⟩ : ∃ m, k = m + 2 := ⟨k - 2, by omega⟩
  exact alive_eq k⟩
theorem is_ev (s : ByteArray) (flow : Bool) (hs : s.size ≤ 140737488351232) : Ev (fun k => plain_Is.f k s flow) (isB s.data.toList flow) := ⟨2, fun k hk => by
  obtain ⟨k, rfl⟩ : ∃ m, k = m + 2 := ⟨k - 2, by omega⟩
  exact prog_Is k s flow hs⟩

/-- A plain text has no end in it, and no blank at its ends. -/
theorem isB_parts {l : List UInt8} {flow : Bool} (h : isB l flow = true) : l ≠ [] ∧ at_ l (l.length - 1) ≠ 32 ∧ endOf l flow = l.length := by
  unfold isB at h
  simp only [Bool.and_eq_true, decide_eq_true_eq, bne_iff_ne, ne_eq] at h
  obtain ⟨⟨⟨⟨⟨⟨⟨⟨_, h1⟩, _⟩, _⟩, _⟩, h5⟩, _⟩, _⟩, h8⟩ := h
  exact ⟨h1, h5, ((okAll l flow).1 h8).2⟩

theorem trimR_whole (l : List UInt8) (n : Nat) (h0 : 0 < n) (h : at_ l (n - 1) ≠ 32) : trimR l n = n := by
  obtain ⟨n, rfl⟩ : ∃ m, n = m + 1 := ⟨n - 1, by omega⟩
  rw [trimR]; exact if_neg h

theorem endsAt_false (l : List UInt8) (i : Nat) (h : endsAt l true i = false) : endsAt l false i = false := by
  unfold endsAt at h ⊢
  simp only [Bool.or_eq_false_iff, Bool.and_eq_false_iff, Bool.true_and, Bool.false_and, Bool.or_false] at h ⊢
  obtain ⟨⟨h1, h2⟩, h3⟩ := h
  refine ⟨?_, h2⟩
  rcases h1 with h1 | h1
  · exact .inl h1
  · exact .inr h1.1

theorem isB_flow {l : List UInt8} {flow : Bool} (h : isB l flow = true) : isB l false = true := by
  cases flow with
  | false => exact h
  | true =>
    unfold isB at h ⊢
    simp only [Bool.and_eq_true, decide_eq_true_eq, bne_iff_ne, ne_eq, Bool.not_eq_true'] at h ⊢
    obtain ⟨⟨⟨⟨⟨⟨⟨⟨h0, h1⟩, h2⟩, h3⟩, h4⟩, h5⟩, h6⟩, h7⟩, h8⟩ := h
    refine ⟨⟨⟨⟨⟨⟨⟨⟨h0, h1⟩, h2⟩, h3⟩, h4⟩, h5⟩, h6⟩, ?_⟩, ?_⟩
    · simp only [Bool.and_eq_false_iff, Bool.or_eq_false_iff, Bool.true_and, Bool.false_and] at h7 ⊢
      rcases h7 with h7 | h7
      · exact .inl h7
      · exact .inr ⟨h7.1, trivial⟩
    · rw [okFrom_iff] at h8 ⊢
      intro j a b c
      have := h8 j a b c
      unfold okAt at this ⊢
      simp only [Bool.and_eq_true, Bool.not_eq_true'] at this ⊢
      exact ⟨this.1, endsAt_false l j this.2⟩

theorem isB_nil (flow : Bool) : isB [] flow = false := by unfold isB; simp
end Go.Proofs.YtephdpgkildeoaaDoor.Plain

/- A number's text, in plain terms: it is read back as the number, all its bytes are digits behind a sign, and it is plain. No program in sight. -/
namespace Go.Proofs.YtephdpgkildeoaaDoor.Plain
open Go.RowKit Go.Proofs.YtephdpgkildeoaaDoor.PX Go.Proofs.YtephdpgkildeoaaDoor.Utf Go.Proofs.YtephdpgkildeoaaDoor.Plug Go.Proofs.YtephdpgkildeoaaDoorW.PrintWords Go.Proofs.YtephdpgkildeoaaDoorW.PrintLast

theorem parse_append : ∀ (l r : List UInt8) (acc a : Nat), Lib.parseUint10 acc l = .ok a → Lib.parseUint10 acc (l ++ r) = Lib.parseUint10 a r
  | [], r, acc, a, h => by
    simp only [Lib.parseUint10] at h
    injection h with h
    rw [h]; rfl
  | c :: l, r, acc, a, h => by
    simp only [List.cons_append, Lib.parseUint10] at h ⊢
    by_cases h1 : 48 ≤ c.toNat ∧ c.toNat ≤ 57
    · rw [if_pos h1] at h ⊢
      by_cases h2 : 1844674407370955162 ≤ acc
      · rw [if_pos h2] at h; cases h
      · rw [if_neg h2] at h ⊢
        by_cases h3 : 18446744073709551616 ≤ acc * 10 + (c.toNat - 48)
        · rw [if_pos h3] at h; cases h
        · rw [if_neg h3] at h ⊢
          exact parse_append l r _ a h
    · rw [if_neg h1] at h; cases h

theorem digit_nat (d : Nat) (h : d < 10) : (UInt8.ofNat (48 + d)).toNat = 48 + d := by
  simp only [UInt8.toNat_ofNat']; omega

theorem parse_dec (u : Nat) : u < 18446744073709551616 → Lib.parseUint10 0 (Lib.decDigits u) = .ok u := by
  induction u using Nat.strongRecOn with
  | _ u ih =>
    intro hu
    rw [Lib.decDigits]
    by_cases h : u < 10
    · rw [dif_pos h]
      have e := digit_nat u h
      simp only [Lib.parseUint10, e]
      rw [if_pos (by omega), if_neg (by omega), if_neg (by omega)]
      congr 1; omega
    · rw [dif_neg h, parse_append _ _ 0 (u / 10) (ih (u / 10) (by omega) (by omega))]
      have e := digit_nat (u % 10) (by omega)
      simp only [Lib.parseUint10, e]
      rw [if_pos (by omega), if_neg (by omega), if_neg (by omega)]
      congr 1; omega

theorem dec_ne (u : Nat) : Lib.decDigits u ≠ [] := by
  rw [Lib.decDigits]
  by_cases h : u < 10
  · rw [dif_pos h]; simp
  · rw [dif_neg h]; simp

theorem dec_digit (u : Nat) : ∀ c ∈ Lib.decDigits u, 48 ≤ c.toNat ∧ c.toNat ≤ 57 := by
  induction u using Nat.strongRecOn with
  | _ u ih =>
    rw [Lib.decDigits]
    by_cases h : u < 10
    · rw [dif_pos h]
      intro c hc
      rw [List.mem_singleton] at hc
      subst hc
      rw [digit_nat u h]; omega
    · rw [dif_neg h]
      intro c hc
      rcases List.mem_append.1 hc with hc | hc
      · exact ih (u / 10) (by omega) c hc
      · rw [List.mem_singleton] at hc
        subst hc
        rw [digit_nat (u % 10) (by omega)]; omega

theorem itoa_back (n : Int) (h0 : -9223372036854775808 ≤ n) (h1 : n ≤ 9223372036854775807) : Lib.atoiAll (Lib.itoa n) = .ok n := by
  unfold Lib.itoa
  by_cases h : n < 0
  · rw [if_pos h, Lib.atoiAll_minus]
    unfold Lib.parseMag
    rw [if_neg (dec_ne _), parse_dec _ (by omega)]
    unfold Lib.signed
    simp only
    rw [if_neg (by omega)]
    congr 1; omega
  · rw [if_neg h]
    have hd := dec_digit n.toNat
    have hp := parse_dec n.toNat (by omega)
    have hn := dec_ne n.toNat
    generalize Lib.decDigits n.toNat = l at hd hp hn
    cases l with
    | nil => exact absurd rfl hn
    | cons c r =>
      have hc := hd c (by simp)
      rw [Lib.atoiAll_plain c r (by omega) (by omega)]
      unfold Lib.parseMag
      rw [if_neg (by simp), hp]
      unfold Lib.signless
      simp only
      rw [if_neg (by omega)]
      congr 1; omega

theorem num_itoa (n : Int) (h0 : -9223372036854775808 ≤ n) (h1 : n ≤ 9223372036854775807) : numB (Lib.itoa n) = (n, true) := by
  unfold numB
  rw [itoa_back n h0 h1]
  simp

/-- A sign or none, then digits, and at least one. -/
def signed_ (l : List UInt8) : Prop := ∃ r : List UInt8, r ≠ [] ∧ (∀ c ∈ r, 48 ≤ c.toNat ∧ c.toNat ≤ 57) ∧ (l = r ∨ l = 45 :: r)
theorem itoa_signed (n : Int) : signed_ (Lib.itoa n) := by
  unfold Lib.itoa
  by_cases h : n < 0
  · rw [if_pos h]; exact ⟨_, dec_ne _, dec_digit _, .inr rfl⟩
  · rw [if_neg h]; exact ⟨_, dec_ne _, dec_digit _, .inl rfl⟩

theorem at_mem (l : List UInt8) (j : Nat) (h : j < l.length) : ∃ c ∈ l, at_ l j = c.toNat := ⟨l[j], List.getElem_mem h, by unfold at_; rw [List.getD_eq_getElem?_getD, List.getElem?_eq_getElem h]; rfl⟩
theorem at_out (l : List UInt8) (j : Nat) (h : l.length ≤ j) : at_ l j = 0 := by unfold at_; rw [List.getD_eq_getElem?_getD, List.getElem?_eq_none h]; rfl
theorem at_cons (c : UInt8) (l : List UInt8) (j : Nat) : at_ (c :: l) (j + 1) = at_ l j := by unfold at_; rfl

/-- Every byte of it is a digit, but for a sign ahead. -/
theorem signed_at {l : List UInt8} (h : signed_ l) : (∀ j, j < l.length → (48 ≤ at_ l j ∧ at_ l j ≤ 57) ∨ (at_ l j = 45 ∧ j = 0)) ∧ (at_ l 0 = 45 → 48 ≤ at_ l 1 ∧ at_ l 1 ≤ 57) ∧ 0 < l.length := by
  obtain ⟨r, hr, hd, rfl | rfl⟩ := h
  · have hl := List.length_pos_iff.2 hr
    have hat : ∀ j, j < l.length → 48 ≤ at_ l j ∧ at_ l j ≤ 57 := fun j hj => by
      obtain ⟨c, hc, e⟩ := at_mem l j hj
      rw [e]; exact hd c hc
    refine ⟨fun j hj => .inl (hat j hj), fun q => ?_, hl⟩
    have := hat 0 hl
    omega
  · have hl := List.length_pos_iff.2 hr
    refine ⟨fun j hj => ?_, fun _ => ?_, by simp⟩
    · cases j with
      | zero => exact .inr ⟨rfl, rfl⟩
      | succ j =>
        rw [at_cons]
        obtain ⟨c, hc, e⟩ := at_mem r j (by simpa using hj)
        rw [e]; exact .inl (hd c hc)
    · rw [show (1 : Nat) = 0 + 1 from rfl, at_cons]
      obtain ⟨c, hc, e⟩ := at_mem r 0 hl
      rw [e]; exact hd c hc

theorem dec_ascii (l : List UInt8) (h : l ≠ []) (h0 : at_ l 0 < 128) : dec l = ((at_ l 0 : Int), 1) := by
  have hl := List.length_pos_iff.2 h
  unfold dec
  rw [if_neg h]
  have e : Lib.decodeN l.length (at_ l 0) (at_ l 1) (at_ l 2) (at_ l 3) = (at_ l 0, 1) := by
    unfold Lib.decodeN
    simp [h0]
  rw [e, if_neg (by simp; omega)]

/-- Texts of printable ASCII are whole signs. -/
theorem stop_ascii (l : List UInt8) (h : ∀ j, j < l.length → 32 ≤ at_ l j ∧ at_ l j ≤ 126) : ∀ k i, i ≤ l.length → l.length ≤ i + k → stopF k l i = l.length
  | 0, i, hi, hk => by unfold stopF; omega
  | k + 1, i, hi, hk => by
    unfold stopF
    by_cases q : i < l.length
    · have ha : at_ (l.drop i) 0 = at_ l i := by rw [at_drop, Nat.add_zero]
      have hb := h i q
      have hd := dec_ascii (l.drop i) (by simp; omega) (by rw [ha]; omega)
      rw [if_pos q, hd, ha]
      simp only
      rw [if_pos (by unfold prt; simp; omega)]
      exact stop_ascii l h k (i + 1) (by omega) (by omega)
    · rw [if_neg q]; omega

theorem fault_ascii (l : List UInt8) (h : ∀ j, j < l.length → 32 ≤ at_ l j ∧ at_ l j ≤ 126) : fault l = (0, 0) := by
  unfold fault stop
  rw [stop_ascii l h l.length 0 (by omega) (by omega), if_neg (by omega)]

theorem flow_digit (c : Nat) (h : (48 ≤ c ∧ c ≤ 57) ∨ c = 45) : flowAt c = false := by
  unfold flowAt
  simp only [Bool.or_eq_false_iff, beq_eq_false_iff_ne]
  omega

theorem mark_digit (c : Nat) (h : (48 ≤ c ∧ c ≤ 57) ∨ c = 45) : markAt c = false := by
  unfold markAt
  simp only [Bool.or_eq_false_iff, beq_eq_false_iff_ne]
  omega

theorem signed_plain {l : List UInt8} (h : signed_ l) (flow : Bool) : isB l flow = true := by
  obtain ⟨hat, h1, hl⟩ := signed_at h
  have hf : ∀ j, j < l.length → flowAt (at_ l j) = false := fun j hj => flow_digit _ ((hat j hj).imp id (·.1))
  have h0 := hat 0 hl
  have hz := hat (l.length - 1) (by omega)
  unfold isB
  simp only [Bool.and_eq_true, decide_eq_true_eq, bne_iff_ne, ne_eq, Bool.not_eq_true']
  refine ⟨⟨⟨⟨⟨⟨⟨⟨fault_ascii l fun j hj => ?_, ?_⟩, ?_⟩, ?_⟩, ?_⟩, ?_⟩, ?_⟩, ?_⟩, ?_⟩
  · have := hat j hj; omega
  · rintro rfl; exact absurd hl (by simp)
  · rintro rfl
    have := h1 rfl
    rw [show at_ [45] 1 = 0 from rfl] at this
    omega
  · rintro rfl
    have := h1 rfl
    rw [show at_ [45, 45, 45] 1 = 45 from rfl] at this
    omega
  · omega
  · omega
  · exact mark_digit _ (h0.imp id (·.1))
  · by_cases q : at_ l 0 = 45
    · have := h1 q
      rw [flow_digit _ (.inl this)]
      simp
      intro _; omega
    · simp [q]
  · rw [okFrom_iff]
    intro j _ _ hj
    have ha := hat j hj
    unfold okAt endsAt
    rw [hf j hj]
    have e9 : (at_ l j != 9) = true := by simp; omega
    have e10 : (at_ l j != 10) = true := by simp; omega
    have e13 : (at_ l j != 13) = true := by simp; omega
    have e58 : (at_ l j == 58) = false := by simp; omega
    have e35 : (at_ l j == 35) = false := by simp; omega
    rw [e9, e10, e13, e58, e35]
    simp

theorem signed_res {l : List UInt8} (h : signed_ l) (hn : (numB l).2 = true) : resB l = 3 := by
  obtain ⟨hat, _, hl⟩ := signed_at h
  have h0 := hat 0 hl
  unfold resB
  rw [if_neg, if_neg, if_pos hn]
  · rintro (rfl | rfl)
    · rw [show at_ [116, 114, 117, 101] 0 = 116 from rfl] at h0; omega
    · rw [show at_ [102, 97, 108, 115, 101] 0 = 102 from rfl] at h0; omega
  · rintro (rfl | rfl | rfl)
    · exact absurd hl (by simp)
    · rw [show at_ [126] 0 = 126 from rfl] at h0; omega
    · rw [show at_ [110, 117, 108, 108] 0 = 110 from rfl] at h0; omega
end Go.Proofs.YtephdpgkildeoaaDoor.Plain

/- What the reference's Text, Number and Resolve come to: the program's own. -/
namespace Go.Proofs.YtephdpgkildeoaaDoor.Plain
open Go.RowKit Go.Proofs.YtephdpgkildeoaaDoor.PX Go.Proofs.YtephdpgkildeoaaDoor.Utf Go.Proofs.YtephdpgkildeoaaDoor.Plug Go.Proofs.YtephdpgkildeoaaDoorW.PrintWords Go.Proofs.YtephdpgkildeoaaDoorW.PrintLast

theorem nums_one (n : Int) : (strOfNums [n]).data.toList = [UInt8.ofNat n.toNat] := rfl
theorem nums_size (n : Int) : (strOfNums [n]).size = 1 := rfl

theorem text_l0 (k : Nat) (n : Int) (acc : ByteArray) (b : Bool) : grommetref06_Text.l0 (k + 1) n acc b = if b = true then ((some (([(wrap64 (48 + (Int.tmod n 10))) % 256] : List Int) : List Int)).bind fun y180 => (if (strOfNums y180).size + acc.size ≤ 9223372036854775807 then (grommetref06_Text.l0 k (wrap64 (Int.tdiv n 10)) ((strOfNums y180) ++ acc) false) else (none))) else (if n > 0 then ((some (([(wrap64 (48 + (Int.tmod n 10))) % 256] : List Int) : List Int)).bind fun y183 => (if (strOfNums y183).size + acc.size ≤ 9223372036854775807 then (grommetref06_Text.l0 k (wrap64 (Int.tdiv n 10)) ((strOfNums y183) ++ acc) false) else (none))) else (some acc)) := by
  rw [grommetref06_Text.l0]

theorem text_step (k : Nat) (u : Nat) (hu : u < 9223372036854775808) (acc : ByteArray) (ha : acc.size ≤ 100) (b : Bool) (h : b = true ∨ 0 < u) :
    grommetref06_Text.l0 (k + 1) (u : Int) acc b = grommetref06_Text.l0 k ((u / 10 : Nat) : Int) (strOfNums [((48 + u % 10 : Nat) : Int)] ++ acc) false := by
  have e1 : (wrap64 (48 + (Int.tmod (u : Int) 10))) % 256 = ((48 + u % 10 : Nat) : Int) := by
    rw [Int.tmod_eq_emod_of_nonneg (by omega)]; unfold wrap64; omega
  have e2 : wrap64 (Int.tdiv (u : Int) 10) = ((u / 10 : Nat) : Int) := by
    rw [Int.tdiv_eq_ediv_of_nonneg (by omega)]; unfold wrap64; omega
  rw [text_l0, e1, e2]
  by_cases hb : b = true
  · rw [if_pos hb, Option.bind_some, if_pos (by rw [nums_size]; omega)]
  · have hp := h.resolve_left hb
    rw [if_neg hb, if_pos (by omega), Option.bind_some, if_pos (by rw [nums_size]; omega)]

theorem text_stop (k : Nat) (acc : ByteArray) : grommetref06_Text.l0 (k + 1) ((0 : Nat) : Int) acc false = some acc := by
  rw [text_l0, if_neg (by decide), if_neg (by decide)]

theorem join_list (a b : ByteArray) : (a ++ b).data.toList = a.data.toList ++ b.data.toList := by simp
theorem bytes_ext {a b : ByteArray} (h : a.data.toList = b.data.toList) : a = b := by
  cases a with
  | mk a => cases b with
    | mk b => exact congrArg _ (Array.ext' h)

/-- The loop puts the digits ahead. -/
theorem text_more (d : Nat) : ∀ (u : Nat) (k : Nat) (acc : ByteArray), u < 10 ^ d → d ≤ 19 → u < 9223372036854775808 → acc.size ≤ 100 - d → d < k → 0 < u →
    ∃ r, grommetref06_Text.l0 k (u : Int) acc false = some r ∧ r.data.toList = Lib.decDigits u ++ acc.data.toList := by
  induction d with
  | zero => intro u k acc hu _ _ _ _ h0; simp at hu; omega
  | succ d ih =>
    intro u k acc hu hd hb ha hk h0
    obtain ⟨k, rfl⟩ : ∃ m, k = m + 1 := ⟨k - 1, by omega⟩
    rw [text_step k u hb acc (by omega) false (.inr h0), Lib.decDigits]
    by_cases q : u < 10
    · obtain ⟨k, rfl⟩ : ∃ m, k = m + 1 := ⟨k - 1, by omega⟩
      rw [dif_pos q, show u / 10 = 0 by omega, text_stop]
      exact ⟨_, rfl, by rw [join_list, nums_one, Nat.mod_eq_of_lt q]; rfl⟩
    · rw [dif_neg q]
      have h10 : u / 10 < 10 ^ d := by rw [Nat.pow_succ] at hu; omega
      obtain ⟨r, e, hr⟩ := ih (u / 10) k (strOfNums [((48 + u % 10 : Nat) : Int)] ++ acc) h10 (by omega) (by omega) (by rw [ByteArray.size_append, nums_size]; omega) (by omega) (by omega)
      exact ⟨r, e, by rw [hr, join_list, nums_one, List.append_assoc]; rfl⟩

theorem text_up (u : Nat) (hu : u < 9223372036854775808) (K : Nat) : grommetref06_Text.l0 (K + 30) (u : Int) (⟨#[]⟩ : ByteArray) true = some ⟨(Lib.decDigits u).toArray⟩ := by
  rw [show K + 30 = K + 29 + 1 from rfl, text_step (K + 29) u hu _ (by decide) true (.inl rfl)]
  rw [Lib.decDigits]
  by_cases q : u < 10
  · rw [dif_pos q, show u / 10 = 0 by omega, text_stop]
    exact congrArg some (bytes_ext (by rw [join_list, nums_one, Nat.mod_eq_of_lt q]; rfl))
  · rw [dif_neg q]
    obtain ⟨r, e, hr⟩ := text_more 19 (u / 10) (K + 29) (strOfNums [((48 + u % 10 : Nat) : Int)] ++ (⟨#[]⟩ : ByteArray)) (by omega) (by decide) (by omega) (by rw [ByteArray.size_append, nums_size]; decide) (by omega) (by omega)
    rw [e]
    exact congrArg some (bytes_ext (by rw [hr, join_list, nums_one]; rfl))

theorem text_f (k : Nat) (n : Int) : grommetref06_Text.f (k + 1) n = if n < 0 then (if n ≤ (-10) then ((grommetref06_Text.f k (wrap64 (-(wrap64 (Int.tdiv n 10))))).bind fun t173 => (if 1 + t173.size ≤ 9223372036854775807 then ((some (([(wrap64 (48 - (Int.tmod n 10))) % 256] : List Int) : List Int)).bind fun y174 => (if ((⟨#[45]⟩ : ByteArray) ++ t173).size + (strOfNums y174).size ≤ 9223372036854775807 then (some (((⟨#[45]⟩ : ByteArray) ++ t173) ++ (strOfNums y174))) else (none))) else (none))) else (if 1 + 0 ≤ 9223372036854775807 then ((some (([(wrap64 (48 - (Int.tmod n 10))) % 256] : List Int) : List Int)).bind fun y177 => (if 1 + (strOfNums y177).size ≤ 9223372036854775807 then (some (((⟨#[45]⟩ : ByteArray) ++ (⟨#[]⟩ : ByteArray)) ++ (strOfNums y177))) else (none))) else (none))) else (grommetref06_Text.l0 k n (⟨#[]⟩ : ByteArray) true) := by
  rw [grommetref06_Text.f]

theorem dec_length_le (u : Nat) (h : u < 9223372036854775808) : (Lib.decDigits u).length ≤ 21 := by
  rw [← Lib.itoa_nonneg]; exact Lib.itoa_length_le _ (by omega) (by omega)

/-- The reference's text of a number is the number's. -/
theorem text_at (n : Int) (h0 : -9223372036854775808 ≤ n) (h1 : n ≤ 9223372036854775807) (K : Nat) : grommetref06_Text.f (K + 32) n = some ⟨(Lib.itoa n).toArray⟩ := by
  rw [show K + 32 = K + 31 + 1 from rfl, text_f]
  unfold Lib.itoa
  by_cases hn : n < 0
  · rw [if_pos hn, if_pos hn]
    obtain ⟨u, rfl⟩ : ∃ u : Nat, n = -(u : Int) := ⟨n.natAbs, by omega⟩
    have e0 : (-(u : Int)).natAbs = u := by omega
    have em : (wrap64 (48 - (Int.tmod (-(u : Int)) 10))) % 256 = ((48 + u % 10 : Nat) : Int) := by
      rw [Int.neg_tmod, Int.tmod_eq_emod_of_nonneg (by omega)]; unfold wrap64; omega
    have ed : wrap64 (-(wrap64 (Int.tdiv (-(u : Int)) 10))) = ((u / 10 : Nat) : Int) := by
      rw [Int.neg_tdiv, Int.tdiv_eq_ediv_of_nonneg (by omega)]; unfold wrap64; omega
    rw [e0, em, ed, Lib.decDigits]
    by_cases q : u < 10
    · rw [if_neg (by omega), dif_pos q, if_pos (by decide), Option.bind_some, if_pos (by rw [nums_size]; decide)]
      exact congrArg some (bytes_ext (by rw [join_list, join_list, nums_one, Nat.mod_eq_of_lt q]; rfl))
    · have hl := dec_length_le (u / 10) (by omega)
      have hz : (⟨(Lib.decDigits (u / 10)).toArray⟩ : ByteArray).size = (Lib.decDigits (u / 10)).length := by rw [size_list]
      rw [if_pos (by omega), dif_neg q, show K + 31 = K + 30 + 1 from rfl, text_f, if_neg (by omega), text_up (u / 10) (by omega), Option.bind_some, if_pos (by omega), Option.bind_some,
        if_pos (by rw [ByteArray.size_append, nums_size, hz]; have : (⟨#[45]⟩ : ByteArray).size = 1 := rfl; omega)]
      exact congrArg some (bytes_ext (by rw [join_list, join_list, nums_one]; rfl))
  · rw [if_neg hn, if_neg hn]
    obtain ⟨u, rfl⟩ : ∃ u : Nat, n = (u : Int) := ⟨n.toNat, by omega⟩
    rw [show K + 31 = (K + 1) + 30 from rfl, text_up u (by omega), Int.toNat_natCast]
theorem text_ev (n : Int) (h0 : -9223372036854775808 ≤ n) (h1 : n ≤ 9223372036854775807) : Ev (fun k => grommetref06_Text.f k n) ⟨(Lib.itoa n).toArray⟩ := ⟨32, fun k hk => by
  obtain ⟨k, rfl⟩ : ∃ m, k = m + 32 := ⟨k - 32, by omega⟩
  exact text_at n h0 h1 k⟩

/-! the reference's Number -/
def stepN (a : Int) (c : Nat) : Int := wrap64 (wrap64 (a * 10) - (((c : Int) - 48) % 256))
def digN (c : Nat) : Bool := decide (48 ≤ c) && decide (c ≤ 57)
def accN (l : List UInt8) (a : Int) : Int := l.foldl (fun a c => stepN a c.toNat) a
def finN (l : List UInt8) (a : Int) : Int × Bool :=
  if at_ l 0 = 45 then (if Lib.itoa a = l then (a, true) else (0, false)) else (if Lib.itoa (wrap64 (-a)) = l then (wrap64 (-a), true) else (0, false))

theorem wrap_range (n : Int) : -9223372036854775808 ≤ wrap64 n ∧ wrap64 n ≤ 9223372036854775807 := by unfold wrap64; omega
theorem acc_range (l : List UInt8) : ∀ a : Int, (-9223372036854775808 ≤ a ∧ a ≤ 9223372036854775807) → -9223372036854775808 ≤ accN l a ∧ accN l a ≤ 9223372036854775807 := by
  induction l with
  | nil => intro a h; exact h
  | cons c l ih => intro a h; exact ih _ (wrap_range _)
theorem acc_append (l m : List UInt8) (a : Int) : accN (l ++ m) a = accN m (accN l a) := by unfold accN; rw [List.foldl_append]

theorem acc_dec (u : Nat) : accN (Lib.decDigits u) 0 = wrap64 (-(u : Int)) := by
  induction u using Nat.strongRecOn with
  | _ u ih =>
    rw [Lib.decDigits]
    by_cases h : u < 10
    · rw [dif_pos h]
      show stepN 0 _ = _
      unfold stepN
      rw [digit_nat u h]; unfold wrap64; omega
    · rw [dif_neg h, acc_append, ih (u / 10) (by omega)]
      show stepN _ _ = _
      unfold stepN
      rw [digit_nat (u % 10) (by omega)]; unfold wrap64; omega

theorem num_l0 (k : Nat) (x0 : ByteArray) (x4 x5 : Int) : grommetref06_Number.l0 (k + 1) x0 x4 x5 = if x5 < (x0.size : Int) then (if x5 = 0 then (if 0 < (x0.size : Int) then (grommetref06_Number.j2 k x0 x4 x5 ((bt x0 0) == 45)) else (none)) else (grommetref06_Number.j2 k x0 x4 x5 false)) else (if 0 < (x0.size : Int) then (if (bt x0 0) = 45 then ((grommetref06_Text.f k x4).bind fun t186 => (if t186.toList = x0.toList then (some (x4, true)) else (some (0, false)))) else ((grommetref06_Text.f k (wrap64 (-x4))).bind fun t187 => (if t187.toList = x0.toList then (some (wrap64 (-x4), true)) else (some (0, false))))) else (none)) := by
  rw [grommetref06_Number.l0]
theorem num_j2 (k : Nat) (x0 : ByteArray) (x4 x5 : Int) : grommetref06_Number.j2 (k + 1) x0 x4 x5 false = (if 0 ≤ x5 then (if x5 < (x0.size : Int) then (if (bt x0 x5) < 48 then (some (0, false)) else (if (bt x0 x5) > 57 then (some (0, false)) else (grommetref06_Number.l0 k x0 (wrap64 ((wrap64 (x4 * 10)) - (((bt x0 x5) - 48) % 256))) (wrap64 (x5 + 1))))) else (none)) else (none)) := by
  rw [grommetref06_Number.j2, if_neg (by decide)]
theorem num_j2t (k : Nat) (x0 : ByteArray) (x4 x5 : Int) : grommetref06_Number.j2 (k + 1) x0 x4 x5 true = grommetref06_Number.l0 k x0 x4 (wrap64 (x5 + 1)) := by
  rw [grommetref06_Number.j2, if_pos rfl]

theorem num_end (K : Nat) (s : ByteArray) (a : Int) (i : Nat) (h0 : 0 < s.size) (hi : s.size ≤ i) (ha : -9223372036854775808 ≤ a ∧ a ≤ 9223372036854775807) :
    grommetref06_Number.l0 (K + 32 + 1) s a (i : Int) = some (finN s.data.toList a) := by
  have hw := wrap_range (-a)
  rw [num_l0, if_neg (by omega), if_pos (by omega), bt_zero]
  unfold finN
  by_cases q : at_ s.data.toList 0 = 45
  · rw [if_pos (by omega), if_pos q, text_at a ha.1 ha.2, Option.bind_some]
    rw [Lib.toList_data, Lib.toList_data, toList_mk]
    split <;> rfl
  · rw [if_neg (by omega), if_neg q, text_at _ hw.1 hw.2, Option.bind_some]
    rw [Lib.toList_data, Lib.toList_data, toList_mk]
    split <;> rfl

theorem num_enter (K : Nat) (s : ByteArray) (a : Int) (i : Nat) (h : i < s.size) (hz : i = 0 → at_ s.data.toList 0 ≠ 45) : grommetref06_Number.l0 (K + 1 + 1) s a (i : Int) = grommetref06_Number.j2 (K + 1) s a (i : Int) false := by
  have h1 : (i : Int) < (s.size : Int) := by omega
  rw [num_l0, if_pos h1]
  by_cases q : i = 0
  · have hne := hz q
    have h2 : (i : Int) = 0 := by omega
    have h3 : (0 : Int) < (s.size : Int) := by omega
    rw [if_pos h2, if_pos h3, bt_zero, show (((at_ s.data.toList 0 : Nat) : Int) == 45) = false by rw [beq_eq_false_iff_ne]; exact fun e => hne (by omega)]
  · have h2 : ¬ (i : Int) = 0 := by omega
    rw [if_neg h2]
theorem num_enter2 (K : Nat) (s : ByteArray) (a : Int) (i : Nat) (h : i < s.size) : grommetref06_Number.j2 (K + 1) s a (i : Int) false = (if (bt s (i : Int)) < 48 then (some (0, false)) else (if (bt s (i : Int)) > 57 then (some (0, false)) else (grommetref06_Number.l0 K s (wrap64 ((wrap64 (a * 10)) - (((bt s (i : Int)) - 48) % 256))) (wrap64 ((i : Int) + 1))))) := by
  have h1 : (i : Int) < (s.size : Int) := by omega
  have h2 : (0 : Int) ≤ (i : Int) := by omega
  rw [num_j2, if_pos h2, if_pos h1]

/-- Behind a sign, from a place on. -/
theorem num_from (s : ByteArray) (hs : s.size ≤ 100) (h0 : 0 < s.size) : ∀ (d i K : Nat) (a : Int), s.size - i = d → i ≤ s.size → 2 * d + 40 ≤ K → (i = 0 → at_ s.data.toList 0 ≠ 45) → (-9223372036854775808 ≤ a ∧ a ≤ 9223372036854775807) →
    grommetref06_Number.l0 K s a (i : Int) = some (if (s.data.toList.drop i).all (fun c => digN c.toNat) then finN s.data.toList (accN (s.data.toList.drop i) a) else (0, false)) := by
  have hL := size_list s
  intro d
  induction d with
  | zero =>
    intro i K a hd hi hK _ ha
    obtain ⟨K, rfl⟩ : ∃ m, K = m + 32 + 1 := ⟨K - 33, by omega⟩
    rw [num_end K s a i h0 (by omega) ha, List.drop_eq_nil_of_le (by omega)]
    rfl
  | succ d ih =>
    intro i K a hd hi hK hz ha
    obtain ⟨K, rfl⟩ : ∃ m, K = m + 1 + 1 := ⟨K - 2, by omega⟩
    have his : i < s.size := by omega
    have hlt : i < s.data.toList.length := by omega
    have hdrop : s.data.toList.drop i = s.data.toList[i] :: s.data.toList.drop (i + 1) := List.drop_eq_getElem_cons hlt
    have hat : at_ s.data.toList i = (s.data.toList[i]).toNat := by unfold at_; rw [List.getD_eq_getElem?_getD, List.getElem?_eq_getElem hlt]; rfl
    have hb : bt s (i : Int) = (at_ s.data.toList i : Int) := bt_at_ s i
    have hw : wrap64 ((i : Int) + 1) = ((i + 1 : Nat) : Int) := by unfold wrap64; omega
    have hj := num_enter K s a i his hz
    have hj2 := num_enter2 K s a i his
    rw [hj, hj2, hb, hw, hdrop, List.all_cons, ← hat]
    clear hb hw hj hj2 hdrop
    by_cases q : 48 ≤ at_ s.data.toList i ∧ at_ s.data.toList i ≤ 57
    · have hdg : digN (at_ s.data.toList i) = true := by unfold digN; simp [q]
      rw [if_neg (by omega), if_neg (by omega), hdg, Bool.true_and]
      rw [ih (i + 1) K _ (by omega) (by omega) (by omega) (by omega) (wrap_range _)]
      have : accN (s.data.toList[i] :: s.data.toList.drop (i + 1)) a = accN (s.data.toList.drop (i + 1)) (wrap64 ((wrap64 (a * 10)) - (((at_ s.data.toList i : Int) - 48) % 256))) := by
        show accN _ (stepN a _) = _
        rw [← hat]; rfl
      rw [this]
    · have hdg : digN (at_ s.data.toList i) = false := by
        unfold digN
        rw [← Bool.decide_and]; exact decide_eq_false q
      rw [hdg]
      by_cases q1 : (at_ s.data.toList i : Int) < 48
      · rw [if_pos q1]; rfl
      · rw [if_neg q1, if_pos (by omega)]; rfl

/-- What the reference's Number comes to. -/
def refN (l : List UInt8) : Int × Bool :=
  if l.length < 1 ∨ 20 < l.length then (0, false) else
  if at_ l 0 = 45 then (if (l.drop 1).all (fun c => digN c.toNat) then finN l (accN (l.drop 1) 0) else (0, false)) else (if l.all (fun c => digN c.toNat) then finN l (accN l 0) else (0, false))

theorem number_ref (s : ByteArray) (K : Nat) : grommetref06_Number.f (K + 100) s = some (refN s.data.toList) := by
  have hL := size_list s
  unfold grommetref06_Number.f refN
  have hj : ∀ b, grommetref06_Number.j0 (K + 100) s b = if b = true then (some (0, false)) else (grommetref06_Number.l0 (K + 99) s 0 0) := fun b => by
    rw [show K + 100 = K + 99 + 1 from rfl, grommetref06_Number.j0]
  by_cases h1 : s.size < 1
  · rw [if_pos (by omega), hj, if_pos rfl, if_pos (by omega)]
  · rw [if_neg (by omega), hj]
    by_cases h2 : 20 < s.size
    · rw [if_pos (by simp; omega), if_pos (by omega)]
    · rw [if_neg (by simp; omega), if_neg (by omega)]
      by_cases q : at_ s.data.toList 0 = 45
      · rw [if_pos q, show K + 99 = K + 97 + 1 + 1 from rfl, num_l0, if_pos (by omega), if_pos rfl, if_pos (by omega), bt_zero, q, show (((45 : Nat) : Int) == 45) = true from rfl, num_j2t]
        rw [show wrap64 (0 + 1) = ((1 : Nat) : Int) by unfold wrap64; omega, num_from s (by omega) (by omega) (s.size - 1) 1 (K + 97) 0 rfl (by omega) (by omega) (by omega) (by decide)]
      · rw [if_neg q]
        have := num_from s (by omega) (by omega) s.size 0 (K + 99) 0 (by omega) (by omega) (by omega) (fun _ => q) (by decide)
        rw [show ((0 : Nat) : Int) = 0 from rfl, List.drop_zero] at this
        rw [this]

theorem fin_or (l : List UInt8) (a : Int) (ha : -9223372036854775808 ≤ a ∧ a ≤ 9223372036854775807) : finN l a = (0, false) ∨ ∃ v, (-9223372036854775808 ≤ v ∧ v ≤ 9223372036854775807) ∧ Lib.itoa v = l ∧ finN l a = (v, true) := by
  unfold finN
  split
  · split
    · next h => exact .inr ⟨a, ha, h, rfl⟩
    · exact .inl rfl
  · split
    · next h => exact .inr ⟨_, wrap_range _, h, rfl⟩
    · exact .inl rfl
theorem ref_or (l : List UInt8) : refN l = (0, false) ∨ ∃ v, (-9223372036854775808 ≤ v ∧ v ≤ 9223372036854775807) ∧ Lib.itoa v = l ∧ refN l = (v, true) := by
  unfold refN
  split
  · exact .inl rfl
  · split
    · split
      · exact fin_or l _ (acc_range _ _ (by decide))
      · exact .inl rfl
    · split
      · exact fin_or l _ (acc_range _ _ (by decide))
      · exact .inl rfl

theorem dec_all (u : Nat) : (Lib.decDigits u).all (fun c => digN c.toNat) = true := by
  rw [List.all_eq_true]
  intro c hc
  have := dec_digit u c hc
  unfold digN; simp [this]

theorem dec_len20 (u : Nat) (h : u ≤ 9223372036854775808) : (Lib.decDigits u).length ≤ 19 := by
  have key : ∀ d u, u < 10 ^ (d + 1) → (Lib.decDigits u).length ≤ d + 1 := by
    intro d
    induction d with
    | zero => intro u hu; rw [Lib.decDigits, dif_pos (by simpa using hu)]; simp
    | succ d ih =>
      intro u hu
      rw [Lib.decDigits]
      by_cases q : u < 10
      · rw [dif_pos q]; simp
      · rw [dif_neg q, List.length_append]
        have := ih (u / 10) (by rw [Nat.pow_succ] at hu; omega)
        simp; omega
  exact key 18 u (by omega)

theorem ref_itoa (v : Int) (h0 : -9223372036854775808 ≤ v) (h1 : v ≤ 9223372036854775807) : refN (Lib.itoa v) = (v, true) := by
  have hI : ∀ l, Lib.itoa v = l → finN l (if v < 0 then v else wrap64 (-v)) = (v, true) := by
    intro l hl
    unfold finN
    by_cases hn : v < 0
    · have : at_ l 0 = 45 := by rw [← hl]; unfold Lib.itoa; rw [if_pos hn]; rfl
      rw [if_pos this, if_pos hn, if_pos hl]
    · have : at_ l 0 ≠ 45 := by
        rw [← hl]; unfold Lib.itoa; rw [if_neg hn]
        obtain ⟨c, hc, e⟩ := at_mem (Lib.decDigits v.toNat) 0 (List.length_pos_iff.2 (dec_ne _))
        have := dec_digit _ c hc
        omega
      have hw : wrap64 (-(wrap64 (-v))) = v := by unfold wrap64; omega
      rw [if_neg this, if_neg hn, hw, if_pos hl]
  have hF := hI _ rfl
  unfold refN
  by_cases hn : v < 0
  · rw [if_pos hn] at hF
    have e : Lib.itoa v = 45 :: Lib.decDigits v.natAbs := by unfold Lib.itoa; rw [if_pos hn]
    have hl := dec_len20 v.natAbs (by omega)
    have ha : accN (Lib.decDigits v.natAbs) 0 = v := by rw [acc_dec]; unfold wrap64; omega
    rw [e] at hF ⊢
    rw [if_neg (by simp; omega), if_pos (show at_ (45 :: Lib.decDigits v.natAbs) 0 = 45 from rfl), show (45 :: Lib.decDigits v.natAbs).drop 1 = Lib.decDigits v.natAbs from rfl, dec_all, if_pos rfl, ha, hF]
  · rw [if_neg hn] at hF
    have e : Lib.itoa v = Lib.decDigits v.toNat := by unfold Lib.itoa; rw [if_neg hn]
    have hl := dec_len20 v.toNat (by omega)
    have hp := List.length_pos_iff.2 (dec_ne v.toNat)
    have ha : accN (Lib.decDigits v.toNat) 0 = wrap64 (-v) := by rw [acc_dec]; congr 1; omega
    have hz : at_ (Lib.decDigits v.toNat) 0 ≠ 45 := by
      obtain ⟨c, hc, e⟩ := at_mem (Lib.decDigits v.toNat) 0 hp
      have := dec_digit _ c hc
      omega
    rw [e] at hF ⊢
    rw [if_neg (by omega), if_neg hz, dec_all, if_pos rfl, ha, hF]

/-- The reference's number is the program's. -/
theorem ref_num (l : List UInt8) : refN l = numB l := by
  by_cases h : ∃ v, (-9223372036854775808 ≤ v ∧ v ≤ 9223372036854775807) ∧ Lib.itoa v = l
  · obtain ⟨v, hv, rfl⟩ := h
    rw [ref_itoa v hv.1 hv.2, num_itoa v hv.1 hv.2]
  · have hr : refN l = (0, false) := (ref_or l).resolve_right fun ⟨v, a, b, _⟩ => h ⟨v, a, b⟩
    rw [hr]
    unfold numB
    rcases hc : Lib.atoiAll l with v | _ | _
    · simp only
      rw [if_neg fun e => h ⟨v, Lib.atoiAll_bounds hc, e⟩]
    · rfl
    · rfl

theorem resolve_ref (s : ByteArray) (K : Nat) : grommetref06_Resolve.f (K + 100) s = some (resB s.data.toList) := by
  have hj : ∀ a b, grommetref06_Resolve.j0 (K + 100) s a b = if b = true then (some 1) else (if s.data.toList = ([116, 114, 117, 101] : List UInt8) then (grommetref06_Resolve.j1 (K + 99) a true) else (grommetref06_Resolve.j1 (K + 99) a (s.data.toList == ([102, 97, 108, 115, 101] : List UInt8)))) := fun a b => by
    rw [show K + 100 = K + 99 + 1 from rfl, grommetref06_Resolve.j0, Lib.toList_data]
  have hk : ∀ a b, grommetref06_Resolve.j1 (K + 99) a b = if b = true then (some 2) else (if a = true then (some 3) else (some 4)) := fun a b => by
    rw [show K + 99 = K + 98 + 1 from rfl, grommetref06_Resolve.j1]
  unfold grommetref06_Resolve.f resB
  rw [number_ref, Option.bind_some, ref_num, Lib.toList_data]
  simp only [hj, hk, if_true]
  by_cases h0 : s.data.toList = []
  · simp [h0]
  by_cases h1 : s.data.toList = [126]
  · simp [h1]
  by_cases h2 : s.data.toList = [110, 117, 108, 108]
  · simp [h2]
  by_cases h3 : s.data.toList = [116, 114, 117, 101]
  · simp [h3]
  by_cases h4 : s.data.toList = [102, 97, 108, 115, 101]
  · simp [h4]
  cases (numB s.data.toList).2 <;> simp [h0, h1, h2, h3, h4]
end Go.Proofs.YtephdpgkildeoaaDoor.Plain

/- PlainResolves' pure statement: for every text that lies in memory and every number the law's Lean function answers true. -/
namespace Go.Proofs.YtephdpgkildeoaaDoor.Pure
open Go.RowKit Go.Proofs.YtephdpgkildeoaaDoor.PX Go.Proofs.YtephdpgkildeoaaDoor.Plain Go.Proofs.YtephdpgkildeoaaDoor.Utf Go.Proofs.YtephdpgkildeoaaDoor.Plug Go.Proofs.YtephdpgkildeoaaDoorW.PrintWords Go.Proofs.YtephdpgkildeoaaDoorW.PrintLast

theorem PlainResolves (s : ByteArray) (n : Int) (hs : s.size ≤ 140737488351232) (hn : -9223372036854775808 ≤ n ∧ n ≤ 9223372036854775807) : ∃ k, grommetlaw06_PlainResolves.f k s n = some true := by
  refine ⟨0 + 100, ?_⟩
  have hT : plain_Text.f n = some ⟨(Lib.itoa n).toArray⟩ := by unfold plain_Text.f strconv_Itoa.f; rw [if_pos hn]; rfl
  have hN : plain_Number.f s = some (numB s.data.toList) := by unfold plain_Number.f; rw [if_pos hs]
  have hR : plain_Resolve.f s = some (resB s.data.toList) := by unfold plain_Resolve.f; rw [if_pos hs]
  have hA : grommetlaw06_alive.f (0 + 100) = some true := alive_eq 98
  have hX : grommetref06_Text.f (0 + 100) n = some ⟨(Lib.itoa n).toArray⟩ := text_at n hn.1 hn.2 68
  unfold grommetlaw06_PlainResolves.f
  rw [hN, Option.bind_some, number_ref, Option.bind_some, ref_num, if_pos rfl, if_pos (by simp), hR, Option.bind_some, resolve_ref, Option.bind_some, if_pos rfl, hT, Option.bind_some, hX, Option.bind_some, if_pos rfl, hA, Option.bind_some]
end Go.Proofs.YtephdpgkildeoaaDoor.Pure
