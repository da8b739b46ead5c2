/- Texts that stand behind one another, laid into one: what this claim needs of them. -/
import Derived.Test.YtiooacmplmcphaaGreatDoorBG1
import Derived.Deep.LoopGhost
import Derived.Lib.AppendIntMem
import Derived.Outline
import Derived.Test.YtiooacmplmcphaaGreatDoorBG2
import Derived.Test.YtiooacmplmcphaaGreatDoorBG0
import Derived.Lib.ItoaLen
import Derived.Maps.OwnSet
import Derived.Maps.Views
import Derived.DeepKeys4
namespace Go.Proofs.YtiooacmplmcphaaGreatDoor.Plug
open RowKit YtiooacmplmcphaaGreatDoor YtiooacmplmcphaaGreatDoor.PX YtiooacmplmcphaaGreatDoor.Utf YtiooacmplmcphaaGreatDoorW.PrintWords YtiooacmplmcphaaGreatDoorW.PrintLast
def goF : Nat → List UInt8 → Nat → List Int → List Int × Nat
 | 0, _, i, acc => (acc, i)
 | k + 1, l, i, acc => if i < l.length then (if (dec (l.drop i)).1 < 0 then (acc ++ [(dec (l.drop i)).1], i) else goF k l (i + (dec (l.drop i)).2) (acc ++ [(dec (l.drop i)).1])) else (acc, i)
def goB (l : List UInt8) : List Int × Nat := goF l.length l 0 []
def decodeB (l : List UInt8) : List Int × Int × Int := if (goB l).2 < l.length then ([], 8, ((goB l).2 : Int)) else ((goB l).1, 0, 0)
theorem goF_end (k : Nat) (l : List UInt8) (i : Nat) (acc : List Int) (h : ¬ i < l.length) : goF k l i acc = (acc, i) := by
 cases k with
 | zero => rfl
 | succ k => simp [goF, h]
theorem info_int : (Tryz.prog.info? 3).map (fun i => (i.zero, i.size, i.bytes)) = some (some (.int .i64 0), 1, 8) := by kernel_rfl
theorem row_int : Tryz.prog.underlying 40 = some (.slice 3) := by kernel_rfl
structure Box (B g : Nat) (xs : List Int) (W : World) : Prop where
  ex : ∃ v, W.heap[g]? = some (.cells #[v] 40 (0, 0)) ∧ W.ownsRow B 3 1 v xs.length (nums .i64 xs)
def Stays (B g : Nat) (W W' : World) : Prop := Below B W W' ∧ ∀ k c t, W.heap[k]? = some (.cells c t (0, 0)) → t ≠ 3 → k ≠ g → W'.heap[k]? = some (.cells c t (0, 0))
theorem Stays.refl (B g : Nat) (W : World) : Stays B g W W := ⟨Below.refl B W, fun _ _ _ h _ _ => h⟩
theorem Stays.trans {B g : Nat} {W W1 W2 : World} (h : Stays B g W W1) (h2 : Stays B g W1 W2) : Stays B g W W2 := ⟨h.1.trans h2.1, fun k c t a b d => h2.2 k c t (h.2 k c t a b d) b d⟩
theorem Stays.of_below {B g : Nat} {W W1 : World} (h : Below W.heap.size W W1) (hB : B ≤ W.heap.size) : Stays B g W W1 :=
  ⟨h.mono hB, fun k _ _ a _ _ => (h.block k (Bld.at_lt a)).trans a⟩
theorem Box.of_below {B g : Nat} {xs : List Int} {W W1 : World} (h : Box B g xs W) (hb : Below W.heap.size W W1) : Box B g xs W1 := by
 obtain ⟨v, h1, h2⟩ := h.ex
 exact ⟨v, (hb.block g (Bld.at_lt h1)).trans h1, own_move h2 (fun k hk => hb.block k (own_lt h2 k hk))⟩
set_option maxHeartbeats 2000000 in
set_option maxRecDepth 100000 in
theorem on_is (x : Int) (B g : Nat) (xs : List Int) (W : World) (hbx : Box B g xs W) (hlen : xs.length + 1 ≤ 1099511627776) (hB : B ≤ g) (hBw : B ≤ W.heap.size) :
  Calls Tryz.prog 142 #[.int .i64 x, .pointer (some ⟨g, 0, none⟩)] W fun e w' => e = .returned (.bool (decide (x ≥ 0))) ∧ Box B g (xs ++ [x]) w' ∧ Stays B g W w' := by
 obtain ⟨v, hg, hown⟩ := hbx.ex
 clear hbx
 obtain ⟨i0, hi, hz0, hz1, hz2⟩ := info_parts info_int
 have c0 : W.cell? ⟨g, 0, none⟩ = some v := by rw [Lib.cell_of_heap hg]; rfl
 have hne := own_ne hown hg (by decide)
 go_enter Tryz.func142, Tryz.ntmps142
 go_wp2_with (at_builtin; refine wpList_append_own _ rfl _ _ 40 rfl B 3 i0 (.int .i64 0) 1 8 row_int hi hz0 hz1 hz2 rfl (by decide) _ _ _ rfl (hown.alloc _) ⟨W.heap.size, 0, none⟩ 1 1 [.int .i64 x] rfl rfl ?c1 ?c2 ?c3 ?c4 ?c5 ?_)
 case c1 =>
  intro j u hj
  match j, hj with
  | 0, hj => simp at hj; subst hj; simp [Addr.add]
 case c2 => intro u hu; simp at hu; subst hu; rfl
 case c3 => unfold maxLen; omega
 case c4 => omega
 case c5 => simp; omega
 intro v' w2 hown' hgrow _
 obtain ⟨ao, cap, rfl⟩ : ∃ ao cap, v' = .slice ao (xs.length + 1) cap := own_slice hown'
 have hlt := Bld.at_lt hg
 have hb2 : w2.heap[g]? = some (.cells #[v] 40 (0, 0)) := by
  rw [hgrow.block g (by simp; omega) hne, Lib.alloc_old W _ g hlt]
  exact hg
 have d0 : w2.cell? ⟨g, 0, none⟩ = some v := by rw [Lib.cell_of_heap hb2]; rfl
 have f0 : w2.frozen? ⟨g, 0, none⟩ = false := Lib.frozen_of_heap hb2 0
 have hne2 := own_ne hown' hb2 (by decide)
 have HR : Hid (Box B g (xs ++ [x]) (w2.setCell ⟨g, 0, none⟩ (.slice ao (xs.length + 1) cap)) ∧ Stays B g W (w2.setCell ⟨g, 0, none⟩ (.slice ao (xs.length + 1) cap))) := by
  refine Lib.hid ⟨⟨.slice ao (xs.length + 1) cap, ?_, ?_⟩, ?_, ?_⟩
  · exact blk_set hb2 0 _
  ·
   have h3 := own_setCell (p := ⟨g, 0, none⟩) hown' hne2 (.slice ao (xs.length + 1) cap)
   rw [List.length_append, List.length_singleton, nums_append]
   exact h3
  · exact ((((Below.refl B W).alloc hBw _).grown hgrow (by simp; omega) (fun k hk => own_base hown k hk)).setCell (p := ⟨g, 0, none⟩) hB _)
  ·
   intro k c t hk ht hkg
   rw [Below.heap_setCell w2 ⟨g, 0, none⟩ _ k hkg, hgrow.block k (by have := Bld.at_lt hk; simp; omega) (own_ne hown hk (Ne.symm ht)), Lib.alloc_old W _ k (Bld.at_lt hk)]
   exact hk
 clear hown hown' hgrow hg hne hne2
 go_wp2
 go_ret
 exact ⟨rfl, HR.out⟩
set_option maxHeartbeats 2000000 in
theorem walk_dec (s : ByteArray) (B g : Nat) (w w0 : World) (hG : Glob.G w0) (hw0 : Below B w0 w) (hB0 : w0.heap.size = B) (hs : s.size ≤ 1099511627775) (hbx : Box B g [] w) (hB : B ≤ g) (hBw : B ≤ w.heap.size) :
  Calls Tryz.prog 141 #[.string s, .func (.func 142) #[] #[.pointer (some ⟨g, 0, none⟩)]] w fun e w' => e = .returned (.int .i64 (goB s.data.toList).2) ∧ Box B g (goB s.data.toList).1 w' ∧ Stays B g w w' := by
 have hL := Lib.hid (size_list s)
 go_enter Tryz.func141, Tryz.ntmps141
 go_wp2
 go_loopw [5] (fun a wr => ∃ (i k : Nat) (xs : List Int), i ≤ s.size ∧ s.size ≤ i + k ∧ xs.length ≤ i ∧ Hid (goF k s.data.toList i xs = goB s.data.toList) ∧ a = .int .i64 i ∧ Box B g xs wr ∧ Stays B g w wr) (fun a _ => s.size - (intOf a).toNat)
 case atStart => exact ⟨0, s.size, [], Nat.zero_le _, by omega, Nat.le_refl _, by rw [hL.out]; rfl, rfl, hbx, Stays.refl _ _ _⟩
 case round =>
  obtain ⟨i, k, xs, hi, hk, hxl, hst, rfl, hbx, hb⟩ := hrel
  have hGr : Glob.G wr := hG.below (by rw [hB0]; exact hw0.trans hb.1)
  by_cases hlt : i < s.size
  rotate_left
  ·
   have hc : decide ((i : Int) < (s.size : Int)) = false := by simp; omega
   have HE := Lib.hid (hst.out.symm.trans (goF_end k s.data.toList i xs (by rw [← hL.out]; exact hlt)))
   clear hst
   go_wp2
   go_ret
   exact ⟨by rw [HE.out]; rfl, by rw [HE.out]; exact hbx, hb⟩
  have hne : s.data.toList.drop i ≠ [] := by
   intro e; have h2 := congrArg List.length e; rw [List.length_drop, ← hL.out, List.length_nil] at h2; omega
  have hw := dec_wide _ hne
  have hf := prog_first (s.extract i s.size)
  rw [drop_list] at hf
  have hlen : (s.data.toList.drop i).length = s.size - i := by rw [List.length_drop, ← hL.out]
  have hstep : goF k s.data.toList i xs = if (dec (s.data.toList.drop i)).1 < 0 then (xs ++ [(dec (s.data.toList.drop i)).1], i) else goF (k - 1) s.data.toList (i + (dec (s.data.toList.drop i)).2) (xs ++ [(dec (s.data.toList.drop i)).1]) := by
   obtain ⟨k, rfl⟩ : ∃ m, k = m + 1 := ⟨k - 1, by omega⟩
   rw [goF, if_pos (by have := hL.out; omega)]; rfl
  generalize dec (s.data.toList.drop i) = d at *
  obtain ⟨r, n⟩ := d
  simp only at hw hf hstep
  rw [hlen] at hw
  obtain ⟨hw1, hw2, hw3⟩ := hw
  have HF := Lib.hid hf; have HS := Lib.hid hstep
  clear hf hstep hlen hne
  by_cases hr : r < 0
  ·
   rw [if_pos hr] at HS
   have hge : decide (r ≥ 0) = false := by simp; omega
   have HQ := Lib.hid (hst.out.symm.trans HS.out)
   clear hst HS
   go_wp2_with (first | (go_at_call 175; refine (utf_First.calls _ _ _ _ hGr HF.out).mono ?_; rintro e w1 ⟨rfl, hb1⟩) | (go_at_call 142; refine (on_is r B g xs _ (hbx.of_below hb1) (by omega) hB (Nat.le_trans hBw (Nat.le_trans hb.1.size hb1.size))).mono ?_; rw [hge]; rintro e w2 ⟨rfl, hbx2, hs2⟩))
   go_ret
   exact ⟨by rw [HQ.out]; rfl, by rw [HQ.out]; exact hbx2, hb.trans ((Stays.of_below hb1 (Nat.le_trans hBw hb.1.size)).trans hs2)⟩
  rw [if_neg hr] at HS
  have hge : decide (r ≥ 0) = true := by simp; omega
  have HQ := Lib.hid (HS.out.symm.trans hst.out)
  clear hst HS
  go_wp2_with (first | (go_at_call 175; refine (utf_First.calls _ _ _ _ hGr HF.out).mono ?_; rintro e w1 ⟨rfl, hb1⟩) | (go_at_call 142; refine (on_is r B g xs _ (hbx.of_below hb1) (by omega) hB (Nat.le_trans hBw (Nat.le_trans hb.1.size hb1.size))).mono ?_; rw [hge]; rintro e w2 ⟨rfl, hbx2, hs2⟩))
  have hall := hb.trans ((Stays.of_below hb1 (Nat.le_trans hBw hb.1.size)).trans hs2)
  go_roundw
  case rel => exact ⟨i + n, k - 1, xs ++ [r], by omega, by omega, by rw [List.length_append]; simp; omega, Lib.hid HQ.out, by go_num, hbx2, hall⟩
  case measure => simp [intOf]; omega
theorem two_set {w2 : World} {B t : Nat} {x y : Value} (h : w2.heap[B]? = some (.cells #[x, y] t (0, 0))) (a b : Value) (o : Obj) :
  (((w2.setCell ⟨B, 0, none⟩ a).setCell ⟨B, 1, none⟩ b).alloc o).cell? ⟨B, 0, none⟩ = some a ∧ (((w2.setCell ⟨B, 0, none⟩ a).setCell ⟨B, 1, none⟩ b).alloc o).cell? ⟨B, 1, none⟩ = some b := by
 have h1 := blk_set h 0 a
 have h2 := blk_set h1 1 b
 have h3 : (((w2.setCell ⟨B, 0, none⟩ a).setCell ⟨B, 1, none⟩ b).alloc o).heap[B]? = some (.cells ((#[x, y].setIfInBounds 0 a).setIfInBounds 1 b) t (0, 0)) := (Lib.alloc_old _ _ _ (Bld.at_lt h2)).trans h2
 exact ⟨by rw [blk_cell h3]; rfl, by rw [blk_cell h3]; rfl⟩
def utf_Decode.f (a0 : ByteArray) : Option (List Int × Int × Int) := if a0.size ≤ 1099511627775 then some (decodeB a0.data.toList) else none
set_option maxHeartbeats 2000000 in
set_option maxRecDepth 100000 in
theorem utf_Decode.calls (a0 : ByteArray) (r1 : List Int) (r2 r3 : Int) (w : World) (hG : Glob.G w) (h : utf_Decode.f a0 = some (r1, r2, r3)) :
  Calls Tryz.prog 115 #[.string a0] w fun e w' => ∃ v0_ : Value, e = .returned (.tuple #[v0_, .agg #[.int .i64 r2, .int .i64 r3]]) ∧ Kd.R (Kd.int .i64) 3 w' w.heap.size (fun _ => True) v0_ r1 ∧ Below w.heap.size w w' := by
 unfold utf_Decode.f at h
 by_cases c : a0.size ≤ 1099511627775
 rotate_left
 · rw [if_neg c] at h; cases h
 rw [if_pos c] at h
 have hL := size_list a0
 unfold decodeB at h
 rw [← hL] at h
 have hH : Glob.G ((w.alloc (.cells #[.int .i64 0, .int .i64 0] 95)).alloc (.cells #[.slice none 0 0] 40)) := hG.below (((Below.refl _ w).alloc (Nat.le_refl _) _).alloc (by simp) _)
 obtain ⟨W0, hW0⟩ : ∃ W0, W0 = (w.alloc (.cells #[.int .i64 0, .int .i64 0] 95)).alloc (.cells #[.slice none 0 0] 40) := ⟨_, rfl⟩
 have hbx : Box w.heap.size (w.heap.size + 1) [] W0 := by
  refine ⟨.slice none 0 0, ?_, ?_⟩
  · rw [hW0]; have := heap_alloc_new (w.alloc (.cells #[.int .i64 0, .int .i64 0] 95)) (.cells #[.slice none 0 0] 40); simpa using this
  · exact ⟨rfl, .inl ⟨rfl, rfl⟩⟩
 have hf0 : W0.heap[w.heap.size]? = some (.cells #[.int .i64 0, .int .i64 0] 95 (0, 0)) := by
  rw [hW0, Lib.alloc_old _ _ _ (by simp)]; exact heap_alloc_new w _
 have hbel : Below w.heap.size w W0 := by rw [hW0]; exact ((Below.refl _ w).alloc (Nat.le_refl _) _).alloc (by simp) _
 have hsz : w.heap.size ≤ W0.heap.size := hbel.size
 have HW := Lib.hid (walk_dec a0 w.heap.size (w.heap.size + 1) W0 w hG hbel rfl c hbx (by omega) hsz)
 subst hW0
 go_enter Tryz.func115, Tryz.ntmps115
 go_wp2_with (first | (go_at_call 141; refine HW.out.mono ?_; rintro e w1 ⟨rfl, hbx1, hs1⟩))
 have hbel1 := hbel.trans hs1.1
 have hG1 := hG.below hbel1
 by_cases q : (goB a0.data.toList).2 < a0.size
 ·
  rw [if_pos q] at h
  simp only [Option.some.injEq, Prod.mk.injEq] at h
  obtain ⟨rfl, rfl, rfl⟩ := h
  have h2 : utf_fault.f a0 (goB a0.data.toList).2 = some (8, ((goB a0.data.toList).2 : Int)) := by unfold utf_fault.f; rw [if_pos (by omega)]
  have H2 := Lib.hid h2
  clear h2 HW q
  go_wp2_with (first | (go_at_call 143; refine (utf_fault.calls _ _ _ _ _ hG1 H2.out).mono ?_; rintro e w2 ⟨rfl, hb2⟩; have hf2 := (hb2.block w.heap.size (Bld.at_lt (hs1.2 _ _ _ hf0 (by decide) (by omega)))).trans (hs1.2 _ _ _ hf0 (by decide) (by omega)); have hc0 : w2.cell? ⟨w.heap.size, 0, none⟩ = some (.int .i64 0) := by { rw [blk_cell hf2]; rfl }; have hc1 : w2.cell? ⟨w.heap.size, 1, none⟩ = some (.int .i64 0) := by { rw [blk_cell hf2]; rfl }; have hz0 := blk_frozen hf2 0; have hz1 := blk_frozen hf2 1; have hz := Bld.at_lt hf2))
  have HBel := Lib.hid (hbel1.trans (hb2.mono hbel1.size))
  have hzz := hb2.size
  go_region
  all_goals
   go_wp2
   have hset := two_set hf2 (.int .i64 8) (.int .i64 (goB a0.data.toList).2) (.cells #[.int .i64 8, .int .i64 (goB a0.data.toList).2] 95)
   refine bodyPost_ret (v := .tuple #[.slice none 0 0, .agg #[.int .i64 8, .int .i64 (goB a0.data.toList).2]]) (by simp [results, Tryz.results115, go_sem, hset.1, hset.2]) rfl ?_
   refine ⟨.slice none 0 0, rfl, Kd.R_nil _ _ _ _ _, ?_⟩
   exact Below.drew ((((HBel.out.setCell (p := ⟨w.heap.size, 0, none⟩) (Nat.le_refl _) _).setCell (p := ⟨w.heap.size, 1, none⟩) (Nat.le_refl _) _).alloc (by simp; omega) _))
 rw [if_neg q] at h
 simp only [Option.some.injEq, Prod.mk.injEq] at h
 obtain ⟨rfl, rfl, rfl⟩ := h
 have h2 : utf_fault.f a0 (goB a0.data.toList).2 = some (0, 0) := by unfold utf_fault.f; rw [if_neg (by omega)]
 have H2 := Lib.hid h2
 clear h2 HW q
 generalize (goB a0.data.toList).2 = n at *
 go_wp2_with (first | (go_at_call 143; refine (utf_fault.calls _ _ _ _ _ hG1 H2.out).mono ?_; rintro e w2 ⟨rfl, hb2⟩; have hf2 := (hb2.block w.heap.size (Bld.at_lt (hs1.2 _ _ _ hf0 (by decide) (by omega)))).trans (hs1.2 _ _ _ hf0 (by decide) (by omega)); have hc0 : w2.cell? ⟨w.heap.size, 0, none⟩ = some (.int .i64 0) := by { rw [blk_cell hf2]; rfl }; have hc1 : w2.cell? ⟨w.heap.size, 1, none⟩ = some (.int .i64 0) := by { rw [blk_cell hf2]; rfl }; have hz0 := blk_frozen hf2 0; have hz1 := blk_frozen hf2 1; have hz := Bld.at_lt hf2; obtain ⟨v, hg2, hown⟩ := (hbx1.of_below hb2).ex; have hcg : w2.cell? ⟨w.heap.size + 1, 0, none⟩ = some v := by { rw [blk_cell hg2]; rfl }; obtain ⟨ao, cap, rfl⟩ := own_slice hown; have hzg := Bld.at_lt hg2))
 have HBel := Lib.hid (hbel1.trans (hb2.mono hbel1.size))
 have hzz := hb2.size
 have hset := two_set hf2 (.int .i64 0) (.int .i64 0) (.cells #[.int .i64 0, .int .i64 0] 95)
 refine bodyPost_ret (v := .tuple #[.slice ao (goB a0.data.toList).1.length cap, .agg #[.int .i64 0, .int .i64 0]]) (by simp [results, Tryz.results115, go_sem, hset.1, hset.2]) rfl ?_
 refine ⟨_, rfl, ?_, ((HBel.out.setCell (p := ⟨w.heap.size, 0, none⟩) (Nat.le_refl _) _).setCell (p := ⟨w.heap.size, 1, none⟩) (Nat.le_refl _) _).alloc (by simp; omega) _⟩
 have hne := own_ne hown hf2 (by decide)
 have hR : Kd.R (Kd.int .i64) 3 w2 w.heap.size (fun k => k ≠ w.heap.size) (.slice ao (goB a0.data.toList).1.length cap) (goB a0.data.toList).1 := Kd.R_of_own hown (fun k hk e => hne (by rw [hk, e]))
 exact Kd.R_mono (Kd.R_alloc (Kd.R_far (Kd.R_far hR (fun k hk => hk) _) (fun k hk => hk) _) _) (fun _ _ => trivial)
theorem goF_signs : ∀ (k : Nat) (l : List UInt8) (i : Nat) (acc : List Int), i ≤ l.length → l.length ≤ i + k →
  (∀ zs, signsF k (l.drop i) = some zs → goF k l i acc = (acc ++ zs, l.length)) ∧ (signsF k (l.drop i) = none → (goF k l i acc).2 < l.length)
 | 0, l, i, acc, h1, h2 => by
  refine And.intro (fun zs h => ?_) (fun h => by simp [signsF] at h)
  simp only [signsF, Option.some.injEq] at h
  subst h
  rw [goF, List.append_nil, show i = l.length by omega]
 | k + 1, l, i, acc, h1, h2 => by
  by_cases c : i < l.length
  rotate_left
  ·
   have hi : i = l.length := by omega
   rw [goF_end _ _ _ _ c, hi, List.drop_length]
   refine And.intro (fun zs h => ?_) (fun h => by simp [signsF] at h)
   simp only [signsF, if_pos, Option.some.injEq] at h
   subst h; rw [List.append_nil]
  have hne : l.drop i ≠ [] := fun e => by have := congrArg List.length e; rw [List.length_drop, List.length_nil] at this; omega
  have hw := dec_len _ hne
  rw [List.length_drop] at hw
  rw [goF, if_pos c, signsF, if_neg hne]
  by_cases d : (dec (l.drop i)).1 < 0
  · rw [if_pos d, if_pos d]; exact ⟨fun zs h => (by cases h), fun _ => c⟩
  rw [if_neg d, if_neg d, List.drop_drop]
  obtain ⟨i1, i2⟩ := goF_signs k l (i + (dec (l.drop i)).2) (acc ++ [(dec (l.drop i)).1]) (by omega) (by omega)
  refine ⟨fun zs h => ?_, fun h => i2 (Option.map_eq_none_iff.1 h)⟩
  obtain ⟨ys, hy, rfl⟩ := Option.map_eq_some_iff.1 h
  rw [i1 ys hy, List.append_assoc]; rfl
theorem decode_some {l : List UInt8} {zs : List Int} (h : signs l = some zs) : decodeB l = (zs, 0, 0) := by
 have := (goF_signs l.length l 0 [] (Nat.zero_le _) (by omega)).1 zs (by rw [List.drop_zero]; exact h)
 unfold decodeB goB
 rw [this, if_neg (by simp)]; rfl
theorem decode_none {l : List UInt8} (h : signs l = none) : decodeB l = ([], 8, ((goB l).2 : Int)) := by
 have := (goF_signs l.length l 0 [] (Nat.zero_le _) (by omega)).2 (by rw [List.drop_zero]; exact h)
 unfold decodeB
 rw [if_pos (show (goB l).2 < l.length from this)]
theorem of_bytes {s : ByteArray} {l : List UInt8} (h : s.data.toList = l) : s = ⟨l.toArray⟩ := by
 cases s with
 | mk d => subst h; rfl
theorem app_bytes (a b : ByteArray) : (a ++ b).data.toList = a.data.toList ++ b.data.toList := by
  rw [ByteArray.data_append, Array.toList_append]
def doubleOf (l : List UInt8) : List UInt8 × Int := match signs l with
 | some zs => (doubleB zs, 0)
 | none => ([], 8)
def quote_Double.f (a0 : ByteArray) : Option (ByteArray × Int) := if a0.size ≤ 1099511627775 then some (⟨(doubleOf a0.data.toList).1.toArray⟩, (doubleOf a0.data.toList).2) else none
theorem signs_len : ∀ (k : Nat) (l : List UInt8) (zs : List Int), signsF k l = some zs → zs.length ≤ l.length
 | 0, l, zs, h => by simp [signsF] at h; subst h; simp
 | k + 1, l, zs, h => by
  unfold signsF at h
  by_cases hn : l = []
  · rw [if_pos hn] at h; cases Option.some.inj h; simp
  rw [if_neg hn] at h
  by_cases hd : (dec l).1 < 0
  · rw [if_pos hd] at h; cases h
  rw [if_neg hd] at h
  obtain ⟨ys, hy, rfl⟩ := Option.map_eq_some_iff.1 h
  have hw := dec_len l hn
  have := signs_len k _ ys hy
  rw [List.length_drop] at this
  rw [List.length_cons]; omega
theorem escs_len (zs : List Int) : (zs.flatMap escS).length ≤ 10 * zs.length := by
 induction zs with
 | nil => simp
 | cons z zs ih => rw [List.flatMap_cons, List.length_append, List.length_cons]; have := escS_len z; omega
set_option maxHeartbeats 1600000 in
set_option maxRecDepth 100000 in
theorem double_ok (s : ByteArray) (zs : List Int) (hs : s.size ≤ 1099511627775) (hz : signs s.data.toList = some zs) (w : World) (hG : Glob.G w) :
  Calls Tryz.prog 85 #[.string s] w fun e w' => e = .returned (.tuple #[.string ⟨(doubleB zs).toArray⟩, .int .i64 0]) ∧ Below w.heap.size w w' := by
 have hlen := signs_len _ _ _ hz
 rw [← size_list] at hlen
 have hall := (signs_some hz).2
 have hD : utf_Decode.f s = some (zs, 0, 0) := by unfold utf_Decode.f; rw [if_pos hs, decode_some hz]
 have HD := Lib.hid hD
 have HA := Lib.hid hall
 clear hD hall hz
 go_enter Tryz.func85, Tryz.ntmps85
 go_wp2_with (go_at_call 115; refine (utf_Decode.calls _ _ _ _ _ hG HD.out).mono ?_; rintro e w1 ⟨v, rfl, hR, hb1⟩; obtain ⟨A, c, rfl⟩ := Kd.R_slice hR)
 have hC := (Kd.R_reads' hR).2.2
 have HG0 : Hid (Glob.G (w1.alloc (.cells #[.int .i64 0, .int .i64 0] 95))) := Lib.hid ((hG.below hb1).below ((Below.refl _ _).alloc (Nat.le_refl _) _))
 have hfr := Lib.fresh_isBuilder 187 5 (w1.alloc (.cells #[.int .i64 0, .int .i64 0] 95))
 have hsz : (w1.alloc (.cells #[.int .i64 0, .int .i64 0] 95)).heap.size = w1.heap.size + 1 := by simp
 go_loopw [21] (fun a wr => ∃ i : Nat, i ≤ zs.length ∧ a = .int .i64 i ∧ St (w1.alloc (.cells #[.int .i64 0, .int .i64 0] 95)) (w1.heap.size + 1) ((zs.take i).flatMap escS) wr) (fun a _ => zs.length - (intOf a).toNat)
 case atStart =>
  refine ⟨0, Nat.zero_le _, rfl, ⟨?_, (Below.refl _ _).alloc (Nat.le_refl _) _⟩⟩
  rw [hsz] at hfr ⊢
  exact Lib.IsBuilderF.of hfr
 case round =>
  obtain ⟨i, hi, rfl, hst⟩ := hrel
  by_cases hlt : i < zs.length
  rotate_left
  ·
   have hc : decide ((i : Int) < (zs.length : Int)) = false := by simp; omega
   have hie : i = zs.length := by omega
   subst hie
   rw [List.take_length] at hst
   have hl2 := escs_len zs
   have hbS := hst.bel
   have hgot := Bld.got _ _ _ _ _ hst.bld hst.bel.size
   obtain ⟨t, ht⟩ : ∃ t : ByteArray, t = ⟨(zs.flatMap escS).toArray⟩ := ⟨_, rfl⟩
   have hts : t.size ≤ 10 * zs.length := by rw [ht]; exact hl2
   rw [← ht] at hgot
   have hfin : ((⟨#[34]⟩ : ByteArray) ++ t) ++ (⟨#[34]⟩ : ByteArray) = ⟨(doubleB zs).toArray⟩ := of_bytes (by rw [app_bytes, app_bytes, ht]; rfl)
   have HF := Lib.hid hfin
   have s1 : 1 + t.size ≤ 9223372036854775807 := by omega
   have s2 : ((⟨#[34]⟩ : ByteArray) ++ t).size + 1 ≤ 9223372036854775807 := by
    rw [size_list, app_bytes, List.length_append, ← size_list t]
    show 1 + t.size + 1 ≤ _
    omega
   clear hC hR hfr hfin ht hl2
   go_wp2_with (go_at_call 56; refine hgot.mono ?_; rintro e w3 ⟨rfl, hb3⟩)
   go_ret2
   refine ⟨by rw [← HF.out]; rfl, ?_⟩
   have q1 := (Below.refl w1.heap.size w1).alloc (Nat.le_refl _) (.cells #[.int .i64 0, .int .i64 0] 95)
   exact hb1.trans ((q1.trans ((hbS.trans hb3).mono (by omega))).mono hb1.size)
  have hc : decide ((i : Int) < (zs.length : Int)) = true := by simp; omega
  obtain ⟨ad, rfl, hx⟩ := Kd.at_int hC (i : Int) (by omega) (by omega)
  rw [rd_at zs i hlt, Int.toNat_natCast] at hx
  have hadlt := World.block_lt_of_cell? w1 _ hx
  have hx0 : (w1.alloc (.cells #[.int .i64 0, .int .i64 0] 95)).cell? (ad.add i) = some (.int .i64 zs[i]) := (((Below.refl w1.heap.size w1).alloc (Nat.le_refl _) _).cell hadlt).trans hx
  have hx1 := (hst.bel.cell (World.block_lt_of_cell? _ _ hx0)).trans hx0
  have p1 : (0 ≤ (i : Int)) = True := eq_true (by omega)
  have p2 : ((i : Int) < (zs.length : Int)) = True := eq_true (by omega)
  have hsg := HA.out zs[i] (List.getElem_mem hlt)
  have htk : (zs.take (i + 1)).flatMap escS = (zs.take i).flatMap escS ++ escS zs[i] := by rw [List.take_succ_eq_append_getElem hlt, List.flatMap_append]; simp
  have HT := Lib.hid htk
  have hl2 := escs_len (zs.take i)
  have hl3 : (zs.take i).length ≤ zs.length := by rw [List.length_take]; omega
  clear htk hx hx0 hC hR hfr
  generalize zs[i] = x at *
  go_wp2_with (go_at_call 116; refine (put_is HG0.out hst x hsg (by omega)).mono ?_; rintro e w2 ⟨rfl, h2, k2⟩)
  go_roundw
  case rel => exact ⟨i + 1, by omega, by go_num, by rw [HT.out]; exact h2⟩
  case measure => simp [intOf]; omega
set_option maxHeartbeats 1600000 in
set_option maxRecDepth 100000 in
theorem double_bad (s : ByteArray) (hs : s.size ≤ 1099511627775) (hz : signs s.data.toList = none) (w : World) (hG : Glob.G w) :
  Calls Tryz.prog 85 #[.string s] w fun e w' => e = .returned (.tuple #[.string ⟨#[]⟩, .int .i64 8]) ∧ Below w.heap.size w w' := by
 have hD : utf_Decode.f s = some ([], 8, ((goB s.data.toList).2 : Int)) := by unfold utf_Decode.f; rw [if_pos hs, decode_none hz]
 have HD := Lib.hid hD
 clear hD hz
 go_enter Tryz.func85, Tryz.ntmps85
 go_wp2_with (go_at_call 115; refine (utf_Decode.calls _ _ _ _ _ hG HD.out).mono ?_; rintro e w1 ⟨v, rfl, hR, hb1⟩; obtain ⟨A, c, rfl⟩ := Kd.R_slice hR)
 go_ret2
 exact ⟨rfl, hb1.trans (((Below.refl w1.heap.size w1).alloc (Nat.le_refl _) _).mono hb1.size)⟩
theorem quote_Double.calls (a0 : ByteArray) (r1 : ByteArray) (r2 : Int) (w : World) (hG : Glob.G w) (h : quote_Double.f a0 = some (r1, r2)) :
  Calls Tryz.prog 85 #[.string a0] w fun e w' => e = .returned (.tuple #[.string r1, .int .i64 r2]) ∧ Below w.heap.size w w' := by
 unfold quote_Double.f at h
 by_cases hs : a0.size ≤ 1099511627775
 rotate_left
 · rw [if_neg hs] at h; cases h
 rw [if_pos hs] at h
 obtain ⟨rfl, rfl⟩ := Prod.mk.inj (Option.some.inj h)
 unfold doubleOf
 cases hz : signs a0.data.toList with
 | some zs => exact double_ok a0 zs hs hz w hG
 | none => exact double_bad a0 hs hz w hG
end Go.Proofs.YtiooacmplmcphaaGreatDoor.Plug
namespace Go.Proofs.YtiooacmplmcphaaGreatDoor.PX
open RowKit YtiooacmplmcphaaGreatDoorW.PrintWords YtiooacmplmcphaaGreatDoorW.PrintLast YtiooacmplmcphaaGreatDoorW.PrintMore YtiooacmplmcphaaGreatDoor YtiooacmplmcphaaGreatDoor.Plug
attribute [local go_sem] max2_int min2_int max_two min_two max_three min_three max_four min_four   -- for this text's walks alone
set_option linter.unusedVariables false
set_option linter.unusedSimpArgs false
def path_text.f (a0 : ByteArray) : Option (ByteArray × Int) := if a0.toList = ([] : List UInt8) then ((quote_Double.f a0).bind fun bt101 => (some (bt101.1, bt101.2))) else ((strings_Trim.f a0 (⟨#[97, 98, 99, 100, 101, 102, 103, 104, 105, 106, 107, 108, 109, 110, 111, 112, 113, 114, 115, 116, 117, 118, 119, 120, 121, 122, 65, 66, 67, 68, 69, 70, 71, 72, 73, 74, 75, 76, 77, 78, 79, 80, 81, 82, 83, 84, 85, 86, 87, 88, 89, 90, 48, 49, 50, 51, 52, 53, 54, 55, 56, 57, 45, 95]⟩ : ByteArray)).bind fun t103 => (if t103.toList = ([] : List UInt8) then (some (a0, 0)) else ((quote_Double.f a0).bind fun bt104 => (some (bt104.1, bt104.2)))))
theorem qua0_ {P : Prop} (h_ : P := by first | ((repeat (first | (with_reducible first | exact HB.out | apply below_alloc | apply pw_below_drewN | apply below_drew1 | (refine Glob.below_set ?_ (by assumption) _ _ _)) | exact HB.out)); done) | (refine Drawn0.below ?_; repeat (first | exact Drawn0.refl _ | assumption | apply Drawn0.step))) : P := h_
theorem qua1_ {P : Prop} (h_ : P := by repeat (first | (with_reducible first | exact HB.out | apply below_alloc | apply pw_below_drewN | apply below_drew1) | exact HB.out)) : P := h_
theorem qua2_ {P : Prop} (h_ : P := by first | rfl | (simp [errW_none, errW_some] <;> rfl) | (simp [*, errW_none, errW_some] <;> rfl)) : P := h_
theorem qua3_ {P : Prop} (h_ : P := by (try simp only [List.map_toArray, List.map_cons, List.map_nil]); first | done | rfl | (simp only [List.length_drop, List.length_take]; rfl)) : P := h_
set_option maxHeartbeats 8000000 in
set_option maxRecDepth 100000 in
theorem path_text.calls (a0 : ByteArray) (r1 : ByteArray) (r2 : Int) (w : World) (hG : Glob.G w) (h : path_text.f a0 = some (r1, r2)) :
  Calls Tryz.prog 54 #[.string a0] w fun e w' => e = .returned (.tuple #[.string r1, .int .i64 r2]) ∧ Below w.heap.size w w' := by
 have HB := Aside0.mk (Below.refl w.heap.size w)
 have H : (if a0.toList = ([] : List UInt8) then ((quote_Double.f a0).bind fun bt101 => (some (bt101.1, bt101.2))) else ((strings_Trim.f a0 (⟨#[97, 98, 99, 100, 101, 102, 103, 104, 105, 106, 107, 108, 109, 110, 111, 112, 113, 114, 115, 116, 117, 118, 119, 120, 121, 122, 65, 66, 67, 68, 69, 70, 71, 72, 73, 74, 75, 76, 77, 78, 79, 80, 81, 82, 83, 84, 85, 86, 87, 88, 89, 90, 48, 49, 50, 51, 52, 53, 54, 55, 56, 57, 45, 95]⟩ : ByteArray)).bind fun t103 => (if t103.toList = ([] : List UInt8) then (some (a0, 0)) else ((quote_Double.f a0).bind fun bt104 => (some (bt104.1, bt104.2)))))) = some (r1, r2) := h
 clear h
 by_cases c2 : a0.toList = ([] : List UInt8)
 ·
  rw [if_pos c2] at H
  have c2b0 : (a0.toList == ([] : List UInt8)) = true := beq_iff_eq.mpr c2
  have c2b1 : (a0.toList != ([] : List UInt8)) = false := bne_eq_false_iff_eq.mpr c2
  clear c2
  replace H := Option.bind_eq_some_iff.mp H
  obtain ⟨⟨t101, t102⟩, A30, H⟩ := H
  replace H : (some (t101, t102)) = some (r1, r2) := H
  have A3 := Aside0.mk A30
  clear A30
  simp only [Option.some.injEq, Prod.mk.injEq] at H
  obtain ⟨rfl, rfl⟩ := H
  go_enter Tryz.func54, Tryz.ntmps54
  go_wp2_with (first | ((with_reducible refine gate_callee (f := 85) rfl ?_); refine goesL_ (some 13) rfl rfl Tryz.func85 (by kernel_rfl) rfl #[.string a0] rfl (qua3_) ?_; (with_reducible refine (quote_Double.calls a0 t101 t102 _ (hG.below (qua0_)) A3.out).mono ?_); rintro e w4 ⟨rfl, hb⟩; refine ⟨_, rfl, ?_⟩; have n0_ := Aside0.mk (below_step (qua1_) hb); clear HB; have HB := n0_; clear n0_; (try clear hb)))
  go_ret2
  exact ⟨qua2_, qua1_⟩
 rw [if_neg c2] at H
 have c2b0 : (a0.toList == ([] : List UInt8)) = false := beq_eq_false_iff_ne.mpr c2
 have c2b1 : (a0.toList != ([] : List UInt8)) = true := bne_iff_ne.mpr c2
 replace H := Option.bind_eq_some_iff.mp H
 obtain ⟨t103, A50, H⟩ := H
 replace H : (if t103.toList = ([] : List UInt8) then (some (a0, 0)) else ((quote_Double.f a0).bind fun bt104 => (some (bt104.1, bt104.2)))) = some (r1, r2) := H
 have A5 := Aside0.mk A50
 clear A50
 by_cases c6 : t103.toList = ([] : List UInt8)
 ·
  rw [if_pos c6] at H
  have c6b0 : (t103.toList == ([] : List UInt8)) = true := beq_iff_eq.mpr c6
  have c6b1 : (t103.toList != ([] : List UInt8)) = false := bne_eq_false_iff_eq.mpr c6
  clear c6
  simp only [Option.some.injEq, Prod.mk.injEq] at H
  obtain ⟨rfl, rfl⟩ := H
  go_enter Tryz.func54, Tryz.ntmps54
  go_wp2_with (first | (go_at_call 84; (with_reducible refine (strings_Trim.calls a0 (⟨#[97, 98, 99, 100, 101, 102, 103, 104, 105, 106, 107, 108, 109, 110, 111, 112, 113, 114, 115, 116, 117, 118, 119, 120, 121, 122, 65, 66, 67, 68, 69, 70, 71, 72, 73, 74, 75, 76, 77, 78, 79, 80, 81, 82, 83, 84, 85, 86, 87, 88, 89, 90, 48, 49, 50, 51, 52, 53, 54, 55, 56, 57, 45, 95]⟩ : ByteArray) t103 _ (hG.below (qua0_)) A5.out).mono ?_); rintro e w7 ⟨rfl, hb⟩; have n0_ := Aside0.mk (below_step (qua1_) hb); clear HB; have HB := n0_; clear n0_; (try clear hb)))
  go_ret2
  exact ⟨qua2_, qua1_⟩
 rw [if_neg c6] at H
 have c6b0 : (t103.toList == ([] : List UInt8)) = false := beq_eq_false_iff_ne.mpr c6
 have c6b1 : (t103.toList != ([] : List UInt8)) = true := bne_iff_ne.mpr c6
 replace H := Option.bind_eq_some_iff.mp H
 obtain ⟨⟨t104, t105⟩, A80, H⟩ := H
 replace H : (some (t104, t105)) = some (r1, r2) := H
 have A8 := Aside0.mk A80
 clear A80
 simp only [Option.some.injEq, Prod.mk.injEq] at H
 obtain ⟨rfl, rfl⟩ := H
 go_enter Tryz.func54, Tryz.ntmps54
 go_wp2_with (first | (go_at_call 84; (with_reducible refine (strings_Trim.calls a0 (⟨#[97, 98, 99, 100, 101, 102, 103, 104, 105, 106, 107, 108, 109, 110, 111, 112, 113, 114, 115, 116, 117, 118, 119, 120, 121, 122, 65, 66, 67, 68, 69, 70, 71, 72, 73, 74, 75, 76, 77, 78, 79, 80, 81, 82, 83, 84, 85, 86, 87, 88, 89, 90, 48, 49, 50, 51, 52, 53, 54, 55, 56, 57, 45, 95]⟩ : ByteArray) t103 _ (hG.below (qua0_)) A5.out).mono ?_); rintro e w9 ⟨rfl, hb⟩; have n0_ := Aside0.mk (below_step (qua1_) hb); clear HB; have HB := n0_; clear n0_; (try clear hb)) | ((with_reducible refine gate_callee (f := 85) rfl ?_); refine goesL_ (some 13) rfl rfl Tryz.func85 (by kernel_rfl) rfl #[.string a0] rfl (qua3_) ?_; (with_reducible refine (quote_Double.calls a0 t104 t105 _ (hG.below (qua0_)) A8.out).mono ?_); rintro e w10 ⟨rfl, hb⟩; refine ⟨_, rfl, ?_⟩; have n0_ := Aside0.mk (below_step (qua1_) hb); clear HB; have HB := n0_; clear n0_; (try clear hb)))
 go_ret2
 exact ⟨qua2_, qua1_⟩
end Go.Proofs.YtiooacmplmcphaaGreatDoor.PX
namespace Go.Proofs.YtiooacmplmcphaaGreatDoor.Plug
open RowKit YtiooacmplmcphaaGreatDoor YtiooacmplmcphaaGreatDoor.PX YtiooacmplmcphaaGreatDoor.Utf YtiooacmplmcphaaGreatDoorW.PrintWords YtiooacmplmcphaaGreatDoorW.PrintLast YtiooacmplmcphaaGreatDoorW.PrintMore
structure Sp (w : World) (b : Nat) (l : List UInt8) (W : World) : Prop where
 bld : Lib.IsBuilderF 106 5 b b (Lib.byteCells l) W
 bel : Below w.heap.size w W
 lo : w.heap.size ≤ b
 hi : b < W.heap.size
theorem Sp.quiet {w : World} {b : Nat} {l : List UInt8} {W W' : World} (h : Sp w b l W) (hb : Below W.heap.size W W') : Sp w b l W' :=
  ⟨bld_below h.bld hb, h.bel.trans (hb.mono h.bel.size), h.lo, Nat.lt_of_lt_of_le h.hi hb.size⟩
theorem Sp.byte {w : World} {b : Nat} {l : List UInt8} {W : World} (h : Sp w b l W) (c : UInt8) (hl : l.length ≤ 70368744177664) :
  Calls Tryz.prog 55 #[.pointer (some ⟨b, 0, none⟩), .int .u8 (c.toNat : Int)] W fun e w' => e = .returned .nilIface ∧ Sp w b (l ++ [c]) w' :=
 (Bld.byte 106 Bld.lies_plain b b _ (c.toNat : Int) W h.bld (by rw [Lib.byteCells_length]; omega) (Nat.le_of_lt h.hi)).mono fun e w' ⟨he, h1, h2, h3⟩ => ⟨he, by rw [Lib.byteCells_append]; exact .inr h1, h.bel.trans (h2.mono h.lo), h.lo, Nat.lt_of_lt_of_le h.hi h2.size⟩
theorem Sp.text {w : World} {b : Nat} {l : List UInt8} {W : World} (h : Sp w b l W) (t : ByteArray) (hl : l.length + t.size ≤ 70368744177664) :
  Calls Tryz.prog 52 #[.pointer (some ⟨b, 0, none⟩), .string t] W fun e w' => ∃ n : Int, e = .returned (.tuple #[.int .i64 n, .nilIface]) ∧ Sp w b (l ++ t.data.toList) w' :=
 (Bld.text 106 Bld.lies_plain b b _ t W h.bld (by rw [Lib.byteCells_length]; omega) (Nat.le_of_lt h.hi)).mono fun e w' ⟨he, h1, h2, h3⟩ => ⟨_, he, by rw [Lib.byteCells_append]; exact .inr h1, h.bel.trans (h2.mono h.lo), h.lo, Nat.lt_of_lt_of_le h.hi h2.size⟩
def keyT (k : List UInt8) : List UInt8 × Int := if k ≠ [] ∧ k.all isLet = true then (k, 0) else doubleOf k
def okStep (x : S98) : Bool := if x.f2 then decide (0 ≤ x.f1) && decide (x.f1 ≤ 999999) else decide (x.f0.size ≤ 256)
def fmtF : Bool → List S98 → List UInt8 → List UInt8 × Int
 | _, [], acc => (acc, 0)
 | first, x :: xs, acc => if x.f2 = true then fmtF false xs (acc ++ (91 :: (Lib.itoa x.f1 ++ [93]))) else
   if (keyT x.f0.data.toList).2 ≠ 0 then ([], (keyT x.f0.data.toList).2) else fmtF false xs (acc ++ ((if first then [] else [46]) ++ (keyT x.f0.data.toList).1))
def fmtB (l : List S98) : List UInt8 × Int := if 64 < l.length then ([], 5) else if l.all okStep = true then fmtF true l [] else ([], 5)
def path_Format.f (l0 : List S98) : Option (ByteArray × Int) := some (⟨(fmtB l0).1.toArray⟩, (fmtB l0).2)
theorem trim_let_all (l : List UInt8) : Lib.trimS l letters.data.toList = [] ↔ l.all isLet = true := by
 rw [trim_none, List.all_eq_true]
 exact ⟨fun h x hx => by rw [← let_contains]; exact h x hx, fun h x hx => by rw [let_contains]; exact h x hx⟩
theorem text_of (k : ByteArray) (hk : k.size ≤ 1099511627775) : path_text.f k = some (⟨(keyT k.data.toList).1.toArray⟩, (keyT k.data.toList).2) := by
 have hd : quote_Double.f k = some (⟨(doubleOf k.data.toList).1.toArray⟩, (doubleOf k.data.toList).2) := by unfold quote_Double.f; rw [if_pos hk]
 have ht : strings_Trim.f k letters = some ⟨(Lib.trimS k.data.toList letters.data.toList).toArray⟩ := by unfold strings_Trim.f; rw [if_pos ⟨by omega, by decide, by decide⟩]
 unfold path_text.f keyT
 by_cases h : k.data.toList = []
 · rw [Lib.toList_data, if_pos h, hd, Option.bind_some, if_neg (fun e => e.1 h)]
 rw [Lib.toList_data, if_neg h, show (⟨#[97, 98, 99, 100, 101, 102, 103, 104, 105, 106, 107, 108, 109, 110, 111, 112, 113, 114, 115, 116, 117, 118, 119, 120, 121, 122, 65, 66, 67, 68, 69, 70, 71, 72, 73, 74, 75, 76, 77, 78, 79, 80, 81, 82, 83, 84, 85, 86, 87, 88, 89, 90, 48, 49, 50, 51, 52, 53, 54, 55, 56, 57, 45, 95]⟩ : ByteArray) = letters from rfl, ht, Option.bind_some, Lib.toList_data]
 by_cases c : k.data.toList.all isLet = true
 · rw [if_pos ((trim_let_all _).2 c), if_pos ⟨h, c⟩]
 rw [if_neg (fun e => c ((trim_let_all _).1 e)), if_neg (fun e => c e.2), hd]; rfl
theorem keyT_len (k : List UInt8) : (keyT k).1.length ≤ 2 + 10 * k.length := by
 unfold keyT doubleOf
 split
 · dsimp only; omega
 ·
  split
  ·
   rename_i zs hz
   have := signs_len _ _ _ hz
   have := escs_len zs
   rw [doubleB_len]; omega
  · simp
set_option maxHeartbeats 3200000 in
set_option maxRecDepth 100000 in
theorem path_Format.calls (A0 : Option Addr) (c0 : Nat) (l0 : List S98) (r1 : ByteArray) (r2 : Int) (w : World) (hr0 : Kd.C k98 w A0 l0.length l0) (_hc0 : l0.length ≤ c0) (hG : Glob.G w) (h : path_Format.f l0 = some (r1, r2)) :
    Calls Tryz.prog 28 #[.slice A0 l0.length c0] w fun e w' => e = .returned (.tuple #[.string r1, .int .i64 r2]) ∧ Below w.heap.size w w' := by
  unfold path_Format.f at h
  obtain ⟨rfl, rfl⟩ := Prod.mk.inj (Option.some.inj h)
  clear h
  have HG := Lib.hid hG
  have HR := Lib.hid hr0
  clear hG hr0
  unfold fmtB
  by_cases c64 : 64 < l0.length
  · rw [if_pos c64]
    have k0 : decide ((l0.length : Int) > 64) = true := decide_eq_true (by omega)
    go_enter Tryz.func28, Tryz.ntmps28
    go_wp2
    go_ret2
    exact ⟨rfl, Below.refl _ _⟩
  · rw [if_neg c64]
    have k0 : decide ((l0.length : Int) > 64) = false := decide_eq_false (by omega)
    obtain ⟨R, hR⟩ : ∃ R, (if l0.all okStep = true then fmtF true l0 [] else ([], 5)) = R := ⟨_, rfl⟩
    rw [hR]
    have HRR := Lib.hid hR
    clear hR
    go_enter Tryz.func28, Tryz.ntmps28
    go_wp2
    go_loopw [16] (fun i wr => ∃ k : Nat, k ≤ l0.length ∧ i = .int .i64 k ∧ Hid ((l0.take k).all okStep = true) ∧ Hid (Below w.heap.size w wr)) (fun i _ => l0.length - (intOf i).toNat)
    case atStart => exact ⟨0, Nat.zero_le _, rfl, Lib.hid rfl, Lib.hid (Below.refl _ _)⟩
    case round =>
      obtain ⟨k, hk, rfl, HT, HB⟩ := hrel
      by_cases hlt : k < l0.length
      · have hc : decide ((k : Int) < (l0.length : Int)) = true := decide_eq_true (by omega)
        obtain ⟨ad, eA, hx0, hx1, hx2⟩ := at_T98 HR.out (k : Int) (by omega) (by omega)
        subst eA
        rw [show rd_T98 l0 (k : Int) = l0[k] from by unfold rd_T98; rw [Int.toNat_natCast, List.getD_eq_getElem?_getD, List.getElem?_eq_getElem hlt]; rfl] at hx0 hx1 hx2
        replace hx0 := (HB.out.cell (World.block_lt_of_cell? w _ hx0)).trans hx0
        replace hx1 := (HB.out.cell (World.block_lt_of_cell? w _ hx1)).trans hx1
        replace hx2 := (HB.out.cell (World.block_lt_of_cell? w _ hx2)).trans hx2
        have p1 : (0 ≤ (k : Int)) = True := eq_true (by omega)
        have p2 : ((k : Int) < (l0.length : Int)) = True := eq_true (by omega)
        have htk : (l0.take (k + 1)).all okStep = okStep l0[k] := by
          rw [List.take_succ_eq_append_getElem hlt, List.all_append, HT.out]; simp
        have HTK := Lib.hid htk
        have HNO : Hid (okStep l0[k] = false → R = ([], 5)) := Lib.hid (fun hf => by
          rw [← HRR.out, if_neg]
          intro ha
          rw [List.all_eq_true] at ha
          have := ha l0[k] (List.getElem_mem hlt)
          rw [hf] at this; cases this)
        clear htk
        generalize l0[k] = x at *
        obtain ⟨xk, xi, xa⟩ := x
        have hbx := HB.out.alloc HB.out.size (.cells #[.string xk, .int .i64 xi, .bool xa] 98)
        have HBX := Lib.hid hbx
        clear hbx
        simp only [Int.toNat_natCast] at hx0 hx1 hx2
        cases xa with
        | true =>
          by_cases c1 : xi < 0
          · have d1 : decide (xi < 0) = true := decide_eq_true c1
            have HOK : Hid (okStep ⟨xk, xi, true⟩ = false) := Lib.hid (by simp [okStep]; omega)
            clear c1
            have HR2 := Lib.hid (HNO.out HOK.out)
            go_wp2
            go_ret2
            exact ⟨by rw [HR2.out]; rfl, HBX.out⟩
          · have d1 : decide (xi < 0) = false := decide_eq_false c1
            by_cases c2 : xi > 999999
            · have d2 : decide (xi > 999999) = true := decide_eq_true c2
              have HOK : Hid (okStep ⟨xk, xi, true⟩ = false) := Lib.hid (by simp [okStep]; omega)
              clear c1 c2
              have HR2 := Lib.hid (HNO.out HOK.out)
              go_wp2
              go_ret2
              exact ⟨by rw [HR2.out]; rfl, HBX.out⟩
            · have d2 : decide (xi > 999999) = false := decide_eq_false c2
              have HOK : Hid (okStep ⟨xk, xi, true⟩ = true) := Lib.hid (by simp [okStep]; omega)
              clear c1 c2
              go_wp2
              go_roundw
              case rel => exact ⟨k + 1, by omega, by go_num, Lib.hid (by rw [HTK.out]; exact HOK.out), HBX⟩
              case measure => simp [intOf]; omega
        | false =>
          by_cases c1 : 256 < xk.size
          · have d1 : decide ((xk.size : Int) > 256) = true := decide_eq_true (by omega)
            have HOK : Hid (okStep ⟨xk, xi, false⟩ = false) := Lib.hid (by simp [okStep]; omega)
            clear c1
            have HR2 := Lib.hid (HNO.out HOK.out)
            go_wp2
            go_ret2
            exact ⟨by rw [HR2.out]; rfl, HBX.out⟩
          · have d1 : decide ((xk.size : Int) > 256) = false := decide_eq_false (by omega)
            have HOK : Hid (okStep ⟨xk, xi, false⟩ = true) := Lib.hid (by simp [okStep]; omega)
            clear c1
            go_wp2
            go_roundw
            case rel => exact ⟨k + 1, by omega, by go_num, Lib.hid (by rw [HTK.out]; exact HOK.out), HBX⟩
            case measure => simp [intOf]; omega
      · have hc : decide ((k : Int) < (l0.length : Int)) = false := decide_eq_false (by omega)
        have hall := HT.out
        rw [List.take_of_length_le (by omega)] at hall
        have HF : Hid (fmtF true l0 [] = R) := Lib.hid (by rw [← HRR.out, if_pos hall])
        have HA := Lib.hid hall
        have hfr := Lib.fresh_isBuilder 106 5 wr
        have hS : Sp w wr.heap.size [] (wr.alloc (.cells #[.pointer none, .slice none 0 0] 106)) := ⟨Lib.IsBuilderF.of hfr, HB.out.alloc HB.out.size _, HB.out.size, by simp⟩
        obtain ⟨w1, rfl⟩ : ∃ w1 : World, w1 = wr := ⟨_, rfl⟩
        have HS0 := Lib.hid hS
        have hk64 : l0.length ≤ 64 := by omega
        clear hall HRR HT hfr hS HB
        go_wp2
        go_loopw [46] (fun i wr => ∃ (k : Nat) (acc : List UInt8), k ≤ l0.length ∧ i = .int .i64 k ∧ Hid (fmtF (decide (k = 0)) (l0.drop k) acc = R) ∧ Hid (acc.length ≤ k * 3000) ∧ Hid (Sp w w1.heap.size acc wr)) (fun i _ => l0.length - (intOf i).toNat)
        case atStart => exact ⟨0, [], Nat.zero_le _, rfl, HF, Lib.hid (Nat.le_refl _), HS0⟩
        case round =>
          clear HF HS0
          obtain ⟨k, acc, hk, rfl, HF, HL, HS⟩ := hrel
          by_cases hlt : k < l0.length
          · have hc : decide ((k : Int) < (l0.length : Int)) = true := decide_eq_true (by omega)
            obtain ⟨ad, eA, hx0, hx1, hx2⟩ := at_T98 HR.out (k : Int) (by omega) (by omega)
            subst eA
            rw [show rd_T98 l0 (k : Int) = l0[k] from by unfold rd_T98; rw [Int.toNat_natCast, List.getD_eq_getElem?_getD, List.getElem?_eq_getElem hlt]; rfl] at hx0 hx1 hx2
            replace hx0 := (HS.out.bel.cell (World.block_lt_of_cell? w _ hx0)).trans hx0
            replace hx1 := (HS.out.bel.cell (World.block_lt_of_cell? w _ hx1)).trans hx1
            replace hx2 := (HS.out.bel.cell (World.block_lt_of_cell? w _ hx2)).trans hx2
            have p1 : (0 ≤ (k : Int)) = True := eq_true (by omega)
            have p2 : ((k : Int) < (l0.length : Int)) = True := eq_true (by omega)
            have hok : okStep l0[k] = true := List.all_eq_true.1 HA.out _ (List.getElem_mem hlt)
            have hf := HF.out
            rw [List.drop_eq_getElem_cons hlt] at hf
            have hal := HL.out
            have haL : acc.length ≤ 64 * 3000 := Nat.le_trans hal (Nat.mul_le_mul_right _ (by omega))
            generalize l0[k] = x at *
            obtain ⟨xk, xi, xa⟩ := x
            have HBX := Lib.hid (HS.out.quiet ((Below.refl _ _).alloc (Nat.le_refl _) (.cells #[.string xk, .int .i64 xi, .bool xa] 98)))
            simp only [Int.toNat_natCast] at hx0 hx1 hx2
            have hd1 : (decide (k + 1 = 0)) = false := decide_eq_false (by omega)
            cases xa with
            | true =>
              have hxi : 0 ≤ xi ∧ xi ≤ 999999 := by simpa [okStep] using hok
              have hT : strconv_Itoa.f xi = some ⟨(Lib.itoa xi).toArray⟩ := by unfold strconv_Itoa.f; rw [if_pos (by omega)]
              have hTs : (⟨(Lib.itoa xi).toArray⟩ : ByteArray).size ≤ 21 := Lib.itoa_length_le xi (by omega) (by omega)
              have hTl : (⟨(Lib.itoa xi).toArray⟩ : ByteArray).data.toList = Lib.itoa xi := rfl
              rw [fmtF, if_pos rfl] at hf
              generalize (⟨(Lib.itoa xi).toArray⟩ : ByteArray) = T at *
              have HT := Lib.hid hT
              have s1 : 1 + T.size ≤ 9223372036854775807 := by omega
              have s2 : 1 + T.size + 1 ≤ 9223372036854775807 := by omega
              have happ : (((⟨#[91]⟩ : ByteArray) ++ T) ++ (⟨#[93]⟩ : ByteArray)).data.toList = 91 :: (Lib.itoa xi ++ [93]) := by rw [app_bytes, app_bytes, hTl]; rfl
              have hsz : (((⟨#[91]⟩ : ByteArray) ++ T) ++ (⟨#[93]⟩ : ByteArray)).size ≤ 23 := by
                rw [size_list, happ, ← hTl, List.length_cons, List.length_append, ← size_list]; simp; omega
              have HAP := Lib.hid happ; have HSZ := Lib.hid hsz; have HF2 := Lib.hid hf; have HTL := Lib.hid hTl
              clear hT hTl happ hsz hf hok HF HS
              go_wp2_with (first | (go_at_call 53; refine (strconv_Itoa.calls _ _ _ (HG.out.below HBX.out.bel) HT.out).mono ?_; rintro e w2 ⟨rfl, hb2⟩; have HS2 := Lib.hid (HBX.out.quiet hb2); clear hb2) | (go_at_call 52; refine (HS2.out.text _ (by have := HSZ.out; omega)).mono ?_; rintro e w3 ⟨n3, rfl, hS3⟩; have HS3 := Lib.hid hS3; clear hS3))
              go_roundw
              case rel => exact ⟨k + 1, _, by omega, by go_num, Lib.hid (by rw [hd1]; exact HF2.out), Lib.hid (by have := HSZ.out; rw [size_list, HAP.out] at this; rw [List.length_append]; have := HL.out; omega), by rw [HAP.out] at HS3; exact HS3⟩
              case measure => simp [intOf]; omega
            | false =>
              have hxk : xk.size ≤ 256 := by simpa [okStep] using hok
              have hT := text_of xk (by omega)
              have hkl := keyT_len xk.data.toList
              rw [← size_list] at hkl
              rw [fmtF, if_neg Bool.false_ne_true] at hf
              dsimp only at hf
              generalize keyT xk.data.toList = kt at *
              obtain ⟨kl, ke⟩ := kt
              dsimp only at hT hkl hf
              have hTl : (⟨kl.toArray⟩ : ByteArray).data.toList = kl := rfl
              have hTs : (⟨kl.toArray⟩ : ByteArray).size = kl.length := rfl
              generalize (⟨kl.toArray⟩ : ByteArray) = T at *
              have hkl2 : T.size ≤ 2562 := by omega
              have HT := Lib.hid hT
              have HKL := Lib.hid hkl2
              have HTL := Lib.hid hTl
              clear hT hkl hTl hTs hok HF HS hkl2
              by_cases he : ke = 0
              · rw [if_neg (fun e => e he)] at hf
                subst he
                by_cases hk0 : k = 0
                · have d1 : decide ((k : Int) > 0) = false := decide_eq_false (by omega)
                  have d2 : decide (0 < k) = false := decide_eq_false (by omega)
                  have d3 : (0 < k) = False := eq_false (by omega)
                  have HF2 : Hid (fmtF false (l0.drop (k + 1)) (acc ++ kl) = R) := Lib.hid (by rw [decide_eq_true hk0] at hf; simpa using hf)
                  clear hf hk0
                  go_wp2_with (first | (go_at_call 54; refine (path_text.calls _ _ _ _ (HG.out.below HBX.out.bel) HT.out).mono ?_; rintro e w2 ⟨rfl, hb2⟩; have HS2 := Lib.hid (HBX.out.quiet hb2); clear hb2) | (go_at_call 52; refine (HS2.out.text T (by have := HKL.out; omega)).mono ?_; rintro e w4 ⟨n4, rfl, hS4⟩; have HS4 := Lib.hid hS4; clear hS4))
                  go_roundw
                  case rel => exact ⟨k + 1, _, by omega, by go_num, Lib.hid (by rw [hd1]; exact HF2.out), Lib.hid (by have := HKL.out; rw [size_list, HTL.out] at this; rw [List.length_append]; have := HL.out; omega), by rw [HTL.out] at HS4; exact HS4⟩
                  case measure => simp [intOf]; omega
                · have d1 : decide ((k : Int) > 0) = true := decide_eq_true (by omega)
                  have d2 : decide (0 < k) = true := decide_eq_true (by omega)
                  have d3 : (0 < k) = True := eq_true (by omega)
                  have HF2 : Hid (fmtF false (l0.drop (k + 1)) (acc ++ [46] ++ kl) = R) := Lib.hid (by rw [decide_eq_false hk0] at hf; simpa using hf)
                  clear hf hk0
                  go_wp2_with (first | (go_at_call 54; refine (path_text.calls _ _ _ _ (HG.out.below HBX.out.bel) HT.out).mono ?_; rintro e w2 ⟨rfl, hb2⟩; have HS2 := Lib.hid (HBX.out.quiet hb2); clear hb2) | (go_at_call 55; refine (HS2.out.byte 46 (by omega)).mono ?_; rintro e w3 ⟨rfl, hS3⟩; have HS3 := Lib.hid hS3; clear hS3) | (go_at_call 52; refine (HS3.out.text T (by rw [List.length_append, List.length_singleton]; have := HKL.out; omega)).mono ?_; rintro e w4 ⟨n4, rfl, hS4⟩; have HS4 := Lib.hid hS4; clear hS4))
                  go_roundw
                  case rel => exact ⟨k + 1, _, by omega, by go_num, Lib.hid (by rw [hd1]; exact HF2.out), Lib.hid (by have := HKL.out; rw [size_list, HTL.out] at this; rw [List.length_append, List.length_append, List.length_singleton]; have := HL.out; omega), by rw [HTL.out] at HS4; exact HS4⟩
                  case measure => simp [intOf]; omega
              · rw [if_pos he] at hf
                have e1 : (ke != 0) = true := bne_iff_ne.2 he
                have e2 : (ke == 0) = false := beq_eq_false_iff_ne.2 he
                have HF2 := Lib.hid hf
                clear hf he
                go_wp2_with (go_at_call 54; refine (path_text.calls _ _ _ _ (HG.out.below HBX.out.bel) HT.out).mono ?_; rintro e w2 ⟨rfl, hb2⟩; have HS2 := Lib.hid (HBX.out.quiet hb2); clear hb2)
                go_ret2
                exact ⟨by rw [← HF2.out]; rfl, HS2.out.bel⟩
          · have hc : decide ((k : Int) < (l0.length : Int)) = false := decide_eq_false (by omega)
            have hf := HF.out
            rw [List.drop_of_length_le (by omega), fmtF] at hf
            have HF2 := Lib.hid hf
            have hgot := Bld.got _ _ _ _ _ HS.out.bld (Nat.le_of_lt HS.out.hi)
            have HGT := Lib.hid hgot
            clear hf hgot HF
            go_wp2_with (go_at_call 56; refine HGT.out.mono ?_; rintro e w3 ⟨rfl, hb3⟩)
            go_ret2
            exact ⟨by rw [← HF2.out]; rfl, HS.out.bel.trans (hb3.mono HS.out.lo)⟩
end Go.Proofs.YtiooacmplmcphaaGreatDoor.Plug
namespace Go.Proofs.YtiooacmplmcphaaGreatDoor.PX
open RowKit YtiooacmplmcphaaGreatDoorW.PrintWords YtiooacmplmcphaaGreatDoorW.PrintLast YtiooacmplmcphaaGreatDoorW.PrintMore YtiooacmplmcphaaGreatDoor YtiooacmplmcphaaGreatDoor.Plug
attribute [local go_sem] max2_int min2_int max_two min_two max_three min_three max_four min_four   -- for this text's walks alone
set_option linter.unusedVariables false
set_option linter.unusedSimpArgs false
def path_reader_step.f (s0_0 : Int) (s0_1 : ByteArray) (s0_2 : Int) (s0_3 : Int) : Option (ByteArray × Int × Bool × Int × ByteArray × Int × Int) := if 0 < (s0_1.size : Int) then (if (bt s0_1 0) = 91 then (if 1 ≤ (s0_1.size : Int) then ((path_reader_index.f s0_0 (s0_1.extract 1 s0_1.size) s0_2 s0_3).bind fun bt102 => (some (bt102.1, bt102.2.1, bt102.2.2.1, bt102.2.2.2.1, bt102.2.2.2.2.1, bt102.2.2.2.2.2.1, bt102.2.2.2.2.2.2))) else (none)) else (if (wrap64 (s0_0 - (s0_1.size : Int))) = 0 then ((path_reader_key.f s0_0 s0_1 s0_2 s0_3 (wrap64 (s0_0 - (s0_1.size : Int)))).bind fun bt109 => (some (bt109.1, bt109.2.1, bt109.2.2.1, bt109.2.2.2.1, bt109.2.2.2.2.1, bt109.2.2.2.2.2.1, bt109.2.2.2.2.2.2))) else (if (bt s0_1 0) = 46 then (if 1 ≤ (s0_1.size : Int) then ((path_reader_key.f s0_0 (s0_1.extract 1 s0_1.size) s0_2 s0_3 (wrap64 (s0_0 - (s0_1.size : Int)))).bind fun bt116 => (some (bt116.1, bt116.2.1, bt116.2.2.1, bt116.2.2.2.1, bt116.2.2.2.2.1, bt116.2.2.2.2.2.1, bt116.2.2.2.2.2.2))) else (none)) else ((path_reader_wrong.f s0_0 s0_1 s0_2 s0_3 0).bind fun bt123 => ((path_reader_key.f bt123.1 bt123.2.1 bt123.2.2.1 bt123.2.2.2 (wrap64 (s0_0 - (s0_1.size : Int)))).bind fun bt127 => (some (bt127.1, bt127.2.1, bt127.2.2.1, bt127.2.2.2.1, bt127.2.2.2.2.1, bt127.2.2.2.2.2.1, bt127.2.2.2.2.2.2))))))) else (none)
theorem qva0_ {P : Prop} (h_ : P := by repeat (first | (with_reducible first | exact HK.out | apply KeepBut.set_ | apply keep_drewN | apply keep_drew | apply keep_alloc) | exact HK.out)) : P := h_
theorem qva1_ {P : Prop} (h_ : P := by first | ((repeat (first | (with_reducible first | exact HB.out | apply below_alloc | apply pw_below_drewN | apply below_drew1 | (refine Glob.below_set ?_ (by assumption) _ _ _)) | exact HB.out)); done) | (refine Drawn0.below ?_; repeat (first | exact Drawn0.refl _ | assumption | apply Drawn0.step))) : P := h_
theorem qva2_ {P : Prop} (h_ : P := by repeat (first | (with_reducible first | exact HK.out | apply KeepBut.set_ | apply keep_drewN | apply keep_drew | apply keep_alloc | refine keep_far ?_ GW101.out _) | exact HK.out)) : P := h_
theorem qva3_ {P : Prop} (h_ : P := by repeat (first | (with_reducible first | exact HI0.out | apply IsS138.alloc | apply IsS138.drewN | apply IsS138.drew | apply IsS138.set_0 | apply IsS138.set_1 | apply IsS138.set_2 | apply IsS138.set_3) | exact HI0.out)) : P := h_
theorem qva4_ {P : Prop} (h_ : P := by repeat (first | (with_reducible first | exact HB.out | apply below_alloc | apply pw_below_drewN | apply below_drew1 | refine below_set ?_ (IsS138.ge HI0.out)) | exact HB.out)) : P := h_
theorem qva5_ {P : Prop} (h_ : P := by (with_reducible repeat (first | refine blk_drewN ?_ _ | refine blk_drew ?_ | refine blk_alloc ?_ _)); refine blk_far ?_ NB101_0.out _; (with_reducible repeat (first | refine blk_drewN ?_ _ | refine blk_drew ?_ | refine blk_alloc ?_ _)); exact BK101.out) : P := h_
theorem qva6_ {P : Prop} (h_ : P := by first | (with_reducible assumption) | assumption) : P := h_
theorem qva7_ {P : Prop} (h_ : P := by (with_reducible repeat (first | refine blk_drewN ?_ _ | refine blk_drew ?_ | refine blk_alloc ?_ _)); exact BK101.out) : P := h_
theorem qva8_ {P : Prop} (h_ : P := by repeat (first | (with_reducible first | exact HI0.out | apply IsS138.alloc | apply IsS138.drewN | apply IsS138.drew | apply IsS138.set_0 | apply IsS138.set_1 | apply IsS138.set_2 | apply IsS138.set_3 | refine IsS138.far ?_ NB0_101.out _) | exact HI0.out)) : P := h_
theorem qva9_ {P : Prop} (h_ : P := by repeat (first | (with_reducible first | exact HB.out | apply below_alloc | apply pw_below_drewN | apply below_drew1 | refine below_set ?_ (IsS138.ge HI0.out) | refine below_set ?_ GE101.out) | exact HB.out)) : P := h_
theorem qva10_ {P : Prop} (h_ : P := by first | rfl | (simp [errW_none, errW_some] <;> rfl) | (simp [*, errW_none, errW_some] <;> rfl)) : P := h_
set_option maxHeartbeats 8000000 in
set_option maxRecDepth 100000 in
theorem path_reader_step.calls (g : Nat) (s0_0 : Int) (s0_1 : ByteArray) (s0_2 : Int) (s0_3 : Int) (r1 : ByteArray) (r2 : Int) (r3 : Bool) (r4 : Int) (r5 : ByteArray) (r6 : Int) (r7 : Int) (w0 w : World) (hI : IsS138 w0 w g s0_0 s0_1 s0_2 s0_3) (hB : Below w0.heap.size w0 w) (hG : Glob.G w0) (h : path_reader_step.f s0_0 s0_1 s0_2 s0_3 = some (r1, r2, r3, r4, r5, r6, r7)) :
  Calls Tryz.prog 74 #[.pointer (some ⟨g, 0, none⟩)] w fun e w' => e = .returned (.agg #[.string r1, .int .i64 r2, .bool r3]) ∧ IsS138 w0 w' g r4 r5 r6 r7 ∧ Below w0.heap.size w0 w' ∧ KeepBut w w' g none := by
 have hu98 := Tryz.underlying98
 have HI0 := Aside0.mk hI
 have HK := Aside0.mk (KeepBut.refl w g none)
 have HL := Aside0.mk hB.size
 clear hI
 have HW0 := Aside0.mk hB.size
 have HB := Aside0.mk hB
 clear hB
 have H : (if 0 < (s0_1.size : Int) then (if (bt s0_1 0) = 91 then (if 1 ≤ (s0_1.size : Int) then ((path_reader_index.f s0_0 (s0_1.extract 1 s0_1.size) s0_2 s0_3).bind fun bt102 => (some (bt102.1, bt102.2.1, bt102.2.2.1, bt102.2.2.2.1, bt102.2.2.2.2.1, bt102.2.2.2.2.2.1, bt102.2.2.2.2.2.2))) else (none)) else (if (wrap64 (s0_0 - (s0_1.size : Int))) = 0 then ((path_reader_key.f s0_0 s0_1 s0_2 s0_3 (wrap64 (s0_0 - (s0_1.size : Int)))).bind fun bt109 => (some (bt109.1, bt109.2.1, bt109.2.2.1, bt109.2.2.2.1, bt109.2.2.2.2.1, bt109.2.2.2.2.2.1, bt109.2.2.2.2.2.2))) else (if (bt s0_1 0) = 46 then (if 1 ≤ (s0_1.size : Int) then ((path_reader_key.f s0_0 (s0_1.extract 1 s0_1.size) s0_2 s0_3 (wrap64 (s0_0 - (s0_1.size : Int)))).bind fun bt116 => (some (bt116.1, bt116.2.1, bt116.2.2.1, bt116.2.2.2.1, bt116.2.2.2.2.1, bt116.2.2.2.2.2.1, bt116.2.2.2.2.2.2))) else (none)) else ((path_reader_wrong.f s0_0 s0_1 s0_2 s0_3 0).bind fun bt123 => ((path_reader_key.f bt123.1 bt123.2.1 bt123.2.2.1 bt123.2.2.2 (wrap64 (s0_0 - (s0_1.size : Int)))).bind fun bt127 => (some (bt127.1, bt127.2.1, bt127.2.2.1, bt127.2.2.2.1, bt127.2.2.2.2.1, bt127.2.2.2.2.2.1, bt127.2.2.2.2.2.2))))))) else (none)) = some (r1, r2, r3, r4, r5, r6, r7) := h
 clear h
 by_cases c2 : 0 < (s0_1.size : Int)
 rotate_left
 ·
  rw [if_neg c2] at H
  exact absurd H (by simp)
 rw [if_pos c2] at H
 have c2b0 : decide (0 < (s0_1.size : Int)) = true := decide_eq_true c2
 have c2b1 : decide (0 < s0_1.size) = true := decide_eq_true (by omega)
 clear c2
 by_cases c4 : (bt s0_1 0) = 91
 ·
  rw [if_pos c4] at H
  have c4b0 : ((bt s0_1 0) == 91) = true := beq_iff_eq.mpr c4
  have c4b1 : ((bt s0_1 0) != 91) = false := bne_eq_false_iff_eq.mpr c4
  clear c4
  by_cases c5 : 1 ≤ (s0_1.size : Int)
  rotate_left
  ·
   rw [if_neg c5] at H
   exact absurd H (by simp)
  rw [if_pos c5] at H
  have c5b0 := eq_true c5
  have c5b1 : decide (1 ≤ (s0_1.size : Int)) = true := decide_eq_true c5
  clear c5
  replace H := Option.bind_eq_some_iff.mp H
  obtain ⟨⟨t102, t103, t104, t105, t106, t107, t108⟩, A60, H⟩ := H
  replace H : (some (t102, t103, t104, t105, t106, t107, t108)) = some (r1, r2, r3, r4, r5, r6, r7) := H
  have A6 := Aside0.mk A60
  clear A60
  simp only [Option.some.injEq, Prod.mk.injEq] at H
  obtain ⟨rfl, rfl, rfl, rfl, rfl, rfl, rfl⟩ := H
  go_enter Tryz.func74, Tryz.ntmps74
  go_wp2_with (first | ((with_reducible refine gate_dst (N := 2) rfl ?_); refine box_event ?hg (N := 2) ?hd (cs := #[.string (⟨#[]⟩ : ByteArray), .int .i64 0, .bool false]) (t := 98) ?hr ?_; (case hd => rfl); (case hg => rfl); (case hr => first | (go_simp; done) | (go_simp; rfl)); intro gb101 hg w7 hbox hb; have n0_ := Aside0.mk (IsS138.below (qva3_) hb); have n1_ := Aside0.mk (KeepBut.trans (qva0_) (KeepBut.of_below hb g none) (.inl rfl)); have n2_ := Aside0.mk (below_step (qva4_) hb); have n3_ := Aside0.mk (hbox); have n4_ := Aside0.mk ((by rw [hg]; exact (keep_size (w := w) (g := g) (row := none) (qva0_)) : w.heap.size ≤ gb101)); have n5_ := Aside0.mk ((Nat.le_trans HW0.out (by rw [hg]; exact (keep_size (w := w) (g := g) (row := none) (qva0_)) : w.heap.size ≤ gb101) : w0.heap.size ≤ gb101)); have n6_ := Aside0.mk ((by rw [hg]; exact Nat.ne_of_lt (IsS138.lt (show IsS138 w0 _ g s0_0 s0_1 s0_2 s0_3 from by repeat (first | (with_reducible first | exact HI0.out | apply IsS138.alloc | apply IsS138.drewN | apply IsS138.drew | apply IsS138.set_0 | apply IsS138.set_1 | apply IsS138.set_2 | apply IsS138.set_3) | exact HI0.out))) : g ≠ gb101)); have n7_ := Aside0.mk ((by rw [hg]; exact Nat.ne_of_gt (IsS138.lt (show IsS138 w0 _ g s0_0 s0_1 s0_2 s0_3 from by repeat (first | (with_reducible first | exact HI0.out | apply IsS138.alloc | apply IsS138.drewN | apply IsS138.drew | apply IsS138.set_0 | apply IsS138.set_1 | apply IsS138.set_2 | apply IsS138.set_3) | exact HI0.out))) : gb101 ≠ g)); clear HI0; clear HK; clear HB; have HI0 := n0_; have HK := n1_; have HB := n2_; have BK101 := n3_; have GW101 := n4_; have GE101 := n5_; have NB0_101 := n6_; have NB101_0 := n7_; clear n0_ n1_ n2_ n3_ n4_ n5_ n6_ n7_; clear hb hbox hg; obtain ⟨HGz8, hgz8⟩ := HI0.out; have hcz8_0 := cellS138_0 HGz8; have hcz8_1 := cellS138_1 HGz8; have hcz8_2 := cellS138_2 HGz8; have hcz8_3 := cellS138_3 HGz8; have hfz8_0 := blk_frozen HGz8 0; have hfz8_1 := blk_frozen HGz8 1; have hfz8_2 := blk_frozen HGz8 2; have hfz8_3 := blk_frozen HGz8 3; clear HGz8 hgz8; have p3 : 0 ≤ (0 : Int) := (by omega); have q3 : 0 < s0_1.size := (by have : (0 : Int) < (s0_1.size : Int) := of_decide_eq_true (qva6_); omega); have hx3 : ∀ h : 0 < s0_1.size, ((s0_1[0]'h).toNat : Int) = bt s0_1 0 := bt_at s0_1 0; clear p3; have qi3 : (0 < (s0_1.size : Int)) = True := eq_true (of_decide_eq_true (qva6_)); replace q3 := eq_true q3) | (go_at_call 98; (with_reducible refine (path_reader_index.calls g s0_0 (s0_1.extract 1 s0_1.size) s0_2 s0_3 t102 t103 t104 t105 t106 t107 t108 w0 _ ?side1 ?side2 (hG.below (qva1_)) A6.out).mono ?_); (case side1 => repeat (first | (with_reducible first | exact HI0.out | apply IsS138.alloc | apply IsS138.drewN | apply IsS138.drew | apply IsS138.set_0 | apply IsS138.set_1 | apply IsS138.set_2 | apply IsS138.set_3 | refine IsS138.far ?_ NB0_101.out _) | exact HI0.out)); (case side2 => repeat (first | (with_reducible first | exact HB.out | apply below_alloc | apply pw_below_drewN | apply below_drew1 | refine below_set ?_ (IsS138.ge HI0.out) | refine below_set ?_ GE101.out) | exact HB.out)); rintro e w9 ⟨rfl, hi, hb, hk⟩; have n0_ := Aside0.mk (KeepBut.blk hk (g' := gb101) (o := .cells #[.string (⟨#[]⟩ : ByteArray), .int .i64 0, .bool false] 98 (0, 0)) (qva5_) NB101_0.out (by simp)); have n1_ := Aside0.mk (KeepBut.trans (qva2_) hk (.inl rfl)); have n2_ := Aside0.mk (hb); have n3_ := Aside0.mk (hi); clear BK101; clear HK; clear HB; clear HI0; have BK101 := n0_; have HK := n1_; have HB := n2_; have HI0 := n3_; clear n0_ n1_ n2_ n3_; (try clear hb); (try clear hk); (try clear hi); have hnb10 := NB101_0.out; have hnc10 := NB0_101.out; have hcz11_0 : w9.cell? ⟨gb101, 0, none⟩ = some (.string (⟨#[]⟩ : ByteArray)) := (blk_cell BK101.out 0).trans rfl; have hcz11_1 : w9.cell? ⟨gb101, 1, none⟩ = some (.int .i64 0) := (blk_cell BK101.out 1).trans rfl; have hcz11_2 : w9.cell? ⟨gb101, 2, none⟩ = some (.bool false) := (blk_cell BK101.out 2).trans rfl; have hfz11_0 := blk_frozen BK101.out 0; have hfz11_1 := blk_frozen BK101.out 1; have hfz11_2 := blk_frozen BK101.out 2))
  repeat (go_quiet (first | ((with_reducible refine gate_dst (N := 2) rfl ?_); refine box_event ?hg (N := 2) ?hd (cs := #[.string (⟨#[]⟩ : ByteArray), .int .i64 0, .bool false]) (t := 98) ?hr ?_; (case hd => rfl); (case hg => rfl); (case hr => first | (go_simp; done) | (go_simp; rfl)); intro gb101 hg w7 hbox hb; have n0_ := Aside0.mk (IsS138.below (qva3_) hb); have n1_ := Aside0.mk (KeepBut.trans (qva0_) (KeepBut.of_below hb g none) (.inl rfl)); have n2_ := Aside0.mk (below_step (qva4_) hb); have n3_ := Aside0.mk (hbox); have n4_ := Aside0.mk ((by rw [hg]; exact (keep_size (w := w) (g := g) (row := none) (qva0_)) : w.heap.size ≤ gb101)); have n5_ := Aside0.mk ((Nat.le_trans HW0.out (by rw [hg]; exact (keep_size (w := w) (g := g) (row := none) (qva0_)) : w.heap.size ≤ gb101) : w0.heap.size ≤ gb101)); have n6_ := Aside0.mk ((by rw [hg]; exact Nat.ne_of_lt (IsS138.lt (show IsS138 w0 _ g s0_0 s0_1 s0_2 s0_3 from by repeat (first | (with_reducible first | exact HI0.out | apply IsS138.alloc | apply IsS138.drewN | apply IsS138.drew | apply IsS138.set_0 | apply IsS138.set_1 | apply IsS138.set_2 | apply IsS138.set_3) | exact HI0.out))) : g ≠ gb101)); have n7_ := Aside0.mk ((by rw [hg]; exact Nat.ne_of_gt (IsS138.lt (show IsS138 w0 _ g s0_0 s0_1 s0_2 s0_3 from by repeat (first | (with_reducible first | exact HI0.out | apply IsS138.alloc | apply IsS138.drewN | apply IsS138.drew | apply IsS138.set_0 | apply IsS138.set_1 | apply IsS138.set_2 | apply IsS138.set_3) | exact HI0.out))) : gb101 ≠ g)); clear HI0; clear HK; clear HB; have HI0 := n0_; have HK := n1_; have HB := n2_; have BK101 := n3_; have GW101 := n4_; have GE101 := n5_; have NB0_101 := n6_; have NB101_0 := n7_; clear n0_ n1_ n2_ n3_ n4_ n5_ n6_ n7_; clear hb hbox hg; obtain ⟨HGz8, hgz8⟩ := HI0.out; have hcz8_0 := cellS138_0 HGz8; have hcz8_1 := cellS138_1 HGz8; have hcz8_2 := cellS138_2 HGz8; have hcz8_3 := cellS138_3 HGz8; have hfz8_0 := blk_frozen HGz8 0; have hfz8_1 := blk_frozen HGz8 1; have hfz8_2 := blk_frozen HGz8 2; have hfz8_3 := blk_frozen HGz8 3; clear HGz8 hgz8; have p3 : 0 ≤ (0 : Int) := (by omega); have q3 : 0 < s0_1.size := (by have : (0 : Int) < (s0_1.size : Int) := of_decide_eq_true (qva6_); omega); have hx3 : ∀ h : 0 < s0_1.size, ((s0_1[0]'h).toNat : Int) = bt s0_1 0 := bt_at s0_1 0; clear p3; have qi3 : (0 < (s0_1.size : Int)) = True := eq_true (of_decide_eq_true (qva6_)); replace q3 := eq_true q3) | (go_at_call 98; (with_reducible refine (path_reader_index.calls g s0_0 (s0_1.extract 1 s0_1.size) s0_2 s0_3 t102 t103 t104 t105 t106 t107 t108 w0 _ ?side1 ?side2 (hG.below (qva1_)) A6.out).mono ?_); (case side1 => repeat (first | (with_reducible first | exact HI0.out | apply IsS138.alloc | apply IsS138.drewN | apply IsS138.drew | apply IsS138.set_0 | apply IsS138.set_1 | apply IsS138.set_2 | apply IsS138.set_3 | refine IsS138.far ?_ NB0_101.out _) | exact HI0.out)); (case side2 => repeat (first | (with_reducible first | exact HB.out | apply below_alloc | apply pw_below_drewN | apply below_drew1 | refine below_set ?_ (IsS138.ge HI0.out) | refine below_set ?_ GE101.out) | exact HB.out)); rintro e w9 ⟨rfl, hi, hb, hk⟩; have n0_ := Aside0.mk (KeepBut.blk hk (g' := gb101) (o := .cells #[.string (⟨#[]⟩ : ByteArray), .int .i64 0, .bool false] 98 (0, 0)) (qva5_) NB101_0.out (by simp)); have n1_ := Aside0.mk (KeepBut.trans (qva2_) hk (.inl rfl)); have n2_ := Aside0.mk (hb); have n3_ := Aside0.mk (hi); clear BK101; clear HK; clear HB; clear HI0; have BK101 := n0_; have HK := n1_; have HB := n2_; have HI0 := n3_; clear n0_ n1_ n2_ n3_; (try clear hb); (try clear hk); (try clear hi); have hnb10 := NB101_0.out; have hnc10 := NB0_101.out; have hcz11_0 : w9.cell? ⟨gb101, 0, none⟩ = some (.string (⟨#[]⟩ : ByteArray)) := (blk_cell BK101.out 0).trans rfl; have hcz11_1 : w9.cell? ⟨gb101, 1, none⟩ = some (.int .i64 0) := (blk_cell BK101.out 1).trans rfl; have hcz11_2 : w9.cell? ⟨gb101, 2, none⟩ = some (.bool false) := (blk_cell BK101.out 2).trans rfl; have hfz11_0 := blk_frozen BK101.out 0; have hfz11_1 := blk_frozen BK101.out 1; have hfz11_2 := blk_frozen BK101.out 2)); try go_wp2_with (first | ((with_reducible refine gate_dst (N := 2) rfl ?_); refine box_event ?hg (N := 2) ?hd (cs := #[.string (⟨#[]⟩ : ByteArray), .int .i64 0, .bool false]) (t := 98) ?hr ?_; (case hd => rfl); (case hg => rfl); (case hr => first | (go_simp; done) | (go_simp; rfl)); intro gb101 hg w7 hbox hb; have n0_ := Aside0.mk (IsS138.below (qva3_) hb); have n1_ := Aside0.mk (KeepBut.trans (qva0_) (KeepBut.of_below hb g none) (.inl rfl)); have n2_ := Aside0.mk (below_step (qva4_) hb); have n3_ := Aside0.mk (hbox); have n4_ := Aside0.mk ((by rw [hg]; exact (keep_size (w := w) (g := g) (row := none) (qva0_)) : w.heap.size ≤ gb101)); have n5_ := Aside0.mk ((Nat.le_trans HW0.out (by rw [hg]; exact (keep_size (w := w) (g := g) (row := none) (qva0_)) : w.heap.size ≤ gb101) : w0.heap.size ≤ gb101)); have n6_ := Aside0.mk ((by rw [hg]; exact Nat.ne_of_lt (IsS138.lt (show IsS138 w0 _ g s0_0 s0_1 s0_2 s0_3 from by repeat (first | (with_reducible first | exact HI0.out | apply IsS138.alloc | apply IsS138.drewN | apply IsS138.drew | apply IsS138.set_0 | apply IsS138.set_1 | apply IsS138.set_2 | apply IsS138.set_3) | exact HI0.out))) : g ≠ gb101)); have n7_ := Aside0.mk ((by rw [hg]; exact Nat.ne_of_gt (IsS138.lt (show IsS138 w0 _ g s0_0 s0_1 s0_2 s0_3 from by repeat (first | (with_reducible first | exact HI0.out | apply IsS138.alloc | apply IsS138.drewN | apply IsS138.drew | apply IsS138.set_0 | apply IsS138.set_1 | apply IsS138.set_2 | apply IsS138.set_3) | exact HI0.out))) : gb101 ≠ g)); clear HI0; clear HK; clear HB; have HI0 := n0_; have HK := n1_; have HB := n2_; have BK101 := n3_; have GW101 := n4_; have GE101 := n5_; have NB0_101 := n6_; have NB101_0 := n7_; clear n0_ n1_ n2_ n3_ n4_ n5_ n6_ n7_; clear hb hbox hg; obtain ⟨HGz8, hgz8⟩ := HI0.out; have hcz8_0 := cellS138_0 HGz8; have hcz8_1 := cellS138_1 HGz8; have hcz8_2 := cellS138_2 HGz8; have hcz8_3 := cellS138_3 HGz8; have hfz8_0 := blk_frozen HGz8 0; have hfz8_1 := blk_frozen HGz8 1; have hfz8_2 := blk_frozen HGz8 2; have hfz8_3 := blk_frozen HGz8 3; clear HGz8 hgz8; have p3 : 0 ≤ (0 : Int) := (by omega); have q3 : 0 < s0_1.size := (by have : (0 : Int) < (s0_1.size : Int) := of_decide_eq_true (qva6_); omega); have hx3 : ∀ h : 0 < s0_1.size, ((s0_1[0]'h).toNat : Int) = bt s0_1 0 := bt_at s0_1 0; clear p3; have qi3 : (0 < (s0_1.size : Int)) = True := eq_true (of_decide_eq_true (qva6_)); replace q3 := eq_true q3) | (go_at_call 98; (with_reducible refine (path_reader_index.calls g s0_0 (s0_1.extract 1 s0_1.size) s0_2 s0_3 t102 t103 t104 t105 t106 t107 t108 w0 _ ?side1 ?side2 (hG.below (qva1_)) A6.out).mono ?_); (case side1 => repeat (first | (with_reducible first | exact HI0.out | apply IsS138.alloc | apply IsS138.drewN | apply IsS138.drew | apply IsS138.set_0 | apply IsS138.set_1 | apply IsS138.set_2 | apply IsS138.set_3 | refine IsS138.far ?_ NB0_101.out _) | exact HI0.out)); (case side2 => repeat (first | (with_reducible first | exact HB.out | apply below_alloc | apply pw_below_drewN | apply below_drew1 | refine below_set ?_ (IsS138.ge HI0.out) | refine below_set ?_ GE101.out) | exact HB.out)); rintro e w9 ⟨rfl, hi, hb, hk⟩; have n0_ := Aside0.mk (KeepBut.blk hk (g' := gb101) (o := .cells #[.string (⟨#[]⟩ : ByteArray), .int .i64 0, .bool false] 98 (0, 0)) (qva5_) NB101_0.out (by simp)); have n1_ := Aside0.mk (KeepBut.trans (qva2_) hk (.inl rfl)); have n2_ := Aside0.mk (hb); have n3_ := Aside0.mk (hi); clear BK101; clear HK; clear HB; clear HI0; have BK101 := n0_; have HK := n1_; have HB := n2_; have HI0 := n3_; clear n0_ n1_ n2_ n3_; (try clear hb); (try clear hk); (try clear hi); have hnb10 := NB101_0.out; have hnc10 := NB0_101.out; have hcz11_0 : w9.cell? ⟨gb101, 0, none⟩ = some (.string (⟨#[]⟩ : ByteArray)) := (blk_cell BK101.out 0).trans rfl; have hcz11_1 : w9.cell? ⟨gb101, 1, none⟩ = some (.int .i64 0) := (blk_cell BK101.out 1).trans rfl; have hcz11_2 : w9.cell? ⟨gb101, 2, none⟩ = some (.bool false) := (blk_cell BK101.out 2).trans rfl; have hfz11_0 := blk_frozen BK101.out 0; have hfz11_1 := blk_frozen BK101.out 1; have hfz11_2 := blk_frozen BK101.out 2)))
  refine bodyPost_ret (results_cell_row rfl _ _ gb101 98 #[.string t102, .int .i64 t103, .bool t104] (0, 0) _ rfl (by (with_reducible repeat (first | refine blk_drewN ?_ _ | refine blk_drew ?_ | refine blk_alloc ?_ _)); refine blk_put (cs := #[.string t102, .int .i64 t103, .bool false]) ?_ 2 _ rfl; (with_reducible repeat (first | refine blk_drewN ?_ _ | refine blk_drew ?_ | refine blk_alloc ?_ _)); refine blk_put (cs := #[.string t102, .int .i64 0, .bool false]) ?_ 1 _ rfl; (with_reducible repeat (first | refine blk_drewN ?_ _ | refine blk_drew ?_ | refine blk_alloc ?_ _)); refine blk_put (cs := #[.string (⟨#[]⟩ : ByteArray), .int .i64 0, .bool false]) ?_ 0 _ rfl; (with_reducible repeat (first | refine blk_drewN ?_ _ | refine blk_drew ?_ | refine blk_alloc ?_ _)); exact BK101.out) Tryz.underlying98 rfl (by kernel_rfl)) rfl ?_
  exact ⟨qva10_, qva8_, qva9_, qva2_⟩
 rw [if_neg c4] at H
 have c4b0 : ((bt s0_1 0) == 91) = false := beq_eq_false_iff_ne.mpr c4
 have c4b1 : ((bt s0_1 0) != 91) = true := bne_iff_ne.mpr c4
 by_cases c12 : (wrap64 (s0_0 - (s0_1.size : Int))) = 0
 ·
  rw [if_pos c12] at H
  have c12b0 : ((wrap64 (s0_0 - (s0_1.size : Int))) == 0) = true := beq_iff_eq.mpr c12
  have c12b1 : ((wrap64 (s0_0 - (s0_1.size : Int))) != 0) = false := bne_eq_false_iff_eq.mpr c12
  clear c12
  replace H := Option.bind_eq_some_iff.mp H
  obtain ⟨⟨t109, t110, t111, t112, t113, t114, t115⟩, A130, H⟩ := H
  replace H : (some (t109, t110, t111, t112, t113, t114, t115)) = some (r1, r2, r3, r4, r5, r6, r7) := H
  have A13 := Aside0.mk A130
  clear A130
  simp only [Option.some.injEq, Prod.mk.injEq] at H
  obtain ⟨rfl, rfl, rfl, rfl, rfl, rfl, rfl⟩ := H
  go_enter Tryz.func74, Tryz.ntmps74
  go_wp2_with (first | ((with_reducible refine gate_dst (N := 2) rfl ?_); refine box_event ?hg (N := 2) ?hd (cs := #[.string (⟨#[]⟩ : ByteArray), .int .i64 0, .bool false]) (t := 98) ?hr ?_; (case hd => rfl); (case hg => rfl); (case hr => first | (go_simp; done) | (go_simp; rfl)); intro gb101 hg w14 hbox hb; have n0_ := Aside0.mk (IsS138.below (qva3_) hb); have n1_ := Aside0.mk (KeepBut.trans (qva0_) (KeepBut.of_below hb g none) (.inl rfl)); have n2_ := Aside0.mk (below_step (qva4_) hb); have n3_ := Aside0.mk (hbox); have n4_ := Aside0.mk ((by rw [hg]; exact (keep_size (w := w) (g := g) (row := none) (qva0_)) : w.heap.size ≤ gb101)); have n5_ := Aside0.mk ((Nat.le_trans HW0.out (by rw [hg]; exact (keep_size (w := w) (g := g) (row := none) (qva0_)) : w.heap.size ≤ gb101) : w0.heap.size ≤ gb101)); have n6_ := Aside0.mk ((by rw [hg]; exact Nat.ne_of_lt (IsS138.lt (show IsS138 w0 _ g s0_0 s0_1 s0_2 s0_3 from by repeat (first | (with_reducible first | exact HI0.out | apply IsS138.alloc | apply IsS138.drewN | apply IsS138.drew | apply IsS138.set_0 | apply IsS138.set_1 | apply IsS138.set_2 | apply IsS138.set_3) | exact HI0.out))) : g ≠ gb101)); have n7_ := Aside0.mk ((by rw [hg]; exact Nat.ne_of_gt (IsS138.lt (show IsS138 w0 _ g s0_0 s0_1 s0_2 s0_3 from by repeat (first | (with_reducible first | exact HI0.out | apply IsS138.alloc | apply IsS138.drewN | apply IsS138.drew | apply IsS138.set_0 | apply IsS138.set_1 | apply IsS138.set_2 | apply IsS138.set_3) | exact HI0.out))) : gb101 ≠ g)); clear HI0; clear HK; clear HB; have HI0 := n0_; have HK := n1_; have HB := n2_; have BK101 := n3_; have GW101 := n4_; have GE101 := n5_; have NB0_101 := n6_; have NB101_0 := n7_; clear n0_ n1_ n2_ n3_ n4_ n5_ n6_ n7_; clear hb hbox hg; obtain ⟨HGz15, hgz15⟩ := HI0.out; have hcz15_0 := cellS138_0 HGz15; have hcz15_1 := cellS138_1 HGz15; have hcz15_2 := cellS138_2 HGz15; have hcz15_3 := cellS138_3 HGz15; have hfz15_0 := blk_frozen HGz15 0; have hfz15_1 := blk_frozen HGz15 1; have hfz15_2 := blk_frozen HGz15 2; have hfz15_3 := blk_frozen HGz15 3; clear HGz15 hgz15; have p3 : 0 ≤ (0 : Int) := (by omega); have q3 : 0 < s0_1.size := (by have : (0 : Int) < (s0_1.size : Int) := of_decide_eq_true (qva6_); omega); have hx3 : ∀ h : 0 < s0_1.size, ((s0_1[0]'h).toNat : Int) = bt s0_1 0 := bt_at s0_1 0; clear p3; have qi3 : (0 < (s0_1.size : Int)) = True := eq_true (of_decide_eq_true (qva6_)); replace q3 := eq_true q3) | (go_at_call 100; (with_reducible refine (path_reader_key.calls g s0_0 s0_1 s0_2 s0_3 (wrap64 (s0_0 - (s0_1.size : Int))) t109 t110 t111 t112 t113 t114 t115 w0 _ ?side1 ?side2 (hG.below (qva1_)) A13.out).mono ?_); (case side1 => repeat (first | (with_reducible first | exact HI0.out | apply IsS138.alloc | apply IsS138.drewN | apply IsS138.drew | apply IsS138.set_0 | apply IsS138.set_1 | apply IsS138.set_2 | apply IsS138.set_3 | refine IsS138.far ?_ NB0_101.out _) | exact HI0.out)); (case side2 => repeat (first | (with_reducible first | exact HB.out | apply below_alloc | apply pw_below_drewN | apply below_drew1 | refine below_set ?_ (IsS138.ge HI0.out) | refine below_set ?_ GE101.out) | exact HB.out)); rintro e w16 ⟨rfl, hi, hb, hk⟩; have n0_ := Aside0.mk (KeepBut.blk hk (g' := gb101) (o := .cells #[.string (⟨#[]⟩ : ByteArray), .int .i64 0, .bool false] 98 (0, 0)) (qva7_) NB101_0.out (by simp)); have n1_ := Aside0.mk (KeepBut.trans (qva2_) hk (.inl rfl)); have n2_ := Aside0.mk (hb); have n3_ := Aside0.mk (hi); clear BK101; clear HK; clear HB; clear HI0; have BK101 := n0_; have HK := n1_; have HB := n2_; have HI0 := n3_; clear n0_ n1_ n2_ n3_; (try clear hb); (try clear hk); (try clear hi); have hnb17 := NB101_0.out; have hnc17 := NB0_101.out; have hcz18_0 : w16.cell? ⟨gb101, 0, none⟩ = some (.string (⟨#[]⟩ : ByteArray)) := (blk_cell BK101.out 0).trans rfl; have hcz18_1 : w16.cell? ⟨gb101, 1, none⟩ = some (.int .i64 0) := (blk_cell BK101.out 1).trans rfl; have hcz18_2 : w16.cell? ⟨gb101, 2, none⟩ = some (.bool false) := (blk_cell BK101.out 2).trans rfl; have hfz18_0 := blk_frozen BK101.out 0; have hfz18_1 := blk_frozen BK101.out 1; have hfz18_2 := blk_frozen BK101.out 2))
  repeat (go_quiet (first | ((with_reducible refine gate_dst (N := 2) rfl ?_); refine box_event ?hg (N := 2) ?hd (cs := #[.string (⟨#[]⟩ : ByteArray), .int .i64 0, .bool false]) (t := 98) ?hr ?_; (case hd => rfl); (case hg => rfl); (case hr => first | (go_simp; done) | (go_simp; rfl)); intro gb101 hg w14 hbox hb; have n0_ := Aside0.mk (IsS138.below (qva3_) hb); have n1_ := Aside0.mk (KeepBut.trans (qva0_) (KeepBut.of_below hb g none) (.inl rfl)); have n2_ := Aside0.mk (below_step (qva4_) hb); have n3_ := Aside0.mk (hbox); have n4_ := Aside0.mk ((by rw [hg]; exact (keep_size (w := w) (g := g) (row := none) (qva0_)) : w.heap.size ≤ gb101)); have n5_ := Aside0.mk ((Nat.le_trans HW0.out (by rw [hg]; exact (keep_size (w := w) (g := g) (row := none) (qva0_)) : w.heap.size ≤ gb101) : w0.heap.size ≤ gb101)); have n6_ := Aside0.mk ((by rw [hg]; exact Nat.ne_of_lt (IsS138.lt (show IsS138 w0 _ g s0_0 s0_1 s0_2 s0_3 from by repeat (first | (with_reducible first | exact HI0.out | apply IsS138.alloc | apply IsS138.drewN | apply IsS138.drew | apply IsS138.set_0 | apply IsS138.set_1 | apply IsS138.set_2 | apply IsS138.set_3) | exact HI0.out))) : g ≠ gb101)); have n7_ := Aside0.mk ((by rw [hg]; exact Nat.ne_of_gt (IsS138.lt (show IsS138 w0 _ g s0_0 s0_1 s0_2 s0_3 from by repeat (first | (with_reducible first | exact HI0.out | apply IsS138.alloc | apply IsS138.drewN | apply IsS138.drew | apply IsS138.set_0 | apply IsS138.set_1 | apply IsS138.set_2 | apply IsS138.set_3) | exact HI0.out))) : gb101 ≠ g)); clear HI0; clear HK; clear HB; have HI0 := n0_; have HK := n1_; have HB := n2_; have BK101 := n3_; have GW101 := n4_; have GE101 := n5_; have NB0_101 := n6_; have NB101_0 := n7_; clear n0_ n1_ n2_ n3_ n4_ n5_ n6_ n7_; clear hb hbox hg; obtain ⟨HGz15, hgz15⟩ := HI0.out; have hcz15_0 := cellS138_0 HGz15; have hcz15_1 := cellS138_1 HGz15; have hcz15_2 := cellS138_2 HGz15; have hcz15_3 := cellS138_3 HGz15; have hfz15_0 := blk_frozen HGz15 0; have hfz15_1 := blk_frozen HGz15 1; have hfz15_2 := blk_frozen HGz15 2; have hfz15_3 := blk_frozen HGz15 3; clear HGz15 hgz15; have p3 : 0 ≤ (0 : Int) := (by omega); have q3 : 0 < s0_1.size := (by have : (0 : Int) < (s0_1.size : Int) := of_decide_eq_true (qva6_); omega); have hx3 : ∀ h : 0 < s0_1.size, ((s0_1[0]'h).toNat : Int) = bt s0_1 0 := bt_at s0_1 0; clear p3; have qi3 : (0 < (s0_1.size : Int)) = True := eq_true (of_decide_eq_true (qva6_)); replace q3 := eq_true q3) | (go_at_call 100; (with_reducible refine (path_reader_key.calls g s0_0 s0_1 s0_2 s0_3 (wrap64 (s0_0 - (s0_1.size : Int))) t109 t110 t111 t112 t113 t114 t115 w0 _ ?side1 ?side2 (hG.below (qva1_)) A13.out).mono ?_); (case side1 => repeat (first | (with_reducible first | exact HI0.out | apply IsS138.alloc | apply IsS138.drewN | apply IsS138.drew | apply IsS138.set_0 | apply IsS138.set_1 | apply IsS138.set_2 | apply IsS138.set_3 | refine IsS138.far ?_ NB0_101.out _) | exact HI0.out)); (case side2 => repeat (first | (with_reducible first | exact HB.out | apply below_alloc | apply pw_below_drewN | apply below_drew1 | refine below_set ?_ (IsS138.ge HI0.out) | refine below_set ?_ GE101.out) | exact HB.out)); rintro e w16 ⟨rfl, hi, hb, hk⟩; have n0_ := Aside0.mk (KeepBut.blk hk (g' := gb101) (o := .cells #[.string (⟨#[]⟩ : ByteArray), .int .i64 0, .bool false] 98 (0, 0)) (qva7_) NB101_0.out (by simp)); have n1_ := Aside0.mk (KeepBut.trans (qva2_) hk (.inl rfl)); have n2_ := Aside0.mk (hb); have n3_ := Aside0.mk (hi); clear BK101; clear HK; clear HB; clear HI0; have BK101 := n0_; have HK := n1_; have HB := n2_; have HI0 := n3_; clear n0_ n1_ n2_ n3_; (try clear hb); (try clear hk); (try clear hi); have hnb17 := NB101_0.out; have hnc17 := NB0_101.out; have hcz18_0 : w16.cell? ⟨gb101, 0, none⟩ = some (.string (⟨#[]⟩ : ByteArray)) := (blk_cell BK101.out 0).trans rfl; have hcz18_1 : w16.cell? ⟨gb101, 1, none⟩ = some (.int .i64 0) := (blk_cell BK101.out 1).trans rfl; have hcz18_2 : w16.cell? ⟨gb101, 2, none⟩ = some (.bool false) := (blk_cell BK101.out 2).trans rfl; have hfz18_0 := blk_frozen BK101.out 0; have hfz18_1 := blk_frozen BK101.out 1; have hfz18_2 := blk_frozen BK101.out 2)); try go_wp2_with (first | ((with_reducible refine gate_dst (N := 2) rfl ?_); refine box_event ?hg (N := 2) ?hd (cs := #[.string (⟨#[]⟩ : ByteArray), .int .i64 0, .bool false]) (t := 98) ?hr ?_; (case hd => rfl); (case hg => rfl); (case hr => first | (go_simp; done) | (go_simp; rfl)); intro gb101 hg w14 hbox hb; have n0_ := Aside0.mk (IsS138.below (qva3_) hb); have n1_ := Aside0.mk (KeepBut.trans (qva0_) (KeepBut.of_below hb g none) (.inl rfl)); have n2_ := Aside0.mk (below_step (qva4_) hb); have n3_ := Aside0.mk (hbox); have n4_ := Aside0.mk ((by rw [hg]; exact (keep_size (w := w) (g := g) (row := none) (qva0_)) : w.heap.size ≤ gb101)); have n5_ := Aside0.mk ((Nat.le_trans HW0.out (by rw [hg]; exact (keep_size (w := w) (g := g) (row := none) (qva0_)) : w.heap.size ≤ gb101) : w0.heap.size ≤ gb101)); have n6_ := Aside0.mk ((by rw [hg]; exact Nat.ne_of_lt (IsS138.lt (show IsS138 w0 _ g s0_0 s0_1 s0_2 s0_3 from by repeat (first | (with_reducible first | exact HI0.out | apply IsS138.alloc | apply IsS138.drewN | apply IsS138.drew | apply IsS138.set_0 | apply IsS138.set_1 | apply IsS138.set_2 | apply IsS138.set_3) | exact HI0.out))) : g ≠ gb101)); have n7_ := Aside0.mk ((by rw [hg]; exact Nat.ne_of_gt (IsS138.lt (show IsS138 w0 _ g s0_0 s0_1 s0_2 s0_3 from by repeat (first | (with_reducible first | exact HI0.out | apply IsS138.alloc | apply IsS138.drewN | apply IsS138.drew | apply IsS138.set_0 | apply IsS138.set_1 | apply IsS138.set_2 | apply IsS138.set_3) | exact HI0.out))) : gb101 ≠ g)); clear HI0; clear HK; clear HB; have HI0 := n0_; have HK := n1_; have HB := n2_; have BK101 := n3_; have GW101 := n4_; have GE101 := n5_; have NB0_101 := n6_; have NB101_0 := n7_; clear n0_ n1_ n2_ n3_ n4_ n5_ n6_ n7_; clear hb hbox hg; obtain ⟨HGz15, hgz15⟩ := HI0.out; have hcz15_0 := cellS138_0 HGz15; have hcz15_1 := cellS138_1 HGz15; have hcz15_2 := cellS138_2 HGz15; have hcz15_3 := cellS138_3 HGz15; have hfz15_0 := blk_frozen HGz15 0; have hfz15_1 := blk_frozen HGz15 1; have hfz15_2 := blk_frozen HGz15 2; have hfz15_3 := blk_frozen HGz15 3; clear HGz15 hgz15; have p3 : 0 ≤ (0 : Int) := (by omega); have q3 : 0 < s0_1.size := (by have : (0 : Int) < (s0_1.size : Int) := of_decide_eq_true (qva6_); omega); have hx3 : ∀ h : 0 < s0_1.size, ((s0_1[0]'h).toNat : Int) = bt s0_1 0 := bt_at s0_1 0; clear p3; have qi3 : (0 < (s0_1.size : Int)) = True := eq_true (of_decide_eq_true (qva6_)); replace q3 := eq_true q3) | (go_at_call 100; (with_reducible refine (path_reader_key.calls g s0_0 s0_1 s0_2 s0_3 (wrap64 (s0_0 - (s0_1.size : Int))) t109 t110 t111 t112 t113 t114 t115 w0 _ ?side1 ?side2 (hG.below (qva1_)) A13.out).mono ?_); (case side1 => repeat (first | (with_reducible first | exact HI0.out | apply IsS138.alloc | apply IsS138.drewN | apply IsS138.drew | apply IsS138.set_0 | apply IsS138.set_1 | apply IsS138.set_2 | apply IsS138.set_3 | refine IsS138.far ?_ NB0_101.out _) | exact HI0.out)); (case side2 => repeat (first | (with_reducible first | exact HB.out | apply below_alloc | apply pw_below_drewN | apply below_drew1 | refine below_set ?_ (IsS138.ge HI0.out) | refine below_set ?_ GE101.out) | exact HB.out)); rintro e w16 ⟨rfl, hi, hb, hk⟩; have n0_ := Aside0.mk (KeepBut.blk hk (g' := gb101) (o := .cells #[.string (⟨#[]⟩ : ByteArray), .int .i64 0, .bool false] 98 (0, 0)) (qva7_) NB101_0.out (by simp)); have n1_ := Aside0.mk (KeepBut.trans (qva2_) hk (.inl rfl)); have n2_ := Aside0.mk (hb); have n3_ := Aside0.mk (hi); clear BK101; clear HK; clear HB; clear HI0; have BK101 := n0_; have HK := n1_; have HB := n2_; have HI0 := n3_; clear n0_ n1_ n2_ n3_; (try clear hb); (try clear hk); (try clear hi); have hnb17 := NB101_0.out; have hnc17 := NB0_101.out; have hcz18_0 : w16.cell? ⟨gb101, 0, none⟩ = some (.string (⟨#[]⟩ : ByteArray)) := (blk_cell BK101.out 0).trans rfl; have hcz18_1 : w16.cell? ⟨gb101, 1, none⟩ = some (.int .i64 0) := (blk_cell BK101.out 1).trans rfl; have hcz18_2 : w16.cell? ⟨gb101, 2, none⟩ = some (.bool false) := (blk_cell BK101.out 2).trans rfl; have hfz18_0 := blk_frozen BK101.out 0; have hfz18_1 := blk_frozen BK101.out 1; have hfz18_2 := blk_frozen BK101.out 2)))
  refine bodyPost_ret (results_cell_row rfl _ _ gb101 98 #[.string t109, .int .i64 t110, .bool t111] (0, 0) _ rfl (by (with_reducible repeat (first | refine blk_drewN ?_ _ | refine blk_drew ?_ | refine blk_alloc ?_ _)); refine blk_put (cs := #[.string t109, .int .i64 t110, .bool false]) ?_ 2 _ rfl; (with_reducible repeat (first | refine blk_drewN ?_ _ | refine blk_drew ?_ | refine blk_alloc ?_ _)); refine blk_put (cs := #[.string t109, .int .i64 0, .bool false]) ?_ 1 _ rfl; (with_reducible repeat (first | refine blk_drewN ?_ _ | refine blk_drew ?_ | refine blk_alloc ?_ _)); refine blk_put (cs := #[.string (⟨#[]⟩ : ByteArray), .int .i64 0, .bool false]) ?_ 0 _ rfl; (with_reducible repeat (first | refine blk_drewN ?_ _ | refine blk_drew ?_ | refine blk_alloc ?_ _)); exact BK101.out) Tryz.underlying98 rfl (by kernel_rfl)) rfl ?_
  exact ⟨qva10_, qva8_, qva9_, qva2_⟩
 rw [if_neg c12] at H
 have c12b0 : ((wrap64 (s0_0 - (s0_1.size : Int))) == 0) = false := beq_eq_false_iff_ne.mpr c12
 have c12b1 : ((wrap64 (s0_0 - (s0_1.size : Int))) != 0) = true := bne_iff_ne.mpr c12
 by_cases c19 : (bt s0_1 0) = 46
 ·
  rw [if_pos c19] at H
  have c19b0 : ((bt s0_1 0) == 46) = true := beq_iff_eq.mpr c19
  have c19b1 : ((bt s0_1 0) != 46) = false := bne_eq_false_iff_eq.mpr c19
  clear c19
  by_cases c20 : 1 ≤ (s0_1.size : Int)
  rotate_left
  ·
   rw [if_neg c20] at H
   exact absurd H (by simp)
  rw [if_pos c20] at H
  have c20b0 := eq_true c20
  have c20b1 : decide (1 ≤ (s0_1.size : Int)) = true := decide_eq_true c20
  clear c20
  replace H := Option.bind_eq_some_iff.mp H
  obtain ⟨⟨t116, t117, t118, t119, t120, t121, t122⟩, A210, H⟩ := H
  replace H : (some (t116, t117, t118, t119, t120, t121, t122)) = some (r1, r2, r3, r4, r5, r6, r7) := H
  have A21 := Aside0.mk A210
  clear A210
  simp only [Option.some.injEq, Prod.mk.injEq] at H
  obtain ⟨rfl, rfl, rfl, rfl, rfl, rfl, rfl⟩ := H
  go_enter Tryz.func74, Tryz.ntmps74
  go_wp2_with (first | ((with_reducible refine gate_dst (N := 2) rfl ?_); refine box_event ?hg (N := 2) ?hd (cs := #[.string (⟨#[]⟩ : ByteArray), .int .i64 0, .bool false]) (t := 98) ?hr ?_; (case hd => rfl); (case hg => rfl); (case hr => first | (go_simp; done) | (go_simp; rfl)); intro gb101 hg w22 hbox hb; have n0_ := Aside0.mk (IsS138.below (qva3_) hb); have n1_ := Aside0.mk (KeepBut.trans (qva0_) (KeepBut.of_below hb g none) (.inl rfl)); have n2_ := Aside0.mk (below_step (qva4_) hb); have n3_ := Aside0.mk (hbox); have n4_ := Aside0.mk ((by rw [hg]; exact (keep_size (w := w) (g := g) (row := none) (qva0_)) : w.heap.size ≤ gb101)); have n5_ := Aside0.mk ((Nat.le_trans HW0.out (by rw [hg]; exact (keep_size (w := w) (g := g) (row := none) (qva0_)) : w.heap.size ≤ gb101) : w0.heap.size ≤ gb101)); have n6_ := Aside0.mk ((by rw [hg]; exact Nat.ne_of_lt (IsS138.lt (show IsS138 w0 _ g s0_0 s0_1 s0_2 s0_3 from by repeat (first | (with_reducible first | exact HI0.out | apply IsS138.alloc | apply IsS138.drewN | apply IsS138.drew | apply IsS138.set_0 | apply IsS138.set_1 | apply IsS138.set_2 | apply IsS138.set_3) | exact HI0.out))) : g ≠ gb101)); have n7_ := Aside0.mk ((by rw [hg]; exact Nat.ne_of_gt (IsS138.lt (show IsS138 w0 _ g s0_0 s0_1 s0_2 s0_3 from by repeat (first | (with_reducible first | exact HI0.out | apply IsS138.alloc | apply IsS138.drewN | apply IsS138.drew | apply IsS138.set_0 | apply IsS138.set_1 | apply IsS138.set_2 | apply IsS138.set_3) | exact HI0.out))) : gb101 ≠ g)); clear HI0; clear HK; clear HB; have HI0 := n0_; have HK := n1_; have HB := n2_; have BK101 := n3_; have GW101 := n4_; have GE101 := n5_; have NB0_101 := n6_; have NB101_0 := n7_; clear n0_ n1_ n2_ n3_ n4_ n5_ n6_ n7_; clear hb hbox hg; obtain ⟨HGz23, hgz23⟩ := HI0.out; have hcz23_0 := cellS138_0 HGz23; have hcz23_1 := cellS138_1 HGz23; have hcz23_2 := cellS138_2 HGz23; have hcz23_3 := cellS138_3 HGz23; have hfz23_0 := blk_frozen HGz23 0; have hfz23_1 := blk_frozen HGz23 1; have hfz23_2 := blk_frozen HGz23 2; have hfz23_3 := blk_frozen HGz23 3; clear HGz23 hgz23; have p3 : 0 ≤ (0 : Int) := (by omega); have q3 : 0 < s0_1.size := (by have : (0 : Int) < (s0_1.size : Int) := of_decide_eq_true (qva6_); omega); have hx3 : ∀ h : 0 < s0_1.size, ((s0_1[0]'h).toNat : Int) = bt s0_1 0 := bt_at s0_1 0; clear p3; have qi3 : (0 < (s0_1.size : Int)) = True := eq_true (of_decide_eq_true (qva6_)); replace q3 := eq_true q3) | (go_at_call 100; (with_reducible refine (path_reader_key.calls g s0_0 (s0_1.extract 1 s0_1.size) s0_2 s0_3 (wrap64 (s0_0 - (s0_1.size : Int))) t116 t117 t118 t119 t120 t121 t122 w0 _ ?side1 ?side2 (hG.below (qva1_)) A21.out).mono ?_); (case side1 => repeat (first | (with_reducible first | exact HI0.out | apply IsS138.alloc | apply IsS138.drewN | apply IsS138.drew | apply IsS138.set_0 | apply IsS138.set_1 | apply IsS138.set_2 | apply IsS138.set_3 | refine IsS138.far ?_ NB0_101.out _) | exact HI0.out)); (case side2 => repeat (first | (with_reducible first | exact HB.out | apply below_alloc | apply pw_below_drewN | apply below_drew1 | refine below_set ?_ (IsS138.ge HI0.out) | refine below_set ?_ GE101.out) | exact HB.out)); rintro e w24 ⟨rfl, hi, hb, hk⟩; have n0_ := Aside0.mk (KeepBut.blk hk (g' := gb101) (o := .cells #[.string (⟨#[]⟩ : ByteArray), .int .i64 0, .bool false] 98 (0, 0)) (qva5_) NB101_0.out (by simp)); have n1_ := Aside0.mk (KeepBut.trans (qva2_) hk (.inl rfl)); have n2_ := Aside0.mk (hb); have n3_ := Aside0.mk (hi); clear BK101; clear HK; clear HB; clear HI0; have BK101 := n0_; have HK := n1_; have HB := n2_; have HI0 := n3_; clear n0_ n1_ n2_ n3_; (try clear hb); (try clear hk); (try clear hi); have hnb25 := NB101_0.out; have hnc25 := NB0_101.out; have hcz26_0 : w24.cell? ⟨gb101, 0, none⟩ = some (.string (⟨#[]⟩ : ByteArray)) := (blk_cell BK101.out 0).trans rfl; have hcz26_1 : w24.cell? ⟨gb101, 1, none⟩ = some (.int .i64 0) := (blk_cell BK101.out 1).trans rfl; have hcz26_2 : w24.cell? ⟨gb101, 2, none⟩ = some (.bool false) := (blk_cell BK101.out 2).trans rfl; have hfz26_0 := blk_frozen BK101.out 0; have hfz26_1 := blk_frozen BK101.out 1; have hfz26_2 := blk_frozen BK101.out 2))
  repeat (go_quiet (first | ((with_reducible refine gate_dst (N := 2) rfl ?_); refine box_event ?hg (N := 2) ?hd (cs := #[.string (⟨#[]⟩ : ByteArray), .int .i64 0, .bool false]) (t := 98) ?hr ?_; (case hd => rfl); (case hg => rfl); (case hr => first | (go_simp; done) | (go_simp; rfl)); intro gb101 hg w22 hbox hb; have n0_ := Aside0.mk (IsS138.below (qva3_) hb); have n1_ := Aside0.mk (KeepBut.trans (qva0_) (KeepBut.of_below hb g none) (.inl rfl)); have n2_ := Aside0.mk (below_step (qva4_) hb); have n3_ := Aside0.mk (hbox); have n4_ := Aside0.mk ((by rw [hg]; exact (keep_size (w := w) (g := g) (row := none) (qva0_)) : w.heap.size ≤ gb101)); have n5_ := Aside0.mk ((Nat.le_trans HW0.out (by rw [hg]; exact (keep_size (w := w) (g := g) (row := none) (qva0_)) : w.heap.size ≤ gb101) : w0.heap.size ≤ gb101)); have n6_ := Aside0.mk ((by rw [hg]; exact Nat.ne_of_lt (IsS138.lt (show IsS138 w0 _ g s0_0 s0_1 s0_2 s0_3 from by repeat (first | (with_reducible first | exact HI0.out | apply IsS138.alloc | apply IsS138.drewN | apply IsS138.drew | apply IsS138.set_0 | apply IsS138.set_1 | apply IsS138.set_2 | apply IsS138.set_3) | exact HI0.out))) : g ≠ gb101)); have n7_ := Aside0.mk ((by rw [hg]; exact Nat.ne_of_gt (IsS138.lt (show IsS138 w0 _ g s0_0 s0_1 s0_2 s0_3 from by repeat (first | (with_reducible first | exact HI0.out | apply IsS138.alloc | apply IsS138.drewN | apply IsS138.drew | apply IsS138.set_0 | apply IsS138.set_1 | apply IsS138.set_2 | apply IsS138.set_3) | exact HI0.out))) : gb101 ≠ g)); clear HI0; clear HK; clear HB; have HI0 := n0_; have HK := n1_; have HB := n2_; have BK101 := n3_; have GW101 := n4_; have GE101 := n5_; have NB0_101 := n6_; have NB101_0 := n7_; clear n0_ n1_ n2_ n3_ n4_ n5_ n6_ n7_; clear hb hbox hg; obtain ⟨HGz23, hgz23⟩ := HI0.out; have hcz23_0 := cellS138_0 HGz23; have hcz23_1 := cellS138_1 HGz23; have hcz23_2 := cellS138_2 HGz23; have hcz23_3 := cellS138_3 HGz23; have hfz23_0 := blk_frozen HGz23 0; have hfz23_1 := blk_frozen HGz23 1; have hfz23_2 := blk_frozen HGz23 2; have hfz23_3 := blk_frozen HGz23 3; clear HGz23 hgz23; have p3 : 0 ≤ (0 : Int) := (by omega); have q3 : 0 < s0_1.size := (by have : (0 : Int) < (s0_1.size : Int) := of_decide_eq_true (qva6_); omega); have hx3 : ∀ h : 0 < s0_1.size, ((s0_1[0]'h).toNat : Int) = bt s0_1 0 := bt_at s0_1 0; clear p3; have qi3 : (0 < (s0_1.size : Int)) = True := eq_true (of_decide_eq_true (qva6_)); replace q3 := eq_true q3) | (go_at_call 100; (with_reducible refine (path_reader_key.calls g s0_0 (s0_1.extract 1 s0_1.size) s0_2 s0_3 (wrap64 (s0_0 - (s0_1.size : Int))) t116 t117 t118 t119 t120 t121 t122 w0 _ ?side1 ?side2 (hG.below (qva1_)) A21.out).mono ?_); (case side1 => repeat (first | (with_reducible first | exact HI0.out | apply IsS138.alloc | apply IsS138.drewN | apply IsS138.drew | apply IsS138.set_0 | apply IsS138.set_1 | apply IsS138.set_2 | apply IsS138.set_3 | refine IsS138.far ?_ NB0_101.out _) | exact HI0.out)); (case side2 => repeat (first | (with_reducible first | exact HB.out | apply below_alloc | apply pw_below_drewN | apply below_drew1 | refine below_set ?_ (IsS138.ge HI0.out) | refine below_set ?_ GE101.out) | exact HB.out)); rintro e w24 ⟨rfl, hi, hb, hk⟩; have n0_ := Aside0.mk (KeepBut.blk hk (g' := gb101) (o := .cells #[.string (⟨#[]⟩ : ByteArray), .int .i64 0, .bool false] 98 (0, 0)) (qva5_) NB101_0.out (by simp)); have n1_ := Aside0.mk (KeepBut.trans (qva2_) hk (.inl rfl)); have n2_ := Aside0.mk (hb); have n3_ := Aside0.mk (hi); clear BK101; clear HK; clear HB; clear HI0; have BK101 := n0_; have HK := n1_; have HB := n2_; have HI0 := n3_; clear n0_ n1_ n2_ n3_; (try clear hb); (try clear hk); (try clear hi); have hnb25 := NB101_0.out; have hnc25 := NB0_101.out; have hcz26_0 : w24.cell? ⟨gb101, 0, none⟩ = some (.string (⟨#[]⟩ : ByteArray)) := (blk_cell BK101.out 0).trans rfl; have hcz26_1 : w24.cell? ⟨gb101, 1, none⟩ = some (.int .i64 0) := (blk_cell BK101.out 1).trans rfl; have hcz26_2 : w24.cell? ⟨gb101, 2, none⟩ = some (.bool false) := (blk_cell BK101.out 2).trans rfl; have hfz26_0 := blk_frozen BK101.out 0; have hfz26_1 := blk_frozen BK101.out 1; have hfz26_2 := blk_frozen BK101.out 2)); try go_wp2_with (first | ((with_reducible refine gate_dst (N := 2) rfl ?_); refine box_event ?hg (N := 2) ?hd (cs := #[.string (⟨#[]⟩ : ByteArray), .int .i64 0, .bool false]) (t := 98) ?hr ?_; (case hd => rfl); (case hg => rfl); (case hr => first | (go_simp; done) | (go_simp; rfl)); intro gb101 hg w22 hbox hb; have n0_ := Aside0.mk (IsS138.below (qva3_) hb); have n1_ := Aside0.mk (KeepBut.trans (qva0_) (KeepBut.of_below hb g none) (.inl rfl)); have n2_ := Aside0.mk (below_step (qva4_) hb); have n3_ := Aside0.mk (hbox); have n4_ := Aside0.mk ((by rw [hg]; exact (keep_size (w := w) (g := g) (row := none) (qva0_)) : w.heap.size ≤ gb101)); have n5_ := Aside0.mk ((Nat.le_trans HW0.out (by rw [hg]; exact (keep_size (w := w) (g := g) (row := none) (qva0_)) : w.heap.size ≤ gb101) : w0.heap.size ≤ gb101)); have n6_ := Aside0.mk ((by rw [hg]; exact Nat.ne_of_lt (IsS138.lt (show IsS138 w0 _ g s0_0 s0_1 s0_2 s0_3 from by repeat (first | (with_reducible first | exact HI0.out | apply IsS138.alloc | apply IsS138.drewN | apply IsS138.drew | apply IsS138.set_0 | apply IsS138.set_1 | apply IsS138.set_2 | apply IsS138.set_3) | exact HI0.out))) : g ≠ gb101)); have n7_ := Aside0.mk ((by rw [hg]; exact Nat.ne_of_gt (IsS138.lt (show IsS138 w0 _ g s0_0 s0_1 s0_2 s0_3 from by repeat (first | (with_reducible first | exact HI0.out | apply IsS138.alloc | apply IsS138.drewN | apply IsS138.drew | apply IsS138.set_0 | apply IsS138.set_1 | apply IsS138.set_2 | apply IsS138.set_3) | exact HI0.out))) : gb101 ≠ g)); clear HI0; clear HK; clear HB; have HI0 := n0_; have HK := n1_; have HB := n2_; have BK101 := n3_; have GW101 := n4_; have GE101 := n5_; have NB0_101 := n6_; have NB101_0 := n7_; clear n0_ n1_ n2_ n3_ n4_ n5_ n6_ n7_; clear hb hbox hg; obtain ⟨HGz23, hgz23⟩ := HI0.out; have hcz23_0 := cellS138_0 HGz23; have hcz23_1 := cellS138_1 HGz23; have hcz23_2 := cellS138_2 HGz23; have hcz23_3 := cellS138_3 HGz23; have hfz23_0 := blk_frozen HGz23 0; have hfz23_1 := blk_frozen HGz23 1; have hfz23_2 := blk_frozen HGz23 2; have hfz23_3 := blk_frozen HGz23 3; clear HGz23 hgz23; have p3 : 0 ≤ (0 : Int) := (by omega); have q3 : 0 < s0_1.size := (by have : (0 : Int) < (s0_1.size : Int) := of_decide_eq_true (qva6_); omega); have hx3 : ∀ h : 0 < s0_1.size, ((s0_1[0]'h).toNat : Int) = bt s0_1 0 := bt_at s0_1 0; clear p3; have qi3 : (0 < (s0_1.size : Int)) = True := eq_true (of_decide_eq_true (qva6_)); replace q3 := eq_true q3) | (go_at_call 100; (with_reducible refine (path_reader_key.calls g s0_0 (s0_1.extract 1 s0_1.size) s0_2 s0_3 (wrap64 (s0_0 - (s0_1.size : Int))) t116 t117 t118 t119 t120 t121 t122 w0 _ ?side1 ?side2 (hG.below (qva1_)) A21.out).mono ?_); (case side1 => repeat (first | (with_reducible first | exact HI0.out | apply IsS138.alloc | apply IsS138.drewN | apply IsS138.drew | apply IsS138.set_0 | apply IsS138.set_1 | apply IsS138.set_2 | apply IsS138.set_3 | refine IsS138.far ?_ NB0_101.out _) | exact HI0.out)); (case side2 => repeat (first | (with_reducible first | exact HB.out | apply below_alloc | apply pw_below_drewN | apply below_drew1 | refine below_set ?_ (IsS138.ge HI0.out) | refine below_set ?_ GE101.out) | exact HB.out)); rintro e w24 ⟨rfl, hi, hb, hk⟩; have n0_ := Aside0.mk (KeepBut.blk hk (g' := gb101) (o := .cells #[.string (⟨#[]⟩ : ByteArray), .int .i64 0, .bool false] 98 (0, 0)) (qva5_) NB101_0.out (by simp)); have n1_ := Aside0.mk (KeepBut.trans (qva2_) hk (.inl rfl)); have n2_ := Aside0.mk (hb); have n3_ := Aside0.mk (hi); clear BK101; clear HK; clear HB; clear HI0; have BK101 := n0_; have HK := n1_; have HB := n2_; have HI0 := n3_; clear n0_ n1_ n2_ n3_; (try clear hb); (try clear hk); (try clear hi); have hnb25 := NB101_0.out; have hnc25 := NB0_101.out; have hcz26_0 : w24.cell? ⟨gb101, 0, none⟩ = some (.string (⟨#[]⟩ : ByteArray)) := (blk_cell BK101.out 0).trans rfl; have hcz26_1 : w24.cell? ⟨gb101, 1, none⟩ = some (.int .i64 0) := (blk_cell BK101.out 1).trans rfl; have hcz26_2 : w24.cell? ⟨gb101, 2, none⟩ = some (.bool false) := (blk_cell BK101.out 2).trans rfl; have hfz26_0 := blk_frozen BK101.out 0; have hfz26_1 := blk_frozen BK101.out 1; have hfz26_2 := blk_frozen BK101.out 2)))
  refine bodyPost_ret (results_cell_row rfl _ _ gb101 98 #[.string t116, .int .i64 t117, .bool t118] (0, 0) _ rfl (by (with_reducible repeat (first | refine blk_drewN ?_ _ | refine blk_drew ?_ | refine blk_alloc ?_ _)); refine blk_put (cs := #[.string t116, .int .i64 t117, .bool false]) ?_ 2 _ rfl; (with_reducible repeat (first | refine blk_drewN ?_ _ | refine blk_drew ?_ | refine blk_alloc ?_ _)); refine blk_put (cs := #[.string t116, .int .i64 0, .bool false]) ?_ 1 _ rfl; (with_reducible repeat (first | refine blk_drewN ?_ _ | refine blk_drew ?_ | refine blk_alloc ?_ _)); refine blk_put (cs := #[.string (⟨#[]⟩ : ByteArray), .int .i64 0, .bool false]) ?_ 0 _ rfl; (with_reducible repeat (first | refine blk_drewN ?_ _ | refine blk_drew ?_ | refine blk_alloc ?_ _)); exact BK101.out) Tryz.underlying98 rfl (by kernel_rfl)) rfl ?_
  exact ⟨qva10_, qva8_, qva9_, qva2_⟩
 rw [if_neg c19] at H
 have c19b0 : ((bt s0_1 0) == 46) = false := beq_eq_false_iff_ne.mpr c19
 have c19b1 : ((bt s0_1 0) != 46) = true := bne_iff_ne.mpr c19
 replace H := Option.bind_eq_some_iff.mp H
 obtain ⟨⟨t123, t124, t125, t126⟩, A270, H⟩ := H
 replace H : ((path_reader_key.f t123 t124 t125 t126 (wrap64 (s0_0 - (s0_1.size : Int)))).bind fun bt127 => (some (bt127.1, bt127.2.1, bt127.2.2.1, bt127.2.2.2.1, bt127.2.2.2.2.1, bt127.2.2.2.2.2.1, bt127.2.2.2.2.2.2))) = some (r1, r2, r3, r4, r5, r6, r7) := H
 have A27 := Aside0.mk A270
 clear A270
 replace H := Option.bind_eq_some_iff.mp H
 obtain ⟨⟨t127, t128, t129, t130, t131, t132, t133⟩, A280, H⟩ := H
 replace H : (some (t127, t128, t129, t130, t131, t132, t133)) = some (r1, r2, r3, r4, r5, r6, r7) := H
 have A28 := Aside0.mk A280
 clear A280
 simp only [Option.some.injEq, Prod.mk.injEq] at H
 obtain ⟨rfl, rfl, rfl, rfl, rfl, rfl, rfl⟩ := H
 go_enter Tryz.func74, Tryz.ntmps74
 go_wp2_with (first | ((with_reducible refine gate_dst (N := 2) rfl ?_); refine box_event ?hg (N := 2) ?hd (cs := #[.string (⟨#[]⟩ : ByteArray), .int .i64 0, .bool false]) (t := 98) ?hr ?_; (case hd => rfl); (case hg => rfl); (case hr => first | (go_simp; done) | (go_simp; rfl)); intro gb101 hg w29 hbox hb; have n0_ := Aside0.mk (IsS138.below (qva3_) hb); have n1_ := Aside0.mk (KeepBut.trans (qva0_) (KeepBut.of_below hb g none) (.inl rfl)); have n2_ := Aside0.mk (below_step (qva4_) hb); have n3_ := Aside0.mk (hbox); have n4_ := Aside0.mk ((by rw [hg]; exact (keep_size (w := w) (g := g) (row := none) (qva0_)) : w.heap.size ≤ gb101)); have n5_ := Aside0.mk ((Nat.le_trans HW0.out (by rw [hg]; exact (keep_size (w := w) (g := g) (row := none) (qva0_)) : w.heap.size ≤ gb101) : w0.heap.size ≤ gb101)); have n6_ := Aside0.mk ((by rw [hg]; exact Nat.ne_of_lt (IsS138.lt (show IsS138 w0 _ g s0_0 s0_1 s0_2 s0_3 from by repeat (first | (with_reducible first | exact HI0.out | apply IsS138.alloc | apply IsS138.drewN | apply IsS138.drew | apply IsS138.set_0 | apply IsS138.set_1 | apply IsS138.set_2 | apply IsS138.set_3) | exact HI0.out))) : g ≠ gb101)); have n7_ := Aside0.mk ((by rw [hg]; exact Nat.ne_of_gt (IsS138.lt (show IsS138 w0 _ g s0_0 s0_1 s0_2 s0_3 from by repeat (first | (with_reducible first | exact HI0.out | apply IsS138.alloc | apply IsS138.drewN | apply IsS138.drew | apply IsS138.set_0 | apply IsS138.set_1 | apply IsS138.set_2 | apply IsS138.set_3) | exact HI0.out))) : gb101 ≠ g)); clear HI0; clear HK; clear HB; have HI0 := n0_; have HK := n1_; have HB := n2_; have BK101 := n3_; have GW101 := n4_; have GE101 := n5_; have NB0_101 := n6_; have NB101_0 := n7_; clear n0_ n1_ n2_ n3_ n4_ n5_ n6_ n7_; clear hb hbox hg; obtain ⟨HGz30, hgz30⟩ := HI0.out; have hcz30_0 := cellS138_0 HGz30; have hcz30_1 := cellS138_1 HGz30; have hcz30_2 := cellS138_2 HGz30; have hcz30_3 := cellS138_3 HGz30; have hfz30_0 := blk_frozen HGz30 0; have hfz30_1 := blk_frozen HGz30 1; have hfz30_2 := blk_frozen HGz30 2; have hfz30_3 := blk_frozen HGz30 3; clear HGz30 hgz30; have p3 : 0 ≤ (0 : Int) := (by omega); have q3 : 0 < s0_1.size := (by have : (0 : Int) < (s0_1.size : Int) := of_decide_eq_true (qva6_); omega); have hx3 : ∀ h : 0 < s0_1.size, ((s0_1[0]'h).toNat : Int) = bt s0_1 0 := bt_at s0_1 0; clear p3; have qi3 : (0 < (s0_1.size : Int)) = True := eq_true (of_decide_eq_true (qva6_)); replace q3 := eq_true q3) | (go_at_call 99; (with_reducible refine (path_reader_wrong.calls g s0_0 s0_1 s0_2 s0_3 0 t123 t124 t125 t126 w0 _ ?side1 ?side2 (hG.below (qva1_)) A27.out).mono ?_); (case side1 => repeat (first | (with_reducible first | exact HI0.out | apply IsS138.alloc | apply IsS138.drewN | apply IsS138.drew | apply IsS138.set_0 | apply IsS138.set_1 | apply IsS138.set_2 | apply IsS138.set_3 | refine IsS138.far ?_ NB0_101.out _) | exact HI0.out)); (case side2 => repeat (first | (with_reducible first | exact HB.out | apply below_alloc | apply pw_below_drewN | apply below_drew1 | refine below_set ?_ (IsS138.ge HI0.out) | refine below_set ?_ GE101.out) | exact HB.out)); rintro e w31 ⟨rfl, hi, hb, hk⟩; have n0_ := Aside0.mk (KeepBut.blk hk (g' := gb101) (o := .cells #[.string (⟨#[]⟩ : ByteArray), .int .i64 0, .bool false] 98 (0, 0)) (qva7_) NB101_0.out (by simp)); have n1_ := Aside0.mk (KeepBut.trans (qva2_) hk (.inl rfl)); have n2_ := Aside0.mk (hb); have n3_ := Aside0.mk (hi); clear BK101; clear HK; clear HB; clear HI0; have BK101 := n0_; have HK := n1_; have HB := n2_; have HI0 := n3_; clear n0_ n1_ n2_ n3_; (try clear hb); (try clear hk); (try clear hi)) | (go_at_call 100; (with_reducible refine (path_reader_key.calls g t123 t124 t125 t126 (wrap64 (s0_0 - (s0_1.size : Int))) t127 t128 t129 t130 t131 t132 t133 w0 _ ?side1 ?side2 (hG.below (qva1_)) A28.out).mono ?_); (case side1 => repeat (first | (with_reducible first | exact HI0.out | apply IsS138.alloc | apply IsS138.drewN | apply IsS138.drew | apply IsS138.set_0 | apply IsS138.set_1 | apply IsS138.set_2 | apply IsS138.set_3 | refine IsS138.far ?_ NB0_101.out _) | exact HI0.out)); (case side2 => repeat (first | (with_reducible first | exact HB.out | apply below_alloc | apply pw_below_drewN | apply below_drew1 | refine below_set ?_ (IsS138.ge HI0.out) | refine below_set ?_ GE101.out) | exact HB.out)); rintro e w32 ⟨rfl, hi, hb, hk⟩; have n0_ := Aside0.mk (KeepBut.blk hk (g' := gb101) (o := .cells #[.string (⟨#[]⟩ : ByteArray), .int .i64 0, .bool false] 98 (0, 0)) (qva7_) NB101_0.out (by simp)); have n1_ := Aside0.mk (KeepBut.trans (qva2_) hk (.inl rfl)); have n2_ := Aside0.mk (hb); have n3_ := Aside0.mk (hi); clear BK101; clear HK; clear HB; clear HI0; have BK101 := n0_; have HK := n1_; have HB := n2_; have HI0 := n3_; clear n0_ n1_ n2_ n3_; (try clear hb); (try clear hk); (try clear hi); have hnb33 := NB101_0.out; have hnc33 := NB0_101.out; have hcz34_0 : w32.cell? ⟨gb101, 0, none⟩ = some (.string (⟨#[]⟩ : ByteArray)) := (blk_cell BK101.out 0).trans rfl; have hcz34_1 : w32.cell? ⟨gb101, 1, none⟩ = some (.int .i64 0) := (blk_cell BK101.out 1).trans rfl; have hcz34_2 : w32.cell? ⟨gb101, 2, none⟩ = some (.bool false) := (blk_cell BK101.out 2).trans rfl; have hfz34_0 := blk_frozen BK101.out 0; have hfz34_1 := blk_frozen BK101.out 1; have hfz34_2 := blk_frozen BK101.out 2))
 repeat (go_quiet (first | ((with_reducible refine gate_dst (N := 2) rfl ?_); refine box_event ?hg (N := 2) ?hd (cs := #[.string (⟨#[]⟩ : ByteArray), .int .i64 0, .bool false]) (t := 98) ?hr ?_; (case hd => rfl); (case hg => rfl); (case hr => first | (go_simp; done) | (go_simp; rfl)); intro gb101 hg w29 hbox hb; have n0_ := Aside0.mk (IsS138.below (qva3_) hb); have n1_ := Aside0.mk (KeepBut.trans (qva0_) (KeepBut.of_below hb g none) (.inl rfl)); have n2_ := Aside0.mk (below_step (qva4_) hb); have n3_ := Aside0.mk (hbox); have n4_ := Aside0.mk ((by rw [hg]; exact (keep_size (w := w) (g := g) (row := none) (qva0_)) : w.heap.size ≤ gb101)); have n5_ := Aside0.mk ((Nat.le_trans HW0.out (by rw [hg]; exact (keep_size (w := w) (g := g) (row := none) (qva0_)) : w.heap.size ≤ gb101) : w0.heap.size ≤ gb101)); have n6_ := Aside0.mk ((by rw [hg]; exact Nat.ne_of_lt (IsS138.lt (show IsS138 w0 _ g s0_0 s0_1 s0_2 s0_3 from by repeat (first | (with_reducible first | exact HI0.out | apply IsS138.alloc | apply IsS138.drewN | apply IsS138.drew | apply IsS138.set_0 | apply IsS138.set_1 | apply IsS138.set_2 | apply IsS138.set_3) | exact HI0.out))) : g ≠ gb101)); have n7_ := Aside0.mk ((by rw [hg]; exact Nat.ne_of_gt (IsS138.lt (show IsS138 w0 _ g s0_0 s0_1 s0_2 s0_3 from by repeat (first | (with_reducible first | exact HI0.out | apply IsS138.alloc | apply IsS138.drewN | apply IsS138.drew | apply IsS138.set_0 | apply IsS138.set_1 | apply IsS138.set_2 | apply IsS138.set_3) | exact HI0.out))) : gb101 ≠ g)); clear HI0; clear HK; clear HB; have HI0 := n0_; have HK := n1_; have HB := n2_; have BK101 := n3_; have GW101 := n4_; have GE101 := n5_; have NB0_101 := n6_; have NB101_0 := n7_; clear n0_ n1_ n2_ n3_ n4_ n5_ n6_ n7_; clear hb hbox hg; obtain ⟨HGz30, hgz30⟩ := HI0.out; have hcz30_0 := cellS138_0 HGz30; have hcz30_1 := cellS138_1 HGz30; have hcz30_2 := cellS138_2 HGz30; have hcz30_3 := cellS138_3 HGz30; have hfz30_0 := blk_frozen HGz30 0; have hfz30_1 := blk_frozen HGz30 1; have hfz30_2 := blk_frozen HGz30 2; have hfz30_3 := blk_frozen HGz30 3; clear HGz30 hgz30; have p3 : 0 ≤ (0 : Int) := (by omega); have q3 : 0 < s0_1.size := (by have : (0 : Int) < (s0_1.size : Int) := of_decide_eq_true (qva6_); omega); have hx3 : ∀ h : 0 < s0_1.size, ((s0_1[0]'h).toNat : Int) = bt s0_1 0 := bt_at s0_1 0; clear p3; have qi3 : (0 < (s0_1.size : Int)) = True := eq_true (of_decide_eq_true (qva6_)); replace q3 := eq_true q3) | (go_at_call 99; (with_reducible refine (path_reader_wrong.calls g s0_0 s0_1 s0_2 s0_3 0 t123 t124 t125 t126 w0 _ ?side1 ?side2 (hG.below (qva1_)) A27.out).mono ?_); (case side1 => repeat (first | (with_reducible first | exact HI0.out | apply IsS138.alloc | apply IsS138.drewN | apply IsS138.drew | apply IsS138.set_0 | apply IsS138.set_1 | apply IsS138.set_2 | apply IsS138.set_3 | refine IsS138.far ?_ NB0_101.out _) | exact HI0.out)); (case side2 => repeat (first | (with_reducible first | exact HB.out | apply below_alloc | apply pw_below_drewN | apply below_drew1 | refine below_set ?_ (IsS138.ge HI0.out) | refine below_set ?_ GE101.out) | exact HB.out)); rintro e w31 ⟨rfl, hi, hb, hk⟩; have n0_ := Aside0.mk (KeepBut.blk hk (g' := gb101) (o := .cells #[.string (⟨#[]⟩ : ByteArray), .int .i64 0, .bool false] 98 (0, 0)) (qva7_) NB101_0.out (by simp)); have n1_ := Aside0.mk (KeepBut.trans (qva2_) hk (.inl rfl)); have n2_ := Aside0.mk (hb); have n3_ := Aside0.mk (hi); clear BK101; clear HK; clear HB; clear HI0; have BK101 := n0_; have HK := n1_; have HB := n2_; have HI0 := n3_; clear n0_ n1_ n2_ n3_; (try clear hb); (try clear hk); (try clear hi)) | (go_at_call 100; (with_reducible refine (path_reader_key.calls g t123 t124 t125 t126 (wrap64 (s0_0 - (s0_1.size : Int))) t127 t128 t129 t130 t131 t132 t133 w0 _ ?side1 ?side2 (hG.below (qva1_)) A28.out).mono ?_); (case side1 => repeat (first | (with_reducible first | exact HI0.out | apply IsS138.alloc | apply IsS138.drewN | apply IsS138.drew | apply IsS138.set_0 | apply IsS138.set_1 | apply IsS138.set_2 | apply IsS138.set_3 | refine IsS138.far ?_ NB0_101.out _) | exact HI0.out)); (case side2 => repeat (first | (with_reducible first | exact HB.out | apply below_alloc | apply pw_below_drewN | apply below_drew1 | refine below_set ?_ (IsS138.ge HI0.out) | refine below_set ?_ GE101.out) | exact HB.out)); rintro e w32 ⟨rfl, hi, hb, hk⟩; have n0_ := Aside0.mk (KeepBut.blk hk (g' := gb101) (o := .cells #[.string (⟨#[]⟩ : ByteArray), .int .i64 0, .bool false] 98 (0, 0)) (qva7_) NB101_0.out (by simp)); have n1_ := Aside0.mk (KeepBut.trans (qva2_) hk (.inl rfl)); have n2_ := Aside0.mk (hb); have n3_ := Aside0.mk (hi); clear BK101; clear HK; clear HB; clear HI0; have BK101 := n0_; have HK := n1_; have HB := n2_; have HI0 := n3_; clear n0_ n1_ n2_ n3_; (try clear hb); (try clear hk); (try clear hi); have hnb33 := NB101_0.out; have hnc33 := NB0_101.out; have hcz34_0 : w32.cell? ⟨gb101, 0, none⟩ = some (.string (⟨#[]⟩ : ByteArray)) := (blk_cell BK101.out 0).trans rfl; have hcz34_1 : w32.cell? ⟨gb101, 1, none⟩ = some (.int .i64 0) := (blk_cell BK101.out 1).trans rfl; have hcz34_2 : w32.cell? ⟨gb101, 2, none⟩ = some (.bool false) := (blk_cell BK101.out 2).trans rfl; have hfz34_0 := blk_frozen BK101.out 0; have hfz34_1 := blk_frozen BK101.out 1; have hfz34_2 := blk_frozen BK101.out 2)); try go_wp2_with (first | ((with_reducible refine gate_dst (N := 2) rfl ?_); refine box_event ?hg (N := 2) ?hd (cs := #[.string (⟨#[]⟩ : ByteArray), .int .i64 0, .bool false]) (t := 98) ?hr ?_; (case hd => rfl); (case hg => rfl); (case hr => first | (go_simp; done) | (go_simp; rfl)); intro gb101 hg w29 hbox hb; have n0_ := Aside0.mk (IsS138.below (qva3_) hb); have n1_ := Aside0.mk (KeepBut.trans (qva0_) (KeepBut.of_below hb g none) (.inl rfl)); have n2_ := Aside0.mk (below_step (qva4_) hb); have n3_ := Aside0.mk (hbox); have n4_ := Aside0.mk ((by rw [hg]; exact (keep_size (w := w) (g := g) (row := none) (qva0_)) : w.heap.size ≤ gb101)); have n5_ := Aside0.mk ((Nat.le_trans HW0.out (by rw [hg]; exact (keep_size (w := w) (g := g) (row := none) (qva0_)) : w.heap.size ≤ gb101) : w0.heap.size ≤ gb101)); have n6_ := Aside0.mk ((by rw [hg]; exact Nat.ne_of_lt (IsS138.lt (show IsS138 w0 _ g s0_0 s0_1 s0_2 s0_3 from by repeat (first | (with_reducible first | exact HI0.out | apply IsS138.alloc | apply IsS138.drewN | apply IsS138.drew | apply IsS138.set_0 | apply IsS138.set_1 | apply IsS138.set_2 | apply IsS138.set_3) | exact HI0.out))) : g ≠ gb101)); have n7_ := Aside0.mk ((by rw [hg]; exact Nat.ne_of_gt (IsS138.lt (show IsS138 w0 _ g s0_0 s0_1 s0_2 s0_3 from by repeat (first | (with_reducible first | exact HI0.out | apply IsS138.alloc | apply IsS138.drewN | apply IsS138.drew | apply IsS138.set_0 | apply IsS138.set_1 | apply IsS138.set_2 | apply IsS138.set_3) | exact HI0.out))) : gb101 ≠ g)); clear HI0; clear HK; clear HB; have HI0 := n0_; have HK := n1_; have HB := n2_; have BK101 := n3_; have GW101 := n4_; have GE101 := n5_; have NB0_101 := n6_; have NB101_0 := n7_; clear n0_ n1_ n2_ n3_ n4_ n5_ n6_ n7_; clear hb hbox hg; obtain ⟨HGz30, hgz30⟩ := HI0.out; have hcz30_0 := cellS138_0 HGz30; have hcz30_1 := cellS138_1 HGz30; have hcz30_2 := cellS138_2 HGz30; have hcz30_3 := cellS138_3 HGz30; have hfz30_0 := blk_frozen HGz30 0; have hfz30_1 := blk_frozen HGz30 1; have hfz30_2 := blk_frozen HGz30 2; have hfz30_3 := blk_frozen HGz30 3; clear HGz30 hgz30; have p3 : 0 ≤ (0 : Int) := (by omega); have q3 : 0 < s0_1.size := (by have : (0 : Int) < (s0_1.size : Int) := of_decide_eq_true (qva6_); omega); have hx3 : ∀ h : 0 < s0_1.size, ((s0_1[0]'h).toNat : Int) = bt s0_1 0 := bt_at s0_1 0; clear p3; have qi3 : (0 < (s0_1.size : Int)) = True := eq_true (of_decide_eq_true (qva6_)); replace q3 := eq_true q3) | (go_at_call 99; (with_reducible refine (path_reader_wrong.calls g s0_0 s0_1 s0_2 s0_3 0 t123 t124 t125 t126 w0 _ ?side1 ?side2 (hG.below (qva1_)) A27.out).mono ?_); (case side1 => repeat (first | (with_reducible first | exact HI0.out | apply IsS138.alloc | apply IsS138.drewN | apply IsS138.drew | apply IsS138.set_0 | apply IsS138.set_1 | apply IsS138.set_2 | apply IsS138.set_3 | refine IsS138.far ?_ NB0_101.out _) | exact HI0.out)); (case side2 => repeat (first | (with_reducible first | exact HB.out | apply below_alloc | apply pw_below_drewN | apply below_drew1 | refine below_set ?_ (IsS138.ge HI0.out) | refine below_set ?_ GE101.out) | exact HB.out)); rintro e w31 ⟨rfl, hi, hb, hk⟩; have n0_ := Aside0.mk (KeepBut.blk hk (g' := gb101) (o := .cells #[.string (⟨#[]⟩ : ByteArray), .int .i64 0, .bool false] 98 (0, 0)) (qva7_) NB101_0.out (by simp)); have n1_ := Aside0.mk (KeepBut.trans (qva2_) hk (.inl rfl)); have n2_ := Aside0.mk (hb); have n3_ := Aside0.mk (hi); clear BK101; clear HK; clear HB; clear HI0; have BK101 := n0_; have HK := n1_; have HB := n2_; have HI0 := n3_; clear n0_ n1_ n2_ n3_; (try clear hb); (try clear hk); (try clear hi)) | (go_at_call 100; (with_reducible refine (path_reader_key.calls g t123 t124 t125 t126 (wrap64 (s0_0 - (s0_1.size : Int))) t127 t128 t129 t130 t131 t132 t133 w0 _ ?side1 ?side2 (hG.below (qva1_)) A28.out).mono ?_); (case side1 => repeat (first | (with_reducible first | exact HI0.out | apply IsS138.alloc | apply IsS138.drewN | apply IsS138.drew | apply IsS138.set_0 | apply IsS138.set_1 | apply IsS138.set_2 | apply IsS138.set_3 | refine IsS138.far ?_ NB0_101.out _) | exact HI0.out)); (case side2 => repeat (first | (with_reducible first | exact HB.out | apply below_alloc | apply pw_below_drewN | apply below_drew1 | refine below_set ?_ (IsS138.ge HI0.out) | refine below_set ?_ GE101.out) | exact HB.out)); rintro e w32 ⟨rfl, hi, hb, hk⟩; have n0_ := Aside0.mk (KeepBut.blk hk (g' := gb101) (o := .cells #[.string (⟨#[]⟩ : ByteArray), .int .i64 0, .bool false] 98 (0, 0)) (qva7_) NB101_0.out (by simp)); have n1_ := Aside0.mk (KeepBut.trans (qva2_) hk (.inl rfl)); have n2_ := Aside0.mk (hb); have n3_ := Aside0.mk (hi); clear BK101; clear HK; clear HB; clear HI0; have BK101 := n0_; have HK := n1_; have HB := n2_; have HI0 := n3_; clear n0_ n1_ n2_ n3_; (try clear hb); (try clear hk); (try clear hi); have hnb33 := NB101_0.out; have hnc33 := NB0_101.out; have hcz34_0 : w32.cell? ⟨gb101, 0, none⟩ = some (.string (⟨#[]⟩ : ByteArray)) := (blk_cell BK101.out 0).trans rfl; have hcz34_1 : w32.cell? ⟨gb101, 1, none⟩ = some (.int .i64 0) := (blk_cell BK101.out 1).trans rfl; have hcz34_2 : w32.cell? ⟨gb101, 2, none⟩ = some (.bool false) := (blk_cell BK101.out 2).trans rfl; have hfz34_0 := blk_frozen BK101.out 0; have hfz34_1 := blk_frozen BK101.out 1; have hfz34_2 := blk_frozen BK101.out 2)))
 refine bodyPost_ret (results_cell_row rfl _ _ gb101 98 #[.string t127, .int .i64 t128, .bool t129] (0, 0) _ rfl (by (with_reducible repeat (first | refine blk_drewN ?_ _ | refine blk_drew ?_ | refine blk_alloc ?_ _)); refine blk_put (cs := #[.string t127, .int .i64 t128, .bool false]) ?_ 2 _ rfl; (with_reducible repeat (first | refine blk_drewN ?_ _ | refine blk_drew ?_ | refine blk_alloc ?_ _)); refine blk_put (cs := #[.string t127, .int .i64 0, .bool false]) ?_ 1 _ rfl; (with_reducible repeat (first | refine blk_drewN ?_ _ | refine blk_drew ?_ | refine blk_alloc ?_ _)); refine blk_put (cs := #[.string (⟨#[]⟩ : ByteArray), .int .i64 0, .bool false]) ?_ 0 _ rfl; (with_reducible repeat (first | refine blk_drewN ?_ _ | refine blk_drew ?_ | refine blk_alloc ?_ _)); exact BK101.out) Tryz.underlying98 rfl (by kernel_rfl)) rfl ?_
 exact ⟨qva10_, qva8_, qva9_, qva2_⟩
end Go.Proofs.YtiooacmplmcphaaGreatDoor.PX
namespace Go.Proofs.YtiooacmplmcphaaGreatDoor.Plug
open RowKit YtiooacmplmcphaaGreatDoor YtiooacmplmcphaaGreatDoor.PX YtiooacmplmcphaaGreatDoor.Utf YtiooacmplmcphaaGreatDoorW.PrintWords YtiooacmplmcphaaGreatDoorW.PrintLast YtiooacmplmcphaaGreatDoorW.PrintMore
def parseL : Nat → List S98 → Int → ByteArray → Option (List S98 × Int × Int)
 | 0, _, _, _ => none
 | k + 1, l, a, b => if b.data.toList = [] then some (l, 0, 0) else if l.length = 64 then some ([], 5, wrap64 (a - (b.size : Int))) else
  (path_reader_step.f a b 0 0).bind fun r => if (r.2.2.2.2.2.1 == 0 && (r.2.2.2.2.2.2 == 0)) = true then parseL k (l ++ [⟨r.1, r.2.1, r.2.2.1⟩]) r.2.2.2.1 r.2.2.2.2.1 else some ([], r.2.2.2.2.2.1, r.2.2.2.2.2.2)
def path_Parse.f (a0 : ByteArray) : Option (List S98 × Int × Int) := if a0.size ≤ 1099511627775 then parseL 66 [] (a0.size : Int) a0 else none
structure PrAt (w : World) (g B : Nat) (a : Int) (b : ByteArray) (c d : Int) (v : Value) (l : List S98) (W : World) : Prop where
 is : IsS138 w W g a b c d
 bel : Below w.heap.size w W
 res : W.heap[B]? = some (.cells #[.int .i64 0, .int .i64 0] 95 (0, 0))
 ne : B ≠ g
 own : Kd.R k98 98 W w.heap.size (fun k => k ≠ g ∧ k ≠ B) v l
theorem PrAt.below {w : World} {g B : Nat} {a : Int} {b : ByteArray} {c d : Int} {v : Value} {l : List S98} {W W' : World} (h : PrAt w g B a b c d v l W) (hb : Below W.heap.size W W') : PrAt w g B a b c d v l W' :=
  ⟨h.is.below hb, h.bel.trans (hb.mono h.bel.size), (hb.block B (blk_lt h.res)).trans h.res, h.ne, Kd.R_below h.own hb⟩
theorem PrAt.drew {w : World} {g B : Nat} {a : Int} {b : ByteArray} {c d : Int} {v : Value} {l : List S98} {W : World} (h : PrAt w g B a b c d v l W) : PrAt w g B a b c d v l W.drew := h.below (Below.drew (Below.refl _ _))
theorem PrAt.keep {w : World} {g B : Nat} {a : Int} {b : ByteArray} {c d : Int} {v : Value} {l : List S98} {W W' : World} (h : PrAt w g B a b c d v l W) {a' : Int} {b' : ByteArray} {c' d' : Int} (hi : IsS138 w W' g a' b' c' d') (hb : Below w.heap.size w W') (hk : KeepBut W W' g none) : PrAt w g B a' b' c' d' v l W' :=
  ⟨hi, hb, hk.blk h.res h.ne (by simp), h.ne, Kd.R_keep h.own hk (fun _ h => h.1)⟩
theorem PrAt.grow {w : World} {g B : Nat} {a : Int} {b : ByteArray} {c d : Int} {v : Value} {l : List S98} {W W' : World} (h : PrAt w g B a b c d v l W) {v' : Value} {l' : List S98} (ho : Kd.R k98 98 W' w.heap.size (fun k => k ≠ g ∧ k ≠ B) v' l') (hb : Below w.heap.size w W') (hg : W.grownBy W' v.ownBlock) : PrAt w g B a b c d v' l' W' :=
  ⟨h.is.grown hg (fun e => (h.own.1 _ e.symm).1 rfl), hb, blk_grown h.res hg (fun e => (h.own.1 _ e.symm).2 rfl), h.ne, ho⟩
theorem PrAt.ret {w : World} {g B : Nat} {a : Int} {b : ByteArray} {c d : Int} {v : Value} {l : List S98} {W : World} (h : PrAt w g B a b c d v l W) (hB : w.heap.size ≤ B) (y0 y1 : Value) :
  ((W.setCell ⟨B, 0, none⟩ y0).setCell ⟨B, 1, none⟩ y1).heap[B]? = some (.cells #[y0, y1] 95 (0, 0)) ∧ Below w.heap.size w ((W.setCell ⟨B, 0, none⟩ y0).setCell ⟨B, 1, none⟩ y1) ∧ Kd.R k98 98 ((W.setCell ⟨B, 0, none⟩ y0).setCell ⟨B, 1, none⟩ y1) w.heap.size (fun _ => True) v l :=
 ⟨by simpa using blk_set (blk_set h.res 0 y0) 1 y1, (h.bel.setCell hB _).setCell hB _, Kd.R_mono (Kd.R_far (p := ⟨B, 1, none⟩) (Kd.R_far (p := ⟨B, 0, none⟩) h.own (fun _ hk => hk.2) y0) (fun _ hk => hk.2) y1) (fun _ _ => trivial)⟩
attribute [local go_sem high] eqA95
set_option maxHeartbeats 1600000 in
set_option maxRecDepth 100000 in
theorem path_Parse.calls (a0 : ByteArray) (r1 : List S98) (r2 r3 : Int) (w : World) (hG : Glob.G w) (h : path_Parse.f a0 = some (r1, r2, r3)) :
    Calls Tryz.prog 47 #[.string a0] w fun e w' => ∃ v : Value, e = .returned (.tuple #[v, .agg #[.int .i64 r2, .int .i64 r3]]) ∧ Kd.R k98 98 w' w.heap.size (fun _ => True) v r1 ∧ Below w.heap.size w w' := by
  unfold path_Parse.f at h
  by_cases hs : a0.size ≤ 1099511627775
  case neg => rw [if_neg hs] at h; cases h
  rw [if_pos hs] at h
  have hB1 : Below w.heap.size w (w.alloc (.cells #[.int .i64 0, .int .i64 0] 95)) := (Below.refl _ _).alloc (Nat.le_refl _) _
  have hS1 : (w.alloc (.cells #[.int .i64 0, .int .i64 0] 95)).heap.size = w.heap.size + 1 := by simp
  have hP : PrAt w (w.heap.size + 1) w.heap.size (a0.size : Int) a0 0 0 (.slice none 0 0) [] ((w.alloc (.cells #[.int .i64 0, .int .i64 0] 95)).alloc (.cells #[.int .i64 (a0.size : Int), .string a0, .int .i64 0, .int .i64 0] 138)) := by
    have hn := IsS138.new w (w.alloc (.cells #[.int .i64 0, .int .i64 0] 95)) (a0.size : Int) a0 0 0 hB1
    rw [hS1] at hn
    exact ⟨hn, hB1.alloc (by omega) _, (blk_alloc (heap_alloc_new w _) _), by omega, Kd.R_nil _ _ _ _ _⟩
  have H' := Lib.hid h
  have HP := Lib.hid hP
  have HG := Lib.hid hG
  clear h hP hB1 hG
  go_enter Tryz.func47, Tryz.ntmps47
  go_wp2
  go_loopg [5] 66 (fun kq v5 w' => ∃ (l : List S98) (a : Int) (b : ByteArray), Hid (parseL kq l a b = some (r1, r2, r3)) ∧ Hid (kq ≤ 66) ∧ Hid (l.length + kq = 66) ∧ Hid (PrAt w (w.heap.size + 1) w.heap.size a b 0 0 v5 l w'))
  case atStart => exact ⟨[], _, _, H', Lib.hid (Nat.le_refl _), Lib.hid rfl, HP⟩
  case round =>
    clear H' HP
    obtain ⟨l, a, b, HA, HK, HL, HP⟩ := hrel
    cases gk with
    | zero => exact absurd HA.out (by simp [parseL])
    | succ k1 =>
      have h := HA.out
      rw [parseL] at h
      have c0 := cellS138_0 HP.out.is.1
      have c1 := cellS138_1 HP.out.is.1
      have c2 := cellS138_2 HP.out.is.1
      have c3 := cellS138_3 HP.out.is.1
      by_cases hb : b.data.toList = []
      · rw [if_pos hb] at h
        obtain ⟨rfl, rfl, rfl⟩ := by simpa only [Option.some.injEq, Prod.mk.injEq] using h
        have k0 : b.toList.isEmpty = true := by rw [Lib.toList_data, hb]; rfl
        have p0 := (blk_cell HP.out.res 0).trans rfl
        have p1 := (blk_cell HP.out.res 1).trans rfl
        have q0 := blk_frozen HP.out.res 0
        have q1 := blk_frozen HP.out.res 1
        clear h hb HA
        go_wp2
        obtain ⟨z0, z1, z2⟩ := HP.out.ret (Nat.le_refl _) (.int .i64 0) (.int .i64 0)
        refine bodyPost_ret (results_tc rfl _ _ w.heap.size 95 #[.int .i64 0, .int .i64 0] (0, 0) _ rfl z0 Tryz.underlying95 rfl (by kernel_rfl)) rfl ?_
        exact ⟨_, rfl, z2, z1⟩
      · rw [if_neg hb] at h
        have k0 : b.toList.isEmpty = false := by rw [Lib.toList_data, List.isEmpty_eq_false_iff]; exact hb
        clear hb
        obtain ⟨Ao, co, eo⟩ := Kd.R_slice HP.out.own
        subst eo
        by_cases hl : l.length = 64
        · rw [if_pos hl] at h
          obtain ⟨rfl, rfl, hx⟩ : r1 = [] ∧ r2 = 5 ∧ wrap64 (a - (b.size : Int)) = r3 := by
            simp only [Option.some.injEq, Prod.mk.injEq] at h; exact ⟨h.1.symm, h.2.1.symm, h.2.2⟩
          have hl2 : ((l.length : Int) == 64) = true := by rw [hl]; rfl
          have e1 : IntKind.i64.wrap (a - (b.size : Int)) = r3 := (i64_w _).trans hx
          have HQ := Lib.hid (show path_reader_fail.f a b 0 0 5 r3 = some (a, b, 5, r3) from rfl)
          have HD := Lib.hid HP.out.drew
          have HLL := Lib.hid hl
          have hyz : ((5 : Int) == 0 && (r3 == 0)) = false := rfl
          clear h hx hl HA
          go_wp2_with (fail)
          go_region_held3 (fun W' => W'.cell? ⟨w.heap.size + 1, 0, none⟩ = some (.int .i64 a) ∧ W'.cell? ⟨w.heap.size + 1, 1, none⟩ = some (.string b))
            (first | exact ⟨c0, c1⟩ | exact ⟨cellS138_0 i6.1, cellS138_1 i6.1⟩)
            ((go_at_call 73; with_reducible refine (path_reader_fail.calls (w.heap.size + 1) a b 0 0 5 r3 a b 5 r3 w _ HD.out.is HD.out.bel HG.out HQ.out).mono ?_; rintro e w6 ⟨rfl, i6, b6, k6⟩))
          have HP6 := Lib.hid (HD.out.keep i6 b6 k6)
          clear c0 c1 c2 c3 i6 b6 k6
          have c2 := cellS138_2 HP6.out.is.1
          have c3 := cellS138_3 HP6.out.is.1
          have p0 := (blk_cell HP6.out.res 0).trans rfl
          have p1 := (blk_cell HP6.out.res 1).trans rfl
          have q0 := blk_frozen HP6.out.res 0
          have q1 := blk_frozen HP6.out.res 1
          go_wp2
          go_region
          all_goals
            go_wp2
            obtain ⟨z0, z1, z2⟩ := HP6.out.drew.ret (Nat.le_refl _) (.int .i64 5) (.int .i64 r3)
            refine bodyPost_ret (results_tc rfl _ _ w.heap.size 95 #[.int .i64 5, .int .i64 r3] (0, 0) _ rfl z0 Tryz.underlying95 rfl (by kernel_rfl)) rfl ?_
            exact ⟨_, rfl, Kd.R_nil _ _ _ _ _, z1⟩
        · rw [if_neg hl] at h
          have hl2 : ((l.length : Int) == 64) = false := by rw [beq_eq_false_iff_ne]; omega
          obtain ⟨r, hr, h⟩ := Option.bind_eq_some_iff.1 h
          obtain ⟨s1, s2, s3, s4, s5, s6, s7⟩ := r
          dsimp only at h
          have HQ := Lib.hid hr
          have HLL := Lib.hid hl
          have HH := Lib.hid h
          have hk2 := HL.out
          clear hr hl h HA c2 c3
          by_cases hz : (s6 == 0 && (s7 == 0)) = true
          · have HN := HH.out
            rw [if_pos hz] at HN
            have HN := Lib.hid HN
            have hz2 : s6 = 0 ∧ s7 = 0 := by rw [Bool.and_eq_true, beq_iff_eq, beq_iff_eq] at hz; exact hz
            obtain ⟨rfl, rfl⟩ := hz2
            clear HH hz
            go_wp2_with (first | (go_at_call 74; with_reducible refine (path_reader_step.calls (w.heap.size + 1) a b 0 0 s1 s2 s3 s4 s5 _ _ w _ HP.out.is HP.out.bel HG.out HQ.out).mono ?_; rintro e w6 ⟨rfl, i6, b6, k6⟩; have HP6 := Lib.hid (HP.out.keep i6 b6 k6); clear i6 b6 k6) |
              (at_builtin; refine Kd.R_append k98 (w0 := w) w.heap.size rfl (.tmp 32) (.tmp 35) 50 98 (.agg #[(.string ⟨#[]⟩), (.int .i64 0), (.bool false)]) 32 rfl Tryz.underlying50 info98 rfl (by decide) (by omega) _ l (⟨s1, s2, s3⟩ : S98) [.string s1, .int .i64 s2, .bool s3] (fun k => k ≠ w.heap.size + 1 ∧ k ≠ w.heap.size) (fun _ => False) rfl (by first | (go_simp; done) | (go_simp; rfl)) (k98_mkM _ _ _ (⟨s1, s2, s3⟩ : S98)) (fun _ hk => hk.elim) (fun k hk => by have := HP6.out.is.lt; omega) HP6.out.own HP6.out.bel HP6.out.bel.size (by omega) ?_; intro v7 w7 ho hb hg hat; have HP7 := Lib.hid (HP6.out.grow ho hb hg); clear ho hb hg hat; have c2 := cellS138_2 HP7.out.is.1; have c3 := cellS138_3 HP7.out.is.1; have p0 := (blk_cell HP7.out.res 0).trans rfl; have p1 := (blk_cell HP7.out.res 1).trans rfl; have q0 := blk_frozen HP7.out.res 0; have q1 := blk_frozen HP7.out.res 1))
            go_roundg k1
            case measure => omega
            case rel => exact ⟨_, _, _, HN, Lib.hid (by have := HK.out; omega), Lib.hid (by rw [List.length_append, List.length_singleton]; omega), HP7⟩
          · have HN := HH.out
            rw [if_neg hz] at HN
            obtain ⟨rfl, rfl, rfl⟩ := by simpa only [Option.some.injEq, Prod.mk.injEq] using HN
            have hz3 : (s6 == 0 && (s7 == 0)) = false := Bool.eq_false_iff.2 hz
            clear HH HN hz
            go_wp2_with (first | (go_at_call 74; with_reducible refine (path_reader_step.calls (w.heap.size + 1) a b 0 0 s1 s2 s3 s4 s5 _ _ w _ HP.out.is HP.out.bel HG.out HQ.out).mono ?_; rintro e w6 ⟨rfl, i6, b6, k6⟩; have HP6 := Lib.hid (HP.out.keep i6 b6 k6); clear i6 b6 k6) |
              (at_builtin; refine Kd.R_append k98 (w0 := w) w.heap.size rfl (.tmp 32) (.tmp 35) 50 98 (.agg #[(.string ⟨#[]⟩), (.int .i64 0), (.bool false)]) 32 rfl Tryz.underlying50 info98 rfl (by decide) (by omega) _ l (⟨s1, s2, s3⟩ : S98) [.string s1, .int .i64 s2, .bool s3] (fun k => k ≠ w.heap.size + 1 ∧ k ≠ w.heap.size) (fun _ => False) rfl (by first | (go_simp; done) | (go_simp; rfl)) (k98_mkM _ _ _ (⟨s1, s2, s3⟩ : S98)) (fun _ hk => hk.elim) (fun k hk => by have := HP6.out.is.lt; omega) HP6.out.own HP6.out.bel HP6.out.bel.size (by omega) ?_; intro v7 w7 ho hb hg hat; have HP7 := Lib.hid (HP6.out.grow ho hb hg); clear ho hb hg hat; have c2 := cellS138_2 HP7.out.is.1; have c3 := cellS138_3 HP7.out.is.1; have p0 := (blk_cell HP7.out.res 0).trans rfl; have p1 := (blk_cell HP7.out.res 1).trans rfl; have q0 := blk_frozen HP7.out.res 0; have q1 := blk_frozen HP7.out.res 1))
            go_region
            all_goals
              go_wp2
              obtain ⟨z0, z1, z2⟩ := HP7.out.drew.ret (Nat.le_refl _) (.int .i64 s6) (.int .i64 s7)
              refine bodyPost_ret (results_tc rfl _ _ w.heap.size 95 #[.int .i64 s6, .int .i64 s7] (0, 0) _ rfl z0 Tryz.underlying95 rfl (by kernel_rfl)) rfl ?_
              exact ⟨_, rfl, Kd.R_nil _ _ _ _ _, z1⟩
end Go.Proofs.YtiooacmplmcphaaGreatDoor.Plug
namespace Go.Proofs.YtiooacmplmcphaaGreatDoor.PX
open RowKit YtiooacmplmcphaaGreatDoorW.PrintWords YtiooacmplmcphaaGreatDoorW.PrintLast YtiooacmplmcphaaGreatDoorW.PrintMore YtiooacmplmcphaaGreatDoor YtiooacmplmcphaaGreatDoor.Plug
attribute [local go_sem] max2_int min2_int max_two min_two max_three min_three max_four min_four   -- for this text's walks alone
set_option linter.unusedVariables false
set_option linter.unusedSimpArgs false
attribute [local go_sem high] eqA95
def grommetlaw16_alive.f  : Option (Bool) := (path_Parse.f (⟨#[97, 46, 98, 91, 48, 93, 46, 34, 120, 32, 121, 34]⟩ : ByteArray)).bind fun bt101 => ((path_Format.f bt101.1).bind fun bt107 => (if (bt101.2.1 == 0 && (bt101.2.2 == 0)) = true then (if (bt101.1.length : Int) = 4 then (if 2 < (bt101.1.length : Int) then (if (rd_T98 bt101.1 2).f2 = true then (if 3 < (bt101.1.length : Int) then (if ((rd_T98 bt101.1 3).f0).toList = ([120, 32, 121] : List UInt8) then (if bt107.2 = 0 then (some (bt107.1.toList == ([97, 46, 98, 91, 48, 93, 46, 34, 120, 32, 121, 34] : List UInt8))) else (some false)) else (some false)) else (none)) else (some false)) else (none)) else (some false)) else (some false)))
theorem qea0_ {P : Prop} (h_ : P := by repeat (first | (with_reducible first | exact HB.out | apply below_alloc | apply pw_below_drewN | apply below_drew1) | exact HB.out)) : P := h_
theorem qea1_ {P : Prop} (h_ : P := by (with_reducible repeat (first | apply Kd.R_alloc | apply Kd.R_drewN | apply Kd.R_drew)); exact (Kd.R_mono (Kd.R_far (p := ⟨gb106, 1, none⟩) (Kd.R_far (p := ⟨gb106, 0, none⟩) (Kd.R_types HO103.out BK106.out (by decide)) (fun _ hk => hk.2) (.int .i64 t104)) (fun _ hk => hk.2) (.int .i64 t105)) (fun _ h_ => h_.1))) : P := h_
theorem qea2_ {P : Prop} (h_ : P := by first | ((repeat (first | (with_reducible first | exact HB.out | apply below_alloc | apply pw_below_drewN | apply below_drew1 | (refine Glob.below_set ?_ (by assumption) _ _ _)) | exact HB.out)); done) | (refine Drawn0.below ?_; repeat (first | exact Drawn0.refl _ | assumption | apply Drawn0.step))) : P := h_
theorem qea3_ {P : Prop} (h_ : P := by (with_reducible repeat (first | refine blk_drewN ?_ _ | refine blk_drew ?_ | refine blk_alloc ?_ _)); refine blk_put (cs := #[.int .i64 t104, .int .i64 0]) ?_ 1 _ rfl; (with_reducible repeat (first | refine blk_drewN ?_ _ | refine blk_drew ?_ | refine blk_alloc ?_ _)); refine blk_put (cs := #[.int .i64 0, .int .i64 0]) ?_ 0 _ rfl; (with_reducible repeat (first | refine blk_drewN ?_ _ | refine blk_drew ?_ | refine blk_alloc ?_ _)); exact BK106.out) : P := h_
theorem qea4_ {P : Prop} (h_ : P := by repeat (first | (with_reducible first | exact HB.out | apply below_alloc | apply pw_below_drewN | apply below_drew1 | refine below_set ?_ GE106.out) | exact HB.out)) : P := h_
theorem qea5_ {P : Prop} (h_ : P := by (try simp only [List.map_toArray, List.map_cons, List.map_nil]); first | done | rfl | (simp only [List.length_drop, List.length_take]; rfl)) : P := h_
theorem qea6_ {P : Prop} (h_ : P := by (with_reducible repeat (first | apply Kd.R_alloc | apply Kd.R_drewN | apply Kd.R_drew)); exact HO103.out) : P := h_
theorem qea7_ {P : Prop} (h_ : P := by first | rfl | (simp [errW_none, errW_some] <;> rfl) | (simp [*, errW_none, errW_some] <;> rfl)) : P := h_
theorem qea8_ {P : Prop} (h_ : P := by first | (with_reducible assumption) | assumption) : P := h_
set_option maxHeartbeats 8000000 in
set_option maxRecDepth 100000 in
theorem grommetlaw16_alive.calls  (r : Bool) (w : World) (hG : Glob.G w) (h : grommetlaw16_alive.f  = some r) :
  Calls Tryz.prog 24 #[] w fun e w' => e = .returned (.bool r) ∧ Below w.heap.size w w' := by
 have hu95 := Tryz.underlying95
 have HB := Aside0.mk (Below.refl w.heap.size w)
 have H : ((path_Parse.f (⟨#[97, 46, 98, 91, 48, 93, 46, 34, 120, 32, 121, 34]⟩ : ByteArray)).bind fun bt101 => ((path_Format.f bt101.1).bind fun bt107 => (if (bt101.2.1 == 0 && (bt101.2.2 == 0)) = true then (if (bt101.1.length : Int) = 4 then (if 2 < (bt101.1.length : Int) then (if (rd_T98 bt101.1 2).f2 = true then (if 3 < (bt101.1.length : Int) then (if ((rd_T98 bt101.1 3).f0).toList = ([120, 32, 121] : List UInt8) then (if bt107.2 = 0 then (some (bt107.1.toList == ([97, 46, 98, 91, 48, 93, 46, 34, 120, 32, 121, 34] : List UInt8))) else (some false)) else (some false)) else (none)) else (some false)) else (none)) else (some false)) else (some false)))) = some r := h
 clear h
 replace H := Option.bind_eq_some_iff.mp H
 obtain ⟨⟨t101, t104, t105⟩, A10, H⟩ := H
 replace H : ((path_Format.f t101).bind fun bt107 => (if (t104 == 0 && (t105 == 0)) = true then (if (t101.length : Int) = 4 then (if 2 < (t101.length : Int) then (if (rd_T98 t101 2).f2 = true then (if 3 < (t101.length : Int) then (if ((rd_T98 t101 3).f0).toList = ([120, 32, 121] : List UInt8) then (if bt107.2 = 0 then (some (bt107.1.toList == ([97, 46, 98, 91, 48, 93, 46, 34, 120, 32, 121, 34] : List UInt8))) else (some false)) else (some false)) else (none)) else (some false)) else (none)) else (some false)) else (some false))) = some r := H
 have A1 := Aside0.mk A10
 clear A10
 replace H := Option.bind_eq_some_iff.mp H
 obtain ⟨⟨t107, t108⟩, A20, H⟩ := H
 replace H : (if (t104 == 0 && (t105 == 0)) = true then (if (t101.length : Int) = 4 then (if 2 < (t101.length : Int) then (if (rd_T98 t101 2).f2 = true then (if 3 < (t101.length : Int) then (if ((rd_T98 t101 3).f0).toList = ([120, 32, 121] : List UInt8) then (if t108 = 0 then (some (t107.toList == ([97, 46, 98, 91, 48, 93, 46, 34, 120, 32, 121, 34] : List UInt8))) else (some false)) else (some false)) else (none)) else (some false)) else (none)) else (some false)) else (some false)) = some r := H
 have A2 := Aside0.mk A20
 clear A20
 by_cases c3 : (t104 == 0 && (t105 == 0)) = true
 rotate_left
 ·
  rw [if_neg c3] at H
  have c3b0 : (t104 == 0 && (t105 == 0)) = false := by simpa using c3
  (try (have c3b1 : decide (t104 = 0 && (t105 == 0)) = false := by simpa using c3))
  (try (have c3b2 : (t104 == 0 && (t105 == 0)) = false := by simpa using c3))
  (try (have c3b3 : ¬ (t104 = 0 && (t105 == 0)) := by simpa using c3))
  clear c3
  obtain rfl := Option.some.inj H
  go_enter Tryz.func24, Tryz.ntmps24
  go_wp2_with (first | ((with_reducible refine gate_callee (f := 47) rfl ?_); refine goesL_ (some 6) rfl rfl Tryz.func47 (by kernel_rfl) rfl #[.string (⟨#[97, 46, 98, 91, 48, 93, 46, 34, 120, 32, 121, 34]⟩ : ByteArray)] rfl (qea5_) ?_; (with_reducible refine (path_Parse.calls (⟨#[97, 46, 98, 91, 48, 93, 46, 34, 120, 32, 121, 34]⟩ : ByteArray) t101 t104 t105 _ (hG.below (qea2_)) A1.out).mono ?_); rintro e w41 ⟨v102, rfl, ho0, hb⟩; refine ⟨_, rfl, ?_⟩; have n0_ := Aside0.mk (Kd.R_lower ho0 (below_size (qea0_))); have n1_ := Aside0.mk (below_step (qea0_) hb); clear HB; have HO103 := n0_; have HB := n1_; clear n0_ n1_; (try clear hb); (try clear hk); (try clear ho0)) | ((with_reducible refine gate_dst (N := 2) rfl ?_); (try (refine gate_guard (by rfl) ?_; dsimp only)); refine box_event ?hg (N := 2) ?hd (cs := #[.int .i64 0, .int .i64 0]) (t := 95) ?hr ?_; (case hd => rfl); (case hg => rfl); (case hr => first | (go_simp; done) | (go_simp; rfl)); intro gb106 hg w42 hbox hb; have n0_ := Aside0.mk (Kd.R_below (qea6_) hb); have n1_ := Aside0.mk (below_step (qea0_) hb); have n2_ := Aside0.mk (hbox); have n3_ := Aside0.mk ((by rw [hg]; exact (below_size (qea0_)) : w.heap.size ≤ gb106)); have n4_ := Aside0.mk ((by rw [hg]; exact (below_size (qea0_)) : w.heap.size ≤ gb106)); clear HO103; clear HB; have HO103 := n0_; have HB := n1_; have BK106 := n2_; have GW106 := n3_; have GE106 := n4_; clear n0_ n1_ n2_ n3_ n4_; clear hb hbox hg; have hcz43_0 : w42.cell? ⟨gb106, 0, none⟩ = some (.int .i64 0) := (blk_cell BK106.out 0).trans rfl; have hcz43_1 : w42.cell? ⟨gb106, 1, none⟩ = some (.int .i64 0) := (blk_cell BK106.out 1).trans rfl; have hfz43_0 := blk_frozen BK106.out 0; have hfz43_1 := blk_frozen BK106.out 1; obtain ⟨Ao44, co44, eo44⟩ := Kd.R_slice HO103.out; subst eo44) | ((with_reducible refine gate_callee (f := 28) rfl ?_); refine goesL_ (some 11) rfl rfl Tryz.func28 (by kernel_rfl) rfl #[.slice Ao44 t101.length co44] rfl (qea5_) ?_; (with_reducible refine (path_Format.calls _ _ t101 t107 t108 _ ?side1 ?side2 (hG.below (qea2_)) A2.out).mono ?_); (case side1 => refine (Kd.R_reads' (e := 98) (base := w.heap.size) (ok := fun k_ => True) (n := t101.length) (c := co44) ?_).2.2; exact (qea1_)); (case side2 => exact (Kd.R_reads' HO103.out).2.1); rintro e w45 ⟨rfl, hb⟩; refine ⟨_, rfl, ?_⟩; have n0_ := Aside0.mk (Kd.R_below (qea1_) hb); have n1_ := Aside0.mk (blk_below (g := gb106) (o := .cells #[.int .i64 t104, .int .i64 t105] 95 (0, 0)) (qea3_) hb); have n2_ := Aside0.mk (below_step (qea4_) hb); clear HO103; clear BK106; clear HB; have HO103 := n0_; have BK106 := n1_; have HB := n2_; clear n0_ n1_ n2_; (try clear hb); (try clear hk); have hcz46_0 : w45.cell? ⟨gb106, 0, none⟩ = some (.int .i64 t104) := (blk_cell BK106.out 0).trans rfl; have hcz46_1 : w45.cell? ⟨gb106, 1, none⟩ = some (.int .i64 t105) := (blk_cell BK106.out 1).trans rfl; have hfz46_0 := blk_frozen BK106.out 0; have hfz46_1 := blk_frozen BK106.out 1))
  go_ret
  exact ⟨qea7_, qea4_⟩
 rw [if_pos c3] at H
 have c3b0 : (t104 == 0 && (t105 == 0)) = true := c3
 (try (have c3b1 : decide (t104 = 0 && (t105 == 0)) = true := by simpa using c3))
 (try (have c3b2 : (t104 == 0 && (t105 == 0)) = true := by simpa using c3))
 clear c3
 by_cases c4 : (t101.length : Int) = 4
 rotate_left
 ·
  rw [if_neg c4] at H
  have c4b0 : ((t101.length : Int) == 4) = false := beq_eq_false_iff_ne.mpr c4
  have c4b1 : ((t101.length : Int) != 4) = true := bne_iff_ne.mpr c4
  obtain rfl := Option.some.inj H
  go_enter Tryz.func24, Tryz.ntmps24
  go_wp2_with (first | ((with_reducible refine gate_callee (f := 47) rfl ?_); refine goesL_ (some 6) rfl rfl Tryz.func47 (by kernel_rfl) rfl #[.string (⟨#[97, 46, 98, 91, 48, 93, 46, 34, 120, 32, 121, 34]⟩ : ByteArray)] rfl (qea5_) ?_; (with_reducible refine (path_Parse.calls (⟨#[97, 46, 98, 91, 48, 93, 46, 34, 120, 32, 121, 34]⟩ : ByteArray) t101 t104 t105 _ (hG.below (qea2_)) A1.out).mono ?_); rintro e w35 ⟨v102, rfl, ho0, hb⟩; refine ⟨_, rfl, ?_⟩; have n0_ := Aside0.mk (Kd.R_lower ho0 (below_size (qea0_))); have n1_ := Aside0.mk (below_step (qea0_) hb); clear HB; have HO103 := n0_; have HB := n1_; clear n0_ n1_; (try clear hb); (try clear hk); (try clear ho0)) | ((with_reducible refine gate_dst (N := 2) rfl ?_); (try (refine gate_guard (by rfl) ?_; dsimp only)); refine box_event ?hg (N := 2) ?hd (cs := #[.int .i64 0, .int .i64 0]) (t := 95) ?hr ?_; (case hd => rfl); (case hg => rfl); (case hr => first | (go_simp; done) | (go_simp; rfl)); intro gb106 hg w36 hbox hb; have n0_ := Aside0.mk (Kd.R_below (qea6_) hb); have n1_ := Aside0.mk (below_step (qea0_) hb); have n2_ := Aside0.mk (hbox); have n3_ := Aside0.mk ((by rw [hg]; exact (below_size (qea0_)) : w.heap.size ≤ gb106)); have n4_ := Aside0.mk ((by rw [hg]; exact (below_size (qea0_)) : w.heap.size ≤ gb106)); clear HO103; clear HB; have HO103 := n0_; have HB := n1_; have BK106 := n2_; have GW106 := n3_; have GE106 := n4_; clear n0_ n1_ n2_ n3_ n4_; clear hb hbox hg; have hcz37_0 : w36.cell? ⟨gb106, 0, none⟩ = some (.int .i64 0) := (blk_cell BK106.out 0).trans rfl; have hcz37_1 : w36.cell? ⟨gb106, 1, none⟩ = some (.int .i64 0) := (blk_cell BK106.out 1).trans rfl; have hfz37_0 := blk_frozen BK106.out 0; have hfz37_1 := blk_frozen BK106.out 1; obtain ⟨Ao38, co38, eo38⟩ := Kd.R_slice HO103.out; subst eo38) | ((with_reducible refine gate_callee (f := 28) rfl ?_); refine goesL_ (some 11) rfl rfl Tryz.func28 (by kernel_rfl) rfl #[.slice Ao38 t101.length co38] rfl (qea5_) ?_; (with_reducible refine (path_Format.calls _ _ t101 t107 t108 _ ?side1 ?side2 (hG.below (qea2_)) A2.out).mono ?_); (case side1 => refine (Kd.R_reads' (e := 98) (base := w.heap.size) (ok := fun k_ => True) (n := t101.length) (c := co38) ?_).2.2; exact (qea1_)); (case side2 => exact (Kd.R_reads' HO103.out).2.1); rintro e w39 ⟨rfl, hb⟩; refine ⟨_, rfl, ?_⟩; have n0_ := Aside0.mk (Kd.R_below (qea1_) hb); have n1_ := Aside0.mk (blk_below (g := gb106) (o := .cells #[.int .i64 t104, .int .i64 t105] 95 (0, 0)) (qea3_) hb); have n2_ := Aside0.mk (below_step (qea4_) hb); clear HO103; clear BK106; clear HB; have HO103 := n0_; have BK106 := n1_; have HB := n2_; clear n0_ n1_ n2_; (try clear hb); (try clear hk); have hcz40_0 : w39.cell? ⟨gb106, 0, none⟩ = some (.int .i64 t104) := (blk_cell BK106.out 0).trans rfl; have hcz40_1 : w39.cell? ⟨gb106, 1, none⟩ = some (.int .i64 t105) := (blk_cell BK106.out 1).trans rfl; have hfz40_0 := blk_frozen BK106.out 0; have hfz40_1 := blk_frozen BK106.out 1))
  go_ret
  exact ⟨qea7_, qea4_⟩
 rw [if_pos c4] at H
 have c4b0 : ((t101.length : Int) == 4) = true := beq_iff_eq.mpr c4
 have c4b1 : ((t101.length : Int) != 4) = false := bne_eq_false_iff_eq.mpr c4
 clear c4
 by_cases c5 : 2 < (t101.length : Int)
 rotate_left
 ·
  rw [if_neg c5] at H
  exact absurd H (by simp)
 rw [if_pos c5] at H
 have c5b0 : decide (2 < (t101.length : Int)) = true := decide_eq_true c5
 have c5b1 : decide (2 < t101.length) = true := decide_eq_true (by omega)
 clear c5
 obtain ⟨bq6, hbq6⟩ : ∃ b_ : Bool, b_ = ((rd_T98 t101 2).f2) := ⟨_, rfl⟩
 replace H : (if bq6 = true then (if 3 < (t101.length : Int) then (if ((rd_T98 t101 3).f0).toList = ([120, 32, 121] : List UInt8) then (if t108 = 0 then (some (t107.toList == ([97, 46, 98, 91, 48, 93, 46, 34, 120, 32, 121, 34] : List UInt8))) else (some false)) else (some false)) else (none)) else (some false)) = some r := by rw [← hbq6] at H; exact H
 have Nbq6 := Aside0.mk hbq6
 clear hbq6
 by_cases c7 : bq6 = true
 rotate_left
 ·
  replace c7 := Bool.eq_false_iff.mpr c7
  subst c7
  have H1 : (some false) = some r := by rw [if_neg (show ¬ (false = true) by decide)] at H; exact H
  clear H
  have H := H1
  clear H1
  obtain rfl := Option.some.inj H
  go_enter Tryz.func24, Tryz.ntmps24
  go_wp2_with (first | ((with_reducible refine gate_callee (f := 47) rfl ?_); refine goesL_ (some 6) rfl rfl Tryz.func47 (by kernel_rfl) rfl #[.string (⟨#[97, 46, 98, 91, 48, 93, 46, 34, 120, 32, 121, 34]⟩ : ByteArray)] rfl (qea5_) ?_; (with_reducible refine (path_Parse.calls (⟨#[97, 46, 98, 91, 48, 93, 46, 34, 120, 32, 121, 34]⟩ : ByteArray) t101 t104 t105 _ (hG.below (qea2_)) A1.out).mono ?_); rintro e w29 ⟨v102, rfl, ho0, hb⟩; refine ⟨_, rfl, ?_⟩; have n0_ := Aside0.mk (Kd.R_lower ho0 (below_size (qea0_))); have n1_ := Aside0.mk (below_step (qea0_) hb); clear HB; have HO103 := n0_; have HB := n1_; clear n0_ n1_; (try clear hb); (try clear hk); (try clear ho0)) | ((with_reducible refine gate_dst (N := 2) rfl ?_); (try (refine gate_guard (by rfl) ?_; dsimp only)); refine box_event ?hg (N := 2) ?hd (cs := #[.int .i64 0, .int .i64 0]) (t := 95) ?hr ?_; (case hd => rfl); (case hg => rfl); (case hr => first | (go_simp; done) | (go_simp; rfl)); intro gb106 hg w30 hbox hb; have n0_ := Aside0.mk (Kd.R_below (qea6_) hb); have n1_ := Aside0.mk (below_step (qea0_) hb); have n2_ := Aside0.mk (hbox); have n3_ := Aside0.mk ((by rw [hg]; exact (below_size (qea0_)) : w.heap.size ≤ gb106)); have n4_ := Aside0.mk ((by rw [hg]; exact (below_size (qea0_)) : w.heap.size ≤ gb106)); clear HO103; clear HB; have HO103 := n0_; have HB := n1_; have BK106 := n2_; have GW106 := n3_; have GE106 := n4_; clear n0_ n1_ n2_ n3_ n4_; clear hb hbox hg; have hcz31_0 : w30.cell? ⟨gb106, 0, none⟩ = some (.int .i64 0) := (blk_cell BK106.out 0).trans rfl; have hcz31_1 : w30.cell? ⟨gb106, 1, none⟩ = some (.int .i64 0) := (blk_cell BK106.out 1).trans rfl; have hfz31_0 := blk_frozen BK106.out 0; have hfz31_1 := blk_frozen BK106.out 1; obtain ⟨Ao32, co32, eo32⟩ := Kd.R_slice HO103.out; subst eo32) | ((with_reducible refine gate_callee (f := 28) rfl ?_); refine goesL_ (some 11) rfl rfl Tryz.func28 (by kernel_rfl) rfl #[.slice Ao32 t101.length co32] rfl (qea5_) ?_; (with_reducible refine (path_Format.calls _ _ t101 t107 t108 _ ?side1 ?side2 (hG.below (qea2_)) A2.out).mono ?_); (case side1 => refine (Kd.R_reads' (e := 98) (base := w.heap.size) (ok := fun k_ => True) (n := t101.length) (c := co32) ?_).2.2; exact (qea1_)); (case side2 => exact (Kd.R_reads' HO103.out).2.1); rintro e w33 ⟨rfl, hb⟩; refine ⟨_, rfl, ?_⟩; have n0_ := Aside0.mk (Kd.R_below (qea1_) hb); have n1_ := Aside0.mk (blk_below (g := gb106) (o := .cells #[.int .i64 t104, .int .i64 t105] 95 (0, 0)) (qea3_) hb); have n2_ := Aside0.mk (below_step (qea4_) hb); clear HO103; clear BK106; clear HB; have HO103 := n0_; have BK106 := n1_; have HB := n2_; clear n0_ n1_ n2_; (try clear hb); (try clear hk); have hcz34_0 : w33.cell? ⟨gb106, 0, none⟩ = some (.int .i64 t104) := (blk_cell BK106.out 0).trans rfl; have hcz34_1 : w33.cell? ⟨gb106, 1, none⟩ = some (.int .i64 t105) := (blk_cell BK106.out 1).trans rfl; have hfz34_0 := blk_frozen BK106.out 0; have hfz34_1 := blk_frozen BK106.out 1; have p109 : 0 ≤ (2 : Int) := (by omega); have q109 : 2 < (t101.length : Int) := of_decide_eq_true (qea8_); obtain ⟨ad109, e109, hx109_0, hx109_1, hx109_2⟩ := at_T98 (Kd.R_reads' HO103.out).2.2 2 p109 q109; (try rw [← Nbq6.out] at hx109_2); cases e109; (try simp only [show (2 : Int).toNat = 2 from rfl, Nat.reduceMul, Nat.reduceEqDiff, Go.Addr.add, ↓reduceIte] at hx109_0); (try simp only [show (2 : Int).toNat = 2 from rfl, Nat.reduceMul, Nat.reduceEqDiff, Go.Addr.add, ↓reduceIte] at hx109_1); (try simp only [show (2 : Int).toNat = 2 from rfl, Nat.reduceMul, Nat.reduceEqDiff, Go.Addr.add, ↓reduceIte] at hx109_2); have qi109 : (2 < t101.length) = True := eq_true (by omega); (try rw [show ((2 : Int)).toNat = 2 from rfl] at hx109_0); (try rw [show 2 * 3 = 6 from rfl] at hx109_0); (try rw [show ((2 : Int)).toNat = 2 from rfl] at hx109_1); (try rw [show 2 * 3 = 6 from rfl] at hx109_1); (try rw [show ((2 : Int)).toNat = 2 from rfl] at hx109_2); (try rw [show 2 * 3 = 6 from rfl] at hx109_2); replace p109 := eq_true p109; replace q109 := eq_true q109))
  go_ret
  exact ⟨qea7_, qea4_⟩
 subst c7
 have H1 : (if 3 < (t101.length : Int) then (if ((rd_T98 t101 3).f0).toList = ([120, 32, 121] : List UInt8) then (if t108 = 0 then (some (t107.toList == ([97, 46, 98, 91, 48, 93, 46, 34, 120, 32, 121, 34] : List UInt8))) else (some false)) else (some false)) else (none)) = some r := by rw [if_pos rfl] at H; exact H
 clear H
 have H := H1
 clear H1
 by_cases c8 : 3 < (t101.length : Int)
 rotate_left
 ·
  rw [if_neg c8] at H
  exact absurd H (by simp)
 rw [if_pos c8] at H
 have c8b0 : decide (3 < (t101.length : Int)) = true := decide_eq_true c8
 have c8b1 : decide (3 < t101.length) = true := decide_eq_true (by omega)
 clear c8
 by_cases c9 : ((rd_T98 t101 3).f0).toList = ([120, 32, 121] : List UInt8)
 rotate_left
 ·
  rw [if_neg c9] at H
  have c9b0 : (((rd_T98 t101 3).f0).toList == ([120, 32, 121] : List UInt8)) = false := beq_eq_false_iff_ne.mpr c9
  have c9b1 : (((rd_T98 t101 3).f0).toList != ([120, 32, 121] : List UInt8)) = true := bne_iff_ne.mpr c9
  obtain rfl := Option.some.inj H
  go_enter Tryz.func24, Tryz.ntmps24
  go_wp2_with (first | ((with_reducible refine gate_callee (f := 47) rfl ?_); refine goesL_ (some 6) rfl rfl Tryz.func47 (by kernel_rfl) rfl #[.string (⟨#[97, 46, 98, 91, 48, 93, 46, 34, 120, 32, 121, 34]⟩ : ByteArray)] rfl (qea5_) ?_; (with_reducible refine (path_Parse.calls (⟨#[97, 46, 98, 91, 48, 93, 46, 34, 120, 32, 121, 34]⟩ : ByteArray) t101 t104 t105 _ (hG.below (qea2_)) A1.out).mono ?_); rintro e w23 ⟨v102, rfl, ho0, hb⟩; refine ⟨_, rfl, ?_⟩; have n0_ := Aside0.mk (Kd.R_lower ho0 (below_size (qea0_))); have n1_ := Aside0.mk (below_step (qea0_) hb); clear HB; have HO103 := n0_; have HB := n1_; clear n0_ n1_; (try clear hb); (try clear hk); (try clear ho0)) | ((with_reducible refine gate_dst (N := 2) rfl ?_); (try (refine gate_guard (by rfl) ?_; dsimp only)); refine box_event ?hg (N := 2) ?hd (cs := #[.int .i64 0, .int .i64 0]) (t := 95) ?hr ?_; (case hd => rfl); (case hg => rfl); (case hr => first | (go_simp; done) | (go_simp; rfl)); intro gb106 hg w24 hbox hb; have n0_ := Aside0.mk (Kd.R_below (qea6_) hb); have n1_ := Aside0.mk (below_step (qea0_) hb); have n2_ := Aside0.mk (hbox); have n3_ := Aside0.mk ((by rw [hg]; exact (below_size (qea0_)) : w.heap.size ≤ gb106)); have n4_ := Aside0.mk ((by rw [hg]; exact (below_size (qea0_)) : w.heap.size ≤ gb106)); clear HO103; clear HB; have HO103 := n0_; have HB := n1_; have BK106 := n2_; have GW106 := n3_; have GE106 := n4_; clear n0_ n1_ n2_ n3_ n4_; clear hb hbox hg; have hcz25_0 : w24.cell? ⟨gb106, 0, none⟩ = some (.int .i64 0) := (blk_cell BK106.out 0).trans rfl; have hcz25_1 : w24.cell? ⟨gb106, 1, none⟩ = some (.int .i64 0) := (blk_cell BK106.out 1).trans rfl; have hfz25_0 := blk_frozen BK106.out 0; have hfz25_1 := blk_frozen BK106.out 1; obtain ⟨Ao26, co26, eo26⟩ := Kd.R_slice HO103.out; subst eo26) | ((with_reducible refine gate_callee (f := 28) rfl ?_); refine goesL_ (some 11) rfl rfl Tryz.func28 (by kernel_rfl) rfl #[.slice Ao26 t101.length co26] rfl (qea5_) ?_; (with_reducible refine (path_Format.calls _ _ t101 t107 t108 _ ?side1 ?side2 (hG.below (qea2_)) A2.out).mono ?_); (case side1 => refine (Kd.R_reads' (e := 98) (base := w.heap.size) (ok := fun k_ => True) (n := t101.length) (c := co26) ?_).2.2; exact (qea1_)); (case side2 => exact (Kd.R_reads' HO103.out).2.1); rintro e w27 ⟨rfl, hb⟩; refine ⟨_, rfl, ?_⟩; have n0_ := Aside0.mk (Kd.R_below (qea1_) hb); have n1_ := Aside0.mk (blk_below (g := gb106) (o := .cells #[.int .i64 t104, .int .i64 t105] 95 (0, 0)) (qea3_) hb); have n2_ := Aside0.mk (below_step (qea4_) hb); clear HO103; clear BK106; clear HB; have HO103 := n0_; have BK106 := n1_; have HB := n2_; clear n0_ n1_ n2_; (try clear hb); (try clear hk); have hcz28_0 : w27.cell? ⟨gb106, 0, none⟩ = some (.int .i64 t104) := (blk_cell BK106.out 0).trans rfl; have hcz28_1 : w27.cell? ⟨gb106, 1, none⟩ = some (.int .i64 t105) := (blk_cell BK106.out 1).trans rfl; have hfz28_0 := blk_frozen BK106.out 0; have hfz28_1 := blk_frozen BK106.out 1; have p109 : 0 ≤ (2 : Int) := (by omega); have q109 : 2 < (t101.length : Int) := of_decide_eq_true (qea8_); obtain ⟨ad109, e109, hx109_0, hx109_1, hx109_2⟩ := at_T98 (Kd.R_reads' HO103.out).2.2 2 p109 q109; (try rw [← Nbq6.out] at hx109_2); cases e109; (try simp only [show (2 : Int).toNat = 2 from rfl, Nat.reduceMul, Nat.reduceEqDiff, Go.Addr.add, ↓reduceIte] at hx109_0); (try simp only [show (2 : Int).toNat = 2 from rfl, Nat.reduceMul, Nat.reduceEqDiff, Go.Addr.add, ↓reduceIte] at hx109_1); (try simp only [show (2 : Int).toNat = 2 from rfl, Nat.reduceMul, Nat.reduceEqDiff, Go.Addr.add, ↓reduceIte] at hx109_2); have qi109 : (2 < t101.length) = True := eq_true (by omega); (try rw [show ((2 : Int)).toNat = 2 from rfl] at hx109_0); (try rw [show 2 * 3 = 6 from rfl] at hx109_0); (try rw [show ((2 : Int)).toNat = 2 from rfl] at hx109_1); (try rw [show 2 * 3 = 6 from rfl] at hx109_1); (try rw [show ((2 : Int)).toNat = 2 from rfl] at hx109_2); (try rw [show 2 * 3 = 6 from rfl] at hx109_2); replace p109 := eq_true p109; replace q109 := eq_true q109; have p110 : 0 ≤ (3 : Int) := (by omega); have q110 : 3 < (t101.length : Int) := of_decide_eq_true (qea8_); obtain ⟨ad110, e110, hx110_0, hx110_1, hx110_2⟩ := at_T98 (Kd.R_reads' HO103.out).2.2 3 p110 q110; (try rw [← Nbq6.out] at hx110_2); obtain rfl : ad109 = ad110 := (by injection e110); (try simp only [show (3 : Int).toNat = 3 from rfl, Nat.reduceMul, Nat.reduceEqDiff, Go.Addr.add, ↓reduceIte] at hx110_0); (try simp only [show (3 : Int).toNat = 3 from rfl, Nat.reduceMul, Nat.reduceEqDiff, Go.Addr.add, ↓reduceIte] at hx110_1); (try simp only [show (3 : Int).toNat = 3 from rfl, Nat.reduceMul, Nat.reduceEqDiff, Go.Addr.add, ↓reduceIte] at hx110_2); have qi110 : (3 < t101.length) = True := eq_true (by omega); (try rw [show ((3 : Int)).toNat = 3 from rfl] at hx110_0); (try rw [show 3 * 3 = 9 from rfl] at hx110_0); (try rw [show ((3 : Int)).toNat = 3 from rfl] at hx110_1); (try rw [show 3 * 3 = 9 from rfl] at hx110_1); (try rw [show ((3 : Int)).toNat = 3 from rfl] at hx110_2); (try rw [show 3 * 3 = 9 from rfl] at hx110_2); replace p110 := eq_true p110; replace q110 := eq_true q110))
  go_ret
  exact ⟨qea7_, qea4_⟩
 rw [if_pos c9] at H
 have c9b0 : (((rd_T98 t101 3).f0).toList == ([120, 32, 121] : List UInt8)) = true := beq_iff_eq.mpr c9
 have c9b1 : (((rd_T98 t101 3).f0).toList != ([120, 32, 121] : List UInt8)) = false := bne_eq_false_iff_eq.mpr c9
 clear c9
 by_cases c10 : t108 = 0
 rotate_left
 ·
  rw [if_neg c10] at H
  have c10b0 : (t108 == 0) = false := beq_eq_false_iff_ne.mpr c10
  have c10b1 : (t108 != 0) = true := bne_iff_ne.mpr c10
  obtain rfl := Option.some.inj H
  go_enter Tryz.func24, Tryz.ntmps24
  go_wp2_with (first | ((with_reducible refine gate_callee (f := 47) rfl ?_); refine goesL_ (some 6) rfl rfl Tryz.func47 (by kernel_rfl) rfl #[.string (⟨#[97, 46, 98, 91, 48, 93, 46, 34, 120, 32, 121, 34]⟩ : ByteArray)] rfl (qea5_) ?_; (with_reducible refine (path_Parse.calls (⟨#[97, 46, 98, 91, 48, 93, 46, 34, 120, 32, 121, 34]⟩ : ByteArray) t101 t104 t105 _ (hG.below (qea2_)) A1.out).mono ?_); rintro e w17 ⟨v102, rfl, ho0, hb⟩; refine ⟨_, rfl, ?_⟩; have n0_ := Aside0.mk (Kd.R_lower ho0 (below_size (qea0_))); have n1_ := Aside0.mk (below_step (qea0_) hb); clear HB; have HO103 := n0_; have HB := n1_; clear n0_ n1_; (try clear hb); (try clear hk); (try clear ho0)) | ((with_reducible refine gate_dst (N := 2) rfl ?_); (try (refine gate_guard (by rfl) ?_; dsimp only)); refine box_event ?hg (N := 2) ?hd (cs := #[.int .i64 0, .int .i64 0]) (t := 95) ?hr ?_; (case hd => rfl); (case hg => rfl); (case hr => first | (go_simp; done) | (go_simp; rfl)); intro gb106 hg w18 hbox hb; have n0_ := Aside0.mk (Kd.R_below (qea6_) hb); have n1_ := Aside0.mk (below_step (qea0_) hb); have n2_ := Aside0.mk (hbox); have n3_ := Aside0.mk ((by rw [hg]; exact (below_size (qea0_)) : w.heap.size ≤ gb106)); have n4_ := Aside0.mk ((by rw [hg]; exact (below_size (qea0_)) : w.heap.size ≤ gb106)); clear HO103; clear HB; have HO103 := n0_; have HB := n1_; have BK106 := n2_; have GW106 := n3_; have GE106 := n4_; clear n0_ n1_ n2_ n3_ n4_; clear hb hbox hg; have hcz19_0 : w18.cell? ⟨gb106, 0, none⟩ = some (.int .i64 0) := (blk_cell BK106.out 0).trans rfl; have hcz19_1 : w18.cell? ⟨gb106, 1, none⟩ = some (.int .i64 0) := (blk_cell BK106.out 1).trans rfl; have hfz19_0 := blk_frozen BK106.out 0; have hfz19_1 := blk_frozen BK106.out 1; obtain ⟨Ao20, co20, eo20⟩ := Kd.R_slice HO103.out; subst eo20) | ((with_reducible refine gate_callee (f := 28) rfl ?_); refine goesL_ (some 11) rfl rfl Tryz.func28 (by kernel_rfl) rfl #[.slice Ao20 t101.length co20] rfl (qea5_) ?_; (with_reducible refine (path_Format.calls _ _ t101 t107 t108 _ ?side1 ?side2 (hG.below (qea2_)) A2.out).mono ?_); (case side1 => refine (Kd.R_reads' (e := 98) (base := w.heap.size) (ok := fun k_ => True) (n := t101.length) (c := co20) ?_).2.2; exact (qea1_)); (case side2 => exact (Kd.R_reads' HO103.out).2.1); rintro e w21 ⟨rfl, hb⟩; refine ⟨_, rfl, ?_⟩; have n0_ := Aside0.mk (Kd.R_below (qea1_) hb); have n1_ := Aside0.mk (blk_below (g := gb106) (o := .cells #[.int .i64 t104, .int .i64 t105] 95 (0, 0)) (qea3_) hb); have n2_ := Aside0.mk (below_step (qea4_) hb); clear HO103; clear BK106; clear HB; have HO103 := n0_; have BK106 := n1_; have HB := n2_; clear n0_ n1_ n2_; (try clear hb); (try clear hk); have hcz22_0 : w21.cell? ⟨gb106, 0, none⟩ = some (.int .i64 t104) := (blk_cell BK106.out 0).trans rfl; have hcz22_1 : w21.cell? ⟨gb106, 1, none⟩ = some (.int .i64 t105) := (blk_cell BK106.out 1).trans rfl; have hfz22_0 := blk_frozen BK106.out 0; have hfz22_1 := blk_frozen BK106.out 1; have p109 : 0 ≤ (2 : Int) := (by omega); have q109 : 2 < (t101.length : Int) := of_decide_eq_true (qea8_); obtain ⟨ad109, e109, hx109_0, hx109_1, hx109_2⟩ := at_T98 (Kd.R_reads' HO103.out).2.2 2 p109 q109; (try rw [← Nbq6.out] at hx109_2); cases e109; (try simp only [show (2 : Int).toNat = 2 from rfl, Nat.reduceMul, Nat.reduceEqDiff, Go.Addr.add, ↓reduceIte] at hx109_0); (try simp only [show (2 : Int).toNat = 2 from rfl, Nat.reduceMul, Nat.reduceEqDiff, Go.Addr.add, ↓reduceIte] at hx109_1); (try simp only [show (2 : Int).toNat = 2 from rfl, Nat.reduceMul, Nat.reduceEqDiff, Go.Addr.add, ↓reduceIte] at hx109_2); have qi109 : (2 < t101.length) = True := eq_true (by omega); (try rw [show ((2 : Int)).toNat = 2 from rfl] at hx109_0); (try rw [show 2 * 3 = 6 from rfl] at hx109_0); (try rw [show ((2 : Int)).toNat = 2 from rfl] at hx109_1); (try rw [show 2 * 3 = 6 from rfl] at hx109_1); (try rw [show ((2 : Int)).toNat = 2 from rfl] at hx109_2); (try rw [show 2 * 3 = 6 from rfl] at hx109_2); replace p109 := eq_true p109; replace q109 := eq_true q109; have p110 : 0 ≤ (3 : Int) := (by omega); have q110 : 3 < (t101.length : Int) := of_decide_eq_true (qea8_); obtain ⟨ad110, e110, hx110_0, hx110_1, hx110_2⟩ := at_T98 (Kd.R_reads' HO103.out).2.2 3 p110 q110; (try rw [← Nbq6.out] at hx110_2); obtain rfl : ad109 = ad110 := (by injection e110); (try simp only [show (3 : Int).toNat = 3 from rfl, Nat.reduceMul, Nat.reduceEqDiff, Go.Addr.add, ↓reduceIte] at hx110_0); (try simp only [show (3 : Int).toNat = 3 from rfl, Nat.reduceMul, Nat.reduceEqDiff, Go.Addr.add, ↓reduceIte] at hx110_1); (try simp only [show (3 : Int).toNat = 3 from rfl, Nat.reduceMul, Nat.reduceEqDiff, Go.Addr.add, ↓reduceIte] at hx110_2); have qi110 : (3 < t101.length) = True := eq_true (by omega); (try rw [show ((3 : Int)).toNat = 3 from rfl] at hx110_0); (try rw [show 3 * 3 = 9 from rfl] at hx110_0); (try rw [show ((3 : Int)).toNat = 3 from rfl] at hx110_1); (try rw [show 3 * 3 = 9 from rfl] at hx110_1); (try rw [show ((3 : Int)).toNat = 3 from rfl] at hx110_2); (try rw [show 3 * 3 = 9 from rfl] at hx110_2); replace p110 := eq_true p110; replace q110 := eq_true q110))
  go_ret
  exact ⟨qea7_, qea4_⟩
 rw [if_pos c10] at H
 have c10b0 : (t108 == 0) = true := beq_iff_eq.mpr c10
 have c10b1 : (t108 != 0) = false := bne_eq_false_iff_eq.mpr c10
 clear c10
 obtain rfl := Option.some.inj H
 go_enter Tryz.func24, Tryz.ntmps24
 go_wp2_with (first | ((with_reducible refine gate_callee (f := 47) rfl ?_); refine goesL_ (some 6) rfl rfl Tryz.func47 (by kernel_rfl) rfl #[.string (⟨#[97, 46, 98, 91, 48, 93, 46, 34, 120, 32, 121, 34]⟩ : ByteArray)] rfl (qea5_) ?_; (with_reducible refine (path_Parse.calls (⟨#[97, 46, 98, 91, 48, 93, 46, 34, 120, 32, 121, 34]⟩ : ByteArray) t101 t104 t105 _ (hG.below (qea2_)) A1.out).mono ?_); rintro e w11 ⟨v102, rfl, ho0, hb⟩; refine ⟨_, rfl, ?_⟩; have n0_ := Aside0.mk (Kd.R_lower ho0 (below_size (qea0_))); have n1_ := Aside0.mk (below_step (qea0_) hb); clear HB; have HO103 := n0_; have HB := n1_; clear n0_ n1_; (try clear hb); (try clear hk); (try clear ho0)) | ((with_reducible refine gate_dst (N := 2) rfl ?_); (try (refine gate_guard (by rfl) ?_; dsimp only)); refine box_event ?hg (N := 2) ?hd (cs := #[.int .i64 0, .int .i64 0]) (t := 95) ?hr ?_; (case hd => rfl); (case hg => rfl); (case hr => first | (go_simp; done) | (go_simp; rfl)); intro gb106 hg w12 hbox hb; have n0_ := Aside0.mk (Kd.R_below (qea6_) hb); have n1_ := Aside0.mk (below_step (qea0_) hb); have n2_ := Aside0.mk (hbox); have n3_ := Aside0.mk ((by rw [hg]; exact (below_size (qea0_)) : w.heap.size ≤ gb106)); have n4_ := Aside0.mk ((by rw [hg]; exact (below_size (qea0_)) : w.heap.size ≤ gb106)); clear HO103; clear HB; have HO103 := n0_; have HB := n1_; have BK106 := n2_; have GW106 := n3_; have GE106 := n4_; clear n0_ n1_ n2_ n3_ n4_; clear hb hbox hg; have hcz13_0 : w12.cell? ⟨gb106, 0, none⟩ = some (.int .i64 0) := (blk_cell BK106.out 0).trans rfl; have hcz13_1 : w12.cell? ⟨gb106, 1, none⟩ = some (.int .i64 0) := (blk_cell BK106.out 1).trans rfl; have hfz13_0 := blk_frozen BK106.out 0; have hfz13_1 := blk_frozen BK106.out 1; obtain ⟨Ao14, co14, eo14⟩ := Kd.R_slice HO103.out; subst eo14) | ((with_reducible refine gate_callee (f := 28) rfl ?_); refine goesL_ (some 11) rfl rfl Tryz.func28 (by kernel_rfl) rfl #[.slice Ao14 t101.length co14] rfl (qea5_) ?_; (with_reducible refine (path_Format.calls _ _ t101 t107 t108 _ ?side1 ?side2 (hG.below (qea2_)) A2.out).mono ?_); (case side1 => refine (Kd.R_reads' (e := 98) (base := w.heap.size) (ok := fun k_ => True) (n := t101.length) (c := co14) ?_).2.2; exact (qea1_)); (case side2 => exact (Kd.R_reads' HO103.out).2.1); rintro e w15 ⟨rfl, hb⟩; refine ⟨_, rfl, ?_⟩; have n0_ := Aside0.mk (Kd.R_below (qea1_) hb); have n1_ := Aside0.mk (blk_below (g := gb106) (o := .cells #[.int .i64 t104, .int .i64 t105] 95 (0, 0)) (qea3_) hb); have n2_ := Aside0.mk (below_step (qea4_) hb); clear HO103; clear BK106; clear HB; have HO103 := n0_; have BK106 := n1_; have HB := n2_; clear n0_ n1_ n2_; (try clear hb); (try clear hk); have hcz16_0 : w15.cell? ⟨gb106, 0, none⟩ = some (.int .i64 t104) := (blk_cell BK106.out 0).trans rfl; have hcz16_1 : w15.cell? ⟨gb106, 1, none⟩ = some (.int .i64 t105) := (blk_cell BK106.out 1).trans rfl; have hfz16_0 := blk_frozen BK106.out 0; have hfz16_1 := blk_frozen BK106.out 1; have p109 : 0 ≤ (2 : Int) := (by omega); have q109 : 2 < (t101.length : Int) := of_decide_eq_true (qea8_); obtain ⟨ad109, e109, hx109_0, hx109_1, hx109_2⟩ := at_T98 (Kd.R_reads' HO103.out).2.2 2 p109 q109; (try rw [← Nbq6.out] at hx109_2); cases e109; (try simp only [show (2 : Int).toNat = 2 from rfl, Nat.reduceMul, Nat.reduceEqDiff, Go.Addr.add, ↓reduceIte] at hx109_0); (try simp only [show (2 : Int).toNat = 2 from rfl, Nat.reduceMul, Nat.reduceEqDiff, Go.Addr.add, ↓reduceIte] at hx109_1); (try simp only [show (2 : Int).toNat = 2 from rfl, Nat.reduceMul, Nat.reduceEqDiff, Go.Addr.add, ↓reduceIte] at hx109_2); have qi109 : (2 < t101.length) = True := eq_true (by omega); (try rw [show ((2 : Int)).toNat = 2 from rfl] at hx109_0); (try rw [show 2 * 3 = 6 from rfl] at hx109_0); (try rw [show ((2 : Int)).toNat = 2 from rfl] at hx109_1); (try rw [show 2 * 3 = 6 from rfl] at hx109_1); (try rw [show ((2 : Int)).toNat = 2 from rfl] at hx109_2); (try rw [show 2 * 3 = 6 from rfl] at hx109_2); replace p109 := eq_true p109; replace q109 := eq_true q109; have p110 : 0 ≤ (3 : Int) := (by omega); have q110 : 3 < (t101.length : Int) := of_decide_eq_true (qea8_); obtain ⟨ad110, e110, hx110_0, hx110_1, hx110_2⟩ := at_T98 (Kd.R_reads' HO103.out).2.2 3 p110 q110; (try rw [← Nbq6.out] at hx110_2); obtain rfl : ad109 = ad110 := (by injection e110); (try simp only [show (3 : Int).toNat = 3 from rfl, Nat.reduceMul, Nat.reduceEqDiff, Go.Addr.add, ↓reduceIte] at hx110_0); (try simp only [show (3 : Int).toNat = 3 from rfl, Nat.reduceMul, Nat.reduceEqDiff, Go.Addr.add, ↓reduceIte] at hx110_1); (try simp only [show (3 : Int).toNat = 3 from rfl, Nat.reduceMul, Nat.reduceEqDiff, Go.Addr.add, ↓reduceIte] at hx110_2); have qi110 : (3 < t101.length) = True := eq_true (by omega); (try rw [show ((3 : Int)).toNat = 3 from rfl] at hx110_0); (try rw [show 3 * 3 = 9 from rfl] at hx110_0); (try rw [show ((3 : Int)).toNat = 3 from rfl] at hx110_1); (try rw [show 3 * 3 = 9 from rfl] at hx110_1); (try rw [show ((3 : Int)).toNat = 3 from rfl] at hx110_2); (try rw [show 3 * 3 = 9 from rfl] at hx110_2); replace p110 := eq_true p110; replace q110 := eq_true q110))
 go_ret
 exact ⟨qea7_, qea4_⟩
def graph_isText.j0 : Nat → Int → ByteArray → Int → Bool → Option (Bool)
  | 0, _, _, _, _ => none
  | k + 1, x0, x1, x7, x8 => if x8 = true then ((plain_Resolve.f x1).bind fun t101 => (some (t101 == x0))) else (if x7 = 4 then ((utf_Decode.f x1).bind fun bt102 => (some (bt102.2.1 == 0 && (bt102.2.2 == 0)))) else (some (x1.toList == ([] : List UInt8))))
def graph_isText.f (k : Nat) (a0 : Int) (a1 : ByteArray) : Option (Bool) := if a0 = 2 then (graph_isText.j0 k a0 a1 a0 (a0 == 2)) else (graph_isText.j0 k a0 a1 a0 (a0 == 3))
theorem qxa0_ {P : Prop} (h_ : P := by repeat (first | (with_reducible first | exact HB.out | apply below_alloc | apply pw_below_drewN | apply below_drew1) | exact HB.out)) : P := h_
theorem qxa1_ {P : Prop} (h_ : P := by first | ((repeat (first | (with_reducible first | exact HB.out | apply below_alloc | apply pw_below_drewN | apply below_drew1 | (refine Glob.below_set ?_ (by assumption) _ _ _)) | exact HB.out)); done) | (refine Drawn0.below ?_; repeat (first | exact Drawn0.refl _ | assumption | apply Drawn0.step))) : P := h_
theorem qxa2_ {P : Prop} (h_ : P := by first | rfl | (simp [errW_none, errW_some] <;> rfl) | (simp [*, errW_none, errW_some] <;> rfl)) : P := h_
theorem qxa3_ {P : Prop} (h_ : P := by (try simp only [List.map_toArray, List.map_cons, List.map_nil]); first | done | rfl | (simp only [List.length_drop, List.length_take]; rfl)) : P := h_
set_option maxHeartbeats 8000000 in
set_option maxRecDepth 100000 in
theorem graph_isText.calls (k : Nat) (a0 : Int) (a1 : ByteArray) (r : Bool) (w : World) (hG : Glob.G w) (h : graph_isText.f k a0 a1 = some r) :
  Calls Tryz.prog 86 #[.int .i64 a0, .string a1] w fun e w' => e = .returned (.bool r) ∧ Below w.heap.size w w' := by
 have hu95 := Tryz.underlying95
 have HB := Aside0.mk (Below.refl w.heap.size w)
 have H : (if a0 = 2 then (graph_isText.j0 k a0 a1 a0 (a0 == 2)) else (graph_isText.j0 k a0 a1 a0 (a0 == 3))) = some r := h
 clear h
 have HC3 := Aside0.mk H
 clear H
 go_enter Tryz.func86, Tryz.ntmps86
 go_upto_if 8 with (fail)
 go_cut [8] (fun v8 wc => ∃ (kq : Nat) (x8_2 : Bool), v8 = .bool x8_2 ∧ Aside0 (graph_isText.j0 kq a0 a1 a0 x8_2 = some r) ∧ Aside0 (kq ≤ k) ∧ Aside0 (Below w.heap.size w wc))
 case first =>
  have H := HC3.out
  clear HC3
  by_cases c4 : a0 = 2
  rotate_left
  ·
   rw [if_neg c4] at H
   have c4b0 : (a0 == 2) = false := beq_eq_false_iff_ne.mpr c4
   have c4b1 : (a0 != 2) = true := bne_iff_ne.mpr c4
   (first | rw [c4b0] | (simp only [i64_w, i32_w]; rw [c4b0]) | skip)
   have H' := Aside0.mk H
   clear H
   go_wp2
   go_meet
   case rel => exact ⟨_, ((a0 == 3)), (by first | rfl | (simp; done) | (simp [*]; done)), H', ⟨by first | omega | exact Nat.le_refl _⟩, ⟨qxa0_⟩⟩
  rw [if_pos c4] at H
  have c4b0 : (a0 == 2) = true := beq_iff_eq.mpr c4
  have c4b1 : (a0 != 2) = false := bne_eq_false_iff_eq.mpr c4
  clear c4
  (first | rw [c4b0] | (simp only [i64_w, i32_w]; rw [c4b0]) | skip)
  have H' := Aside0.mk H
  clear H
  go_wp2
  go_meet
  case rel => exact ⟨_, ((a0 == 2)), (by first | rfl | (simp; done) | (simp [*]; done)), H', ⟨by first | omega | exact Nat.le_refl _⟩, ⟨qxa0_⟩⟩
 case rest =>
  clear HC3
  try clear p2
  try clear c4
  try clear c4b0
  try clear c4b1
  obtain ⟨kq, x8_2, rfl, HA, HJ2, HB⟩ := hcut
  cases kq with
  | zero => exact absurd HA.out (by simp [graph_isText.j0])
  | succ kj2 =>
   have H := HA.out
   clear HA
   simp only [graph_isText.j0] at H
   by_cases c5 : x8_2 = true
   ·
    subst c5
    have H1 : ((plain_Resolve.f a1).bind fun t101 => (some (t101 == a0))) = some r := by rw [if_pos rfl] at H; exact H
    clear H
    have H := H1
    clear H1
    replace H := Option.bind_eq_some_iff.mp H
    obtain ⟨t101, A60, H⟩ := H
    replace H : (some (t101 == a0)) = some r := H
    have A6 := Aside0.mk A60
    clear A60
    obtain rfl := Option.some.inj H
    go_wp2_with (first | ((with_reducible refine gate_callee (f := 117) rfl ?_); refine goesL_ (some 12) rfl rfl Tryz.func117 (by kernel_rfl) rfl #[.string a1] rfl (qxa3_) ?_; (with_reducible refine (plain_Resolve.calls a1 t101 _ (hG.below (qxa1_)) A6.out).mono ?_); rintro e w7 ⟨rfl, hb⟩; refine ⟨_, rfl, ?_⟩; have n0_ := Aside0.mk (below_step (qxa0_) hb); clear HB; have HB := n0_; clear n0_; (try clear hb)))
    go_ret
    exact ⟨qxa2_, qxa0_⟩
   replace c5 := Bool.eq_false_iff.mpr c5
   subst c5
   have H1 : (if a0 = 4 then ((utf_Decode.f a1).bind fun bt102 => (some (bt102.2.1 == 0 && (bt102.2.2 == 0)))) else (some (a1.toList == ([] : List UInt8)))) = some r := by rw [if_neg (show ¬ (false = true) by decide)] at H; exact H
   clear H
   have H := H1
   clear H1
   by_cases c8 : a0 = 4
   rotate_left
   ·
    rw [if_neg c8] at H
    have c8b0 : (a0 == 4) = false := beq_eq_false_iff_ne.mpr c8
    have c8b1 : (a0 != 4) = true := bne_iff_ne.mpr c8
    obtain rfl := Option.some.inj H
    go_wp2
    go_ret
    exact ⟨qxa2_, qxa0_⟩
   rw [if_pos c8] at H
   have c8b0 : (a0 == 4) = true := beq_iff_eq.mpr c8
   have c8b1 : (a0 != 4) = false := bne_eq_false_iff_eq.mpr c8
   clear c8
   replace H := Option.bind_eq_some_iff.mp H
   obtain ⟨⟨t102, t105, t106⟩, A90, H⟩ := H
   replace H : (some (t105 == 0 && (t106 == 0))) = some r := H
   have A9 := Aside0.mk A90
   clear A90
   obtain rfl := Option.some.inj H
   go_wp2_with (first | ((with_reducible refine gate_callee (f := 115) rfl ?_); refine goesL_ (some 19) rfl rfl Tryz.func115 (by kernel_rfl) rfl #[.string a1] rfl (qxa3_) ?_; (with_reducible refine (utf_Decode.calls a1 t102 t105 t106 _ (hG.below (qxa1_)) A9.out).mono ?_); rintro e w10 ⟨v103, rfl, ho0, hb⟩; refine ⟨_, rfl, ?_⟩; have n0_ := Aside0.mk (Kd.R_lower ho0 (below_size (qxa0_))); have n1_ := Aside0.mk (below_step (qxa0_) hb); clear HB; have HO104 := n0_; have HB := n1_; clear n0_ n1_; (try clear hb); (try clear ho0)) | ((with_reducible refine gate_dst (N := 6) rfl ?_); refine box_event ?hg (N := 6) ?hd (cs := #[.int .i64 0, .int .i64 0]) (t := 95) ?hr ?_; (case hd => rfl); (case hg => rfl); (case hr => first | (go_simp; done) | (go_simp; rfl)); intro gb107 hg w11 hbox hb; have n0_ := Aside0.mk (Kd.R_below (by (with_reducible repeat (first | apply Kd.R_alloc | apply Kd.R_drewN | apply Kd.R_drew)); exact HO104.out) hb); have n1_ := Aside0.mk (below_step (qxa0_) hb); have n2_ := Aside0.mk (hbox); have n3_ := Aside0.mk ((by rw [hg]; exact (below_size (qxa0_)) : w.heap.size ≤ gb107)); have n4_ := Aside0.mk ((by rw [hg]; exact (below_size (qxa0_)) : w.heap.size ≤ gb107)); clear HO104; clear HB; have HO104 := n0_; have HB := n1_; have BK107 := n2_; have GW107 := n3_; have GE107 := n4_; clear n0_ n1_ n2_ n3_ n4_; clear hb hbox hg; have hcz12_0 : w11.cell? ⟨gb107, 0, none⟩ = some (.int .i64 0) := (blk_cell BK107.out 0).trans rfl; have hcz12_1 : w11.cell? ⟨gb107, 1, none⟩ = some (.int .i64 0) := (blk_cell BK107.out 1).trans rfl; have hfz12_0 := blk_frozen BK107.out 0; have hfz12_1 := blk_frozen BK107.out 1))
   go_ret
   exact ⟨qxa2_, by repeat (first | (with_reducible first | exact HB.out | apply below_alloc | apply pw_below_drewN | apply below_drew1 | refine below_set ?_ GE107.out) | exact HB.out)⟩
end Go.Proofs.YtiooacmplmcphaaGreatDoor.PX
namespace Go.Proofs.YtiooacmplmcphaaGreatDoor.PX
open RowKit YtiooacmplmcphaaGreatDoorW.PrintWords YtiooacmplmcphaaGreatDoorW.PrintLast YtiooacmplmcphaaGreatDoorW.PrintMore YtiooacmplmcphaaGreatDoor
attribute [local go_sem] max2_int min2_int max_two min_two max_three min_three max_four min_four   -- for this text's walks alone
set_option linter.unusedVariables false
set_option linter.unusedSimpArgs false
def graph_isScalar.f (a0 : Int) : Option (Bool) := if a0 ≥ 1 then (some (decide (a0 ≤ 4))) else (some false)
theorem qya0_ {P : Prop} (h_ : P := by first | rfl | (simp; done) | (simp [*]; done) | (simp; generalize ByteArray.toList _ = l_; cases l_ <;> rfl)) : P := h_
set_option maxHeartbeats 8000000 in
set_option maxRecDepth 100000 in
theorem graph_isScalar.calls (a0 : Int) (r : Bool) (w : World) (hG : Glob.G w) (h : graph_isScalar.f a0 = some r) :
  Calls Tryz.prog 87 #[.int .i64 a0] w fun e w' => e = .returned (.bool r) ∧ Drawn0 w w' := by
 have H : (if a0 ≥ 1 then (some (decide (a0 ≤ 4))) else (some false)) = some r := h
 clear h
 by_cases c2 : a0 ≥ 1
 ·
  rw [if_pos c2] at H
  have c2b0 : decide (1 ≤ a0) = true := decide_eq_true c2
  clear c2
  obtain rfl := Option.some.inj H
  go_enter Tryz.func87, Tryz.ntmps87
  go_wp2
  go_ret
  exact ⟨qya0_, by repeat (first | exact Drawn0.refl _ | apply Drawn0.step)⟩
 rw [if_neg c2] at H
 have c2b0 : decide (1 ≤ a0) = false := decide_eq_false c2
 clear c2
 obtain rfl := Option.some.inj H
 go_enter Tryz.func87, Tryz.ntmps87
 go_wp2
 go_ret
 exact ⟨qya0_, by repeat (first | exact Drawn0.refl _ | apply Drawn0.step)⟩
def graph_keys.l0 : Nat → List Int → Int → Int → ByteArray → List Int → Option (List Int)
  | 0, _, _, _, _, _ => none
  | k + 1, x3, x4, x102000, x102001, x102002 => if (wrap64 (x4 + 1)) < (x102002.length : Int) then (if 0 ≤ x4 then (if x4 < (x102002.length : Int) then (if x3.length < 17592186044416 then (graph_keys.l0 k (x3 ++ [rd x102002 x4]) (wrap64 (x4 + 2)) x102000 x102001 x102002) else (none)) else (none)) else (none)) else (some x3)
def graph_keys.f (k : Nat) (a0_0 : Int) (a0_1 : ByteArray) (l0_2 : List Int) : Option (List Int) := if a0_0 = 6 then (graph_keys.l0 k ([] : List Int) 0 a0_0 a0_1 l0_2) else (some ([] : List Int))
theorem qza0_ {P : Prop} (h_ : P := by repeat (first | (with_reducible first | exact HB.out | apply below_alloc | apply pw_below_drewN | apply below_drew1 | refine below_set ?_ GE101.out) | exact HB.out)) : P := h_
theorem qza1_ {P : Prop} (h_ : P := by repeat (first | (with_reducible first | exact HB.out | apply below_alloc | apply pw_below_drewN | apply below_drew1) | exact HB.out)) : P := h_
theorem qza2_ {P : Prop} (h_ : P := by (with_reducible repeat (first | refine blk_drewN ?_ _ | refine blk_drew ?_ | refine blk_alloc ?_ _)); exact BK101.out) : P := h_
theorem qza3_ {P : Prop} (h_ : P := by first | exact Kd.R_nil _ _ _ _ _ | exact Kd.N_nil _ _ _ _ _ | exact Kd.V_nil _ _ _ _ _ | exact Kd.Q_nil _ _ _ _ _ | exact Kd.S_nil _ _ _ _ _) : P := h_
set_option maxHeartbeats 8000000 in
set_option maxRecDepth 100000 in
theorem graph_keys.calls (k : Nat) (a0_0 : Int) (a0_1 : ByteArray) (A0_2 : Option Addr) (c0_2 : Nat) (l0_2 : List Int) (r : List Int) (w : World) (hr0_2 : Kd.C (Kd.int .i64) w A0_2 l0_2.length l0_2) (hc0_2 : l0_2.length ≤ c0_2) (hG : Glob.G w) (h : graph_keys.f k a0_0 a0_1 l0_2 = some r) :
  Calls Tryz.prog 59 #[.agg #[.int .i64 a0_0, .string a0_1, .slice A0_2 l0_2.length c0_2]] w fun e w' => ∃ v0_ : Value, e = .returned (v0_) ∧ Kd.R (Kd.int .i64) 3 w' w.heap.size (fun _ => True) v0_ r ∧ Below w.heap.size w w' := by
 have hu45 := Tryz.underlying45
 have HR0_2 := Aside0.mk hr0_2
 have HC0_2 := Aside0.mk hc0_2
 clear hr0_2 hc0_2
 have HB := Aside0.mk (Below.refl w.heap.size w)
 have H : (if a0_0 = 6 then (graph_keys.l0 k ([] : List Int) 0 a0_0 a0_1 l0_2) else (some ([] : List Int))) = some r := h
 clear h
 by_cases c2 : a0_0 = 6
 rotate_left
 ·
  rw [if_neg c2] at H
  have c2b0 : (a0_0 == 6) = false := beq_eq_false_iff_ne.mpr c2
  have c2b1 : (a0_0 != 6) = true := bne_iff_ne.mpr c2
  obtain rfl := Option.some.inj H
  go_enter Tryz.func59, Tryz.ntmps59
  go_wp2_with (first | ((with_reducible refine gate_dst (N := 1) rfl ?_); refine box_event ?hg (N := 1) ?hd (cs := #[.int .i64 a0_0, .string a0_1, .slice A0_2 l0_2.length c0_2]) (t := 45) ?hr ?_; (case hd => rfl); (case hg => rfl); (case hr => first | (go_simp; done) | (go_simp; rfl)); intro gb101 hg w12 hbox hb; have n0_ := Aside0.mk (below_step (qza1_) hb); have n1_ := Aside0.mk (hbox); have n2_ := Aside0.mk ((by rw [hg]; exact (below_size (qza1_)) : w.heap.size ≤ gb101)); have n3_ := Aside0.mk ((by rw [hg]; exact (below_size (qza1_)) : w.heap.size ≤ gb101)); clear HB; have HB := n0_; have BK101 := n1_; have GW101 := n2_; have GE101 := n3_; clear n0_ n1_ n2_ n3_; clear hb hbox hg; have hcz13_0 : w12.cell? ⟨gb101, 0, none⟩ = some (.int .i64 a0_0) := (blk_cell BK101.out 0).trans rfl; have hcz13_1 : w12.cell? ⟨gb101, 1, none⟩ = some (.string a0_1) := (blk_cell BK101.out 1).trans rfl; have hcz13_2 : w12.cell? ⟨gb101, 2, none⟩ = some (.slice A0_2 l0_2.length c0_2) := (blk_cell BK101.out 2).trans rfl; have hfz13_0 := blk_frozen BK101.out 0; have hfz13_1 := blk_frozen BK101.out 1; have hfz13_2 := blk_frozen BK101.out 2))
  go_ret
  exact ⟨_, by first | rfl | (simp [errW_none, errW_some] <;> rfl) | (simp [*, errW_none, errW_some] <;> rfl), qza3_, qza0_⟩
 rw [if_pos c2] at H
 have c2b0 : (a0_0 == 6) = true := beq_iff_eq.mpr c2
 have c2b1 : (a0_0 != 6) = false := bne_eq_false_iff_eq.mpr c2
 clear c2
 have H' := Aside0.mk H
 clear H
 go_enter Tryz.func59, Tryz.ntmps59
 go_wp2_with (first | ((with_reducible refine gate_dst (N := 1) rfl ?_); refine box_event ?hg (N := 1) ?hd (cs := #[.int .i64 a0_0, .string a0_1, .slice A0_2 l0_2.length c0_2]) (t := 45) ?hr ?_; (case hd => rfl); (case hg => rfl); (case hr => first | (go_simp; done) | (go_simp; rfl)); intro gb101 hg w3 hbox hb; have n0_ := Aside0.mk (below_step (qza1_) hb); have n1_ := Aside0.mk (hbox); have n2_ := Aside0.mk ((by rw [hg]; exact (below_size (qza1_)) : w.heap.size ≤ gb101)); have n3_ := Aside0.mk ((by rw [hg]; exact (below_size (qza1_)) : w.heap.size ≤ gb101)); clear HB; have HB := n0_; have BK101 := n1_; have GW101 := n2_; have GE101 := n3_; clear n0_ n1_ n2_ n3_; clear hb hbox hg; have hcz4_0 : w3.cell? ⟨gb101, 0, none⟩ = some (.int .i64 a0_0) := (blk_cell BK101.out 0).trans rfl; have hcz4_1 : w3.cell? ⟨gb101, 1, none⟩ = some (.string a0_1) := (blk_cell BK101.out 1).trans rfl; have hcz4_2 : w3.cell? ⟨gb101, 2, none⟩ = some (.slice A0_2 l0_2.length c0_2) := (blk_cell BK101.out 2).trans rfl; have hfz4_0 := blk_frozen BK101.out 0; have hfz4_1 := blk_frozen BK101.out 1; have hfz4_2 := blk_frozen BK101.out 2))
 go_loopg [3, 4] k (fun kq v3 v4 w' => ∃ (x3_1 : List Int) (x4_1 : Int), v4 = .int .i64 x4_1 ∧ Aside0 (graph_keys.l0 kq x3_1 x4_1 a0_0 a0_1 l0_2 = some r) ∧ Aside0 (kq ≤ k) ∧ Aside0 (Kd.R (Kd.int .i64) 3 w' w.heap.size (fun _ => True) v3 x3_1) ∧ Aside0 (w'.heap[gb101]? = some (.cells #[.int .i64 a0_0, .string a0_1, (.slice A0_2 l0_2.length c0_2)] 45 (0, 0))) ∧ Aside0 (Below w.heap.size w w'))
 case atStart => exact ⟨(([] : List Int)), (0), (by first | rfl | (simp; done) | (simp [*]; done)), H', ⟨Nat.le_refl _⟩, ⟨qza3_⟩, ⟨qza2_⟩, ⟨qza0_⟩⟩
 case round =>
  clear H'
  try clear c2
  try clear c2b0
  try clear c2b1
  try clear p2
  try clear hcz4_0
  try clear hcz4_1
  try clear hcz4_2
  try clear hfz4_0
  try clear hfz4_1
  try clear hfz4_2
  obtain ⟨x3_1, x4_1, rfl, HA, HK1, HO_3, BK101, HB⟩ := hrel
  cases gk with
  | zero => exact absurd HA.out (by simp [graph_keys.l0])
  | succ k1 =>
   have H := HA.out
   clear HA
   simp only [graph_keys.l0] at H
   by_cases c5 : (wrap64 (x4_1 + 1)) < (l0_2.length : Int)
   rotate_left
   ·
    rw [if_neg c5] at H
    have c5b0 : decide ((wrap64 (x4_1 + 1)) < (l0_2.length : Int)) = false := decide_eq_false c5
    clear c5
    obtain rfl := Option.some.inj H
    have hcz11_0 : wr.cell? ⟨gb101, 0, none⟩ = some (.int .i64 a0_0) := (blk_cell BK101.out 0).trans rfl
    have hcz11_1 : wr.cell? ⟨gb101, 1, none⟩ = some (.string a0_1) := (blk_cell BK101.out 1).trans rfl
    have hcz11_2 : wr.cell? ⟨gb101, 2, none⟩ = some (.slice A0_2 l0_2.length c0_2) := (blk_cell BK101.out 2).trans rfl
    have hfz11_0 := blk_frozen BK101.out 0
    have hfz11_1 := blk_frozen BK101.out 1
    have hfz11_2 := blk_frozen BK101.out 2
    go_wp2
    go_ret
    exact ⟨_, by first | rfl | (simp [errW_none, errW_some] <;> rfl) | (simp [*, errW_none, errW_some] <;> rfl), by (with_reducible repeat (first | apply Kd.R_alloc | apply Kd.R_drewN | apply Kd.R_drew)); exact HO_3.out, qza0_⟩
   rw [if_pos c5] at H
   have c5b0 : decide ((wrap64 (x4_1 + 1)) < (l0_2.length : Int)) = true := decide_eq_true c5
   clear c5
   by_cases c6 : 0 ≤ x4_1
   rotate_left
   ·
    rw [if_neg c6] at H
    exact absurd H (by simp)
   rw [if_pos c6] at H
   have c6b0 : decide (0 ≤ x4_1) = true := decide_eq_true c6
   clear c6
   by_cases c7 : x4_1 < (l0_2.length : Int)
   rotate_left
   ·
    rw [if_neg c7] at H
    exact absurd H (by simp)
   rw [if_pos c7] at H
   have c7b0 : decide (x4_1 < (l0_2.length : Int)) = true := decide_eq_true c7
   clear c7
   by_cases c8 : x3_1.length < 17592186044416
   rotate_left
   ·
    rw [if_neg c8] at H
    exact absurd H (by simp)
   rw [if_pos c8] at H
   have LMc8 := Aside0.mk c8
   clear c8
   obtain ⟨y103, hy103⟩ : ∃ y_ : List Int, y_ = (x3_1 ++ [rd l0_2 x4_1]) := ⟨_, rfl⟩
   replace H : (graph_keys.l0 k1 y103 (wrap64 (x4_1 + 2)) a0_0 a0_1 l0_2) = some r := by first | (rw [hy103]; with_reducible exact H) | (have H2_ := (Option.bind_some _ _).symm.trans H; rw [hy103]; with_reducible exact H2_) | (have H2_ := (Option.bind_some _ _).symm.trans H; with_reducible exact H2_) | with_reducible exact H | (rw [hy103]; exact H) | exact H
   have Ny103 := Aside0.mk hy103
   clear hy103
   have H' := Aside0.mk H
   clear H
   have hcz9_0 : wr.cell? ⟨gb101, 0, none⟩ = some (.int .i64 a0_0) := (blk_cell BK101.out 0).trans rfl
   have hcz9_1 : wr.cell? ⟨gb101, 1, none⟩ = some (.string a0_1) := (blk_cell BK101.out 1).trans rfl
   have hcz9_2 : wr.cell? ⟨gb101, 2, none⟩ = some (.slice A0_2 l0_2.length c0_2) := (blk_cell BK101.out 2).trans rfl
   have hfz9_0 := blk_frozen BK101.out 0
   have hfz9_1 := blk_frozen BK101.out 1
   have hfz9_2 := blk_frozen BK101.out 2
   have p102 : 0 ≤ (x4_1 : Int) := of_decide_eq_true (by first | (with_reducible assumption) | assumption)
   have q102 : x4_1 < (l0_2.length : Int) := of_decide_eq_true (by first | (with_reducible assumption) | assumption)
   obtain ⟨ad102, e102, hx102_0⟩ := Kd.at_int HR0_2.out x4_1 p102 q102
   cases e102
   replace hx102_0 := (HB.out.cell (World.block_lt_of_cell? w _ hx102_0)).trans hx102_0
   replace p102 := eq_true p102
   replace q102 := eq_true q102
   go_wp2_with (first | ((with_reducible refine gate_builtin (b := .append) (xs := #[.tmp 16, .tmp 22]) rfl ?_); at_builtin; refine Kd.R_append (Kd.int .i64) (w0 := w) w.heap.size rfl (.tmp 16) (.tmp 22) 40 3 (.int .i64 0) 8 rfl Tryz.underlying40 info3 rfl (by decide) (by omega) u3 x3_1 (rd l0_2 x4_1) [.int .i64 (rd l0_2 x4_1)] (fun _ => True) (fun _ => False) rfl rfl ?aP (fun _ hk => hk.elim) ?aF ?aO ?aB ?aS ?aL ?_; (case aP => exact rfl); (case aB => exact (qza0_)); (case aF => exact (fun _ _ => trivial)); (case aO => exact (by (with_reducible repeat (first | apply Kd.R_alloc | apply Kd.R_drewN | apply Kd.R_drew)); exact HO_3.out)); (case aS => exact (below_size (qza0_))); (case aL => have := LMc8.out; omega); intro v104 w10 ho hb hg hat; rw [← Ny103.out] at ho; have n0_ := Aside0.mk (blk_grown (g := gb101) (o := .cells #[.int .i64 a0_0, .string a0_1, .slice (some ad102) l0_2.length c0_2] 45 (0, 0)) (qza2_) hg (Kd.R_ne HO_3.out BK101.out (by decide))); have n1_ := Aside0.mk (hb); have n2_ := Aside0.mk (ho); clear BK101; clear HB; clear HO_3; have BK101 := n0_; have HB := n1_; have HO105 := n2_; clear n0_ n1_ n2_; clear ho hb hg hat))
   go_roundg k1
   case measure => have := HK1.out; omega
   case rel => exact ⟨(y103), (wrap64 (x4_1 + 2)), (by first | rfl | (simp; done) | (simp [*]; done)), H', ⟨by have := HK1.out; omega⟩, ⟨by (with_reducible repeat (first | apply Kd.R_alloc | apply Kd.R_drewN | apply Kd.R_drew)); exact HO105.out⟩, ⟨qza2_⟩, ⟨qza0_⟩⟩
end Go.Proofs.YtiooacmplmcphaaGreatDoor.PX
namespace Go.Proofs.YtiooacmplmcphaaGreatDoor.Mapk
open Go RowKit YtiooacmplmcphaaGreatDoor YtiooacmplmcphaaGreatDoorW.PrintWords Go.Maps
def hl (v : Value) : Option (DataW Value × List MemPlace) := some (.held v, [])
theorem hl_inv {v u : Value} {ps : List MemPlace} (h : hl v = some (.held u, ps)) : v = u := by
  simp only [hl, Option.some.injEq, Prod.mk.injEq, DataW.held.injEq] at h; exact h.1
section
variable {κ : Type} {en : κ → Value}
structure MapIs (P : Program) (k : TypeId) (en : κ → Value) (w : World) (b n : Nat) (F : κ → Option Value) : Prop where
 inj : ∀ x y, en x = en y → x = y
 ex : ∃ D : DataW Value, w.ownsMap P k hl b n D ∧ ∀ x kl, keyOf P k (en x) = some kl → has D kl = (F x).isSome ∧ ∀ z, D.atKey kl (.held z) = .held ((F x).getD z)
variable {P : Program} {k e t : TypeId} {w : World} {b n : Nat} {F : κ → Option Value}
theorem made (w : World) (P : Program) (k : TypeId) (hen : ∀ x y, en x = en y → x = y) : MapIs P k en (w.alloc (.map #[] 0)) w.heap.size 0 (fun _ => none) :=
  ⟨hen, _, World.ownsMap_made w P k hl, fun _ _ _ => ⟨rfl, fun _ => rfl⟩⟩
theorem MapIs.kept {w' : World} {row : Option Nat} (h : MapIs P k en w b n F) (hg : w.grownBy w' row) (hne : some b ≠ row) : MapIs P k en w' b n F := by
  obtain ⟨D, h1, h2⟩ := h.ex; exact ⟨h.inj, D, h1.kept hg hne, h2⟩
theorem MapIs.mono (h : MapIs P k en w b n F) {n' : Nat} (hn : n ≤ n') : MapIs P k en w b n' F := by
  obtain ⟨D, h1, h2⟩ := h.ex; exact ⟨h.inj, D, h1.mono hn, h2⟩
theorem MapIs.lt (h : MapIs P k en w b n F) : b < w.heap.size := by obtain ⟨D, h1, _⟩ := h.ex; exact h1.lt
theorem MapIs.of_block {w' : World} (h : MapIs P k en w b n F) (hb : w'.heap[b]? = w.heap[b]?) : MapIs P k en w' b n F := by
  obtain ⟨D, ⟨es, clock, h1, h3⟩, h2⟩ := h.ex; exact ⟨h.inj, D, ⟨es, clock, hb.trans h1, h3⟩, h2⟩
theorem MapIs.of_below {w' : World} (h : MapIs P k en w b n F) (hb : Below w.heap.size w w') : MapIs P k en w' b n F := h.of_block (hb.block b h.lt)
theorem MapIs.alloc (h : MapIs P k en w b n F) (o : Obj) : MapIs P k en (w.alloc o) b n F := h.of_block (Lib.alloc_old w o b h.lt)
theorem MapIs.look (h : MapIs P k en w b n F) (K : Keyed P k) (ht : P.underlying t = some (.map k e)) {z : Value} (hz : (zeroValue e).run P w = .ok z w) {key : κ} {kl : Lit} (hkey : keyOf P k (en key) = some kl) :
  (Instr.lookup t (.map (some b)) (en key) false).run P w = .ok ((F key).getD z) w := by
 obtain ⟨D, h1, h2⟩ := h.ex
 obtain ⟨v, ps, hr, hv⟩ := h1.lookup K ht hz (zd := .held z) (zp := []) rfl hkey
 rw [(h2 key kl hkey).2 z] at hv
 rw [hr, hl_inv hv]
theorem MapIs.look_ok (h : MapIs P k en w b n F) (K : Keyed P k) (ht : P.underlying t = some (.map k e)) {z : Value} (hz : (zeroValue e).run P w = .ok z w) {key : κ} {kl : Lit} (hkey : keyOf P k (en key) = some kl) :
  (Instr.lookup t (.map (some b)) (en key) true).run P w = .ok (.tuple #[(F key).getD z, .bool (F key).isSome]) w := by
 obtain ⟨D, h1, h2⟩ := h.ex
 obtain ⟨v, ps, hr, hv⟩ := h1.look_ok K ht hz (zd := .held z) (zp := []) rfl hkey
 rw [(h2 key kl hkey).2 z] at hv
 rw [hr, hl_inv hv, (h2 key kl hkey).1]
theorem MapIs.put [DecidableEq κ] (h : MapIs P k en w b n F) (K : Keyed P k) (ht : P.underlying t = some (.map k e)) (hn : n < maxLen) {key : κ} {kl : Lit} (hkey : keyOf P k (en key) = some kl) (v : Value) :
  ∃ w', (Instr.mapUpdate t (.map (some b)) (en key) v).run P w = .ok () w' ∧ MapIs P k en w' b (n + 1) (fun y => if y = key then some v else F y) ∧ w.grownBy w' (some b) := by
 have h0 := h
 obtain ⟨D, h1, h2⟩ := h.ex
 obtain ⟨w', hr, h3, hg⟩ := h1.update K ht hn hkey (d := .held v) (ps := []) rfl
 refine ⟨w', hr, ⟨h.inj, _, h3, fun x kx hx => ?_⟩, hg⟩
 by_cases e1 : x = key
 ·
  subst e1
  have : kx = kl := Option.some.inj (hx.symm.trans hkey)
  subst this
  rw [if_pos rfl]
  exact ⟨has_put_same h1.isMap (K.key hkey) _, fun z => atKey_put_same h1.isMap (K.key hkey) _ _⟩
 rw [if_neg e1]
 have hne : kx ≠ kl := fun h => e1 (h0.inj _ _ (K.inj (h ▸ hx) hkey))
 exact ⟨(has_put_other hne _).trans (h2 x kx hx).1, fun z => (atKey_put_other hne _ _).trans ((h2 x kx hx).2 z)⟩
theorem wpList_look {w : World} {ops : Array Oper} {rest : List Oper} {o : Oper} {a : Act} {Q : Exit → Act → World → Prop}
  (hg : o.guard = none) (m x : Operand) (t : TypeId) (hop : o.op = Op.lookup t m x false) (k e : TypeId) (K : Keyed P k) (ht : P.underlying t = some (.map k e)) (z : Value) (hz : (zeroValue e).run P w = .ok z w)
  (b n : Nat) (F : κ → Option Value) (hm : a.eval m = .map (some b)) (h : MapIs P k en w b n F) (key : κ) (kl : Lit) (hx : a.eval x = en key) (hkey : keyOf P k (en key) = some kl)
  (hK : wpList P ops Q rest (a.put o.dst ((F key).getD z)) w) : wpList P ops Q (o :: rest) a w := by
 refine wpList_plain hg fun K' hK' => ?_
 unfold Oper.wp
 simp [execOp, hop, hm, hx, h.look K ht hz hkey, Result.andThen]
 exact hK' _ _ hK
theorem wpList_put [DecidableEq κ] {w : World} {ops : Array Oper} {rest : List Oper} {o : Oper} {a : Act} {Q : Exit → Act → World → Prop}
  (hg : o.guard = none) (m x v : Operand) (t : TypeId) (hop : o.op = Op.mapUpdate t m x v) (k e : TypeId) (K : Keyed P k) (ht : P.underlying t = some (.map k e))
  (b n : Nat) (F : κ → Option Value) (hm : a.eval m = .map (some b)) (h : MapIs P k en w b n F) (hn : n < maxLen) (key : κ) (val : Value) (kl : Lit) (hx : a.eval x = en key) (hv : a.eval v = val) (hkey : keyOf P k (en key) = some kl)
  (hK : ∀ w', MapIs P k en w' b (n + 1) (fun y => if y = key then some val else F y) → w.grownBy w' (some b) → wpList P ops Q rest (a.put o.dst undef) w') : wpList P ops Q (o :: rest) a w := by
 refine wpList_plain hg fun K' hK' => ?_
 obtain ⟨w', hrun, r1, r2⟩ := h.put K ht hn hkey val
 unfold Oper.wp
 simp [execOp, hop, hm, hx, hv, hrun, Result.andThen]
 exact hK' _ _ (hK w' r1 r2)
end
def kv (x : Int × ByteArray) : Value := .agg #[.int .i64 x.1, .string x.2]
def goodK (x : Int × ByteArray) : Prop := (-9223372036854775808 ≤ x.1 ∧ x.1 ≤ 9223372036854775807) ∧ x.2.size ≤ maxLen
theorem kv_inj {x y : Int × ByteArray} : kv x = kv y ↔ x = y := by
 obtain ⟨a, s⟩ := x; obtain ⟨c, u⟩ := y
 simp [kv]
theorem pair_lits (P : Program) (T a b : TypeId) (fs : Array Field) (hu : P.underlying T = some (.struct fs)) (ha : P.underlying a = some (.int .i64)) (hb : P.underlying b = some .string) (hc : P.cellsOf T = 2) (hca : P.cellsOf a = 1) (hcb : P.cellsOf b = 1)
  (f1 f2 : Field) (hf : fs = #[f1, f2]) (h1 : f1.name ≠ "_") (h2 : f2.name ≠ "_") (ht1 : f1.type = a) (ht2 : f2.type = b) (ho1 : f1.offset = 0) (ho2 : f2.offset = 1)
  (d : Nat) (x : Int × ByteArray) (hx : goodK x) : ∃ ls, P.keyLits (d + 2) T [.int .i64 x.1, .string x.2] = some ls := by
 subst hf ht1 ht2
 obtain ⟨⟨hlo, hhi⟩, hs⟩ := hx
 have hw : (Lit.int .i64 x.1).wf = true := by simp [Lit.wf, IntKind.min, IntKind.max, IntKind.signed, IntKind.bits]; omega
 refine ⟨[.int .i64 x.1, .string x.2.data.toList], ?_⟩
 simp [Program.keyLits, hu, ha, hb, hc, hca, hcb, h1, h2, ho1, ho2, hw, hs]
theorem laid_out : laidOutB Tryz.prog = true := by kernel_rfl
theorem types_two : ∃ d, Tryz.prog.types.size + 1 = d + 2 := by
 have : decide (1 ≤ Tryz.prog.types.size) = true := by kernel_rfl
 have := of_decide_eq_true this
 exact ⟨Tryz.prog.types.size - 1, by omega⟩
theorem gk_deep : Tryz.prog.keyTypeAt (Tryz.prog.types.size + 1) 159 = true := by kernel_rfl
theorem gk_law : Keyed Tryz.prog 159 := Keyed.of_law (deep_law_laid laid_out (m := 2) (by omega) (of_decide_eq_true (by kernel_rfl : decide (159 < Tryz.prog.types.size) = true)) (by kernel_rfl) (by rw [Tryz.underlying159]))
theorem gk_key (x : Int × ByteArray) (hx : goodK x) : ∃ kl, keyOf Tryz.prog 159 (kv x) = some kl := by
 obtain ⟨d, hd⟩ := types_two
 obtain ⟨ls, hl⟩ := pair_lits Tryz.prog 159 3 9 _ Tryz.underlying159 (by kernel_rfl) (by kernel_rfl) (by kernel_rfl) (by kernel_rfl) (by kernel_rfl) _ _ rfl (by decide) (by decide) rfl rfl rfl rfl d x hx
 have hk : Tryz.prog.keyType 159 = true := gk_deep
 have hf : (kv x).formed Tryz.prog 159 = true := by
  have hc : Tryz.prog.cellsOf 159 = 2 := by kernel_rfl
  simp [kv, Value.formed, Tryz.underlying159, hc]
 rw [← hd] at hl
 refine ⟨.string (keyBytes ls), ?_⟩
 simp only [keyOf, Tryz.underlying159, hk, hf, Bool.and_self, if_true]
 have e1 : (kv x).cells.toList = [.int .i64 x.1, .string x.2] := by simp [kv, Value.cells]
 rw [e1, hl]; rfl
theorem ik_deep : Tryz.prog.keyTypeAt (Tryz.prog.types.size + 1) 147 = true := by kernel_rfl
theorem ik_law : Keyed Tryz.prog 147 := Keyed.of_law (deep_law_laid laid_out (m := 2) (by omega) (of_decide_eq_true (by kernel_rfl : decide (147 < Tryz.prog.types.size) = true)) (by kernel_rfl) (by rw [Tryz.underlying147]))
theorem ik_key (x : Int × ByteArray) (hx : goodK x) : ∃ kl, keyOf Tryz.prog 147 (kv x) = some kl := by
 obtain ⟨d, hd⟩ := types_two
 obtain ⟨ls, hl⟩ := pair_lits Tryz.prog 147 3 9 _ Tryz.underlying147 (by kernel_rfl) (by kernel_rfl) (by kernel_rfl) (by kernel_rfl) (by kernel_rfl) _ _ rfl (by decide) (by decide) rfl rfl rfl rfl d x hx
 have hk : Tryz.prog.keyType 147 = true := ik_deep
 have hf : (kv x).formed Tryz.prog 147 = true := by
  have hc : Tryz.prog.cellsOf 147 = 2 := by kernel_rfl
  simp [kv, Value.formed, Tryz.underlying147, hc]
 rw [← hd] at hl
 refine ⟨.string (keyBytes ls), ?_⟩
 simp only [keyOf, Tryz.underlying147, hk, hf, Bool.and_self, if_true]
 have e1 : (kv x).cells.toList = [.int .i64 x.1, .string x.2] := by simp [kv, Value.cells]
 rw [e1, hl]; rfl
end Go.Proofs.YtiooacmplmcphaaGreatDoor.Mapk
