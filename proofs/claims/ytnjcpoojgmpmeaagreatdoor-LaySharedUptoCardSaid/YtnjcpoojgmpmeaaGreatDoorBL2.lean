/- Texts that stand behind one another, laid into one: what this claim needs of them. -/
import Derived.Test.YtnjcpoojgmpmeaaGreatDoorBL0
import Derived.Test.YtnjcpoojgmpmeaaGreatDoorBL1
import Derived.Deep.QuietTactic
import Derived.BigQuiet
import Derived.Outline
import Derived.Lib.SliceRun
import Derived.RangeFuncBox
import Derived.Lib.ItoaLen
namespace Go.Proofs.YtnjcpoojgmpmeaaGreatDoor.Plug
open RowKit YtnjcpoojgmpmeaaGreatDoor YtnjcpoojgmpmeaaGreatDoor.PX YtnjcpoojgmpmeaaGreatDoor.Utf YtnjcpoojgmpmeaaGreatDoor.Mapk YtnjcpoojgmpmeaaGreatDoorW.PrintWords YtnjcpoojgmpmeaaGreatDoorW.PrintLast YtnjcpoojgmpmeaaGreatDoorW.PrintMore
def firstI (p : Int → Bool) : List Int → Nat → Int
 | [], _ => -1
 | x :: r, i => if p x = true then (i : Int) else firstI p r (i + 1)
theorem firstI_any (p : Int → Bool) : ∀ (l : List Int) (i : Nat), decide (firstI p l i ≥ 0) = l.any p
 | [], _ => rfl
 | x :: r, i => by
  rw [firstI, List.any_cons]
  by_cases h : p x = true
  · rw [if_pos h, h]; simp
  rw [if_neg h, firstI_any p r (i + 1)]; simp [h]
set_option maxHeartbeats 2000000 in
set_option maxRecDepth 100000 in
theorem index_any (F : FuncId) (eg : ∀ args w, (callFunc F args).run Tryz.prog w = .ok (.enter F args) w) (fv : Value) (p : Int → Bool) (A : Option Addr) (c : Nat) (xs : List Int) (w : World) (hr : Kd.C (Kd.int .i64) w A xs.length xs)
  (hp : ∀ (x : Int) (w' : World), x ∈ xs → Below w.heap.size w w' → Calls Tryz.prog F #[.int .i64 x, fv] w' fun e w2 => e = .returned (.bool (p x)) ∧ Below w'.heap.size w' w2) :
  Calls Tryz.prog 49 #[.slice A xs.length c, .func (.func F) #[] #[fv]] w fun e w' => e = .returned (.int .i64 (firstI p xs 0)) ∧ Below w.heap.size w w' := by
 have HR := Lib.hid hr
 have hm := hr.2.1
 clear hr
 obtain ⟨R, hR⟩ : ∃ R, firstI p xs 0 = R := ⟨_, rfl⟩
 rw [hR]
 have HP := Lib.hid hp
 clear hp
 go_enter Tryz.func49, Tryz.ntmps49
 go_wp2
 go_loopw [8] (fun v wr => ∃ i : Nat, v = .int .i64 i ∧ i ≤ xs.length ∧ Hid (firstI p (xs.drop i) i = R) ∧ Below w.heap.size w wr) (fun v _ => xs.length - (intOf v).toNat)
 case atStart => exact ⟨0, rfl, by omega, Lib.hid hR, Below.refl _ w⟩
 case round =>
  obtain ⟨i, rfl, hi, hst, hb⟩ := hrel
  by_cases hlt : i < xs.length
  rotate_left
  ·
   have hc : decide ((i : Int) < (xs.length : Int)) = false := by simp; omega
   have hst2 := hst.out
   rw [List.drop_of_length_le (by omega), firstI] at hst2
   have HS := Lib.hid hst2
   clear hst hst2
   go_wp2
   go_ret
   exact ⟨by rw [← HS.out]; first | done | rfl, hb⟩
  have hdrop : xs.drop i = xs[i] :: xs.drop (i + 1) := List.drop_eq_getElem_cons hlt
  have hst2 := hst.out
  rw [hdrop, firstI] at hst2
  have hc : decide ((i : Int) < (xs.length : Int)) = true := by simp; omega
  obtain ⟨ad, rfl, hx⟩ := Kd.at_int HR.out (i : Int) (by omega) (by omega)
  rw [rd_at xs i hlt, Int.toNat_natCast] at hx
  replace hx := (hb.cell (World.block_lt_of_cell? w _ hx)).trans hx
  have p1 : (0 ≤ (i : Int)) = True := eq_true (by omega)
  have p2 : ((i : Int) < (xs.length : Int)) = True := eq_true (by omega)
  have hcall := HP.out xs[i] _ (List.getElem_mem hlt) hb
  generalize xs[i] = x at *
  have HC := Lib.hid hcall
  by_cases hpx : p x = true
  ·
   rw [if_pos hpx] at hst2
   have HS := Lib.hid hst2
   rw [hpx] at HC
   clear hst hst2 hdrop hcall hpx
   go_wp2_with (go_at_fn F; refine HC.out.mono ?_; rintro e w1 ⟨rfl, hb1⟩)
   go_ret
   exact ⟨by rw [← HS.out]; first | done | rfl, hb.trans (hb1.mono hb.size)⟩
  have hpf : p x = false := by simpa using hpx
  rw [if_neg hpx] at hst2
  have HS := Lib.hid hst2
  rw [hpf] at HC
  clear hst hst2 hdrop hcall hpx hpf
  go_wp2_with (go_at_fn F; refine HC.out.mono ?_; rintro e w1 ⟨rfl, hb1⟩)
  go_roundw
  case rel => exact ⟨i + 1, by go_num, by omega, HS, hb.trans (hb1.mono hb.size)⟩
  case measure => simp [intOf]; omega
set_option maxHeartbeats 2000000 in
set_option maxRecDepth 100000 in
theorem contains_any (F : FuncId) (eg : ∀ args w, (callFunc F args).run Tryz.prog w = .ok (.enter F args) w) (fv : Value) (p : Int → Bool) (A : Option Addr) (c : Nat) (xs : List Int) (w : World) (hr : Kd.C (Kd.int .i64) w A xs.length xs)
  (hp : ∀ (x : Int) (w' : World), x ∈ xs → Below w.heap.size w w' → Calls Tryz.prog F #[.int .i64 x, fv] w' fun e w2 => e = .returned (.bool (p x)) ∧ Below w'.heap.size w' w2) :
  Calls Tryz.prog 51 #[.slice A xs.length c, .func (.func F) #[] #[fv]] w fun e w' => e = .returned (.bool (xs.any p)) ∧ Below w.heap.size w w' := by
 have HI := Lib.hid (index_any F eg fv p A c xs w hr hp)
 have HA := Lib.hid (firstI_any p xs 0)
 clear hr hp
 generalize firstI p xs 0 = R at *
 go_enter Tryz.func51, Tryz.ntmps51
 go_wp2_with (go_at_call 49; refine HI.out.mono ?_; rintro e w1 ⟨rfl, hb1⟩)
 go_ret
 exact ⟨by rw [← HA.out]; first | done | rfl, hb1⟩
set_option maxHeartbeats 2000000 in
set_option maxRecDepth 100000 in
theorem far_is (x : Int) (gb : Nat) (A0 : Option Addr) (n c0 : Nat) (root : Int) (w : World) (hbx : w.heap[gb]? = some (.cells #[.slice A0 n c0, .int .i64 root] 24 (0, 0))) :
  Calls Tryz.prog 72 #[.int .i64 x, .pointer (some ⟨gb, 0, none⟩)] w fun e w' => e = .returned (.bool (decide (x < 0) || decide (x ≥ (n : Int)))) ∧ Below w.heap.size w w' := by
 have c0' : w.cell? ⟨gb, 0, none⟩ = some (.slice A0 n c0) := by rw [Lib.cell_of_heap hbx]; rfl
 clear hbx
 go_enter Tryz.func72, Tryz.ntmps72
 by_cases h0 : x < 0
 rotate_left
 ·
  have q0 : decide (x < 0) = false := decide_eq_false h0
  go_wp2
  go_ret
  exact ⟨rfl, Below.refl _ w⟩
 have q0 : decide (x < 0) = true := decide_eq_true h0
 go_wp2
 go_ret
 exact ⟨by rw [q0]; rfl, Below.refl _ w⟩
theorem far_enters : ∀ args w, (callFunc 72 args).run Tryz.prog w = .ok (.enter 72 args) w := fun _ _ => by kernel_rfl
theorem zero_bool (w : World) : (zeroValue 4).run Tryz.prog w = .ok (.bool false) w := by kernel_rfl
theorem grow_alloc {w w2 : World} {o : Obj} {b : Nat} (h : (w.alloc o).grownBy w2 (some b)) : w.grownBy w2 (some b) :=
  ⟨h.os, h.tape, h.output, by have h2 := h.size; simp at h2; omega, fun k hk hne => (h.block k (by simp; omega) hne).trans (Lib.alloc_old w _ k hk)⟩
set_option maxHeartbeats 2000000 in
set_option maxRecDepth 100000 in
theorem add_is (b n : Nat) (F : Int × ByteArray → Option Value) (x : Int × ByteArray) (hx : goodK x) (w : World) (hm : MapIs Tryz.prog 117 kv w b n F) (hn : n < maxLen) (was : Bool) (hF : (F x).getD (.bool false) = .bool was) :
  Calls Tryz.prog 57 #[.map (some b), kv x] w fun e w' => e = .returned (.bool (!was)) ∧ MapIs Tryz.prog 117 kv w' b (n + 1) (fun y => if y = x then some (.bool true) else F y) ∧ w.grownBy w' (some b) := by
 obtain ⟨kl, hk⟩ := gk_key x hx
 obtain ⟨a, s⟩ := x
 have HK := Lib.hid hk
 have HM := Lib.hid hm
 have HF := Lib.hid hF
 clear hk hx hm hF
 rw [show kv (a, s) = .agg #[.int .i64 a, .string s] from rfl]
 go_enter Tryz.func57, Tryz.ntmps57
 go_wp2_with (first | (at_lookup; refine wpList_look rfl _ _ 114 rfl 117 4 gk_law Tryz.underlying114 (.bool false) (zero_bool _) b n F rfl (HM.out.alloc _) (a, s) kl rfl HK.out ?_; rw [HF.out]) | (at_mapUpdate; refine wpList_put rfl _ _ _ 114 rfl 117 4 gk_law Tryz.underlying114 b n F rfl (HM.out.alloc _) hn (a, s) (.bool true) kl rfl rfl HK.out ?_; intro w2 hm2 hg2))
 go_ret
 exact ⟨rfl, hm2, grow_alloc hg2⟩
def keyIs (l : List S45) (k : Int) : Int × ByteArray := ((rd_T45 l k).f0, (rd_T45 l k).f1)
def scB (k : Int) : Bool := decide (1 ≤ k) && decide (k ≤ 4)
def metB (l : List S45) : List Int → List (Int × ByteArray) → Bool
 | [], _ => true
 | k :: ks, met => if scB (rd_T45 l k).f0 = true then (if met.any (fun y => decide (y = keyIs l k)) = true then false else metB l ks (keyIs l k :: met)) else false
def farB (l : List S45) (k : Int) : Bool := decide (k < 0) || decide (k ≥ (l.length : Int))
def nodeB (l : List S45) (n : S45) (tx : Bool) (ks : List Int) : Bool :=
 if n.f0 < 1 then false else if 6 < n.f0 then false else if tx = false then false
 else if ((scB n.f0 && decide (0 < n.f2.length)) || (n.f0 == 6 && n.f2.length % 2 != 0)) = true then false
 else if n.f2.any (farB l) = true then false else metB l ks []
structure Bx (gb nb : Nat) (A0 : Option Addr) (n0 c0 : Nat) (root kd : Int) (tt : ByteArray) (A2 : Option Addr) (n2 c2 : Nat) (w : World) : Prop where
 g : w.heap[gb]? = some (.cells #[.slice A0 n0 c0, .int .i64 root] 24 (0, 0))
 n : w.heap[nb]? = some (.cells #[.int .i64 kd, .string tt, .slice A2 n2 c2] 45 (0, 0))
section
variable {gb nb : Nat} {A0 : Option Addr} {n0 c0 : Nat} {root kd : Int} {tt : ByteArray} {A2 : Option Addr} {n2 c2 : Nat} {w w' : World}
theorem Bx.cells (h : Bx gb nb A0 n0 c0 root kd tt A2 n2 c2 w) : w.cell? ⟨gb, 0, none⟩ = some (.slice A0 n0 c0) ∧ w.cell? ⟨gb, 1, none⟩ = some (.int .i64 root) ∧ w.cell? ⟨nb, 0, none⟩ = some (.int .i64 kd) ∧ w.cell? ⟨nb, 1, none⟩ = some (.string tt) ∧ w.cell? ⟨nb, 2, none⟩ = some (.slice A2 n2 c2) :=
  ⟨(blk_cell h.g 0).trans rfl, (blk_cell h.g 1).trans rfl, (blk_cell h.n 0).trans rfl, (blk_cell h.n 1).trans rfl, (blk_cell h.n 2).trans rfl⟩
theorem Bx.below (h : Bx gb nb A0 n0 c0 root kd tt A2 n2 c2 w) (hb : Below w.heap.size w w') : Bx gb nb A0 n0 c0 root kd tt A2 n2 c2 w' :=
  ⟨(hb.block gb (blk_lt h.g)).trans h.g, (hb.block nb (blk_lt h.n)).trans h.n⟩
theorem Bx.grown {b : Nat} (h : Bx gb nb A0 n0 c0 root kd tt A2 n2 c2 w) (hg : w.grownBy w' (some b)) (h1 : gb ≠ b) (h2 : nb ≠ b) : Bx gb nb A0 n0 c0 root kd tt A2 n2 c2 w' :=
  ⟨(hg.block gb (blk_lt h.g) (fun e => h1 (Option.some.inj e))).trans h.g, (hg.block nb (blk_lt h.n) (fun e => h2 (Option.some.inj e))).trans h.n⟩
end
theorem nodeB_on (l : List S45) (kd : Int) (tt : ByteArray) (kids ks : List Int) (h1 : ¬ kd < 1) (h2 : ¬ 6 < kd) (h3 : ((scB kd && decide (0 < kids.length)) || (kd == 6 && kids.length % 2 != 0)) = false) :
  nodeB l ⟨kd, tt, kids⟩ true ks = (if kids.any (farB l) = true then false else metB l ks []) := by
 unfold nodeB
 rw [if_neg h1, if_neg h2, if_neg (by simp), if_neg (by rw [h3]; simp)]
theorem rd_mem (l : List S45) (k : Int) (h0 : 0 ≤ k) (h1 : k < (l.length : Int)) : rd_T45 l k ∈ l := by
 unfold rd_T45
 rw [List.getD_eq_getElem?_getD, List.getElem?_eq_getElem (by omega : k.toNat < l.length)]
 exact List.getElem_mem _
theorem below_of_grown {w w' : World} {b B : Nat} (h : w.grownBy w' (some b)) (hb : B ≤ b) (hw : B ≤ w.heap.size) : Below B w w' :=
  ⟨h.os, h.tape, h.output, h.size, fun k hk => h.block k (by omega) (fun e => by have := Option.some.inj e; omega)⟩
theorem keep_of_grown {w w' : World} {b : Nat} (h : w.grownBy w' (some b)) : KeepBut w w' b none :=
  ⟨h.size, fun k hk hne _ => h.block k hk (fun e => hne (Option.some.inj e))⟩
theorem scal_of (k : Int) : graph_isScalar.f k = some (scB k) := by
 unfold graph_isScalar.f scB
 by_cases h : (1 : Int) ≤ k
 · rw [if_pos h, decide_eq_true h, Bool.true_and]
 rw [if_neg h, decide_eq_false h, Bool.false_and]
def metF (met : List (Int × ByteArray)) (y : Int × ByteArray) : Option Value := if met.any (fun z => decide (z = y)) = true then some (.bool true) else none
theorem metF_cons (x : Int × ByteArray) (met : List (Int × ByteArray)) : (fun y => if y = x then some (.bool true) else metF met y) = metF (x :: met) := by
 funext y
 unfold metF
 rw [List.any_cons]
 by_cases e : y = x
 · subst e; simp
 rw [if_neg e, decide_eq_false (fun h => e h.symm), Bool.false_or]
theorem metF_was (x : Int × ByteArray) (met : List (Int × ByteArray)) : (metF met x).getD (.bool false) = .bool (met.any (fun z => decide (z = x))) := by
 unfold metF
 by_cases h : met.any (fun z => decide (z = x)) = true
 · rw [if_pos h, h]; rfl
 rw [if_neg h, Bool.eq_false_iff.2 h]; rfl
set_option maxHeartbeats 8000000 in
set_option maxRecDepth 100000 in
theorem isNode_on (K1 K2 : Nat) (A0 : Option Addr) (c0 : Nat) (l : List S45) (root : Int) (kd : Int) (tt : ByteArray) (kids : List Int) (A2 : Option Addr) (c2 : Nat) (ks : List Int) (R : Bool) (w : World)
    (HR : Hid (Kd.C k45 w A0 l.length l)) (H2 : Hid (Kd.C (Kd.int .i64) w A2 kids.length kids)) (hc2 : kids.length ≤ c2) (hG : Glob.G w)
    (HT : Hid (graph_isText.f K1 kd tt = some true)) (HK : Hid (graph_keys.f K2 kd tt kids = some ks)) (HZ : Hid (∀ m ∈ l, m.f1.size ≤ 1099511627776)) (hkl : ks.length ≤ 1099511627776) (HN : Hid (∀ k ∈ ks, k ∈ kids))
    (q1 : decide (kd < 1) = false) (q2 : decide (6 < kd) = false) (hcase : (scB kd = true ∧ kids.length = 0) ∨ (scB kd = false ∧ (kd == 6) = true ∧ kids.length % 2 = 0) ∨ (scB kd = false ∧ (kd == 6) = false))
    (hR : (if kids.any (farB l) = true then false else metB l ks []) = R) :
    Calls Tryz.prog 50 #[.agg #[.slice A0 l.length c0, .int .i64 root], .agg #[.int .i64 kd, .string tt, .slice A2 kids.length c2]] w fun e w' => e = .returned (.bool R) ∧ Below w.heap.size w w' := by
  have q3 : decide (kd > 6) = false := q2
  by_cases hA : kids.any (farB l) = true
  · have HA := Lib.hid hA
    have HF : Hid (R = false) := Lib.hid (by rw [← hR, if_pos hA])
    clear hA hR
    rcases hcase with ⟨hsc, kl⟩ | ⟨hsc, q4, ko⟩ | ⟨hsc, q4⟩
    case' inl =>
      have q4 : (kd == 6) = false := by unfold scB at hsc; rw [Bool.and_eq_true, decide_eq_true_eq, decide_eq_true_eq] at hsc; exact beq_eq_false_iff_ne.2 (by omega)
      have q5 : decide ((0 : Int) < (kids.length : Int)) = false := decide_eq_false (by omega)
      have q6 : decide (0 < kids.length) = false := decide_eq_false (by omega)
      clear kl
    case' inr.inl => have q7 : (kids.length : Int).tmod 2 = 0 := by { rw [Int.tmod_eq_emod_of_nonneg (by omega)]; omega }
    all_goals
      have HS := Lib.hid (scal_of kd)
      rw [hsc] at HS
      clear hsc
      go_enter Tryz.func50, Tryz.ntmps50
      go_wp2_with (first | ((with_reducible refine gate_dst (N := 2) rfl ?_); refine box_event ?hg (N := 2) ?hd (cs := #[.slice A0 l.length c0, .int .i64 root]) (t := 24) ?hr ?_; (case hd => rfl); (case hg => rfl); (case hr => first | (go_simp; done) | (go_simp; rfl)); intro gb hg w1 hgb hb1; have HG1 := Lib.hid hgb; have HB1 := Lib.hid hb1; have HE1 := Lib.hid hg; clear hgb hb1 hg) | ((with_reducible refine gate_dst (N := 3) rfl ?_); refine box_event ?hg (N := 3) ?hd (cs := #[.int .i64 kd, .string tt, .slice A2 kids.length c2]) (t := 45) ?hr ?_; (case hd => rfl); (case hg => rfl); (case hr => first | (go_simp; done) | (go_simp; rfl)); intro nb hn w2 hnb hb2; have HX := Lib.hid (Bx.mk ((hb2.block gb (blk_lt HG1.out)).trans HG1.out) hnb); have HB2 := Lib.hid (HB1.out.trans (hb2.mono HB1.out.size)); have HE2 := Lib.hid hn; clear hnb hb2 hn HG1; obtain ⟨x0, x1, x2, x3, x4⟩ := HX.out.cells) | (go_at_call 70; refine (graph_isText.calls _ _ _ _ _ (hG.below HB2.out) HT.out).mono ?_; rintro e w3 ⟨rfl, hb3⟩; have HX3 := Lib.hid (HX.out.below hb3); have HB3 := Lib.hid (HB2.out.trans (hb3.mono HB2.out.size)); clear hb3 HX HB2 x0 x1 x2 x3 x4; obtain ⟨x0, x1, x2, x3, x4⟩ := HX3.out.cells) | (go_at_call 71; refine (graph_isScalar.calls _ _ _ (hG.below HB3.out) HS.out).mono ?_; rintro e w4 ⟨rfl, hd4⟩; have HX4 := Lib.hid (HX3.out.below hd4.below); have HB4 := Lib.hid (HB3.out.trans (hd4.below.mono HB3.out.size)); clear hd4 HX3 HB3 x0 x1 x2 x3 x4; obtain ⟨x0, x1, x2, x3, x4⟩ := HX4.out.cells) | (go_at_call 51; refine (contains_any 72 far_enters _ (farB l) A2 c2 kids _ (Kd.C_below H2.out HB4.out) (fun x w' _ hb => far_is x gb A0 l.length c0 root w' (HX4.out.below hb).g)).mono ?_; rw [HA.out]; rintro e w5 ⟨rfl, hb5⟩; have HX5 := Lib.hid (HX4.out.below hb5); have HB5 := Lib.hid (HB4.out.trans (hb5.mono HB4.out.size)); clear hb5 HX4 HB4 x0 x1 x2 x3 x4; obtain ⟨x0, x1, x2, x3, x4⟩ := (HX5.out.below (below_alloc (Below.refl _ _) (.map #[] 0))).cells))
      go_ret
      exact ⟨by rw [HF.out]; first | done | rfl, HB5.out⟩
  · have hf : kids.any (farB l) = false := Bool.eq_false_iff.2 hA
    have HA := Lib.hid hf
    have HM := Lib.hid (show metB l ks [] = R by rw [← hR, if_neg hA])
    have HIN := Lib.hid (show ∀ k ∈ ks, 0 ≤ k ∧ k < (l.length : Int) from fun k hk => by
      have h := List.any_eq_false.1 hf k (HN.out k hk)
      simp [farB] at h
      exact h)
    clear hA hR hf HN
    rcases hcase with ⟨hsc, kl⟩ | ⟨hsc, q4, ko⟩ | ⟨hsc, q4⟩
    case' inl =>
      have q4 : (kd == 6) = false := by unfold scB at hsc; rw [Bool.and_eq_true, decide_eq_true_eq, decide_eq_true_eq] at hsc; exact beq_eq_false_iff_ne.2 (by omega)
      have q5 : decide ((0 : Int) < (kids.length : Int)) = false := decide_eq_false (by omega)
      have q6 : decide (0 < kids.length) = false := decide_eq_false (by omega)
      clear kl
    case' inr.inl => have q7 : (kids.length : Int).tmod 2 = 0 := by { rw [Int.tmod_eq_emod_of_nonneg (by omega)]; omega }
    all_goals
      have HS := Lib.hid (scal_of kd)
      rw [hsc] at HS
      clear hsc
      go_enter Tryz.func50, Tryz.ntmps50
      have hmm := @run_makeMap Tryz.prog
      go_wp2_with (first | ((with_reducible refine gate_dst (N := 2) rfl ?_); refine box_event ?hg (N := 2) ?hd (cs := #[.slice A0 l.length c0, .int .i64 root]) (t := 24) ?hr ?_; (case hd => rfl); (case hg => rfl); (case hr => first | (go_simp; done) | (go_simp; rfl)); intro gb hg w1 hgb hb1; have HG1 := Lib.hid hgb; have HB1 := Lib.hid hb1; have HE1 := Lib.hid hg; clear hgb hb1 hg) | ((with_reducible refine gate_dst (N := 3) rfl ?_); refine box_event ?hg (N := 3) ?hd (cs := #[.int .i64 kd, .string tt, .slice A2 kids.length c2]) (t := 45) ?hr ?_; (case hd => rfl); (case hg => rfl); (case hr => first | (go_simp; done) | (go_simp; rfl)); intro nb hn w2 hnb hb2; have HX := Lib.hid (Bx.mk ((hb2.block gb (blk_lt HG1.out)).trans HG1.out) hnb); have HB2 := Lib.hid (HB1.out.trans (hb2.mono HB1.out.size)); have HE2 := Lib.hid hn; clear hnb hb2 hn HG1; obtain ⟨x0, x1, x2, x3, x4⟩ := HX.out.cells) | (go_at_call 70; refine (graph_isText.calls _ _ _ _ _ (hG.below HB2.out) HT.out).mono ?_; rintro e w3 ⟨rfl, hb3⟩; have HX3 := Lib.hid (HX.out.below hb3); have HB3 := Lib.hid (HB2.out.trans (hb3.mono HB2.out.size)); clear hb3 HX HB2 x0 x1 x2 x3 x4; obtain ⟨x0, x1, x2, x3, x4⟩ := HX3.out.cells) | (go_at_call 71; refine (graph_isScalar.calls _ _ _ (hG.below HB3.out) HS.out).mono ?_; rintro e w4 ⟨rfl, hd4⟩; have HX4 := Lib.hid (HX3.out.below hd4.below); have HB4 := Lib.hid (HB3.out.trans (hd4.below.mono HB3.out.size)); clear hd4 HX3 HB3 x0 x1 x2 x3 x4; obtain ⟨x0, x1, x2, x3, x4⟩ := HX4.out.cells) | (go_at_call 51; refine (contains_any 72 far_enters _ (farB l) A2 c2 kids _ (Kd.C_below H2.out HB4.out) (fun x w' _ hb => far_is x gb A0 l.length c0 root w' (HX4.out.below hb).g)).mono ?_; rw [HA.out]; rintro e w5 ⟨rfl, hb5⟩; have HX5 := Lib.hid (HX4.out.below hb5); have HB5 := Lib.hid (HB4.out.trans (hb5.mono HB4.out.size)); clear hb5 HX4 HB4 x0 x1 x2 x3 x4; obtain ⟨x0, x1, x2, x3, x4⟩ := (HX5.out.below (below_alloc (Below.refl _ _) (.map #[] 0))).cells) | (go_at_call 52; refine (graph_keys.calls _ _ _ _ _ _ _ _ (Kd.C_below H2.out (below_alloc HB5.out _)) hc2 (hG.below (below_alloc HB5.out _)) HK.out).mono ?_; rintro e w6 ⟨v, rfl, hv, hb6⟩; obtain ⟨Ak, ck, ek⟩ := Kd.R_slice hv; subst ek; have HMP := Lib.hid ((made w5 Tryz.prog 117 (fun a b => kv_inj.1)).of_below hb6); have HX6 := Lib.hid ((HX5.out.below (below_alloc (Below.refl _ _) _)).below hb6); have HB6 := Lib.hid ((below_alloc HB5.out _).trans (hb6.mono (below_alloc HB5.out _).size)); have HKC := Lib.hid (Kd.C_foot_own (Kd.R_bound hv) (g := w5.heap.size) (fun k hk => by have h := hk.2.1; simp at h; omega)); have HGN := Lib.hid (And.intro (blk_lt HX5.out.g) (And.intro (blk_lt HX5.out.n) HB5.out.size)); clear hv hb6 HX5 HB5 x0 x1 x2 x3 x4))
      generalize hbm : w5.heap.size = bm at *
      clear hbm hmm HS
      go_loopw [54] (fun v wr => ∃ (i : Nat) (met : List (Int × ByteArray)), v = .int .i64 i ∧ i ≤ ks.length ∧ Hid (metB l (ks.drop i) met = R) ∧ Hid (MapIs Tryz.prog 117 kv wr bm i (metF met)) ∧ Hid (Below w.heap.size w wr) ∧ Hid (Bx gb nb A0 l.length c0 root kd tt A2 kids.length c2 wr) ∧ Hid (KeepBut w6 wr bm none)) (fun v _ => ks.length - (intOf v).toNat)
      case atStart => exact ⟨0, [], rfl, by omega, HM, HMP, HB6, HX6, Lib.hid (KeepBut.refl _ _ _)⟩
      case round =>
        obtain ⟨i, met, rfl, hi, hst, HMR, HBR, HXR, HKR⟩ := hrel
        clear HMP HB6 HX6 HM
        obtain ⟨x0, x1, x2, x3, x4⟩ := HXR.out.cells
        by_cases hlt : i < ks.length
        · have hc : decide ((i : Int) < (ks.length : Int)) = true := by simp; omega
          obtain ⟨ad, rfl, hx⟩ := Kd.at_int (HKC.out wr HKR.out) (i : Int) (by omega) (by omega)
          rw [rd_at ks i hlt, Int.toNat_natCast] at hx
          obtain ⟨j0, j1⟩ := HIN.out ks[i] (List.getElem_mem hlt)
          have hst2 := hst.out
          rw [List.drop_eq_getElem_cons hlt, metB] at hst2
          generalize ks[i] = k at *
          obtain ⟨bd, A3, c3, rfl, y0, y1, _, _, _⟩ := at_T45 (Kd.C_below HR.out HBR.out) k j0 j1
          have p1 : (0 ≤ (i : Int)) = True := eq_true (by omega)
          have p2 : ((i : Int) < (ks.length : Int)) = True := eq_true (by omega)
          have p3 : (0 ≤ k) = True := eq_true j0
          have p4 : (k < (l.length : Int)) = True := eq_true j1
          have hsz := HZ.out _ (rd_mem l k j0 j1)
          have hki : keyIs l k = ((rd_T45 l k).f0, (rd_T45 l k).f1) := rfl
          rw [hki] at hst2
          clear hki
          generalize (rd_T45 l k).f0 = a at *
          generalize (rd_T45 l k).f1 = s at *
          have HST := Lib.hid hst2
          clear hst hst2
          go_wp2_with (fail)
          have hal : Below wr.heap.size wr (wr.alloc (.cells #[.int .i64 0, .string ⟨#[]⟩] 117 (0, 0))) := below_alloc (Below.refl _ _) _
          obtain ⟨u0, u1, u2, u3, u4⟩ := (HXR.out.below hal).cells
          have v0 := (hal.cell (World.block_lt_of_cell? wr _ y0)).trans y0
          have v1 := (hal.cell (World.block_lt_of_cell? wr _ y1)).trans y1
          clear hal
          go_region
          have hb8 : Below wr.heap.size wr (World.drew (wr.alloc (.cells #[.int .i64 a, .string s] 117 (0, 0)))) := below_drew1 (below_alloc (Below.refl _ _) _)
          have hk8 : (World.drew (wr.alloc (.cells #[.int .i64 a, .string s] 117 (0, 0)))).heap[wr.heap.size]? = some (.cells #[.int .i64 a, .string s] 117 (0, 0)) := blk_new wr _
          generalize World.drew _ = w8 at hb8 hk8 ⊢
          have HB8 := Lib.hid (HBR.out.trans (hb8.mono HBR.out.size))
          have HM8 := Lib.hid (HMR.out.of_below hb8)
          have HX8 := Lib.hid (HXR.out.below hb8)
          have HK8 := Lib.hid (HKR.out.trans (KeepBut.of_below hb8 bm none) (.inl rfl))
          have h80 := (blk_cell hk8 0).trans rfl
          have h81 := (blk_cell hk8 1).trans rfl
          clear hb8 hk8 HBR HMR HXR HKR x0 x1 x2 x3 x4 y0 y1 u0 u1 u2 u3 u4 v0 v1 hx
          have HSC := Lib.hid (scal_of a)
          by_cases hs : scB a = true
          · rw [hs] at HSC
            have hgd : goodK (a, s) := by
              unfold scB at hs
              rw [Bool.and_eq_true, decide_eq_true_eq, decide_eq_true_eq] at hs
              exact ⟨by dsimp only; omega, by unfold maxLen; dsimp only; omega⟩
            have HGD := Lib.hid hgd
            obtain ⟨was, hw⟩ : ∃ b, met.any (fun z => decide (z = (a, s))) = b := ⟨_, rfl⟩
            have HW := Lib.hid (show (metF met (a, s)).getD (.bool false) = .bool was by rw [metF_was, hw])
            have HS2 := HST.out
            rw [if_pos hs, hw] at HS2
            have HST := Lib.hid HS2
            clear HS2 hs hgd hw hsz
            cases was with
            | true =>
              have HF : Hid (R = false) := Lib.hid (by have h := HST.out; rw [if_pos rfl] at h; exact h.symm)
              clear HST
              go_wp2_with (first | (go_at_call 71; refine (graph_isScalar.calls _ _ _ (hG.below HB8.out) HSC.out).mono ?_; rintro e w9 ⟨rfl, ⟨nd, rfl⟩⟩) | (go_at_call 57; refine (add_is bm i (metF met) (a, s) HGD.out _ (HM8.out.of_block (w' := w8.drewN nd) rfl) (by unfold maxLen; omega) _ HW.out).mono ?_; rintro e w10 ⟨rfl, hm10, hg9⟩; have hg10 : w8.grownBy w10 (some bm) := ⟨hg9.os, hg9.tape, hg9.output, hg9.size, hg9.block⟩; have HB10 := Lib.hid (HB8.out.trans (below_of_grown hg10 HGN.out.2.2 HB8.out.size)); clear hm10 hg10 hg9))
              go_ret
              exact ⟨by rw [HF.out]; first | done | rfl, HB10.out⟩
            | false =>
              have HF : Hid (metB l (ks.drop (i + 1)) ((a, s) :: met) = R) := Lib.hid (by have h := HST.out; rw [if_neg Bool.false_ne_true] at h; exact h)
              clear HST
              go_wp2_with (first | (go_at_call 71; refine (graph_isScalar.calls _ _ _ (hG.below HB8.out) HSC.out).mono ?_; rintro e w9 ⟨rfl, ⟨nd, rfl⟩⟩) | (go_at_call 57; refine (add_is bm i (metF met) (a, s) HGD.out _ (HM8.out.of_block (w' := w8.drewN nd) rfl) (by unfold maxLen; omega) _ HW.out).mono ?_; rintro e w10 ⟨rfl, hm10, hg9⟩; have hg10 : w8.grownBy w10 (some bm) := ⟨hg9.os, hg9.tape, hg9.output, hg9.size, hg9.block⟩; rw [metF_cons] at hm10; have HB10 := Lib.hid (HB8.out.trans (below_of_grown hg10 HGN.out.2.2 HB8.out.size)); have HM10 := Lib.hid hm10; have HX10 := Lib.hid (HX8.out.grown hg10 (Nat.ne_of_lt HGN.out.1) (Nat.ne_of_lt HGN.out.2.1)); have HK10 := Lib.hid (HK8.out.trans (keep_of_grown hg10) (.inl rfl)); clear hm10 hg10 hg9))
              go_roundw
              case rel => exact ⟨i + 1, (a, s) :: met, by go_num, by omega, HF, HM10, HB10, HX10, HK10⟩
              case measure => simp [intOf]; omega
          · have hs' : scB a = false := Bool.eq_false_iff.2 hs
            have HF : Hid (R = false) := Lib.hid (by have h := HST.out; rw [if_neg hs] at h; exact h.symm)
            rw [hs'] at HSC
            clear hs hs' HST
            go_wp2_with (go_at_call 71; refine (graph_isScalar.calls _ _ _ (hG.below HB8.out) HSC.out).mono ?_; rintro e w9 ⟨rfl, ⟨nd, rfl⟩⟩)
            go_ret
            exact ⟨by rw [HF.out]; first | done | rfl, pw_below_drewN HB8.out nd⟩
        · have hc : decide ((i : Int) < (ks.length : Int)) = false := by simp; omega
          have hst2 := hst.out
          rw [List.drop_of_length_le (by omega), metB] at hst2
          have HF := Lib.hid hst2
          clear hst hst2
          go_wp2
          go_ret
          exact ⟨by rw [← HF.out]; first | done | rfl, HBR.out⟩
set_option maxHeartbeats 8000000 in
set_option maxRecDepth 100000 in
theorem isNode_is (K1 K2 : Nat) (A0 : Option Addr) (c0 : Nat) (l : List S45) (root : Int) (n : S45) (A2 : Option Addr) (c2 : Nat) (tx : Bool) (ks : List Int) (w : World)
  (hr : Kd.C k45 w A0 l.length l) (_hc : l.length ≤ c0) (h2 : Kd.C (Kd.int .i64) w A2 n.f2.length n.f2) (hc2 : n.f2.length ≤ c2) (hG : Glob.G w)
  (hT : 1 ≤ n.f0 → n.f0 ≤ 6 → graph_isText.f K1 n.f0 n.f1 = some tx) (hks : graph_keys.f K2 n.f0 n.f1 n.f2 = some ks) (hsz : ∀ m ∈ l, m.f1.size ≤ 1099511627776) (hkl : ks.length ≤ 1099511627776) (hin : ∀ k ∈ ks, k ∈ n.f2) :
  Calls Tryz.prog 50 #[.agg #[.slice A0 l.length c0, .int .i64 root], .agg #[.int .i64 n.f0, .string n.f1, .slice A2 n.f2.length c2]] w fun e w' => e = .returned (.bool (nodeB l n tx ks)) ∧ Below w.heap.size w w' := by
 obtain ⟨kd, tt, kids⟩ := n
 dsimp only at h2 hT hks hin ⊢
 have HR := Lib.hid hr
 have H2 := Lib.hid h2
 have HK := Lib.hid hks
 have HT := Lib.hid hT
 have HZ := Lib.hid hsz
 have HN := Lib.hid hin
 clear hr h2 hks hT hsz hin _hc
 obtain ⟨R, hR⟩ : ∃ R, nodeB l ⟨kd, tt, kids⟩ tx ks = R := ⟨_, rfl⟩
 rw [hR]
 have HR2 := Lib.hid hR
 clear hR
 by_cases k1 : kd < 1
 ·
  have HF : Hid (R = false) := Lib.hid (by rw [← HR2.out]; simp [nodeB, k1])
  have q1 : decide (kd < 1) = true := decide_eq_true k1
  go_enter Tryz.func50, Tryz.ntmps50
  go_wp2_with (first | ((with_reducible refine gate_dst (N := 2) rfl ?_); refine box_event ?hg (N := 2) ?hd (cs := #[.slice A0 l.length c0, .int .i64 root]) (t := 24) ?hr ?_; (case hd => rfl); (case hg => rfl); (case hr => first | (go_simp; done) | (go_simp; rfl)); intro gb hg w1 hgb hb1; have HG1 := Lib.hid hgb; have HB1 := Lib.hid hb1; have HE1 := Lib.hid hg; clear hgb hb1 hg) | ((with_reducible refine gate_dst (N := 3) rfl ?_); refine box_event ?hg (N := 3) ?hd (cs := #[.int .i64 kd, .string tt, .slice A2 kids.length c2]) (t := 45) ?hr ?_; (case hd => rfl); (case hg => rfl); (case hr => first | (go_simp; done) | (go_simp; rfl)); intro nb hn w2 hnb hb2; have HX := Lib.hid (Bx.mk ((hb2.block gb (blk_lt HG1.out)).trans HG1.out) hnb); have HB2 := Lib.hid (HB1.out.trans (hb2.mono HB1.out.size)); have HE2 := Lib.hid hn; clear hnb hb2 hn HG1; obtain ⟨x0, x1, x2, x3, x4⟩ := HX.out.cells))
  go_ret
  exact ⟨by rw [HF.out]; first | done | rfl, HB2.out⟩
 have q1 : decide (kd < 1) = false := decide_eq_false k1
 by_cases k6 : 6 < kd
 ·
  have HF : Hid (R = false) := Lib.hid (by rw [← HR2.out]; simp [nodeB, k1, k6])
  have q2 : decide (6 < kd) = true := decide_eq_true k6
  have q3 : decide (kd > 6) = true := decide_eq_true k6
  go_enter Tryz.func50, Tryz.ntmps50
  go_wp2_with (first | ((with_reducible refine gate_dst (N := 2) rfl ?_); refine box_event ?hg (N := 2) ?hd (cs := #[.slice A0 l.length c0, .int .i64 root]) (t := 24) ?hr ?_; (case hd => rfl); (case hg => rfl); (case hr => first | (go_simp; done) | (go_simp; rfl)); intro gb hg w1 hgb hb1; have HG1 := Lib.hid hgb; have HB1 := Lib.hid hb1; have HE1 := Lib.hid hg; clear hgb hb1 hg) | ((with_reducible refine gate_dst (N := 3) rfl ?_); refine box_event ?hg (N := 3) ?hd (cs := #[.int .i64 kd, .string tt, .slice A2 kids.length c2]) (t := 45) ?hr ?_; (case hd => rfl); (case hg => rfl); (case hr => first | (go_simp; done) | (go_simp; rfl)); intro nb hn w2 hnb hb2; have HX := Lib.hid (Bx.mk ((hb2.block gb (blk_lt HG1.out)).trans HG1.out) hnb); have HB2 := Lib.hid (HB1.out.trans (hb2.mono HB1.out.size)); have HE2 := Lib.hid hn; clear hnb hb2 hn HG1; obtain ⟨x0, x1, x2, x3, x4⟩ := HX.out.cells))
  go_ret
  exact ⟨by rw [HF.out]; first | done | rfl, HB2.out⟩
 have q2 : decide (6 < kd) = false := decide_eq_false k6
 have q3 : decide (kd > 6) = false := decide_eq_false k6
 replace HT := Lib.hid (HT.out (by omega) (by omega))
 cases tx with
 | false =>
  have HF : Hid (R = false) := Lib.hid (by rw [← HR2.out]; simp [nodeB, k1, k6])
  go_enter Tryz.func50, Tryz.ntmps50
  go_wp2_with (first | ((with_reducible refine gate_dst (N := 2) rfl ?_); refine box_event ?hg (N := 2) ?hd (cs := #[.slice A0 l.length c0, .int .i64 root]) (t := 24) ?hr ?_; (case hd => rfl); (case hg => rfl); (case hr => first | (go_simp; done) | (go_simp; rfl)); intro gb hg w1 hgb hb1; have HG1 := Lib.hid hgb; have HB1 := Lib.hid hb1; have HE1 := Lib.hid hg; clear hgb hb1 hg) | ((with_reducible refine gate_dst (N := 3) rfl ?_); refine box_event ?hg (N := 3) ?hd (cs := #[.int .i64 kd, .string tt, .slice A2 kids.length c2]) (t := 45) ?hr ?_; (case hd => rfl); (case hg => rfl); (case hr => first | (go_simp; done) | (go_simp; rfl)); intro nb hn w2 hnb hb2; have HX := Lib.hid (Bx.mk ((hb2.block gb (blk_lt HG1.out)).trans HG1.out) hnb); have HB2 := Lib.hid (HB1.out.trans (hb2.mono HB1.out.size)); have HE2 := Lib.hid hn; clear hnb hb2 hn HG1; obtain ⟨x0, x1, x2, x3, x4⟩ := HX.out.cells) | (go_at_call 70; refine (graph_isText.calls _ _ _ _ _ (hG.below HB2.out) HT.out).mono ?_; rintro e w3 ⟨rfl, hb3⟩; have HX3 := Lib.hid (HX.out.below hb3); have HB3 := Lib.hid (HB2.out.trans (hb3.mono HB2.out.size)); clear hb3 HX HB2 x0 x1 x2 x3 x4; obtain ⟨x0, x1, x2, x3, x4⟩ := HX3.out.cells))
  go_ret
  exact ⟨by rw [HF.out]; first | done | rfl, HB3.out⟩
 | true =>
  have hS : graph_isScalar.f kd = some (scB kd) := by unfold graph_isScalar.f scB; rw [if_pos (by omega), decide_eq_true (by omega : (1 : Int) ≤ kd), Bool.true_and]
  have HS := Lib.hid hS
  clear hS
  by_cases ks4 : kd ≤ 4
  ·
   have hsc : scB kd = true := by unfold scB; rw [decide_eq_true (by omega : (1 : Int) ≤ kd), decide_eq_true ks4]; rfl
   have q4 : (kd == 6) = false := beq_eq_false_iff_ne.2 (by omega)
   by_cases kl : 0 < kids.length
   rotate_left
   ·
    refine isNode_on K1 K2 A0 c0 l root kd tt kids A2 c2 ks R w HR H2 hc2 hG HT HK HZ hkl HN q1 q2 (.inl ⟨hsc, by omega⟩) ?_
    exact (nodeB_on l kd tt kids ks k1 k6 (by rw [q4, decide_eq_false kl]; simp)).symm.trans HR2.out
   have HF : Hid (R = false) := Lib.hid (by rw [← HR2.out, nodeB, if_neg k1, if_neg k6, if_neg (by simp), if_pos (by simp [hsc, kl])])
   rw [hsc] at HS
   have q5 : decide ((0 : Int) < (kids.length : Int)) = true := decide_eq_true (by omega)
   have q6 : decide (0 < kids.length) = true := decide_eq_true kl
   go_enter Tryz.func50, Tryz.ntmps50
   go_wp2_with (first | ((with_reducible refine gate_dst (N := 2) rfl ?_); refine box_event ?hg (N := 2) ?hd (cs := #[.slice A0 l.length c0, .int .i64 root]) (t := 24) ?hr ?_; (case hd => rfl); (case hg => rfl); (case hr => first | (go_simp; done) | (go_simp; rfl)); intro gb hg w1 hgb hb1; have HG1 := Lib.hid hgb; have HB1 := Lib.hid hb1; have HE1 := Lib.hid hg; clear hgb hb1 hg) | ((with_reducible refine gate_dst (N := 3) rfl ?_); refine box_event ?hg (N := 3) ?hd (cs := #[.int .i64 kd, .string tt, .slice A2 kids.length c2]) (t := 45) ?hr ?_; (case hd => rfl); (case hg => rfl); (case hr => first | (go_simp; done) | (go_simp; rfl)); intro nb hn w2 hnb hb2; have HX := Lib.hid (Bx.mk ((hb2.block gb (blk_lt HG1.out)).trans HG1.out) hnb); have HB2 := Lib.hid (HB1.out.trans (hb2.mono HB1.out.size)); have HE2 := Lib.hid hn; clear hnb hb2 hn HG1; obtain ⟨x0, x1, x2, x3, x4⟩ := HX.out.cells) | (go_at_call 70; refine (graph_isText.calls _ _ _ _ _ (hG.below HB2.out) HT.out).mono ?_; rintro e w3 ⟨rfl, hb3⟩; have HX3 := Lib.hid (HX.out.below hb3); have HB3 := Lib.hid (HB2.out.trans (hb3.mono HB2.out.size)); clear hb3 HX HB2 x0 x1 x2 x3 x4; obtain ⟨x0, x1, x2, x3, x4⟩ := HX3.out.cells) | (go_at_call 71; refine (graph_isScalar.calls _ _ _ (hG.below HB3.out) HS.out).mono ?_; rintro e w4 ⟨rfl, hd4⟩; have HX4 := Lib.hid (HX3.out.below hd4.below); have HB4 := Lib.hid (HB3.out.trans (hd4.below.mono HB3.out.size)); clear hd4 HX3 HB3 x0 x1 x2 x3 x4; obtain ⟨x0, x1, x2, x3, x4⟩ := HX4.out.cells))
   go_ret
   exact ⟨by rw [HF.out]; first | done | rfl, HB4.out⟩
  have hsc : scB kd = false := by unfold scB; rw [decide_eq_false ks4, Bool.and_false]
  by_cases k66 : kd = 6
  rotate_left
  ·
   have q4 : (kd == 6) = false := beq_eq_false_iff_ne.2 k66
   refine isNode_on K1 K2 A0 c0 l root kd tt kids A2 c2 ks R w HR H2 hc2 hG HT HK HZ hkl HN q1 q2 (.inr (.inr ⟨hsc, q4⟩)) ?_
   exact (nodeB_on l kd tt kids ks k1 k6 (by rw [hsc, q4]; rfl)).symm.trans HR2.out
  have q4 : (kd == 6) = true := beq_iff_eq.2 k66
  by_cases ko : kids.length % 2 = 0
  ·
   refine isNode_on K1 K2 A0 c0 l root kd tt kids A2 c2 ks R w HR H2 hc2 hG HT HK HZ hkl HN q1 q2 (.inr (.inl ⟨hsc, q4, ko⟩)) ?_
   exact (nodeB_on l kd tt kids ks k1 k6 (by rw [hsc, ko]; simp)).symm.trans HR2.out
  have HF : Hid (R = false) := Lib.hid (by rw [← HR2.out, nodeB, if_neg k1, if_neg k6, if_neg (by simp), if_pos (by simp [k66]; omega)])
  have q7 : (kids.length : Int).tmod 2 = 1 := by rw [Int.tmod_eq_emod_of_nonneg (by omega)]; omega
  rw [hsc] at HS
  clear k66 ko
  go_enter Tryz.func50, Tryz.ntmps50
  go_wp2_with (first | ((with_reducible refine gate_dst (N := 2) rfl ?_); refine box_event ?hg (N := 2) ?hd (cs := #[.slice A0 l.length c0, .int .i64 root]) (t := 24) ?hr ?_; (case hd => rfl); (case hg => rfl); (case hr => first | (go_simp; done) | (go_simp; rfl)); intro gb hg w1 hgb hb1; have HG1 := Lib.hid hgb; have HB1 := Lib.hid hb1; have HE1 := Lib.hid hg; clear hgb hb1 hg) | ((with_reducible refine gate_dst (N := 3) rfl ?_); refine box_event ?hg (N := 3) ?hd (cs := #[.int .i64 kd, .string tt, .slice A2 kids.length c2]) (t := 45) ?hr ?_; (case hd => rfl); (case hg => rfl); (case hr => first | (go_simp; done) | (go_simp; rfl)); intro nb hn w2 hnb hb2; have HX := Lib.hid (Bx.mk ((hb2.block gb (blk_lt HG1.out)).trans HG1.out) hnb); have HB2 := Lib.hid (HB1.out.trans (hb2.mono HB1.out.size)); have HE2 := Lib.hid hn; clear hnb hb2 hn HG1; obtain ⟨x0, x1, x2, x3, x4⟩ := HX.out.cells) | (go_at_call 70; refine (graph_isText.calls _ _ _ _ _ (hG.below HB2.out) HT.out).mono ?_; rintro e w3 ⟨rfl, hb3⟩; have HX3 := Lib.hid (HX.out.below hb3); have HB3 := Lib.hid (HB2.out.trans (hb3.mono HB2.out.size)); clear hb3 HX HB2 x0 x1 x2 x3 x4; obtain ⟨x0, x1, x2, x3, x4⟩ := HX3.out.cells) | (go_at_call 71; refine (graph_isScalar.calls _ _ _ (hG.below HB3.out) HS.out).mono ?_; rintro e w4 ⟨rfl, hd4⟩; have HX4 := Lib.hid (HX3.out.below hd4.below); have HB4 := Lib.hid (HB3.out.trans (hd4.below.mono HB3.out.size)); clear hd4 HX3 HB3 x0 x1 x2 x3 x4; obtain ⟨x0, x1, x2, x3, x4⟩ := HX4.out.cells))
  go_ret
  exact ⟨by rw [HF.out]; first | done | rfl, HB4.out⟩
def textB (kd : Int) (s : ByteArray) : Bool :=
 if kd = 2 then resB s.data.toList == 2 else if kd = 3 then resB s.data.toList == 3
 else if kd = 4 then ((decodeB s.data.toList).2.1 == 0 && (decodeB s.data.toList).2.2 == 0) else s.toList == []
theorem isText_of (K : Nat) (kd : Int) (s : ByteArray) (hs : s.size ≤ 1099511627775) : graph_isText.f (K + 1) kd s = some (textB kd s) := by
 have hR : plain_Resolve.f s = some (resB s.data.toList) := by unfold plain_Resolve.f; rw [if_pos (by omega)]
 have hD : utf_Decode.f s = some (decodeB s.data.toList) := by unfold utf_Decode.f; rw [if_pos hs]
 unfold graph_isText.f textB
 by_cases h2 : kd = 2
 · subst h2; simp [graph_isText.j0, hR]
 by_cases h3 : kd = 3
 · subst h3; simp [graph_isText.j0, hR]
 by_cases h4 : kd = 4
 · subst h4; simp [graph_isText.j0, hD]
 have : (kd == 3) = false := beq_eq_false_iff_ne.2 h3
 simp [graph_isText.j0, h2, h3, h4]
def evens : List Int → List Int
 | a :: _ :: r => a :: evens r
 | _ => []
theorem evens_mem : ∀ (l : List Int) (k : Int), k ∈ evens l → k ∈ l
 | [], k, h => by simp [evens] at h
 | [_], k, h => by simp [evens] at h
 | a :: b :: r, k, h => by
  rw [evens, List.mem_cons] at h
  rcases h with h | h
  · exact h ▸ List.mem_cons_self
  · exact List.mem_cons_of_mem _ (List.mem_cons_of_mem _ (evens_mem r k h))
theorem evens_len : ∀ l : List Int, (evens l).length ≤ l.length
 | [] => by simp [evens]
 | [_] => by simp [evens]
 | a :: b :: r => by have := evens_len r; simp [evens]; omega
def keysB (kd : Int) (kids : List Int) : List Int := if kd = 6 then evens kids else []
theorem keys_l0 (kd : Int) (tt : ByteArray) (kids : List Int) (hk : kids.length ≤ 1099511627776) : ∀ (K i : Nat) (acc : List Int), i ≤ kids.length + 1 → kids.length + 1 < i + K → acc.length ≤ i →
    graph_keys.l0 K acc (i : Int) kd tt kids = some (acc ++ evens (kids.drop i))
  | 0, i, acc, h1, h2, h3 => by omega
  | K + 1, i, acc, h1, h2, h3 => by
    rw [graph_keys.l0, show wrap64 ((i : Int) + 1) = (i : Int) + 1 by unfold wrap64; omega]
    by_cases h : (i : Int) + 1 < (kids.length : Int)
    · have e1 : kids.drop i = kids[i] :: kids[i + 1] :: kids.drop (i + 2) := by rw [List.drop_eq_getElem_cons (by omega), List.drop_eq_getElem_cons (by omega)]
      rw [if_pos h, if_pos (by omega), if_pos (by omega), if_pos (by omega), show wrap64 ((i : Int) + 2) = (i : Int) + 2 by unfold wrap64; omega, show ((i : Int) + 2) = ((i + 2 : Nat) : Int) by omega,
        keys_l0 kd tt kids hk K (i + 2) _ (by omega) (by omega) (by rw [List.length_append]; simp; omega), e1, evens, rd_at kids i (by omega)]
      simp
    · rw [if_neg h]
      have e1 : evens (kids.drop i) = [] := by
        have : (kids.drop i).length ≤ 1 := by rw [List.length_drop]; omega
        match hd : kids.drop i, this with
        | [], _ => rfl
        | [_], _ => rfl
      rw [e1, List.append_nil]
theorem keys_of (kd : Int) (tt : ByteArray) (kids : List Int) (hk : kids.length ≤ 1099511627776) (K : Nat) (hK : kids.length + 1 < K) : graph_keys.f K kd tt kids = some (keysB kd kids) := by
 unfold graph_keys.f keysB
 by_cases h : kd = 6
 rotate_left
 · rw [if_neg h, if_neg h]
 rw [if_pos h, if_pos h]
 have := keys_l0 kd tt kids hk K 0 [] (by omega) (by omega) (by simp)
 simpa using this
theorem keys_sub (kd : Int) (kids : List Int) : ∀ k ∈ keysB kd kids, k ∈ kids := by
 unfold keysB
 split
 · exact evens_mem kids
 · intro k h; simp at h
theorem keys_len (kd : Int) (kids : List Int) : (keysB kd kids).length ≤ kids.length := by
 unfold keysB
 split
 · exact evens_len kids
 · simp
def isN (l : List S45) (n : S45) : Bool := nodeB l n (textB n.f0 n.f1) (keysB n.f0 n.f2)
def bump (u : List Int) (k : Int) : List Int := u.set k.toNat (wrap64 (rd u k + 1))
def usesB (l : List S45) : List S45 → List Int → Option (List Int)
 | [], u => some u
 | n :: r, u => if isN l n = true then usesB l r (n.f2.foldl bump u) else none
def soleN (u : List Int) (n : S45) : Bool := (keysB n.f0 n.f2).any (fun k => decide (rd u k > 1))
def soleB (u : List Int) : List S45 → Bool
 | [] => true
 | n :: r => if soleN u n = true then false else soleB u r
def rightB (l : List S45) (root : Int) : Bool :=
 if l.length = 0 then false else if 4096 < l.length then false else if root < 0 then false else if (l.length : Int) ≤ root then false
 else match usesB l l (bump (List.replicate l.length 0) root) with
 | none => false
 | some u => soleB u l
def sizesB (l : List S45) : Bool := l.all fun m => decide (m.f1.size ≤ 1099511627775) && decide (m.f2.length ≤ 1099511627776)
def graph_Right.f (l : List S45) (root : Int) : Option Bool := if sizesB l = true then some (rightB l root) else none
theorem bump_len (u : List Int) (k : Int) : (bump u k).length = u.length := List.length_set
theorem bumps_len : ∀ (ks : List Int) (u : List Int), (ks.foldl bump u).length = u.length
 | [], _ => rfl
 | k :: ks, u => (bumps_len ks (bump u k)).trans (bump_len u k)
theorem isN_range {l : List S45} {n : S45} (h : isN l n = true) : ∀ k ∈ n.f2, 0 ≤ k ∧ k < (l.length : Int) := by
 unfold isN nodeB at h
 split at h; · cases h
 split at h; · cases h
 split at h; · cases h
 split at h; · cases h
 split at h; · cases h
 ·
  rename_i h5
  intro k hk
  have := List.any_eq_false.1 (Bool.eq_false_iff.2 h5) k hk
  simp [farB] at this
  exact this
theorem usesB_all (l : List S45) : ∀ (r : List S45) (u v : List Int), usesB l r u = some v → ∀ n ∈ r, isN l n = true
 | [], _, _, _, n, hn => by simp at hn
 | m :: r, u, v, h, n, hn => by
  rw [usesB] at h
  by_cases c : isN l m = true
  rotate_left
  · rw [if_neg c] at h; cases h
  rw [if_pos c] at h
  rcases List.mem_cons.1 hn with e | e
  · exact e ▸ c
  · exact usesB_all l r _ v h n e
structure Us (B gb ub rb cp : Nat) (A0 : Option Addr) (n0 c0 : Nat) (root : Int) (u : List Int) (w : World) : Prop where
 g : w.heap[gb]? = some (.cells #[.slice A0 n0 c0, .int .i64 root] 24 (0, 0))
 len : u.length = n0
 b : w.heap[ub]? = some (.cells #[.slice (some ⟨rb, 0, none⟩) n0 cp] 40 (0, 0))
 row : Kd.R (Kd.int .i64) 3 w B (fun _ => True) (.slice (some ⟨rb, 0, none⟩) n0 cp) u
section
variable {B gb ub rb cp : Nat} {A0 : Option Addr} {n0 c0 : Nat} {root : Int} {u : List Int} {w w' : World}
theorem Us.cells (h : Us B gb ub rb cp A0 n0 c0 root u w) : w.cell? ⟨gb, 0, none⟩ = some (.slice A0 n0 c0) ∧ w.cell? ⟨gb, 1, none⟩ = some (.int .i64 root) ∧ w.cell? ⟨ub, 0, none⟩ = some (.slice (some ⟨rb, 0, none⟩) n0 cp) :=
  ⟨(blk_cell h.g 0).trans rfl, (blk_cell h.g 1).trans rfl, (blk_cell h.b 0).trans rfl⟩
theorem Us.below (h : Us B gb ub rb cp A0 n0 c0 root u w) (hb : Below w.heap.size w w') : Us B gb ub rb cp A0 n0 c0 root u w' :=
  ⟨(hb.block gb (blk_lt h.g)).trans h.g, h.len, (hb.block ub (blk_lt h.b)).trans h.b, Kd.R_below h.row hb⟩
theorem Us.at_ (h : Us B gb ub rb cp A0 n0 c0 root u w) (k : Int) (h0 : 0 ≤ k) (h1 : k < (n0 : Int)) : w.cell? ⟨rb, k.toNat, none⟩ = some (.int .i64 (rd u k)) ∧ w.frozen? ⟨rb, k.toNat, none⟩ = false :=
  Kd.R_celln 0 h.row k h0 h1
theorem Us.put (h : Us B gb ub rb cp A0 n0 c0 root u w) (k x : Int) : Us B gb ub rb cp A0 n0 c0 root (u.set k.toNat x) (w.setCell ⟨rb, k.toNat, none⟩ (.int .i64 x)) ∧ w.grownBy (w.setCell ⟨rb, k.toNat, none⟩ (.int .i64 x)) (some rb) := by
 obtain ⟨h1, hg⟩ := Kd.R_putg h.row k x
 have n1 : some gb ≠ some rb := Kd.R_ne h.row h.g (by decide)
 have n2 : some ub ≠ some rb := Kd.R_ne h.row h.b (by decide)
 exact ⟨⟨(hg.block gb (blk_lt h.g) n1).trans h.g, by rw [List.length_set]; exact h.len, (hg.block ub (blk_lt h.b) n2).trans h.b, h1⟩, hg⟩
theorem Us.base (h : Us B gb ub rb cp A0 n0 c0 root u w) : B ≤ rb := Kd.R_base h.row rb rfl
end
set_option maxHeartbeats 2000000 in
set_option maxRecDepth 100000 in
theorem more_is (x : Int) (B gb ub rb cp : Nat) (A0 : Option Addr) (n0 c0 : Nat) (root : Int) (u : List Int) (w : World) (hu : Us B gb ub rb cp A0 n0 c0 root u w) (h0 : 0 ≤ x) (h1 : x < (n0 : Int)) :
  Calls Tryz.prog 53 #[.int .i64 x, .pointer (some ⟨ub, 0, none⟩)] w fun e w' => e = .returned (.bool (decide (rd u x > 1))) ∧ Below w.heap.size w w' := by
 obtain ⟨_, _, c0'⟩ := hu.cells
 obtain ⟨c1, _⟩ := hu.at_ x h0 h1
 have p1 := eq_true h0
 have p2 := eq_true h1
 clear hu h0 h1
 go_enter Tryz.func53, Tryz.ntmps53
 go_wp2
 go_ret
 exact ⟨rfl, Below.refl _ w⟩
theorem more_enters : ∀ args w, (callFunc 53 args).run Tryz.prog w = .ok (.enter 53 args) w := fun _ _ => by kernel_rfl
theorem node_cells {w W : World} (hb : Below w.heap.size w W) {A : Option Addr} {l : List S45} (h : Kd.C k45 w A l.length l) (k : Nat) (hk : k < l.length) :
  ∃ ad A2 c2, A = some ad ∧ W.cell? (ad.add (k * 3)) = some (.int .i64 l[k].f0) ∧ W.cell? ⟨(ad.add (k * 3)).block, (ad.add (k * 3)).off + 1, none⟩ = some (.string l[k].f1) ∧ W.cell? ⟨(ad.add (k * 3)).block, (ad.add (k * 3)).off + 2, none⟩ = some (.slice A2 l[k].f2.length c2) ∧ l[k].f2.length ≤ c2 ∧ Kd.C (Kd.int .i64) w A2 l[k].f2.length l[k].f2 := by
 obtain ⟨ad, A2, c2, eA, h0, h1, h2, h3, h4⟩ := at_T45 h (k : Int) (by omega) (by omega)
 have e : rd_T45 l (k : Int) = l[k] := by unfold rd_T45; rw [Int.toNat_natCast, List.getD_eq_getElem?_getD, List.getElem?_eq_getElem hk]; rfl
 rw [e] at h0 h1 h2 h3 h4
 rw [Int.toNat_natCast] at h0 h1 h2
 exact ⟨ad, A2, c2, eA, (hb.cell (World.block_lt_of_cell? w _ h0)).trans h0, (hb.cell (World.block_lt_of_cell? w _ h1)).trans h1, (hb.cell (World.block_lt_of_cell? w _ h2)).trans h2, h3, h4⟩
def endB (l : List S45) (U : Option (List Int)) : Bool := match U with
 | none => false
 | some u => soleB u l
set_option maxHeartbeats 8000000 in
set_option maxRecDepth 100000 in
theorem graph_Right.calls (A0 : Option Addr) (c0 : Nat) (l : List S45) (root : Int) (r : Bool) (w : World) (hr0 : Kd.C k45 w A0 l.length l) (hc0 : l.length ≤ c0) (hG : Glob.G w) (h : graph_Right.f l root = some r) :
    Calls Tryz.prog 35 #[.agg #[.slice A0 l.length c0, .int .i64 root]] w fun e w' => e = .returned (.bool r) ∧ Below w.heap.size w w' := by
  unfold graph_Right.f at h
  by_cases hz : sizesB l = true
  · rw [if_pos hz] at h
    obtain hR := Option.some.inj h
    have HR := Lib.hid hr0
    have HZ := Lib.hid (show ∀ m ∈ l, m.f1.size ≤ 1099511627775 ∧ m.f2.length ≤ 1099511627776 from fun m hm => by
      have := List.all_eq_true.1 hz m hm
      simp at this
      exact this)
    clear h hz hr0
    by_cases k0 : l.length = 0
    · have HF : Hid (r = false) := Lib.hid (by rw [← hR]; unfold rightB; rw [if_pos k0])
      have q0 : ((l.length : Int) == 0) = true := beq_iff_eq.2 (by omega)
      clear hR
      go_enter Tryz.func35, Tryz.ntmps35
      go_wp2_with (first | ((with_reducible refine gate_dst (N := 1) rfl ?_); refine box_event ?hg (N := 1) ?hd (cs := #[.slice A0 l.length c0, .int .i64 root]) (t := 24) ?hr ?_; (case hd => rfl); (case hg => rfl); (case hr => first | (go_simp; done) | (go_simp; rfl)); intro gb hg w1 hgb hb1; have HG1 := Lib.hid hgb; have HB1 := Lib.hid hb1; clear hgb hb1 hg; have x0 := (blk_cell HG1.out 0).trans rfl; have x1 := (blk_cell HG1.out 1).trans rfl))
      go_ret
      exact ⟨by rw [HF.out]; first | done | rfl, HB1.out⟩
    · have q0 : ((l.length : Int) == 0) = false := beq_eq_false_iff_ne.2 (by omega)
      by_cases k1 : 4096 < l.length
      · have HF : Hid (r = false) := Lib.hid (by rw [← hR]; unfold rightB; rw [if_neg k0, if_pos k1])
        have q1 : decide (4096 < (l.length : Int)) = true := decide_eq_true (by omega)
        clear hR
        go_enter Tryz.func35, Tryz.ntmps35
        go_wp2_with (first | ((with_reducible refine gate_dst (N := 1) rfl ?_); refine box_event ?hg (N := 1) ?hd (cs := #[.slice A0 l.length c0, .int .i64 root]) (t := 24) ?hr ?_; (case hd => rfl); (case hg => rfl); (case hr => first | (go_simp; done) | (go_simp; rfl)); intro gb hg w1 hgb hb1; have HG1 := Lib.hid hgb; have HB1 := Lib.hid hb1; clear hgb hb1 hg; have x0 := (blk_cell HG1.out 0).trans rfl; have x1 := (blk_cell HG1.out 1).trans rfl))
        go_ret
        exact ⟨by rw [HF.out]; first | done | rfl, HB1.out⟩
      · have q1 : decide (4096 < (l.length : Int)) = false := decide_eq_false (by omega)
        by_cases k2 : root < 0
        · have HF : Hid (r = false) := Lib.hid (by rw [← hR]; unfold rightB; rw [if_neg k0, if_neg k1, if_pos k2])
          have q2 : decide (root < 0) = true := decide_eq_true k2
          clear hR
          go_enter Tryz.func35, Tryz.ntmps35
          go_wp2_with (first | ((with_reducible refine gate_dst (N := 1) rfl ?_); refine box_event ?hg (N := 1) ?hd (cs := #[.slice A0 l.length c0, .int .i64 root]) (t := 24) ?hr ?_; (case hd => rfl); (case hg => rfl); (case hr => first | (go_simp; done) | (go_simp; rfl)); intro gb hg w1 hgb hb1; have HG1 := Lib.hid hgb; have HB1 := Lib.hid hb1; clear hgb hb1 hg; have x0 := (blk_cell HG1.out 0).trans rfl; have x1 := (blk_cell HG1.out 1).trans rfl))
          go_ret
          exact ⟨by rw [HF.out]; first | done | rfl, HB1.out⟩
        · have q2 : decide (root < 0) = false := decide_eq_false k2
          by_cases k3 : (l.length : Int) ≤ root
          · have HF : Hid (r = false) := Lib.hid (by rw [← hR]; unfold rightB; rw [if_neg k0, if_neg k1, if_neg k2, if_pos k3])
            have q3 : decide ((l.length : Int) ≤ root) = true := decide_eq_true k3
            clear hR
            go_enter Tryz.func35, Tryz.ntmps35
            go_wp2_with (first | ((with_reducible refine gate_dst (N := 1) rfl ?_); refine box_event ?hg (N := 1) ?hd (cs := #[.slice A0 l.length c0, .int .i64 root]) (t := 24) ?hr ?_; (case hd => rfl); (case hg => rfl); (case hr => first | (go_simp; done) | (go_simp; rfl)); intro gb hg w1 hgb hb1; have HG1 := Lib.hid hgb; have HB1 := Lib.hid hb1; clear hgb hb1 hg; have x0 := (blk_cell HG1.out 0).trans rfl; have x1 := (blk_cell HG1.out 1).trans rfl))
            go_ret
            exact ⟨by rw [HF.out]; first | done | rfl, HB1.out⟩
          · have q3 : decide ((l.length : Int) ≤ root) = false := decide_eq_false k3
            obtain ⟨U, hU⟩ : ∃ U, usesB l l (bump (List.replicate l.length 0) root) = U := ⟨_, rfl⟩
            have HV := Lib.hid (show endB l U = r by rw [← hR, ← hU]; unfold rightB endB; rw [if_neg k0, if_neg k1, if_neg k2, if_neg k3]; first | done | rfl)
            obtain ⟨u0, hu0⟩ : ∃ u, u = List.replicate l.length (0 : Int) := ⟨_, rfl⟩
            rw [← hu0] at hU
            have hul : u0.length = l.length := by rw [hu0, List.length_replicate]
            have HU := Lib.hid hU
            have HU0 := Lib.hid hu0
            have r0 : 0 ≤ root := by omega
            have r1 : root < (l.length : Int) := by omega
            have p1 := eq_true r0
            have p2 := eq_true r1
            have HUA := Lib.hid hU
            have hll : l.length ≤ 4096 := by omega
            clear hR hU hu0 k2 k3
            go_enter Tryz.func35, Tryz.ntmps35
            go_wp2_with (first | ((with_reducible refine gate_dst (N := 1) rfl ?_); refine box_event ?hg (N := 1) ?hd (cs := #[.slice A0 l.length c0, .int .i64 root]) (t := 24) ?hr ?_; (case hd => rfl); (case hg => rfl); (case hr => first | (go_simp; done) | (go_simp; rfl)); intro gb hg w1 hgb hb1; have HG1 := Lib.hid hgb; have HB1 := Lib.hid hb1; clear hgb hb1 hg; have x0 := (blk_cell HG1.out 0).trans rfl; have x1 := (blk_cell HG1.out 1).trans rfl) | ((with_reducible refine gate_dst (N := 36) rfl ?_); refine Kd.R_make (Kd.int .i64) _ 3 rfl (N := 36) rfl 40 _ _ rfl (l.length : Int) rfl rfl Tryz.underlying40 (.int .i64 0) 8 info3 rfl (by decide) (by omega) 0 (ok := fun _ => True) (okp := fun _ => True) rfl (fun _ hk => hk) trivial (by omega) (by omega) (Below.refl _ _) (Nat.le_refl _) ?_; intro v w2 ho hb hg_ hnew_; clear hg_ hnew_; simp only [Int.toNat_natCast] at ho; rw [← HU0.out] at ho; obtain ⟨rb, cp, ev, _, hrb, _, _⟩ := Kd.R_form ho (by omega); subst ev; rw [hul] at ho; have hb2 : Below w2.heap.size w2 (w2.alloc (.cells #[.slice (some ⟨rb, 0, none⟩) l.length cp] 40 (0, 0))) := below_alloc (Below.refl _ _) _; have HUs := Lib.hid (Us.mk ((hb2.block gb (blk_lt ((hb.block gb (blk_lt HG1.out)).trans HG1.out))).trans ((hb.block gb (blk_lt HG1.out)).trans HG1.out)) hul (blk_new w2 _) (Kd.R_below (Kd.R_lower ho HB1.out.size) hb2)); have HB3 := Lib.hid ((HB1.out.trans (hb.mono HB1.out.size)).trans (hb2.mono (HB1.out.trans (hb.mono HB1.out.size)).size)); clear ho hb hb2 HG1 HB1 x0 x1; obtain ⟨y0, y1, y2⟩ := HUs.out.cells; obtain ⟨y3, y4⟩ := HUs.out.at_ root r0 r1; obtain ⟨hu3, hg3⟩ := HUs.out.put root (wrap64 (rd u0 root + 1)); rw [World.setCell_alloc_past _ _ _ _ hrb] at hu3 hg3; have HU3 := Lib.hid hu3; have HB4 := Lib.hid (HB3.out.trans (below_of_grown hg3 HUs.out.base HB3.out.size)); obtain ⟨z0, z1, z2⟩ := hu3.cells; clear hu3 hg3))
            generalize World.alloc _ _ = w5 at HU3 HB4 ⊢
            clear HUs HB3 y0 y1 y2 y3 y4 z0 z1 z2 q0 q1 q2 q3 k0 k1
            go_loopw [47] (fun v wr => ∃ (i : Nat) (u : List Int), v = .int .i64 i ∧ i ≤ l.length ∧ Hid (usesB l (l.drop i) u = U) ∧ Hid (Us w.heap.size gb w2.heap.size rb cp A0 l.length c0 root u wr) ∧ Hid (Below w.heap.size w wr)) (fun v _ => l.length - (intOf v).toNat)
            case atStart => exact ⟨0, _, rfl, by omega, HU, HU3, HB4⟩
            case round =>
              obtain ⟨i, u, rfl, hi, hst, HUR, HBR⟩ := hrel
              clear HU HU3 HB4
              obtain ⟨x0, x1, x2⟩ := HUR.out.cells
              by_cases hlt : i < l.length
              · have hc : decide ((i : Int) < (l.length : Int)) = true := decide_eq_true (by omega)
                have p3 : (0 ≤ (i : Int)) = True := eq_true (by omega)
                have p4 : ((i : Int) < (l.length : Int)) = True := eq_true (by omega)
                obtain ⟨bd, A2, c2, rfl, y0, y1, y2, hc2, hC⟩ := node_cells HBR.out HR.out i hlt
                obtain ⟨hz1, hz2⟩ := HZ.out l[i] (List.getElem_mem hlt)
                have hst2 := hst.out
                rw [List.drop_eq_getElem_cons hlt, usesB] at hst2
                generalize l[i] = n at *
                obtain ⟨kd, tt, kids⟩ := n
                dsimp only at y0 y1 y2 hc2 hC hz1 hz2 hst2
                have HC := Lib.hid hC
                have hb8 : Below wr.heap.size wr (wr.alloc (.cells #[.int .i64 kd, .string tt, .slice A2 kids.length c2] 45 (0, 0))) := below_alloc (Below.refl _ _) _
                have hk8 : (wr.alloc (.cells #[.int .i64 kd, .string tt, .slice A2 kids.length c2] 45 (0, 0))).heap[wr.heap.size]? = some (.cells #[.int .i64 kd, .string tt, .slice A2 kids.length c2] 45 (0, 0)) := blk_new wr _
                have HU8 := Lib.hid (HUR.out.below hb8)
                have HB8 := Lib.hid (HBR.out.trans (hb8.mono HBR.out.size))
                have HK8 := Lib.hid hk8
                obtain ⟨z0, z1, z2⟩ := HU8.out.cells
                clear hC hb8 hk8 HUR HBR
                cases hN : isN l ⟨kd, tt, kids⟩ with
                | false =>
                  have HN := Lib.hid (show nodeB l ⟨kd, tt, kids⟩ (textB kd tt) (keysB kd kids) = false from hN)
                  have HF : Hid (r = false) := Lib.hid (by rw [← HV.out]; rw [hN, if_neg Bool.false_ne_true] at hst2; rw [← hst2]; rfl)
                  clear hst hst2 hN
                  go_wp2_with (first | (go_at_call 50; refine (isNode_is 1 (kids.length + 2) _ c0 l root ⟨kd, tt, kids⟩ A2 c2 (textB kd tt) (keysB kd kids) _ (Kd.C_below HR.out HB8.out) hc0 (Kd.C_below HC.out HB8.out) hc2 (hG.below HB8.out) (fun _ _ => isText_of 0 kd tt hz1) (keys_of kd tt kids hz2 _ (by omega)) (fun m hm => Nat.le_trans (HZ.out m hm).1 (by omega)) (Nat.le_trans (keys_len kd kids) hz2) (keys_sub kd kids)).mono ?_; rw [HN.out]; rintro e w9 ⟨rfl, hb9⟩; have HU9 := Lib.hid (HU8.out.below hb9); have HK9 := Lib.hid ((hb9.block _ (blk_lt HK8.out)).trans HK8.out); have HB9 := Lib.hid (HB8.out.trans (hb9.mono HB8.out.size)); clear hb9 HU8 HK8 HB8; have q0 := (blk_cell HK9.out 0).trans rfl; have q1 := (blk_cell HK9.out 1).trans rfl; have q2 := (blk_cell HK9.out 2).trans rfl))
                  go_ret
                  exact ⟨by rw [HF.out]; first | done | rfl, HB9.out⟩
                | true =>
                  have HN := Lib.hid (show nodeB l ⟨kd, tt, kids⟩ (textB kd tt) (keysB kd kids) = true from hN)
                  have HST := Lib.hid (show usesB l (l.drop (i + 1)) (kids.foldl bump u) = U by rw [hN, if_pos rfl] at hst2; exact hst2)
                  have HRG := Lib.hid (isN_range hN)
                  have HLO := Lib.hid hlt
                  clear hst hst2 hN
                  go_wp2_with (first | (go_at_call 50; refine (isNode_is 1 (kids.length + 2) _ c0 l root ⟨kd, tt, kids⟩ A2 c2 (textB kd tt) (keysB kd kids) _ (Kd.C_below HR.out HB8.out) hc0 (Kd.C_below HC.out HB8.out) hc2 (hG.below HB8.out) (fun _ _ => isText_of 0 kd tt hz1) (keys_of kd tt kids hz2 _ (by omega)) (fun m hm => Nat.le_trans (HZ.out m hm).1 (by omega)) (Nat.le_trans (keys_len kd kids) hz2) (keys_sub kd kids)).mono ?_; rw [HN.out]; rintro e w9 ⟨rfl, hb9⟩; have HU9 := Lib.hid (HU8.out.below hb9); have HK9 := Lib.hid ((hb9.block _ (blk_lt HK8.out)).trans HK8.out); have HB9 := Lib.hid (HB8.out.trans (hb9.mono HB8.out.size)); clear hb9 HU8 HK8 HB8; have q0 := (blk_cell HK9.out 0).trans rfl; have q1 := (blk_cell HK9.out 1).trans rfl; have q2 := (blk_cell HK9.out 2).trans rfl))
                  clear x0 x1 x2 y0 y1 y2 z0 z1 z2 q0 q1 q2
                  go_loopw [58] (fun v wr => ∃ (j : Nat) (u2 : List Int), v = .int .i64 j ∧ j ≤ kids.length ∧ Hid ((kids.drop j).foldl bump u2 = kids.foldl bump u) ∧ Hid (Us w.heap.size gb w2.heap.size rb cp (some bd) l.length c0 root u2 wr) ∧ Hid (Below w.heap.size w wr)) (fun v _ => kids.length - (intOf v).toNat)
                  case atStart => exact ⟨0, u, rfl, by omega, Lib.hid rfl, HU9, HB9⟩
                  case round =>
                    obtain ⟨j, u2, rfl, hj, hst, HUR, HBR⟩ := hrel
                    clear HU9 HB9 HK9
                    obtain ⟨x0, x1, x2⟩ := HUR.out.cells
                    by_cases hlt2 : j < kids.length
                    · have hd : decide ((j : Int) < (kids.length : Int)) = true := decide_eq_true (by omega)
                      obtain ⟨cd, rfl, hx⟩ := Kd.at_int (Kd.C_below HC.out HBR.out) (j : Int) (by omega) (by omega)
                      rw [rd_at kids j hlt2, Int.toNat_natCast] at hx
                      obtain ⟨j0, j1⟩ := HRG.out kids[j] (List.getElem_mem hlt2)
                      have hst2 := hst.out
                      rw [List.drop_eq_getElem_cons hlt2, List.foldl_cons] at hst2
                      have HS := Lib.hid hst2
                      clear hst hst2
                      generalize kids[j] = k at *
                      obtain ⟨y3, y4⟩ := HUR.out.at_ k j0 j1
                      obtain ⟨hu3, hg3⟩ := HUR.out.put k (wrap64 (rd u2 k + 1))
                      have HU3 := Lib.hid hu3
                      have HB3 := Lib.hid (HBR.out.trans (below_of_grown hg3 HUR.out.base HBR.out.size))
                      have p5 : (0 ≤ k) = True := eq_true j0
                      have p6 : (k < (l.length : Int)) = True := eq_true j1
                      have p7 : (0 ≤ (j : Int)) = True := eq_true (by omega)
                      have p8 : ((j : Int) < (kids.length : Int)) = True := eq_true (by omega)
                      have HL := Lib.hid hlt2
                      clear hu3 hg3 HUR HBR
                      go_wp2
                      go_roundw
                      case rel => have := HL.out; exact ⟨j + 1, bump u2 k, by go_num, HL.out, HS, HU3, HB3⟩
                      case measure => have := HL.out; simp [intOf]; omega
                    · have hd : decide ((j : Int) < (kids.length : Int)) = false := decide_eq_false (by omega)
                      have hst2 := hst.out
                      rw [List.drop_of_length_le (by omega), List.foldl_nil] at hst2
                      subst hst2
                      clear hst
                      go_wp2
                      go_roundw
                      case rel => have := HLO.out; exact ⟨i + 1, _, by go_num, HLO.out, HST, HUR, HBR⟩
                      case measure => have := HLO.out; simp [intOf]; omega
              · have hc : decide ((i : Int) < (l.length : Int)) = false := decide_eq_false (by omega)
                have hst2 := hst.out
                rw [List.drop_of_length_le (by omega), usesB] at hst2
                subst hst2
                have HVS := Lib.hid (show soleB u l = r from HV.out)
                have HALL := Lib.hid (usesB_all l l _ _ HUA.out)
                clear hst
                go_wp2
                clear x0 x1 x2 hc
                go_loopw [73] (fun v wr => ∃ i : Nat, v = .int .i64 i ∧ i ≤ l.length ∧ Hid (soleB u (l.drop i) = r) ∧ Hid (Us w.heap.size gb w2.heap.size rb cp A0 l.length c0 root u wr) ∧ Hid (Below w.heap.size w wr)) (fun v _ => l.length - (intOf v).toNat)
                case atStart => exact ⟨0, rfl, by omega, HVS, HUR, HBR⟩
                case round =>
                  clear HUR HBR HVS hlt hi
                  obtain ⟨i, rfl, hi, hst, HUR, HBR⟩ := hrel
                  obtain ⟨x0, x1, x2⟩ := HUR.out.cells
                  by_cases hlt : i < l.length
                  · have hc : decide ((i : Int) < (l.length : Int)) = true := decide_eq_true (by omega)
                    have p3 : (0 ≤ (i : Int)) = True := eq_true (by omega)
                    have p4 : ((i : Int) < (l.length : Int)) = True := eq_true (by omega)
                    obtain ⟨bd, A2, c2, rfl, y0, y1, y2, hc2, hC⟩ := node_cells HBR.out HR.out i hlt
                    obtain ⟨hz1, hz2⟩ := HZ.out l[i] (List.getElem_mem hlt)
                    have hst2 := hst.out
                    rw [List.drop_eq_getElem_cons hlt, soleB] at hst2
                    have HNR := Lib.hid (HALL.out l[i] (List.getElem_mem hlt))
                    generalize l[i] = n at *
                    obtain ⟨kd, tt, kids⟩ := n
                    dsimp only at y0 y1 y2 hc2 hC hz1 hz2 hst2
                    have HC := Lib.hid hC
                    have hb8 : Below wr.heap.size wr (wr.alloc (.cells #[.int .i64 kd, .string tt, .slice A2 kids.length c2] 45 (0, 0))) := below_alloc (Below.refl _ _) _
                    have hk8 : (wr.alloc (.cells #[.int .i64 kd, .string tt, .slice A2 kids.length c2] 45 (0, 0))).heap[wr.heap.size]? = some (.cells #[.int .i64 kd, .string tt, .slice A2 kids.length c2] 45 (0, 0)) := blk_new wr _
                    have HU8 := Lib.hid (HUR.out.below hb8)
                    have HB8 := Lib.hid (HBR.out.trans (hb8.mono HBR.out.size))
                    have HK8 := Lib.hid hk8
                    obtain ⟨z0, z1, z2⟩ := HU8.out.cells
                    clear hC hb8 hk8 HUR HBR
                    have q0 := (blk_cell HK8.out 0).trans rfl
                    have q1 := (blk_cell HK8.out 1).trans rfl
                    have q2 := (blk_cell HK8.out 2).trans rfl
                    have HKR := Lib.hid (show ∀ x ∈ keysB kd kids, 0 ≤ x ∧ x < (l.length : Int) from fun x hx => isN_range HNR.out x (keys_sub kd kids x hx))
                    cases hN : soleN u ⟨kd, tt, kids⟩ with
                    | true =>
                      have HSO := Lib.hid (show (keysB kd kids).any (fun k => decide (rd u k > 1)) = true from hN)
                      have HF : Hid (r = false) := Lib.hid (by rw [hN, if_pos rfl] at hst2; exact hst2.symm)
                      clear hst hst2 hN
                      go_wp2_with (first | (go_at_call 52; refine (graph_keys.calls (kids.length + 2) kd tt A2 c2 kids _ _ (Kd.C_below HC.out HB8.out) hc2 (hG.below HB8.out) (keys_of kd tt kids hz2 _ (by omega))).mono ?_; rintro e w9 ⟨v, rfl, hv, hb9⟩; obtain ⟨Ak, ck, ek⟩ := Kd.R_slice hv; subst ek; have HU9 := Lib.hid (HU8.out.below hb9); have HB9 := Lib.hid (HB8.out.trans (hb9.mono HB8.out.size)); have HCK := Lib.hid (Kd.R_reads' hv).2.2; clear hv hb9 HU8 HB8) | (go_at_call 51; refine (contains_any 53 more_enters _ (fun k => decide (rd u k > 1)) Ak ck (keysB kd kids) _ HCK.out (fun x w' hx hb => more_is x _ gb _ rb cp _ l.length c0 root u w' (HU9.out.below hb) (HKR.out x hx).1 (HKR.out x hx).2)).mono ?_; rw [HSO.out]; rintro e w10 ⟨rfl, hb10⟩; have HU10 := Lib.hid (HU9.out.below hb10); have HB10 := Lib.hid (HB9.out.trans (hb10.mono HB9.out.size)); clear hb10 HU9 HB9))
                      go_ret
                      exact ⟨by rw [HF.out]; first | done | rfl, HB10.out⟩
                    | false =>
                      have HSO := Lib.hid (show (keysB kd kids).any (fun k => decide (rd u k > 1)) = false from hN)
                      have HST := Lib.hid (show soleB u (l.drop (i + 1)) = r by rw [hN, if_neg Bool.false_ne_true] at hst2; exact hst2)
                      have HL := Lib.hid hlt
                      clear hst hst2 hN
                      go_wp2_with (first | (go_at_call 52; refine (graph_keys.calls (kids.length + 2) kd tt A2 c2 kids _ _ (Kd.C_below HC.out HB8.out) hc2 (hG.below HB8.out) (keys_of kd tt kids hz2 _ (by omega))).mono ?_; rintro e w9 ⟨v, rfl, hv, hb9⟩; obtain ⟨Ak, ck, ek⟩ := Kd.R_slice hv; subst ek; have HU9 := Lib.hid (HU8.out.below hb9); have HB9 := Lib.hid (HB8.out.trans (hb9.mono HB8.out.size)); have HCK := Lib.hid (Kd.R_reads' hv).2.2; clear hv hb9 HU8 HB8) | (go_at_call 51; refine (contains_any 53 more_enters _ (fun k => decide (rd u k > 1)) Ak ck (keysB kd kids) _ HCK.out (fun x w' hx hb => more_is x _ gb _ rb cp _ l.length c0 root u w' (HU9.out.below hb) (HKR.out x hx).1 (HKR.out x hx).2)).mono ?_; rw [HSO.out]; rintro e w10 ⟨rfl, hb10⟩; have HU10 := Lib.hid (HU9.out.below hb10); have HB10 := Lib.hid (HB9.out.trans (hb10.mono HB9.out.size)); clear hb10 HU9 HB9))
                      go_roundw
                      case rel => have := HL.out; exact ⟨i + 1, by go_num, HL.out, HST, HU10, HB10⟩
                      case measure => have := HL.out; simp [intOf]; omega
                  · have hc : decide ((i : Int) < (l.length : Int)) = false := decide_eq_false (by omega)
                    have hst2 := hst.out
                    rw [List.drop_of_length_le (by omega), soleB] at hst2
                    have HF : Hid (r = true) := Lib.hid hst2.symm
                    clear hst hst2
                    go_wp2
                    go_ret
                    exact ⟨by rw [HF.out]; first | done | rfl, HBR.out⟩
  · rw [if_neg hz] at h; cases h
theorem cell_al {w : World} {o : Obj} {a : Addr} {v : Value} (h : w.cell? a = some v) : (w.alloc o).cell? a = some v := ((below_alloc (Below.refl _ _) o).cell (World.block_lt_of_cell? w _ h)).trans h
end Go.Proofs.YtnjcpoojgmpmeaaGreatDoor.Plug
namespace Go.Proofs.YtnjcpoojgmpmeaaGreatDoor.Graphs
open RowKit YtnjcpoojgmpmeaaGreatDoor YtnjcpoojgmpmeaaGreatDoor.PX YtnjcpoojgmpmeaaGreatDoor.Plug YtnjcpoojgmpmeaaGreatDoor.Mapk YtnjcpoojgmpmeaaGreatDoorW.PrintWords YtnjcpoojgmpmeaaGreatDoorW.PrintLast
abbrev Nd := S45
theorem rd_set_ (u : List Int) (k j v : Int) (hk0 : 0 ≤ k) (hk1 : k < (u.length : Int)) (hj : 0 ≤ j) : rd (u.set k.toNat v) j = if j = k then v else rd u j := by
 unfold rd
 rw [List.getD_eq_getElem?_getD, List.getD_eq_getElem?_getD, List.getElem?_set]
 by_cases h : j = k
 rotate_left
 · rw [if_neg (by omega), if_neg h]
 subst h; rw [if_pos rfl, if_pos rfl, if_pos (by omega)]; rfl
theorem bumps_rd : ∀ (ks : List Int) (u : List Int) (j : Int), (∀ k ∈ ks, 0 ≤ k ∧ k < (u.length : Int)) → 0 ≤ j → 0 ≤ rd u j → rd u j + ks.length < 4611686018427387904 → rd (ks.foldl bump u) j = rd u j + (ks.count j : Nat)
 | [], u, j, _, _, _, _ => by simp
 | k :: ks, u, j, hk, hj, h0, h1 => by
  obtain ⟨k0, k1⟩ := hk k List.mem_cons_self
  simp only [List.length_cons] at h1
  have e : rd (bump u k) j = if j = k then rd u j + 1 else rd u j := by
   unfold bump
   rw [rd_set_ u k j _ k0 k1 hj]
   split
   · rename_i e; subst e; unfold wrap64; omega
   · rfl
  rw [List.foldl_cons, bumps_rd ks (bump u k) j (fun x hx => by rw [bump_len]; exact hk x (List.mem_cons_of_mem _ hx)) hj (by rw [e]; split <;> omega) (by rw [e]; split <;> omega), e, List.count_cons]
  by_cases h : j = k
  · subst h; simp; omega
  have : (k == j) = false := beq_eq_false_iff_ne.2 (fun q => h q.symm)
  simp [h, this]
def cntL (r : List Nd) (j : Int) : Nat := (r.map fun n => n.f2.count j).sum
def allL (r : List Nd) : Nat := (r.map fun n => n.f2.length).sum
theorem usesB_rd (l : List Nd) : ∀ (r : List Nd) (u v : List Int) (j : Int), usesB l r u = some v → u.length = l.length → 0 ≤ j → 0 ≤ rd u j → rd u j + allL r < 4611686018427387904 → rd v j = rd u j + (cntL r j : Nat)
 | [], u, v, j, h, _, _, _, _ => by rw [usesB] at h; cases h; simp [cntL]
 | n :: r, u, v, j, h, hu, hj, h0, h1 => by
  rw [usesB] at h
  by_cases c : isN l n = true
  rotate_left
  · rw [if_neg c] at h; cases h
  rw [if_pos c] at h
  have ha : allL (n :: r) = n.f2.length + allL r := by simp [allL]
  have hc : cntL (n :: r) j = n.f2.count j + cntL r j := by simp [cntL]
  have hcl : n.f2.count j ≤ n.f2.length := List.count_le_length
  have e := bumps_rd n.f2 u j (fun k hk => by rw [hu]; exact isN_range c k hk) hj h0 (by omega)
  rw [usesB_rd l r _ v j h (by rw [bumps_len]; exact hu) hj (by omega) (by omega), e, hc]
  omega
theorem usesB_some (l : List Nd) : ∀ (r : List Nd) (u : List Int), (∀ n ∈ r, isN l n = true) → ∃ v, usesB l r u = some v
 | [], u, _ => ⟨u, rfl⟩
 | n :: r, u, h => by
  rw [usesB, if_pos (h n List.mem_cons_self)]
  exact usesB_some l r _ (fun m hm => h m (List.mem_cons_of_mem _ hm))
theorem soleB_iff (u : List Int) : ∀ r : List Nd, soleB u r = true ↔ ∀ n ∈ r, ∀ k ∈ keysB n.f0 n.f2, rd u k ≤ 1
 | [] => by simp [soleB]
 | n :: r => by
  rw [soleB]
  by_cases c : soleN u n = true
  ·
   rw [if_pos c]
   refine ⟨fun h => (by cases h), fun h => ?_⟩
   unfold soleN at c
   obtain ⟨k, hk, hd⟩ := List.any_eq_true.1 c
   have := h n List.mem_cons_self k hk
   have := of_decide_eq_true hd
   omega
  rw [if_neg c, soleB_iff u r]
  have c2 := List.any_eq_false.1 (Bool.eq_false_iff.2 c)
  refine ⟨fun h m hm => ?_, fun h m hm => h m (List.mem_cons_of_mem _ hm)⟩
  rcases List.mem_cons.1 hm with e | e
  ·
   subst e
   intro k hk
   have := c2 k hk
   simp at this
   omega
  · exact h m e
theorem all_le (l : List Nd) (N : Nat) (h : ∀ m ∈ l, m.f2.length ≤ N) : allL l ≤ l.length * N := by
 induction l with
 | nil => simp [allL]
 | cons n r ih =>
  have := ih (fun m hm => h m (List.mem_cons_of_mem _ hm))
  have := h n List.mem_cons_self
  simp only [allL, List.map_cons, List.sum_cons, List.length_cons] at *
  rw [Nat.add_mul]; omega
structure RightG (l : List Nd) (root : Int) : Prop where
 ne : l.length ≠ 0
 le : l.length ≤ 4096
 r0 : 0 ≤ root
 r1 : root < (l.length : Int)
 is : ∀ n ∈ l, isN l n = true
 sole : ∀ n ∈ l, ∀ k ∈ keysB n.f0 n.f2, cntL l k + (if k = root then 1 else 0) ≤ 1
theorem sizes_iff {l : List Nd} (hs : sizesB l = true) : ∀ m ∈ l, m.f1.size ≤ 1099511627775 ∧ m.f2.length ≤ 1099511627776 := fun m hm => by
 have := List.all_eq_true.1 hs m hm
 simp at this
 exact this
theorem right_iff (l : List Nd) (root : Int) (hs : sizesB l = true) : rightB l root = true ↔ RightG l root := by
 unfold rightB
 by_cases k0 : l.length = 0
 · rw [if_pos k0]; exact ⟨fun h => (by cases h), fun h => absurd k0 h.ne⟩
 rw [if_neg k0]
 by_cases k1 : 4096 < l.length
 · rw [if_pos k1]; exact ⟨fun h => (by cases h), fun h => absurd h.le (by omega)⟩
 rw [if_neg k1]
 by_cases k2 : root < 0
 · rw [if_pos k2]; exact ⟨fun h => (by cases h), fun h => absurd h.r0 (by omega)⟩
 rw [if_neg k2]
 by_cases k3 : (l.length : Int) ≤ root
 · rw [if_pos k3]; exact ⟨fun h => (by cases h), fun h => absurd h.r1 (by omega)⟩
 rw [if_neg k3]
 have hal : allL l ≤ 4096 * 1099511627776 := Nat.le_trans (all_le l _ (fun m hm => (sizes_iff hs m hm).2)) (Nat.mul_le_mul_right _ (by omega))
 have e0 : ∀ j : Int, 0 ≤ j → rd (bump (List.replicate l.length 0) root) j = if j = root then 1 else 0 := fun j hj => by
  have := bumps_rd [root] (List.replicate l.length 0) j (fun k hk => by rw [List.mem_singleton.1 hk, List.length_replicate]; omega) hj (by unfold rd; simp [List.getD_eq_getElem?_getD, List.getElem?_replicate]; split <;> simp) (by unfold rd; simp [List.getD_eq_getElem?_getD, List.getElem?_replicate]; split <;> simp)
  rw [List.foldl_cons, List.foldl_nil] at this
  rw [this]
  have z : rd (List.replicate l.length 0) j = 0 := by unfold rd; simp [List.getD_eq_getElem?_getD, List.getElem?_replicate]; split <;> simp
  rw [z]
  by_cases e : j = root
  · subst e; simp
  have : (root == j) = false := beq_eq_false_iff_ne.2 (fun q => e q.symm)
  simp [e, List.count_cons, this]
 have e1 : ∀ v, usesB l l (bump (List.replicate l.length 0) root) = some v → ∀ j : Int, 0 ≤ j → rd v j = (if j = root then 1 else 0) + (cntL l j : Nat) := fun v hv j hj => by
  have := usesB_rd l l _ v j hv (by rw [bump_len, List.length_replicate]) hj (by rw [e0 j hj]; split <;> omega) (by rw [e0 j hj]; split <;> omega)
  rw [this, e0 j hj]
 constructor
 ·
  intro h
  split at h
  · cases h
  ·
   rename_i u hu
   refine ⟨k0, by omega, by omega, by omega, usesB_all l l _ u hu, fun n hn k hk => ?_⟩
   have h1 := (soleB_iff u l).1 h n hn k hk
   have h2 := isN_range (usesB_all l l _ u hu n hn) k (keys_sub _ _ k hk)
   rw [e1 u hu k h2.1] at h1
   split at h1 <;> rename_i h3
   · rw [if_pos h3]; omega
   · rw [if_neg h3]; omega
 ·
  intro h
  obtain ⟨u, hu⟩ := usesB_some l l (bump (List.replicate l.length 0) root) h.is
  rw [hu]
  refine (soleB_iff u l).2 fun n hn k hk => ?_
  have h1 := h.sole n hn k hk
  have h2 := isN_range (h.is n hn) k (keys_sub _ _ k hk)
  rw [e1 u hu k h2.1]
  split at h1 <;> rename_i h3
  · rw [if_pos h3]; omega
  · rw [if_neg h3]; omega
theorem metB_keys (l : List Nd) : ∀ (ks : List Int) (met : List (Int × ByteArray)), metB l ks met = true → (ks.map (keyIs l)).Nodup ∧ ∀ k ∈ ks, scB (rd_T45 l k).f0 = true ∧ keyIs l k ∉ met
 | [], _, _ => ⟨List.nodup_nil, fun k h => by simp at h⟩
 | k :: ks, met, h => by
  rw [metB] at h
  by_cases h1 : scB (rd_T45 l k).f0 = true
  rotate_left
  · rw [if_neg h1] at h; cases h
  rw [if_pos h1] at h
  by_cases h2 : met.any (fun y => decide (y = keyIs l k)) = true
  · rw [if_pos h2] at h; cases h
  rw [if_neg h2] at h
  obtain ⟨a, b⟩ := metB_keys l ks _ h
  have h3 : keyIs l k ∉ met := fun hm => h2 (List.any_eq_true.2 ⟨_, hm, decide_eq_true rfl⟩)
  refine ⟨?_, fun x hx => ?_⟩
  ·
   rw [List.map_cons, List.nodup_cons]
   refine ⟨fun hm => ?_, a⟩
   obtain ⟨y, hy, e⟩ := List.mem_map.1 hm
   exact (b y hy).2 (e ▸ List.mem_cons_self)
  ·
   rcases List.mem_cons.1 hx with e | e
   · subst e; exact ⟨h1, h3⟩
   · exact ⟨(b x e).1, fun hm => (b x e).2 (List.mem_cons_of_mem _ hm)⟩
structure NodeG (l : List Nd) (n : Nd) : Prop where
 k1 : 1 ≤ n.f0
 k6 : n.f0 ≤ 6
 text : textB n.f0 n.f1 = true
 scal : n.f0 ≤ 4 → n.f2 = []
 even : n.f0 = 6 → n.f2.length % 2 = 0
 range : ∀ k ∈ n.f2, 0 ≤ k ∧ k < (l.length : Int)
 nodup : ((keysB n.f0 n.f2).map (keyIs l)).Nodup
 keys : ∀ k ∈ keysB n.f0 n.f2, 1 ≤ (rd_T45 l k).f0 ∧ (rd_T45 l k).f0 ≤ 4
theorem isN_node {l : List Nd} {n : Nd} (h : isN l n = true) : NodeG l n := by
 have hr := isN_range h
 unfold isN nodeB at h
 split at h; · cases h
 split at h; · cases h
 split at h; · cases h
 split at h; · cases h
 split at h; · cases h
 rename_i h1 h2 h3 h4 h5
 obtain ⟨a, b⟩ := metB_keys l _ _ h
 have h4' := Bool.eq_false_iff.2 h4
 rw [Bool.or_eq_false_iff] at h4'
 refine ⟨by omega, by omega, by simpa using h3, fun h => ?_, fun h => ?_, hr, a, fun k hk => ?_⟩
 ·
  have h6 := h4'.1
  have : scB n.f0 = true := by unfold scB; rw [decide_eq_true (by omega : 1 ≤ n.f0), decide_eq_true h]; rfl
  rw [this, Bool.true_and, decide_eq_false_iff_not] at h6
  exact List.eq_nil_of_length_eq_zero (by omega)
 ·
  have h6 := h4'.2
  rw [h] at h6
  simp at h6
  exact h6
 ·
  have := (b k hk).1
  unfold scB at this
  rw [Bool.and_eq_true, decide_eq_true_eq, decide_eq_true_eq] at this
  exact this
theorem RightG.node {l : List Nd} {root : Int} (h : RightG l root) {n : Nd} (hn : n ∈ l) : NodeG l n := isN_node (h.is n hn)
end Go.Proofs.YtnjcpoojgmpmeaaGreatDoor.Graphs
namespace Go.Proofs.YtnjcpoojgmpmeaaGreatDoor.Plug
open RowKit YtnjcpoojgmpmeaaGreatDoor YtnjcpoojgmpmeaaGreatDoor.PX YtnjcpoojgmpmeaaGreatDoor.Utf YtnjcpoojgmpmeaaGreatDoor.Mapk YtnjcpoojgmpmeaaGreatDoor.Graphs YtnjcpoojgmpmeaaGreatDoorW.PrintWords YtnjcpoojgmpmeaaGreatDoorW.PrintLast YtnjcpoojgmpmeaaGreatDoorW.PrintMore
attribute [local go_sem] max2_int max_two
abbrev WS := List Bool × List Int × Int
def goO (l : List Nd) : Nat → Int → Int → WS → Option WS
 | 0, _, _, _ => none
 | k + 1, at_, deep, s => if rdOf false s.1 at_ = true then some s else
  (rd_T45 l at_).f2.foldlM (fun s x => goO l k x (deep + 1) s) (s.1.set at_.toNat true, s.2.1 ++ [at_], if s.2.2 < deep then deep else s.2.2)
structure Wk (w0 : World) (wb mb cp : Nat) (A0 : Option Addr) (n0 c0 : Nat) (root : Int) (vo : Value) (s : WS) (w : World) : Prop where
 b : w.heap[wb]? = some (.cells #[.slice A0 n0 c0, .int .i64 root, .slice (some ⟨mb, 0, none⟩) n0 cp, vo, .int .i64 s.2.2] 79 (0, 0))
 len : s.1.length = n0
 row : Kd.R Kd.bool 4 w w0.heap.size (fun _ => True) (.slice (some ⟨mb, 0, none⟩) n0 cp) s.1
 out : Kd.R (Kd.int .i64) 3 w w0.heap.size (fun _ => True) vo s.2.1
 bel : Below w0.heap.size w0 w
 ge : w0.heap.size ≤ wb
 cnt : s.2.1.length = s.1.count true
section
variable {w0 : World} {wb mb cp : Nat} {A0 : Option Addr} {n0 c0 : Nat} {root : Int} {vo : Value} {m : List Bool} {o : List Int} {x : Int} {w w' : World}
theorem Wk.cells (h : Wk w0 wb mb cp A0 n0 c0 root vo (m, o, x) w) : w.cell? ⟨wb, 0, none⟩ = some (.slice A0 n0 c0) ∧ w.cell? ⟨wb, 1, none⟩ = some (.int .i64 root) ∧ w.cell? ⟨wb, 2, none⟩ = some (.slice (some ⟨mb, 0, none⟩) n0 cp) ∧ w.cell? ⟨wb, 3, none⟩ = some vo ∧ w.cell? ⟨wb, 4, none⟩ = some (.int .i64 x) :=
  ⟨(blk_cell h.b 0).trans rfl, (blk_cell h.b 1).trans rfl, (blk_cell h.b 2).trans rfl, (blk_cell h.b 3).trans rfl, (blk_cell h.b 4).trans rfl⟩
theorem Wk.at_ (h : Wk w0 wb mb cp A0 n0 c0 root vo (m, o, x) w) (k : Int) (h0 : 0 ≤ k) (h1 : k < (n0 : Int)) : w.cell? ⟨mb, k.toNat, none⟩ = some (.bool (rdOf false m k)) ∧ w.frozen? ⟨mb, k.toNat, none⟩ = false :=
  Kd.R_celln false h.row k h0 h1
theorem Wk.ne (h : Wk w0 wb mb cp A0 n0 c0 root vo (m, o, x) w) : wb ≠ mb := fun e => Kd.R_ne h.row h.b (by decide) (by rw [e]; rfl)
theorem Wk.mark (h : Wk w0 wb mb cp A0 n0 c0 root vo (m, o, x) w) (k : Int) :
  w.grownBy (w.setCell ⟨mb, k.toNat, none⟩ (.bool true)) (some mb) ∧ (w.setCell ⟨mb, k.toNat, none⟩ (.bool true)).heap[wb]? = some (.cells #[.slice A0 n0 c0, .int .i64 root, .slice (some ⟨mb, 0, none⟩) n0 cp, vo, .int .i64 x] 79 (0, 0)) ∧
  Kd.R Kd.bool 4 (w.setCell ⟨mb, k.toNat, none⟩ (.bool true)) w0.heap.size (fun _ => True) (.slice (some ⟨mb, 0, none⟩) n0 cp) (m.set k.toNat true) ∧ Kd.R (Kd.int .i64) 3 (w.setCell ⟨mb, k.toNat, none⟩ (.bool true)) w0.heap.size (fun _ => True) vo o ∧ Below w0.heap.size w0 (w.setCell ⟨mb, k.toNat, none⟩ (.bool true)) := by
 obtain ⟨h1, hg⟩ := Kd.R_putg h.row k true
 exact ⟨hg, (hg.block wb (blk_lt h.b) (fun e => h.ne (Option.some.inj e))).trans h.b, h1, Kd.R_over h.out h.row (by decide) hg, h.bel.trans (below_of_grown hg (Kd.R_base h.row mb rfl) h.bel.size)⟩
theorem count_set : ∀ (m : List Bool) (k : Nat), k < m.length → m.getD k false = false → (m.set k true).count true = m.count true + 1
 | [], k, h, _ => by simp at h
 | b :: m, 0, _, hb => by
  have : b = false := by simpa using hb
  subst this; simp
 | b :: m, k + 1, h, hb => by
  have := count_set m k (by simpa using h) (by simpa using hb)
  rw [List.set_cons_succ, List.count_cons, List.count_cons, this]; omega
end
set_option maxHeartbeats 8000000 in
set_option maxRecDepth 100000 in
theorem to_is (w0 : World) (wb mb cp : Nat) (A0 : Option Addr) (c0 : Nat) (l : List Nd) (root : Int) (hr : Kd.C k45 w0 A0 l.length l) (hl : l.length ≤ 4096) (hz : ∀ n ∈ l, n.f2.length ≤ 1099511627776) (hk : ∀ n ∈ l, ∀ k ∈ n.f2, 0 ≤ k ∧ k < (l.length : Int)) :
  ∀ (k : Nat) (at_ deep : Int) (vo : Value) (s s' : WS) (w : World), Wk w0 wb mb cp A0 l.length c0 root vo s w → goO l k at_ deep s = some s' → 0 ≤ at_ → at_ < (l.length : Int) → 0 ≤ deep → deep + k ≤ 4611686018427387904 →
   Calls Tryz.prog 54 #[.pointer (some ⟨wb, 0, none⟩), .int .i64 at_, .int .i64 deep] w fun e w' => e = .returned (.tuple #[]) ∧ ∃ vo', Wk w0 wb mb cp A0 l.length c0 root vo' s' w' := by
 intro k
 induction k with
 | zero => intro at_ deep vo s s' w _ h; simp [goO] at h
 | succ k ih =>
  intro at_ deep vo s s' w hW h h0 h1 hd0 hd1
  obtain ⟨m, o, x⟩ := s
  rw [goO] at h
  dsimp only at h
  have HR := Lib.hid hr
  have HW := Lib.hid hW
  have HZ := Lib.hid hz
  have HKK := Lib.hid hk
  have HIH := Lib.hid ih
  clear hr hW hz hk ih
  obtain ⟨x0, x1, x2, x3, x4⟩ := HW.out.cells
  obtain ⟨y0, y1⟩ := HW.out.at_ at_ h0 h1
  have p1 : (0 ≤ at_) = True := eq_true h0
  have p2 : (at_ < (l.length : Int)) = True := eq_true h1
  by_cases hm : rdOf false m at_ = true
  ·
   rw [if_pos hm] at h
   have HF := Lib.hid (Option.some.inj h)
   rw [hm] at y0
   clear h hm
   go_enter Tryz.func54, Tryz.ntmps54
   go_wp2
   (try simp only [Exit.inBlock, Exit.then])
   refine bodyPost_ret (results_none rfl _ _ _) rfl ?_
   exact ⟨rfl, vo, by rw [← HF.out]; exact HW.out⟩
  rw [if_neg hm] at h
  have HS := Lib.hid h
  have hm' := Bool.eq_false_iff.2 hm
  rw [hm'] at y0
  have hmem := rd_mem l at_ h0 h1
  obtain ⟨bd, A2, c2, eA, _, _, g2, hc2, hC⟩ := at_T45 HR.out at_ h0 h1
  subst eA
  have hkr := HKK.out _ hmem
  have hkz := HZ.out _ hmem
  generalize (rd_T45 l at_).f2 = kids at *
  have HC := Lib.hid hC
  have HKR := Lib.hid hkr
  obtain ⟨hg, hb, hro, hou, hbl⟩ := HW.out.mark at_
  have hcs : (m.set at_.toNat true).count true = m.count true + 1 := count_set m at_.toNat (by have := HW.out.len; dsimp only at this; omega) hm'
  have hol : o.length = m.count true := HW.out.cnt
  have hml : m.length = l.length := HW.out.len
  have hcl : m.count true ≤ m.length := List.count_le_length
  have HBK := Lib.hid hb
  have HRO := Lib.hid hro
  have HOU := Lib.hid hou
  have HBL := Lib.hid hbl
  have HGE := Lib.hid HW.out.ge
  have HCN := Lib.hid (show (o ++ [at_]).length = (m.set at_.toNat true).count true by rw [List.length_append, List.length_singleton, hcs]; omega)
  have HLN := Lib.hid (show (m.set at_.toNat true).length = l.length by rw [List.length_set]; exact hml)
  have z0 := (blk_cell hb 0).trans rfl
  have z1 := (blk_cell hb 1).trans rfl
  have z2 := (blk_cell hb 2).trans rfl
  have z3 := (blk_cell hb 3).trans rfl
  have z4 := (blk_cell hb 4).trans rfl
  clear h hm hm' hg hb hro hou hbl hC hkr hmem hcs
  obtain ⟨M, hM⟩ : ∃ M, (if x < deep then deep else x) = M := ⟨_, rfl⟩
  rw [hM] at HS
  go_enter Tryz.func54, Tryz.ntmps54
  go_wp2_with (first | (at_builtin; refine Kd.R_append (Kd.int .i64) (w0 := w0) w0.heap.size rfl (.tmp 25) (.tmp 27) 40 3 (.int .i64 0) 8 rfl Tryz.underlying40 info3 rfl (by decide) (by omega) _ o at_ [.int .i64 at_] (fun _ => True) (fun _ => False) rfl (by first | (go_simp; done) | (go_simp; rfl)) rfl (fun _ hk => hk.elim) (fun _ _ => trivial) HOU.out HBL.out HBL.out.size (by omega) ?_; intro v7 w7 ho hb hg hat; obtain ⟨A7, c7, ev⟩ := Kd.R_slice ho; obtain ⟨n7, hn7⟩ : ∃ n, (o ++ [at_]).length = n := ⟨_, rfl⟩; rw [hn7] at ev; subst ev; clear hn7; have b7 := (hg.block wb (blk_lt HBK.out) (Kd.R_ne HOU.out HBK.out (by decide))).trans HBK.out; have r7 := Kd.R_over HRO.out HOU.out (by decide) hg; have b8 : (w7.setCell ⟨wb, 3, none⟩ (.slice A7 n7 c7)).heap[wb]? = some (.cells #[.slice (some bd) l.length c0, .int .i64 root, .slice (some ⟨mb, 0, none⟩) l.length cp, .slice A7 n7 c7, .int .i64 x] 79 (0, 0)) := (by simpa using blk_set b7 3 (.slice A7 n7 c7)); have b9 : ((w7.setCell ⟨wb, 3, none⟩ (.slice A7 n7 c7)).setCell ⟨wb, 4, none⟩ (.int .i64 M)).heap[wb]? = some (.cells #[.slice (some bd) l.length c0, .int .i64 root, .slice (some ⟨mb, 0, none⟩) l.length cp, .slice A7 n7 c7, .int .i64 M] 79 (0, 0)) := (by simpa using blk_set b8 4 (.int .i64 M)); have l9 : Below w0.heap.size w0 ((w7.setCell ⟨wb, 3, none⟩ (.slice A7 n7 c7)).setCell ⟨wb, 4, none⟩ (.int .i64 M)) := (hb.setCell (p := ⟨wb, 3, none⟩) HGE.out _).setCell (p := ⟨wb, 4, none⟩) HGE.out _; have HW9 := Lib.hid (Wk.mk (s := (m.set at_.toNat true, o ++ [at_], M)) b9 HLN.out (Kd.R_set (Kd.R_set r7 b7 (by decide) 3 (.slice A7 n7 c7)) b8 (by decide) 4 _) (Kd.R_set (Kd.R_set ho b7 (by decide) 3 (.slice A7 n7 c7)) b8 (by decide) 4 _) l9 HGE.out HCN.out); have u0 := (blk_cell b7 0).trans rfl; have u3 := (blk_cell b7 3).trans rfl; have v4 := (blk_cell b8 4).trans rfl; have f7 := blk_frozen b7 3; have f8 := blk_frozen b8 4; have t0 := (blk_cell b9 0).trans rfl; have g9 := (l9.cell (World.block_lt_of_cell? w0 _ g2)).trans g2; clear ho hb hg hat b7 r7 b8 b9 l9))
  clear x0 x1 x2 x3 x4 y0 y1 z0 z1 z2 z3 z4 p1 p2 g2 u0 u3 v4 f7 f8 t0 g9 HW HBK HRO HOU HBL HCN HLN hM
  go_loopw [50] (fun v wr => ∃ (j : Nat) (vo : Value) (s : WS), v = .int .i64 j ∧ j ≤ kids.length ∧ Hid ((kids.drop j).foldlM (fun s x => goO l k x (deep + 1) s) s = some s') ∧ Hid (Wk w0 wb mb cp (some bd) l.length c0 root vo s wr)) (fun v _ => kids.length - (intOf v).toNat)
  case atStart => exact ⟨0, _, _, rfl, by omega, HS, HW9⟩
  case round =>
   obtain ⟨j, vo2, s2, rfl, hj, hst, HWR⟩ := hrel
   clear HS HW9
   by_cases hlt : j < kids.length
   rotate_left
   ·
    have hc : decide ((j : Int) < (kids.length : Int)) = false := decide_eq_false (by omega)
    have hst2 := hst.out
    rw [List.drop_of_length_le (by omega), List.foldlM_nil] at hst2
    have HF := Lib.hid (Option.some.inj hst2)
    clear hst hst2
    go_wp2
    go_end0
    exact ⟨rfl, vo2, by rw [← HF.out]; exact HWR.out⟩
   have hc : decide ((j : Int) < (kids.length : Int)) = true := decide_eq_true (by omega)
   obtain ⟨cd, eA2, hx⟩ := Kd.at_int (Kd.C_below HC.out HWR.out.bel) (j : Int) (by omega) (by omega)
   subst eA2
   rw [rd_at kids j hlt, Int.toNat_natCast] at hx
   have hst2 := hst.out
   rw [List.drop_eq_getElem_cons hlt, List.foldlM_cons] at hst2
   obtain ⟨j0, j1⟩ := HKR.out kids[j] (List.getElem_mem hlt)
   generalize kids[j] = kx at *
   obtain ⟨s3, hs3⟩ : ∃ s3, goO l k kx (deep + 1) s2 = some s3 := by
    cases hv : goO l k kx (deep + 1) s2 with
    | none => rw [hv] at hst2; cases hst2
    | some s3 => exact ⟨s3, rfl⟩
   rw [hs3] at hst2
   have HST := Lib.hid (show (kids.drop (j + 1)).foldlM (fun s x => goO l k x (deep + 1) s) s3 = some s' from hst2)
   have HGO := Lib.hid hs3
   have HJ := Lib.hid (And.intro j0 j1)
   have HL := Lib.hid hlt
   have p3 : (0 ≤ (j : Int)) = True := eq_true (by omega)
   have p4 : ((j : Int) < (kids.length : Int)) = True := eq_true (by omega)
   have hwd : wrap64 (deep + 1) = deep + 1 := by unfold wrap64; omega
   clear hst hst2 hs3 j0 j1
   go_wp2_with (first | (go_at_call 54; refine (HIH.out kx (deep + 1) vo2 s2 s3 _ HWR.out HGO.out HJ.out.1 HJ.out.2 (by omega) (by omega)).mono ?_; rintro e w9 ⟨rfl, vo3, hW3⟩; have HW3 := Lib.hid hW3; clear hW3))
   go_roundw
   case rel => have := HL.out; exact ⟨j + 1, vo3, s3, by go_num, HL.out, HST, HW3⟩
   case measure => have := HL.out; simp [intOf]; omega
end Go.Proofs.YtnjcpoojgmpmeaaGreatDoor.Plug
namespace Go.Proofs.YtnjcpoojgmpmeaaGreatDoor.Plug
open RowKit YtnjcpoojgmpmeaaGreatDoor YtnjcpoojgmpmeaaGreatDoor.PX YtnjcpoojgmpmeaaGreatDoor.Utf YtnjcpoojgmpmeaaGreatDoor.Mapk YtnjcpoojgmpmeaaGreatDoor.Graphs YtnjcpoojgmpmeaaGreatDoorW.PrintWords YtnjcpoojgmpmeaaGreatDoorW.PrintLast YtnjcpoojgmpmeaaGreatDoorW.PrintMore
theorem R_fresh {α : Type} (d : Kd α) (base e : Nat) (W : World) {xs : List α} {inner : List Value} {ok okp : Nat → Prop} (hrep : Reps (d.M W base okp) d.sz xs inner) (hok : ∀ k, okp k → ok k) (hfresh : ok W.heap.size) (hbase : base ≤ W.heap.size) (hm : xs.length ≤ 9223372036854775807) :
  d.R e (W.alloc (.cells inner.toArray e)) base ok (.slice (some ⟨W.heap.size, 0, none⟩) xs.length xs.length) xs := by
 refine ⟨fun k hk => ?_, inner, ?_, ?_⟩
 ·
  have : W.heap.size = k := by simpa [Value.ownBlock] using hk
  subst this
  exact hfresh
 ·
  have h2 := World.ownsRow_lit (base := base) (e := e) (size := d.sz) W inner.toArray xs.length hbase (by simpa [maxLen] using hm) (by simpa using hrep.1)
  simpa using h2
 ·
  refine hrep.imp_ (fun p c hp => d.M_mono (fun k hk => ⟨hok k hk.1, fun he => ?_⟩) (Kd.M_below (d.M_bound hp) (below_alloc (Below.refl _ _) _)))
  have h3 : k = W.heap.size := by simpa [Value.ownBlock] using he
  have := hk.2.2.1
  omega
theorem make_bools (n : Nat) (hn : n ≤ 4096) : ∃ C : Array Value, (∀ W : World, (Instr.makeSlice 72 (.int .i64 (n : Int)) (.int .i64 (n : Int))).run Tryz.prog W = .ok (.slice (some ⟨W.heap.size, 0, none⟩) n n) (W.alloc (.cells C 4))) ∧
  ∀ (W : World) (base : Nat), base ≤ W.heap.size → Kd.R Kd.bool 4 (W.alloc (.cells C 4)) base (fun _ => True) (.slice (some ⟨W.heap.size, 0, none⟩) n n) (List.replicate n false) := by
 obtain ⟨i0, hi, hzz⟩ := Option.map_eq_some_iff.1 info4
 simp only [Prod.mk.injEq] at hzz
 obtain ⟨hz, hs, hb⟩ := hzz
 refine ⟨madeCells (Value.bool false).cells (n * 1), fun W => ?_, fun W base hbs => ?_⟩
 ·
  have h := run_make (P := Tryz.prog) (w := W) 72 4 i0 (.bool false) Tryz.underlying72 hi hz .i64 .i64 (n : Int) (n : Int) (by omega) (by omega) (by rw [hb]; omega) (by omega)
  rw [hs, Int.toNat_natCast] at h
  exact h
 ·
  have h := R_fresh Kd.bool base 4 W (xs := List.replicate n false) (inner := (madeCells (Value.bool false).cells (n * 1)).toList) (ok := fun _ => True) (okp := fun _ => True) (Kd.reps_made (R := Kd.bool.M W base (fun _ => True)) (z := .bool false) (size := 1) (z0 := false) rfl (by decide) rfl n) (fun _ _ => trivial) trivial hbs (by simp; omega)
  simpa using h
set_option maxHeartbeats 8000000 in
set_option maxRecDepth 100000 in
theorem walk_is (A0 : Option Addr) (c0 : Nat) (l : List Nd) (root at_ : Int) (s' : WS) (K : Nat) (w : World) (hr : Kd.C k45 w A0 l.length l) (hl : l.length ≤ 4096) (hz : ∀ n ∈ l, n.f2.length ≤ 1099511627776) (hk : ∀ n ∈ l, ∀ k ∈ n.f2, 0 ≤ k ∧ k < (l.length : Int))
    (h0 : 0 ≤ at_) (h1 : at_ < (l.length : Int)) (h : goO l K at_ 1 (List.replicate l.length false, [], 0) = some s') (hK : K ≤ 1099511627776) :
    Calls Tryz.prog 36 #[.agg #[.slice A0 l.length c0, .int .i64 root], .int .i64 at_] w fun e w' => ∃ wb mb cp vo, e = .returned (.pointer (some ⟨wb, 0, none⟩)) ∧ Wk w wb mb cp A0 l.length c0 root vo s' w' := by
  have HR := Lib.hid hr
  have HZ := Lib.hid hz
  have HKK := Lib.hid hk
  have HS := Lib.hid h
  clear hr hz hk h
  obtain ⟨C, hmk, hrow⟩ := make_bools l.length hl
  have HROW := Lib.hid hrow
  clear hrow
  go_enter Tryz.func36, Tryz.ntmps36
  go_wp2_with (first | ((with_reducible refine gate_dst (N := 2) rfl ?_); refine box_event ?hg (N := 2) ?hd (cs := #[.slice A0 l.length c0, .int .i64 root]) (t := 24) ?hr ?_; (case hd => rfl); (case hg => rfl); (case hr => first | (go_simp; done) | (go_simp; rfl)); intro gb hg w1 hgb hb1; have HG := Lib.hid hgb; have HB := Lib.hid hb1; clear hgb hb1 hg; have x0 := (blk_cell HG.out 0).trans rfl; have x1 := (blk_cell HG.out 1).trans rfl))
  go_region_held3 (fun W' => W'.cell? ⟨gb, 0, none⟩ = some (.slice A0 l.length c0) ∧ W'.cell? ⟨gb, 1, none⟩ = some (.int .i64 root))
    (first | exact ⟨x0, x1⟩ | exact ⟨cell_al x0, cell_al x1⟩ | exact ⟨cell_al (cell_al x0), cell_al (cell_al x1)⟩)
    (first | fail)
  all_goals
    have HW := Lib.hid (show Wk w (w1.heap.size + 1) w1.heap.size l.length A0 l.length c0 root (.slice none 0 0) (List.replicate l.length false, [], 0) ((w1.alloc (.cells C 4)).alloc (.cells #[.slice A0 l.length c0, .int .i64 root, .slice (some ⟨w1.heap.size, 0, none⟩) l.length l.length, .slice none 0 0, .int .i64 0] 79)).drew from
      ⟨by have h := blk_new (w1.alloc (.cells C 4)) (.cells #[.slice A0 l.length c0, .int .i64 root, .slice (some ⟨w1.heap.size, 0, none⟩) l.length l.length, .slice none 0 0, .int .i64 0] 79); rw [show (w1.alloc (.cells C 4)).heap.size = w1.heap.size + 1 by simp] at h; exact h, by simp, Kd.R_drew (Kd.R_alloc (HROW.out w1 w.heap.size HB.out.size) _), Kd.R_nil _ _ _ _ _, below_drew1 (below_alloc (below_alloc HB.out _) _), by have := HB.out.size; omega, by simp [List.count_replicate]⟩)
    clear x0 x1 hmk
    go_wp2_with (first | (go_at_call 54; refine (to_is w _ _ _ A0 c0 l root HR.out hl HZ.out HKK.out K at_ 1 _ _ s' _ HW.out HS.out h0 h1 (by omega) (by omega)).mono ?_; rintro e w9 ⟨rfl, vo, hW9⟩; have HW9 := Lib.hid hW9; clear hW9))
    go_ret
    exact ⟨_, _, _, vo, rfl, HW9.out⟩
def graph_Order.f (l : List Nd) (root : Int) : Option (List Int × Int) := if sizesB l = true then (if rightB l root = true then (goO l (l.length + 1) root 1 (List.replicate l.length false, [], 0)).map (fun s => (s.2.1, 0)) else some ([], 1)) else none
set_option maxHeartbeats 8000000 in
set_option maxRecDepth 100000 in
theorem graph_Order.calls (A0 : Option Addr) (c0 : Nat) (l : List Nd) (root : Int) (r1 : List Int) (r2 : Int) (w : World) (hr0 : Kd.C k45 w A0 l.length l) (hc0 : l.length ≤ c0) (hG : Glob.G w) (h : graph_Order.f l root = some (r1, r2)) :
  Calls Tryz.prog 17 #[.agg #[.slice A0 l.length c0, .int .i64 root]] w fun e w' => ∃ v : Value, e = .returned (.tuple #[v, .int .i64 r2]) ∧ Kd.R (Kd.int .i64) 3 w' w.heap.size (fun _ => True) v r1 ∧ Below w.heap.size w w' := by
 unfold graph_Order.f at h
 by_cases hs : sizesB l = true
 rotate_left
 · rw [if_neg hs] at h; cases h
 rw [if_pos hs] at h
 have HR := Lib.hid hr0
 obtain ⟨rt, hrt⟩ : ∃ b, rightB l root = b := ⟨_, rfl⟩
 have HRT := Lib.hid (show graph_Right.f l root = some rt by unfold graph_Right.f; rw [if_pos hs, hrt])
 rw [hrt] at h
 clear hr0
 cases rt with
 | false =>
  rw [if_neg Bool.false_ne_true] at h
  have HF : Hid (r1 = [] ∧ r2 = 1) := Lib.hid ⟨(Prod.mk.inj (Option.some.inj h)).1.symm, (Prod.mk.inj (Option.some.inj h)).2.symm⟩
  clear h hs hrt
  go_enter Tryz.func17, Tryz.ntmps17
  go_wp2_with (first | ((with_reducible refine gate_dst (N := 1) rfl ?_); refine box_event ?hg (N := 1) ?hd (cs := #[.slice A0 l.length c0, .int .i64 root]) (t := 24) ?hr ?_; (case hd => rfl); (case hg => rfl); (case hr => first | (go_simp; done) | (go_simp; rfl)); intro gb hg w1 hgb hb1; have HG := Lib.hid hgb; have HB := Lib.hid hb1; clear hgb hb1 hg; have x0 := (blk_cell HG.out 0).trans rfl; have x1 := (blk_cell HG.out 1).trans rfl) | (go_at_call 35; refine (graph_Right.calls _ _ _ _ _ _ (Kd.C_below HR.out HB.out) hc0 (hG.below HB.out) HRT.out).mono ?_; rintro e w2 ⟨rfl, hb⟩; have n0_ := Lib.hid ((hb.block _ (blk_lt HG.out)).trans HG.out); have n1_ := Lib.hid (HB.out.trans (hb.mono HB.out.size)); clear hb HG HB x0 x1; have HG := n0_; have HB := n1_; clear n0_ n1_; have x0 := (blk_cell HG.out 0).trans rfl; have x1 := (blk_cell HG.out 1).trans rfl))
  go_ret2
  exact ⟨.slice none 0 0, by rw [HF.out.2]; first | done | rfl, by rw [HF.out.1]; exact Kd.R_nil _ _ _ _ _, HB.out⟩
 | true =>
  rw [if_pos rfl] at h
  have hg := (right_iff l root hs).1 hrt
  obtain ⟨s, hs1, hs2⟩ := Option.map_eq_some_iff.1 h
  have HF := Lib.hid (show r1 = s.2.1 ∧ r2 = 0 from ⟨(Prod.mk.inj hs2).1.symm, (Prod.mk.inj hs2).2.symm⟩)
  have HS := Lib.hid hs1
  have HGG := Lib.hid hg
  have HZ := Lib.hid (show ∀ n ∈ l, n.f2.length ≤ 1099511627776 from fun n hn => (sizes_iff hs n hn).2)
  have hll := hg.le
  clear h hs hs1 hs2 hrt hg
  go_enter Tryz.func17, Tryz.ntmps17
  go_wp2_with (first | ((with_reducible refine gate_dst (N := 1) rfl ?_); refine box_event ?hg (N := 1) ?hd (cs := #[.slice A0 l.length c0, .int .i64 root]) (t := 24) ?hr ?_; (case hd => rfl); (case hg => rfl); (case hr => first | (go_simp; done) | (go_simp; rfl)); intro gb hg w1 hgb hb1; have HG := Lib.hid hgb; have HB := Lib.hid hb1; clear hgb hb1 hg; have x0 := (blk_cell HG.out 0).trans rfl; have x1 := (blk_cell HG.out 1).trans rfl) | (go_at_call 35; refine (graph_Right.calls _ _ _ _ _ _ (Kd.C_below HR.out HB.out) hc0 (hG.below HB.out) HRT.out).mono ?_; rintro e w2 ⟨rfl, hb⟩; have n0_ := Lib.hid ((hb.block _ (blk_lt HG.out)).trans HG.out); have n1_ := Lib.hid (HB.out.trans (hb.mono HB.out.size)); clear hb HG HB x0 x1; have HG := n0_; have HB := n1_; clear n0_ n1_; have x0 := (blk_cell HG.out 0).trans rfl; have x1 := (blk_cell HG.out 1).trans rfl) | (go_at_call 36; refine (walk_is A0 c0 l root root s (l.length + 1) _ (Kd.C_below HR.out HB.out) HGG.out.le HZ.out (fun n hn k hk => (HGG.out.node hn).range k hk) HGG.out.r0 HGG.out.r1 HS.out (by omega)).mono ?_; rintro e w9 ⟨wb, mb, cp, vo, rfl, hW⟩; obtain ⟨s1, s2, s3⟩ := s; obtain ⟨u0, u1, u2, u3, u4⟩ := hW.cells; have HW := Lib.hid hW; clear hW))
  go_ret2
  exact ⟨vo, by rw [HF.out.2]; first | done | rfl, by rw [HF.out.1]; exact Kd.R_lower HW.out.out HB.out.size, HB.out.trans (HW.out.bel.mono HB.out.size)⟩
abbrev RowI (w : World) (B rb n cap : Nat) (xs : List Int) : Prop := Kd.R (Kd.int .i64) 3 w B (fun _ => True) (.slice (some ⟨rb, 0, none⟩) n cap) xs
theorem grownBy_trans {a b c : World} {r : Nat} (h : a.grownBy b (some r)) (k : b.grownBy c (some r)) : a.grownBy c (some r) :=
  ⟨k.os.trans h.os, k.tape.trans h.tape, k.output.trans h.output, Nat.le_trans h.size k.size, fun i hi hne => (k.block i (Nat.lt_of_lt_of_le hi h.size) hne).trans (h.block i hi hne)⟩
theorem grownBy_refl (w : World) (r : Nat) : w.grownBy w (some r) := ⟨rfl, rfl, rfl, Nat.le_refl _, fun _ _ _ => rfl⟩
theorem grownBy_below {w w' : World} {r : Nat} (h : Below w.heap.size w w') : w.grownBy w' (some r) := ⟨h.os, h.tape, h.output, h.size, fun i hi _ => h.block i hi⟩
theorem R_zeros (B rb n cap : Nat) : ∀ (m i : Nat) (w : World) (xs : List Int), RowI w B rb n cap xs → ∃ ys, RowI (w.setCells rb i (List.replicate m (.int .i64 0))) B rb n cap ys ∧ ys.take i = xs.take i ∧ w.grownBy (w.setCells rb i (List.replicate m (.int .i64 0))) (some rb)
 | 0, i, w, xs, h => ⟨xs, h, rfl, grownBy_refl w rb⟩
 | m + 1, i, w, xs, h => by
  obtain ⟨h1, hg⟩ := Kd.R_putg h (i : Int) 0
  rw [Int.toNat_natCast] at h1 hg
  obtain ⟨ys, h2, h3, h4⟩ := R_zeros B rb n cap m (i + 1) _ _ h1
  refine ⟨ys, h2, ?_, grownBy_trans hg h4⟩
  have : (ys.take (i + 1)).take i = ((xs.set i 0).take (i + 1)).take i := by rw [h3]
  rw [List.take_take, List.take_take, Nat.min_eq_left (by omega)] at this
  rw [this, List.take_set_of_le (Nat.le_refl _)]
theorem zero_int (w : World) : (zeroValue 3).run Tryz.prog w = .ok (.int .i64 0) w := by kernel_rfl
theorem firstI_cases (p : Int → Bool) : ∀ (l : List Int) (i : Nat), (firstI p l i = -1 ∧ l.filter (fun x => !p x) = l) ∨ ∃ k, k < l.length ∧ firstI p l i = ((i + k : Nat) : Int) ∧ (l.take (k + 1)).filter (fun x => !p x) = l.take k
 | [], _ => .inl ⟨rfl, rfl⟩
 | x :: r, i => by
  rw [firstI]
  by_cases h : p x = true
  ·
   rw [if_pos h]
   exact .inr ⟨0, by simp, by simp, by simp [h]⟩
  rw [if_neg h]
  rcases firstI_cases p r (i + 1) with ⟨a, b⟩ | ⟨k, a, b, c⟩
  · exact .inl ⟨a, by rw [List.filter_cons, if_pos (by simp [h]), b]⟩
  ·
   refine .inr ⟨k + 1, by simp; omega, by rw [b]; congr 1; omega, ?_⟩
   rw [List.take_succ_cons, List.filter_cons, if_pos (by simp [h]), c]; rfl
set_option maxHeartbeats 8000000 in
set_option maxRecDepth 100000 in
theorem delete_is (F : FuncId) (eg : ∀ args w, (callFunc F args).run Tryz.prog w = .ok (.enter F args) w) (fv : Value) (p : Int → Bool) (B rb n cap : Nat) (xs : List Int) (w : World) (J : World → Prop) (hr : RowI w B rb n cap xs) (hn : n = xs.length) (hn0 : 0 < n) (hcap : n ≤ cap) (hcb : cap ≤ 9223372036854775807)
    (hJ : J w) (hJb : ∀ w1 w2, J w1 → Below w1.heap.size w1 w2 → J w2) (hJg : ∀ w1 w2, J w1 → w.heap.size ≤ w1.heap.size → w1.grownBy w2 (some rb) → J w2)
    (hp : ∀ (x : Int) (w' : World), x ∈ xs → J w' → Calls Tryz.prog F #[.int .i64 x, fv] w' fun e w2 => e = .returned (.bool (p x)) ∧ Below w'.heap.size w' w2) :
    Calls Tryz.prog 33 #[.slice (some ⟨rb, 0, none⟩) n cap, .func (.func F) #[] #[fv]] w fun e w' => ∃ m, e = .returned (.slice (some ⟨rb, 0, none⟩) m cap) ∧ RowI w' B rb m cap (xs.filter (fun x => !p x)) ∧ J w' ∧ w.grownBy w' (some rb) := by
  have HR := Lib.hid hr
  have hC := (Kd.R_reads' hr).2.2
  have HP := Lib.hid hp
  have HJ := Lib.hid hJ
  have HJB := Lib.hid hJb
  have HJG := Lib.hid hJg
  have HI := Lib.hid (index_any F eg fv p (some ⟨rb, 0, none⟩) cap xs w hC (fun x w' hx hb => hp x w' hx (hJb w w' hJ hb)))
  subst hn
  clear hr hp hJ hJb hJg hC
  rcases firstI_cases p xs 0 with ⟨e1, e2⟩ | ⟨k0, hk, e1, e2⟩
  · rw [e1] at HI
    have HF := Lib.hid e2
    clear e1 e2
    go_enter Tryz.func33, Tryz.ntmps33
    go_wp2_with (go_at_call 49; refine HI.out.mono ?_; rintro e w1 ⟨rfl, hb1⟩; have HB1 := Lib.hid hb1; clear hb1)
    go_ret
    exact ⟨xs.length, rfl, by rw [HF.out]; exact Kd.R_below HR.out HB1.out, HJB.out _ _ HJ.out HB1.out, grownBy_below HB1.out⟩
  · rw [e1, Nat.zero_add] at HI
    have HF := Lib.hid e2
    have q0 : ((k0 : Int) == -1) = false := beq_eq_false_iff_ne.2 (by omega)
    clear e1 e2
    go_enter Tryz.func33, Tryz.ntmps33
    go_wp2_with (go_at_call 49; refine HI.out.mono ?_; rintro e w1 ⟨rfl, hb1⟩; have HB1 := Lib.hid hb1; clear hb1)
    have HR1 := Lib.hid (Kd.R_below HR.out HB1.out)
    have HJ1 := Lib.hid (HJB.out _ _ HJ.out HB1.out)
    have HG1 := Lib.hid (grownBy_below (r := rb) HB1.out)
    go_loopw [5, 6, 7] (fun vi vj _ wr => ∃ (i j : Nat) (ys : List Int), vi = .int .i64 i ∧ vj = .int .i64 j ∧ i < j ∧ j ≤ xs.length ∧ Hid (RowI wr B rb xs.length cap ys) ∧ Hid (ys.drop j = xs.drop j) ∧ Hid (ys.take i = (xs.take j).filter (fun x => !p x)) ∧ Hid (J wr) ∧ Hid (w.grownBy wr (some rb))) (fun _ vj _ _ => xs.length - (intOf vj).toNat)
    case atStart => exact ⟨k0, k0 + 1, xs, rfl, by go_num, by omega, by omega, HR1, Lib.hid rfl, Lib.hid HF.out.symm, HJ1, HG1⟩
    case round =>
      clear HR1 HJ1 HG1 HF HB1 HI q0
      obtain ⟨i, j, ys, rfl, rfl, hij, hjx, HRR, HDR, HTK, HJR, HGR⟩ := hrel
      have hyl : ys.length = xs.length := (Kd.R_reads' HRR.out).1.symm
      by_cases hlt : j < xs.length
      · have hc : decide ((j : Int) < (xs.length : Int)) = true := decide_eq_true (by omega)
        obtain ⟨cj, _⟩ := Kd.R_celln 0 HRR.out (j : Int) (by omega) (by omega)
        obtain ⟨ci, fi⟩ := Kd.R_celln 0 HRR.out (i : Int) (by omega) (by omega)
        rw [Int.toNat_natCast] at cj ci fi
        have hxj : rdOf 0 ys (j : Int) = xs[j] := by
          have h := HDR.out
          rw [List.drop_eq_getElem_cons (by omega), List.drop_eq_getElem_cons hlt] at h
          unfold rdOf
          rw [Int.toNat_natCast, List.getD_eq_getElem?_getD, List.getElem?_eq_getElem (by omega)]
          exact (List.cons.inj h).1
        rw [hxj] at cj
        have HX := Lib.hid (show (xs.take (j + 1)).filter (fun x => !p x) = (xs.take j).filter (fun x => !p x) ++ (if p xs[j] = true then [] else [xs[j]]) by
          rw [List.take_succ_eq_append_getElem hlt, List.filter_append, List.filter_cons]
          by_cases h : p xs[j] = true
          · simp [h]
          · simp [h])
        have HD2 := Lib.hid (show ys.drop (j + 1) = xs.drop (j + 1) by
          have h := HDR.out
          rw [List.drop_eq_getElem_cons (by omega), List.drop_eq_getElem_cons hlt] at h
          exact (List.cons.inj h).2)
        have HT2 := Lib.hid (show ∀ x, (ys.set i x).take (i + 1) = ys.take i ++ [x] by
          intro x
          rw [List.take_succ_eq_append_getElem (by simp; omega), List.take_set_of_le (Nat.le_refl _), List.getElem_set_self])
        have hcall := HP.out xs[j] _ (List.getElem_mem hlt) HJR.out
        generalize xs[j] = x at *
        have HCL := Lib.hid hcall
        have p1 : (0 ≤ (j : Int)) = True := eq_true (by omega)
        have p2 : ((j : Int) < (xs.length : Int)) = True := eq_true (by omega)
        have p3 : (0 ≤ (i : Int)) = True := eq_true (by omega)
        have p4 : ((i : Int) < (xs.length : Int)) = True := eq_true (by omega)
        have HSZ := Lib.hid HGR.out.size
        clear hcall hxj HDR
        cases hq : p x with
        | true =>
          rw [hq] at HCL HX
          clear hq
          go_wp2_with (go_at_fn F; refine HCL.out.mono ?_; rintro e w2 ⟨rfl, hb2⟩; have HB2 := Lib.hid hb2; clear hb2)
          go_roundw
          case rel => exact ⟨i, j + 1, ys, rfl, by go_num, by omega, by omega, Lib.hid (Kd.R_below HRR.out HB2.out), HD2, Lib.hid (by rw [HX.out, HTK.out]; simp), Lib.hid (HJB.out _ _ HJR.out HB2.out), Lib.hid (grownBy_trans HGR.out (grownBy_below HB2.out))⟩
          case measure => simp [intOf]; omega
        | false =>
          rw [hq] at HCL HX
          clear hq
          go_wp2_with (go_at_fn F; refine HCL.out.mono ?_; rintro e w2 ⟨rfl, hb2⟩; have HB2 := Lib.hid hb2; have ci2 := (hb2.cell (World.block_lt_of_cell? _ _ ci)).trans ci; have fi2 := (Kd.R_celln 0 (Kd.R_below HRR.out hb2) (i : Int) (by omega) (by omega)).2; rw [Int.toNat_natCast] at fi2; clear hb2)
          have hpt := Kd.R_putg (Kd.R_below HRR.out HB2.out) (i : Int) x
          rw [Int.toNat_natCast] at hpt
          have HPT := Lib.hid hpt
          clear hpt
          go_roundw
          case rel => exact ⟨i + 1, j + 1, ys.set i x, by go_num, by go_num, by omega, by omega, Lib.hid HPT.out.1, Lib.hid (by rw [List.drop_set_of_lt (by omega)]; exact HD2.out), Lib.hid (by rw [HX.out, HT2.out, HTK.out]; simp), Lib.hid (HJG.out _ _ (HJB.out _ _ HJR.out HB2.out) (Nat.le_trans HSZ.out HB2.out.size) HPT.out.2), Lib.hid (grownBy_trans (grownBy_trans HGR.out (grownBy_below HB2.out)) HPT.out.2)⟩
          case measure => simp [intOf]; omega
      · have hc : decide ((j : Int) < (xs.length : Int)) = false := decide_eq_false (by omega)
        have hje : j = xs.length := by omega
        have hcl : ∀ ty, (Builtin.clear_ #[40] ty #[.slice (some ⟨rb, i, none⟩) (xs.length - i) (cap - i)]).run Tryz.prog wr = .ok (.tuple #[]) (wr.setCells rb i (List.replicate (xs.length - i) (.int .i64 0))) :=
          fun ty => Lib.run_clear_slice wr _ 3 ty _ rfl zero_int rfl rfl rb i _ _ (by omega) (fun k hk => by
            obtain ⟨c, _⟩ := Kd.R_celln 0 HRR.out ((i + k : Nat) : Int) (by omega) (by omega)
            rw [Int.toNat_natCast] at c
            rw [c]; rfl) (fun k hk => by
            obtain ⟨_, c⟩ := Kd.R_celln 0 HRR.out ((i + k : Nat) : Int) (by omega) (by omega)
            rw [Int.toNat_natCast] at c
            exact c)
        have p3 : (0 ≤ (i : Int)) = True := eq_true (by omega)
        have p4 : ((i : Int) ≤ (xs.length : Int)) = True := eq_true (by omega)
        have p5 : ((i : Int) ≤ (cap : Int)) = True := eq_true (by omega)
        have p6 : ((xs.length : Int) ≤ (cap : Int)) = True := eq_true (by omega)
        have HZ := Lib.hid (R_zeros B rb xs.length cap (xs.length - i) i wr ys HRR.out)
        go_wp2
        go_ret
        obtain ⟨zs, z1, z2, z3⟩ := HZ.out
        have hzl : zs.length = xs.length := (Kd.R_reads' z1).1.symm
        refine ⟨i, rfl, ?_, ?_, ?_⟩
        · have := Kd.R_take z1 (m := i) (by omega)
          rw [z2, HTK.out, hje, List.take_length] at this
          exact this
        · exact HJG.out _ _ HJR.out HGR.out.size z3
        · exact grownBy_trans HGR.out z3
end Go.Proofs.YtnjcpoojgmpmeaaGreatDoor.Plug
namespace Go.Proofs.YtnjcpoojgmpmeaaGreatDoor.Plug
open Go.Maps RowKit YtnjcpoojgmpmeaaGreatDoor YtnjcpoojgmpmeaaGreatDoor.PX YtnjcpoojgmpmeaaGreatDoor.Utf YtnjcpoojgmpmeaaGreatDoor.Mapk YtnjcpoojgmpmeaaGreatDoor.Graphs YtnjcpoojgmpmeaaGreatDoorW.PrintWords YtnjcpoojgmpmeaaGreatDoorW.PrintLast YtnjcpoojgmpmeaaGreatDoorW.PrintMore
theorem row_block {w : World} {B : Nat} {v : Value} {xs : List Int} (h : Kd.R (Kd.int .i64) 3 w B (fun _ => True) v xs) (hne : xs ≠ []) : ∃ rb cap, v = .slice (some ⟨rb, 0, none⟩) xs.length cap ∧ B ≤ rb ∧ rb < w.heap.size ∧ xs.length ≤ cap ∧ cap ≤ maxLen := by
 obtain ⟨inner, ho⟩ := Kd.R_own h
 rcases ho.2 with ⟨_, h0⟩ | ⟨g, cap, cur, rfl, h1, h2, h3, h4, _⟩
 · exact absurd (List.length_eq_zero_iff.1 h0) hne
 · exact ⟨g, cap, rfl, h1, blk_lt h2, h3, h4⟩
theorem int_law : Keyed Tryz.prog 3 := int_keyed Tryz.underlying3
theorem int_key (x : Int) (h : -9223372036854775808 ≤ x ∧ x ≤ 9223372036854775807) : keyOf Tryz.prog 3 (.int .i64 x) = some (.int .i64 x) :=
  keyOf_int_mk Tryz.underlying3 (by simp [Lit.wf, IntKind.min, IntKind.max, IntKind.signed, IntKind.bits]; omega)
theorem intV_inj (x y : Int) (h : Value.int .i64 x = Value.int .i64 y) : x = y := by injection h
def bumpC (c : Int → Nat) (k : Int) : Int → Nat := fun y => if y = k then c k + 1 else c y
def cntV (c : Int → Nat) (k : Int) : Option Value := if c k = 0 then none else some (.int .i64 (c k : Int))
theorem cntV_put (c : Int → Nat) (k : Int) : (fun y => if y = k then some (Value.int .i64 ((c k : Int) + 1)) else cntV c y) = cntV (bumpC c k) := by
 funext y
 unfold cntV bumpC
 by_cases e : y = k
 rotate_left
 · simp [e]
 subst e; simp
theorem cntV_get (c : Int → Nat) (k : Int) : (cntV c k).getD (.int .i64 0) = .int .i64 (c k : Int) := by
 unfold cntV
 by_cases e : c k = 0
 rotate_left
 · rw [if_neg e]; rfl
 rw [if_pos e, e]; rfl
def usesC (l : List Nd) : List Int → (Int → Nat) → Int → Nat
 | [], c => c
 | a :: r, c => usesC l r ((rd_T45 l a).f2.foldl bumpC c)
structure Sh (w0 : World) (gb ub bm rb cap : Nat) (A0 : Option Addr) (n c0 : Nat) (root : Int) (xs : List Int) (c : Int → Nat) (m : Nat) (W : World) : Prop where
 g : W.heap[gb]? = some (.cells #[.slice A0 n c0, .int .i64 root] 24)
 u : W.cell? ⟨ub, 0, none⟩ = some (.map (some bm))
 mp : MapIs Tryz.prog 3 (Value.int .i64) W bm m (cntV c)
 row : RowI W w0.heap.size rb xs.length cap xs
 cs : ∀ y, c y ≤ m
 bel : Below w0.heap.size w0 W
 lts : gb < bm ∧ bm < ub ∧ rb < bm ∧ w0.heap.size ≤ bm ∧ w0.heap.size ≤ rb
theorem row_kept {w w1 : World} {B rb n cap b m : Nat} {xs : List Int} {F : Int → Option Value} (h : RowI w B rb n cap xs) (hm : MapIs Tryz.prog 3 (Value.int .i64) w b m F) (hg : w.grownBy w1 (some b)) : RowI w1 B rb n cap xs := by
 obtain ⟨D, ⟨es, clock, hb, _⟩, _⟩ := hm.ex
 refine Kd.R_mono (Kd.R_step (Kd.R_bound h) (fun k hk hlt => hg.block k hlt (fun e => ?_))) (fun _ hk => hk.1)
 obtain ⟨_, _, _, q, _, cells, hc⟩ := hk
 have e1 := Option.some.inj e
 subst e1
 rw [hb] at hc
 cases hc
theorem sh_start {w w2 w9 : World} {gb rb cap n c0 : Nat} {A0 : Option Addr} {root : Int} {xs : List Int} (hg : w2.heap[gb]? = some (.cells #[.slice A0 n c0, .int .i64 root] 24)) (hrow : RowI w2 w.heap.size rb xs.length cap xs) (hb : Below w.heap.size w w2)
  (hm : MapIs Tryz.prog 3 (Value.int .i64) w9 w2.heap.size (0 + 1) (fun y => if y = root then some (.int .i64 1) else none)) (hgr : (w2.alloc (.map #[] 0)).grownBy w9 (some w2.heap.size)) (h1 : rb < w2.heap.size) (h2 : w.heap.size ≤ rb) (h3 : gb < w2.heap.size) :
  Sh w gb w9.heap.size w2.heap.size rb cap A0 n c0 root xs (bumpC (fun _ => 0) root) 1 (w9.alloc (.cells #[.map (some w2.heap.size)] 75)) := by
 have hs := hgr.size
 have e1 : (w2.alloc (.map #[] 0)).heap.size = w2.heap.size + 1 := by simp
 have hB9 : Below w2.heap.size w2 w9 := (below_alloc (Below.refl _ _) (.map #[] 0)).trans (below_of_grown hgr (Nat.le_refl _) (by omega))
 have hB := below_alloc hB9 (.cells #[.map (some w2.heap.size)] 75)
 refine ⟨(hB.block gb h3).trans hg, (blk_cell (blk_new w9 _) 0).trans rfl, ?_, Kd.R_below hrow hB, fun y => ?_, hb.trans (hB.mono hb.size), ?_⟩
 ·
  have h := hm.alloc (.cells #[.map (some w2.heap.size)] 75)
  have e2 : (fun y => if y = root then some (Value.int .i64 1) else none) = cntV (bumpC (fun _ => 0) root) := by
   funext y
   unfold cntV bumpC
   by_cases e : y = root
   rotate_left
   · simp [e]
   subst e; simp
  rw [e2] at h
  exact h
 · simp only [bumpC]; split <;> omega
 · have := hb.size; omega
theorem sh_bump {w W : World} {gb ub bm rb cap n c0 m : Nat} {A0 : Option Addr} {root k : Int} {xs : List Int} {c : Int → Nat} (h : Sh w gb ub bm rb cap A0 n c0 root xs c m W) (hk : -9223372036854775808 ≤ k ∧ k ≤ 9223372036854775807) (hm : m ≤ 4611686018427387904) :
  (Instr.lookup 75 (.map (some bm)) (.int .i64 k) false).run Tryz.prog W = .ok (.int .i64 (c k : Int)) W ∧ ∃ W', (Instr.mapUpdate 75 (.map (some bm)) (.int .i64 k) (.int .i64 ((c k : Int) + 1))).run Tryz.prog W = .ok () W' ∧ Sh w gb ub bm rb cap A0 n c0 root xs (bumpC c k) (m + 1) W' := by
 obtain ⟨l1, l2, l3, l4, l5⟩ := h.lts
 refine ⟨by rw [h.mp.look int_law Tryz.underlying75 (zero_int W) (int_key k hk), cntV_get], ?_⟩
 obtain ⟨W', hr, hm', hg⟩ := h.mp.put int_law Tryz.underlying75 (by unfold maxLen; omega) (int_key k hk) (.int .i64 ((c k : Int) + 1))
 rw [cntV_put] at hm'
 refine ⟨W', hr, (hg.block gb (blk_lt h.g) (fun e => by have := Option.some.inj e; omega)).trans h.g, ?_, hm', row_kept h.row h.mp hg, fun y => ?_, h.bel.trans (below_of_grown hg l4 h.bel.size), h.lts⟩
 · exact (World.cell?_of_block (hg.block ub (World.block_lt_of_cell? W _ h.u) (fun e => by have := Option.some.inj e; omega))).trans h.u
 ·
  have h1 := h.cs y
  have h2 := h.cs k
  unfold bumpC; split <;> omega
set_option maxHeartbeats 8000000 in
set_option maxRecDepth 100000 in
theorem shared1_is (ub bm m : Nat) (c : Int → Nat) (x : Int) (W : World) (hx : -9223372036854775808 ≤ x ∧ x ≤ 9223372036854775807) (hu : W.cell? ⟨ub, 0, none⟩ = some (.map (some bm))) (hm : MapIs Tryz.prog 3 (Value.int .i64) W bm m (cntV c)) :
  Calls Tryz.prog 34 #[.int .i64 x, .pointer (some ⟨ub, 0, none⟩)] W fun e W2 => e = .returned (.bool (decide ((c x : Int) < 2))) ∧ Below W.heap.size W W2 := by
 have hl := hm.look int_law Tryz.underlying75 (zero_int W) (int_key x hx)
 rw [cntV_get] at hl
 clear hm
 go_enter Tryz.func34, Tryz.ntmps34
 go_wp2_with (fail)
 go_ret
 exact ⟨rfl, Below.refl _ _⟩
theorem sh_le {i m n : Nat} (h : m ≤ i * 1099511627776 + 1 + n) (hn : n ≤ 1099511627776) : m ≤ (i + 1) * 1099511627776 + 1 := by
 rw [Nat.succ_mul]
 generalize i * 1099511627776 = q at *
 omega
theorem shared1_enters : ∀ args w, (callFunc 34 args).run Tryz.prog w = .ok (.enter 34 args) w := fun _ _ => by kernel_rfl
def iso_Shared.f (l : List Nd) (root : Int) : Option (List Int × Int) :=
 match graph_Order.f l root with
 | none => none
 | some (xs, e) => if e ≠ 0 then some ([], e) else if xs ≠ [] ∧ xs.length ≤ 4194304 ∧ (xs.all fun x => decide (0 ≤ x) && decide (x < (l.length : Int))) = true then some (xs.filter (fun x => !decide ((usesC l xs (bumpC (fun _ => 0) root) x : Int) < 2)), 0) else none
set_option maxHeartbeats 8000000 in
set_option maxRecDepth 100000 in
theorem iso_Shared.calls (A0 : Option Addr) (c0 : Nat) (l : List Nd) (root : Int) (r1 : List Int) (r2 : Int) (w : World) (hr0 : Kd.C k45 w A0 l.length l) (hc0 : l.length ≤ c0) (hG : Glob.G w) (h : iso_Shared.f l root = some (r1, r2)) :
    Calls Tryz.prog 16 #[.agg #[.slice A0 l.length c0, .int .i64 root]] w fun e w' => ∃ v : Value, e = .returned (.tuple #[v, .int .i64 r2]) ∧ Kd.R (Kd.int .i64) 3 w' w.heap.size (fun _ => True) v r1 ∧ Below w.heap.size w w' := by
  unfold iso_Shared.f at h
  have HR := Lib.hid hr0
  clear hr0
  cases ho : graph_Order.f l root with
  | none => rw [ho] at h; cases h
  | some p =>
    obtain ⟨xs, e⟩ := p
    rw [ho] at h
    dsimp only at h
    have HO := Lib.hid ho
    by_cases he : e ≠ 0
    · rw [if_pos he] at h
      have HF := Lib.hid (show r1 = [] ∧ r2 = e from ⟨(Prod.mk.inj (Option.some.inj h)).1.symm, (Prod.mk.inj (Option.some.inj h)).2.symm⟩)
      have q0 : (e != 0) = true := bne_iff_ne.2 he
      clear h ho he
      go_enter Tryz.func16, Tryz.ntmps16
      go_wp2_with (first | ((with_reducible refine gate_dst (N := 1) rfl ?_); refine box_event ?hg (N := 1) ?hd (cs := #[.slice A0 l.length c0, .int .i64 root]) (t := 24) ?hr ?_; (case hd => rfl); (case hg => rfl); (case hr => first | (go_simp; done) | (go_simp; rfl)); intro gb hg w1 hgb hb1; have HG := Lib.hid hgb; have HB := Lib.hid hb1; clear hgb hb1 hg; have x0 := (blk_cell HG.out 0).trans rfl; have x1 := (blk_cell HG.out 1).trans rfl) | (go_at_call 17; refine (graph_Order.calls A0 c0 l root xs e _ (Kd.C_below HR.out HB.out) hc0 (hG.below HB.out) HO.out).mono ?_; rintro ee w2 ⟨v, rfl, hrow, hb⟩; have HB2 := Lib.hid (HB.out.trans (hb.mono HB.out.size)); clear hrow hb))
      go_ret2
      exact ⟨.slice none 0 0, by rw [HF.out.2]; first | done | rfl, by rw [HF.out.1]; exact Kd.R_nil _ _ _ _ _, HB2.out⟩
    · have he0 : e = 0 := Decidable.not_not.1 he
      subst he0
      rw [if_neg he] at h
      by_cases hcx : xs ≠ [] ∧ xs.length ≤ 4194304 ∧ (xs.all fun x => decide (0 ≤ x) && decide (x < (l.length : Int))) = true
      · rw [if_pos hcx] at h
        obtain ⟨hne, hxl, hall⟩ := hcx
        have HF := Lib.hid (show r1 = xs.filter (fun x => !decide ((usesC l xs (bumpC (fun _ => 0) root) x : Int) < 2)) ∧ r2 = 0 from ⟨(Prod.mk.inj (Option.some.inj h)).1.symm, (Prod.mk.inj (Option.some.inj h)).2.symm⟩)
        have hrt : sizesB l = true ∧ rightB l root = true := by
          unfold graph_Order.f at ho
          by_cases hs : sizesB l = true
          · refine ⟨hs, ?_⟩
            rw [if_pos hs] at ho
            by_cases hrr : rightB l root = true
            · exact hrr
            · rw [if_neg hrr] at ho
              have := (Prod.mk.inj (Option.some.inj ho)).2
              omega
          · rw [if_neg hs] at ho; cases ho
        have hgood := (right_iff l root hrt.1).1 hrt.2
        have HGG := Lib.hid hgood
        have HSZ := Lib.hid hrt.1
        have hr0 := hgood.r0
        have hr1 := hgood.r1
        have hll := hgood.le
        have HIN := Lib.hid (show ∀ x ∈ xs, 0 ≤ x ∧ x < (l.length : Int) from fun x hx => by have := List.all_eq_true.1 hall x hx; simpa using this)
        have HNE := Lib.hid hne
        have hn0 : 0 < xs.length := List.length_pos_iff.2 hne
        have hkr := int_key root (by omega)
        clear h ho he hrt hgood hall hne
        have hmm := @run_makeMap Tryz.prog
        go_enter Tryz.func16, Tryz.ntmps16
        go_wp2_with (first | ((with_reducible refine gate_dst (N := 1) rfl ?_); refine box_event ?hg (N := 1) ?hd (cs := #[.slice A0 l.length c0, .int .i64 root]) (t := 24) ?hr ?_; (case hd => rfl); (case hg => rfl); (case hr => first | (go_simp; done) | (go_simp; rfl)); intro gb hg w1 hgb hb1; have HG := Lib.hid hgb; have HB := Lib.hid hb1; clear hgb hb1 hg; have x0 := (blk_cell HG.out 0).trans rfl; have x1 := (blk_cell HG.out 1).trans rfl) | (go_at_call 17; refine (graph_Order.calls A0 c0 l root xs 0 _ (Kd.C_below HR.out HB.out) hc0 (hG.below HB.out) HO.out).mono ?_; rintro ee w2 ⟨v, rfl, hrow, hb⟩; obtain ⟨rb, cap, rfl, hrb0, hrb1, hcap, hcm⟩ := row_block hrow HNE.out; have HROW := Lib.hid (Kd.R_lower hrow HB.out.size); have HB2 := Lib.hid (HB.out.trans (hb.mono HB.out.size)); have n0_ := Lib.hid ((hb.block _ (blk_lt HG.out)).trans HG.out); have hgb := hb.size; have hgl := blk_lt HG.out; have hrb2 := Nat.le_trans HB.out.size hrb0; have y1 := cell_al (o := .map #[] 0) ((blk_cell n0_.out 1).trans rfl); clear hrow hb HG HB x0 x1; have HG := n0_; clear n0_; obtain ⟨w9, hrun, hm9, hg9⟩ := (made w2 Tryz.prog 3 intV_inj).put int_law Tryz.underlying75 (by unfold maxLen; omega) hkr (.int .i64 1); have HM9 := Lib.hid hm9; have HG9 := Lib.hid hg9; clear hm9 hg9))
        have HS := Lib.hid (sh_start HG.out HROW.out HB2.out HM9.out HG9.out hrb1 hrb2 (Nat.lt_of_lt_of_le hgl hgb))
        obtain ⟨C, hC⟩ : ∃ C, usesC l xs (bumpC (fun _ => 0) root) = C := ⟨_, rfl⟩
        rw [hC] at HF
        have HC := Lib.hid hC
        clear hC hmm hrun HG HROW HB2 HM9 HG9 hgb hgl hrb0 hrb1 hrb2 y1
        generalize World.alloc _ _ = w3 at HS ⊢
        generalize w2.heap.size = bm at HS ⊢
        generalize w9.heap.size = ub at HS ⊢
        go_loopw [25] (fun v wr => ∃ (i m : Nat) (c : Int → Nat), v = .int .i64 i ∧ i ≤ xs.length ∧ m ≤ i * 1099511627776 + 1 ∧ Hid (usesC l (xs.drop i) c = C) ∧ Hid (Sh w gb ub bm rb cap A0 l.length c0 root xs c m wr)) (fun v _ => xs.length - (intOf v).toNat)
        case atStart => exact ⟨0, 1, _, rfl, by omega, by omega, HC, HS⟩
        case round =>
          clear HS HC
          obtain ⟨i, m, c, rfl, hi, hm, HCR, HSR⟩ := hrel
          by_cases hlt : i < xs.length
          · have hc : decide ((i : Int) < (xs.length : Int)) = true := decide_eq_true (by omega)
            obtain ⟨ci, fi⟩ := Kd.R_celln 0 HSR.out.row (i : Int) (by omega) (by omega)
            rw [Int.toNat_natCast] at ci fi
            have hxi : rdOf 0 xs (i : Int) = xs[i] := by
              unfold rdOf
              rw [Int.toNat_natCast, List.getD_eq_getElem?_getD, List.getElem?_eq_getElem (by omega)]
              rfl
            rw [hxi] at ci
            obtain ⟨j0, j1⟩ := HIN.out xs[i] (List.getElem_mem _)
            have hst := HCR.out
            rw [List.drop_eq_getElem_cons hlt, usesC] at hst
            have HL := Lib.hid hlt
            clear hxi HCR
            generalize xs[i] = at_ at *
            have hnd := HGG.out.node (rd_mem l at_ j0 j1)
            have hrg := hnd.range
            have hkz := (sizes_iff HSZ.out _ (rd_mem l at_ j0 j1)).2
            obtain ⟨bd, A2, c2, eA, y0, y1, y2, hc2, hC2⟩ := at_T45 HR.out at_ j0 j1
            subst eA
            generalize (rd_T45 l at_).f2 = kids at *
            have HST := Lib.hid hst
            have HRG := Lib.hid hrg
            have HC2 := Lib.hid hC2
            have ha2 := (HSR.out.bel.cell (World.block_lt_of_cell? w _ y2)).trans y2
            have g0 := (blk_cell HSR.out.g 0).trans rfl
            have p1 : (0 ≤ (i : Int)) = True := eq_true (by omega)
            have p2 : ((i : Int) < (xs.length : Int)) = True := eq_true (by omega)
            have p3 : (0 ≤ at_) = True := eq_true j0
            have p4 : (at_ < (l.length : Int)) = True := eq_true j1
            clear hst hnd hrg hC2 y0 y1 y2
            go_wp2_with (fail)
            clear ci fi ha2 g0
            go_loopw [36] (fun v wr => ∃ (j m2 : Nat) (c2 : Int → Nat), v = .int .i64 j ∧ j ≤ kids.length ∧ m2 ≤ i * 1099511627776 + 1 + j ∧ Hid (usesC l (xs.drop (i + 1)) ((kids.drop j).foldl bumpC c2) = C) ∧ Hid (Sh w gb ub bm rb cap (some bd) l.length c0 root xs c2 m2 wr)) (fun v _ => kids.length - (intOf v).toNat)
            case atStart => exact ⟨0, m, c, rfl, by omega, by omega, HST, HSR⟩
            case round =>
              clear HSR HST
              obtain ⟨j, m2, cc, rfl, hj, hm2, HCJ, HSJ⟩ := hrel
              by_cases hlj : j < kids.length
              · have hc : decide ((j : Int) < (kids.length : Int)) = true := decide_eq_true (by omega)
                obtain ⟨cd, eA, hx0⟩ := Kd.at_int (Kd.C_below HC2.out HSJ.out.bel) (j : Int) (by omega) (by omega)
                subst eA
                rw [rd_at kids j hlj, Int.toNat_natCast] at hx0
                obtain ⟨k0, k1⟩ := HRG.out kids[j] (List.getElem_mem _)
                have hst := HCJ.out
                rw [List.drop_eq_getElem_cons hlj, List.foldl_cons] at hst
                have HLJ := Lib.hid hlj
                clear HCJ
                generalize kids[j] = k at *
                obtain ⟨hlook, W', hput, hS'⟩ := sh_bump HSJ.out (k := k) (by omega) (by omega)
                have hcb := HSJ.out.cs k
                have hu := HSJ.out.u
                have HST := Lib.hid hst
                have HS2 := Lib.hid hS'
                have p5 : (0 ≤ (j : Int)) = True := eq_true (by omega)
                have p6 : ((j : Int) < (kids.length : Int)) = True := eq_true (by omega)
                clear hst hS'
                generalize hck : cc k = ck at *
                have HCK := Lib.hid hck
                clear hck
                go_wp2_with (fail)
                go_roundw
                case rel => have := HLJ.out; exact ⟨j + 1, m2 + 1, _, by go_num, by omega, by omega, HST, HS2⟩
                case measure => have := HLJ.out; simp [intOf]; omega
              · have hc : decide ((j : Int) < (kids.length : Int)) = false := decide_eq_false (by omega)
                have hje : j = kids.length := by omega
                have HST := Lib.hid (show usesC l (xs.drop (i + 1)) cc = C by have h := HCJ.out; rw [hje, List.drop_length] at h; exact h)
                clear HCJ
                go_wp2_with (fail)
                go_roundw
                case rel =>
                  have h1 := HL.out
                  subst hje
                  have h2 := sh_le hm2 hkz
                  exact ⟨i + 1, m2, cc, by go_num, by omega, h2, HST, HSJ⟩
                case measure => have := HL.out; simp [intOf]; omega
          · have hc : decide ((i : Int) < (xs.length : Int)) = false := decide_eq_false (by omega)
            have hie : i = xs.length := by omega
            have hCc : c = C := by have h := HCR.out; rw [hie, List.drop_length] at h; exact h
            subst hCc
            have HD := Lib.hid (delete_is 34 shared1_enters (.pointer (some ⟨ub, 0, none⟩)) (fun x => decide ((c x : Int) < 2)) w.heap.size rb xs.length cap xs wr (fun W => W.cell? ⟨ub, 0, none⟩ = some (.map (some bm)) ∧ MapIs Tryz.prog 3 (Value.int .i64) W bm m (cntV c)) HSR.out.row rfl hn0 hcap (by unfold maxLen at hcm; omega)
              ⟨HSR.out.u, HSR.out.mp⟩ (fun w1 w2 h hb => ⟨(hb.cell (World.block_lt_of_cell? w1 _ h.1)).trans h.1, h.2.of_below hb⟩)
              (fun w1 w2 h _ hg => by
                obtain ⟨l1, l2, l3, l4, l5⟩ := HSR.out.lts
                exact ⟨(World.cell?_of_block (hg.block ub (World.block_lt_of_cell? w1 _ h.1) (fun e => by have := Option.some.inj e; omega))).trans h.1, h.2.kept hg (fun e => by have := Option.some.inj e; omega)⟩)
              (fun x W hx h => shared1_is ub bm m c x W (by have := HIN.out x hx; omega) h.1 h.2))
            clear HCR hc
            have hc : decide ((i : Int) < (xs.length : Int)) = false := decide_eq_false (by omega)
            go_wp2_with (go_at_call 33; refine HD.out.mono ?_; rintro e w9 ⟨mm, rfl, hrow, _, hg⟩; have HROW := Lib.hid hrow; have HGR := Lib.hid hg; clear hrow hg)
            go_ret2
            exact ⟨_, by rw [HF.out.2]; first | done | rfl, by rw [HF.out.1]; exact HROW.out, HSR.out.bel.trans (below_of_grown HGR.out HSR.out.lts.2.2.2.2 HSR.out.bel.size)⟩
      · rw [if_neg hcx] at h; cases h
def nameB (n : Nat) : ByteArray := ⟨#[97]⟩ ++ ⟨(Lib.itoa (n : Int)).toArray⟩
set_option maxHeartbeats 8000000 in
set_option maxRecDepth 100000 in
theorem next_is (w0 : World) (nb n : Nat) (W : World) (hG : Glob.G w0) (hb : Below w0.heap.size w0 W) (hnb : w0.heap.size ≤ nb) (hn : n ≤ 1099511627776) (h : W.heap[nb]? = some (.cells #[.int .i64 n] 68)) :
  Calls Tryz.prog 28 #[.pointer (some ⟨nb, 0, none⟩)] W fun e W' => e = .returned (.string (nameB (n + 1))) ∧ W'.heap[nb]? = some (.cells #[.int .i64 ((n + 1 : Nat) : Int)] 68) ∧ W.grownBy W' (some nb) := by
 have c0 : W.cell? ⟨nb, 0, none⟩ = some (.int .i64 n) := (blk_cell h 0).trans rfl
 have f0 : W.frozen? ⟨nb, 0, none⟩ = false := by rw [World.frozen?]; simp [h]
 have c1 : (W.setCell ⟨nb, 0, none⟩ (.int .i64 ((n : Int) + 1))).cell? ⟨nb, 0, none⟩ = some (.int .i64 ((n : Int) + 1)) := World.cell?_setCell_same' _ _ _ (by rw [c0]; rfl)
 have HS := Lib.hid (show (W.setCell ⟨nb, 0, none⟩ (.int .i64 ((n : Int) + 1))).heap[nb]? = some (.cells #[.int .i64 ((n : Int) + 1)] 68) by simpa using blk_set h 0 (.int .i64 ((n : Int) + 1)))
 have HG := Lib.hid (grownBy_setCell' W nb (.int .i64 ((n : Int) + 1)))
 have HB := Lib.hid (hb.setCell (p := ⟨nb, 0, none⟩) hnb (.int .i64 ((n : Int) + 1)))
 obtain ⟨tx, htx⟩ : ∃ tx : ByteArray, ⟨(Lib.itoa ((n : Int) + 1)).toArray⟩ = tx := ⟨_, rfl⟩
 have HT := Lib.hid (show plain_Text.f ((n : Int) + 1) = some tx by rw [← htx]; unfold plain_Text.f strconv_Itoa.f; rw [if_pos (by omega)]; rfl)
 have HX := Lib.hid htx
 have hsz : tx.size ≤ 21 := by rw [← htx]; show (Lib.itoa ((n : Int) + 1)).toArray.size ≤ 21; rw [List.size_toArray]; exact Lib.itoa_length_le ((n : Int) + 1) (by omega) (by omega)
 have hadd : ∀ W : World, (Op.stringOp .add ⟨#[97]⟩ tx).run Tryz.prog W = .ok (.string (⟨#[97]⟩ ++ tx)) W := fun W => run_string_add_sum W _ _ (by rw [show (⟨#[97]⟩ : ByteArray).size = 1 from rfl]; omega)
 clear h hb htx
 go_enter Tryz.func28, Tryz.ntmps28
 go_wp2_with (go_at_call 45; refine (plain_Text.calls _ _ _ (hG.below HB.out) HT.out).mono ?_; rintro e w2 ⟨rfl, hb2⟩; have HB2 := Lib.hid hb2; clear hb2 c0 c1 f0)
 go_ret
 refine ⟨by unfold nameB; rw [show ((n + 1 : Nat) : Int) = (n : Int) + 1 by omega, HX.out]; rfl, (HB2.out.block nb (blk_lt HS.out)).trans HS.out, grownBy_trans HG.out (grownBy_below HB2.out)⟩
abbrev Tr := S29
def noTr : Tr := ⟨0, ⟨#[]⟩, ⟨#[]⟩, []⟩
theorem info_tree : (Tryz.prog.info? 29).map (fun i => (i.zero, i.size, i.bytes)) = some (some (.agg #[.int .i64 0, .string ⟨#[]⟩, .string ⟨#[]⟩, .slice none 0 0]), 4, 64) := by kernel_rfl
abbrev LS := (Int → Bool) × Int × Nat
def seen (m : Int → Bool) (k : Int) : Int → Bool := fun y => if y = k then true else m y
def treeO (l : List Nd) (an : Int → ByteArray) : Nat → Int → Int → LS → Option (Tr × LS)
 | 0, _, _, _ => none
 | K + 1, at_, deep, s =>
  if s.1 at_ = true then some (⟨7, ⟨#[]⟩, an at_, []⟩, s)
  else if 1099511627776 < s.2.2 then none
  else
   let n := rd_T45 l at_
   let why := if 5 ≤ n.f0 ∧ deep = 64 then 10 else s.2.1
   let s1 : LS := (seen s.1 at_, why, s.2.2 + 1)
   if why ≠ 0 then some (noTr, s1)
   else (n.f2.foldlM (fun (p : List Tr × LS) k => (treeO l an K k (deep + 1) p.2).map fun q => (p.1 ++ [q.1], q.2)) ([], s1)).map fun p => (⟨n.f0, n.f1, an at_, p.1⟩, p.2)
def anV (F : Int → Option ByteArray) (k : Int) : Option Value := (F k).map Value.string
def metV (m : Int → Bool) (k : Int) : Option Value := if m k = true then some (.bool true) else none
structure Lw (w0 : World) (lb am mm na : Nat) (A0 : Option Addr) (n c0 : Nat) (F : Int → Option ByteArray) (s : LS) (W : World) : Prop where
 l : W.heap[lb]? = some (.cells #[.slice A0 n c0, .map (some am), .map (some mm), .int .i64 s.2.1] 64)
 a : MapIs Tryz.prog 3 (Value.int .i64) W am na (anV F)
 m : MapIs Tryz.prog 3 (Value.int .i64) W mm s.2.2 (metV s.1)
 bel : Below w0.heap.size w0 W
 lts : w0.heap.size ≤ lb ∧ w0.heap.size ≤ am ∧ w0.heap.size ≤ mm ∧ lb ≠ am ∧ lb ≠ mm ∧ am ≠ mm
theorem Lw.keep {w0 W W' : World} {lb am mm na n c0 : Nat} {A0 : Option Addr} {F : Int → Option ByteArray} {s : LS} (h : Lw w0 lb am mm na A0 n c0 F s W) (hb : Below W.heap.size W W') : Lw w0 lb am mm na A0 n c0 F s W' :=
  ⟨(hb.block lb (blk_lt h.l)).trans h.l, h.a.of_below hb, h.m.of_below hb, h.bel.trans (hb.mono h.bel.size), h.lts⟩
theorem Lw.cells {w0 W : World} {lb am mm na n c0 : Nat} {A0 : Option Addr} {F : Int → Option ByteArray} {s : LS} (h : Lw w0 lb am mm na A0 n c0 F s W) :
  W.cell? ⟨lb, 0, none⟩ = some (.slice A0 n c0) ∧ W.cell? ⟨lb, 1, none⟩ = some (.map (some am)) ∧ W.cell? ⟨lb, 2, none⟩ = some (.map (some mm)) ∧ W.cell? ⟨lb, 3, none⟩ = some (.int .i64 s.2.1) ∧ W.frozen? ⟨lb, 3, none⟩ = false :=
 ⟨(blk_cell h.l 0).trans rfl, (blk_cell h.l 1).trans rfl, (blk_cell h.l 2).trans rfl, (blk_cell h.l 3).trans rfl, by rw [World.frozen?]; simp [h.l]⟩
theorem Lw.look {w0 W : World} {lb am mm na n c0 : Nat} {A0 : Option Addr} {F : Int → Option ByteArray} {s : LS} (h : Lw w0 lb am mm na A0 n c0 F s W) (k : Int) (hk : -9223372036854775808 ≤ k ∧ k ≤ 9223372036854775807) :
  (Instr.lookup 62 (.map (some mm)) (.int .i64 k) false).run Tryz.prog W = .ok (.bool (s.1 k)) W ∧ (Instr.lookup 61 (.map (some am)) (.int .i64 k) false).run Tryz.prog W = .ok (.string ((F k).getD ⟨#[]⟩)) W := by
 refine ⟨?_, ?_⟩
 ·
  rw [h.m.look int_law Tryz.underlying62 (zero_bool W) (int_key k hk)]
  unfold metV
  cases s.1 k <;> rfl
 ·
  rw [h.a.look int_law Tryz.underlying61 (show (zeroValue 9).run Tryz.prog W = .ok (.string ⟨#[]⟩) W by kernel_rfl) (int_key k hk)]
  unfold anV
  cases F k <;> rfl
theorem Lw.put {w0 W : World} {lb am mm na n c0 : Nat} {A0 : Option Addr} {F : Int → Option ByteArray} {s : LS} (h : Lw w0 lb am mm na A0 n c0 F s W) (k : Int) (hk : -9223372036854775808 ≤ k ∧ k ≤ 9223372036854775807) (hm : s.2.2 ≤ 1099511627776) :
  ∃ W', (Instr.mapUpdate 62 (.map (some mm)) (.int .i64 k) (.bool true)).run Tryz.prog W = .ok () W' ∧ Lw w0 lb am mm na A0 n c0 F (seen s.1 k, s.2.1, s.2.2 + 1) W' ∧ W.grownBy W' (some mm) := by
 obtain ⟨l1, l2, l3, l4, l5, l6⟩ := h.lts
 obtain ⟨W', hr, hm', hg⟩ := h.m.put int_law Tryz.underlying62 (by unfold maxLen; omega) (int_key k hk) (.bool true)
 have e2 : (fun y => if y = k then some (Value.bool true) else metV s.1 y) = metV (seen s.1 k) := by
  funext y
  unfold metV seen
  by_cases e : y = k
  · simp [e]
  simp [e]
 rw [e2] at hm'
 exact ⟨W', hr, ⟨(hg.block lb (blk_lt h.l) (fun e => l5 (Option.some.inj e))).trans h.l, h.a.kept hg (fun e => l6 (Option.some.inj e)), hm', h.bel.trans (below_of_grown hg l3 h.bel.size), h.lts⟩, hg⟩
theorem Lw.set {w0 W : World} {lb am mm na n c0 : Nat} {A0 : Option Addr} {F : Int → Option ByteArray} {s : LS} (h : Lw w0 lb am mm na A0 n c0 F s W) {b : Nat} (hb : w0.heap.size ≤ b) (h1 : b ≠ lb) (h2 : b ≠ am) (h3 : b ≠ mm) (i : Nat) (v : Value) : Lw w0 lb am mm na A0 n c0 F s (W.setCell ⟨b, i, none⟩ v) :=
  ⟨(Below.heap_setCell W ⟨b, i, none⟩ v lb (Ne.symm h1)).trans h.l, h.a.of_block (Below.heap_setCell W ⟨b, i, none⟩ v am (Ne.symm h2)), h.m.of_block (Below.heap_setCell W ⟨b, i, none⟩ v mm (Ne.symm h3)), h.bel.setCell (p := ⟨b, i, none⟩) hb v, h.lts⟩
theorem Lw.why {w0 W : World} {lb am mm na n c0 : Nat} {A0 : Option Addr} {F : Int → Option ByteArray} {s : LS} (h : Lw w0 lb am mm na A0 n c0 F s W) (x : Int) : Lw w0 lb am mm na A0 n c0 F (s.1, x, s.2.2) (W.setCell ⟨lb, 3, none⟩ (.int .i64 x)) := by
 obtain ⟨l1, l2, l3, l4, l5, l6⟩ := h.lts
 exact ⟨by simpa using blk_set h.l 3 (.int .i64 x), h.a.of_block (Below.heap_setCell W ⟨lb, 3, none⟩ _ am (Ne.symm l4)), h.m.of_block (Below.heap_setCell W ⟨lb, 3, none⟩ _ mm (Ne.symm l5)), h.bel.setCell (p := ⟨lb, 3, none⟩) l1 _, h.lts⟩
structure Lv (w0 W : World) (lb am mm na : Nat) (A0 : Option Addr) (n c0 : Nat) (F : Int → Option ByteArray) (s : LS) (cs : Array Value) (Z : World) : Prop where
 lw : Lw w0 lb am mm na A0 n c0 F s Z
 kb : KeepBut W Z lb (some mm)
 rb : Z.heap[W.heap.size]? = some (.cells cs 29)
 lt : lb < W.heap.size ∧ am < W.heap.size ∧ mm < W.heap.size ∧ w0.heap.size ≤ W.heap.size
section
variable {w0 W Z Z' : World} {lb am mm na n c0 : Nat} {A0 : Option Addr} {F : Int → Option ByteArray} {s : LS} {cs : Array Value}
theorem Lv.below (h : Lv w0 W lb am mm na A0 n c0 F s cs Z) (hb : Below Z.heap.size Z Z') : Lv w0 W lb am mm na A0 n c0 F s cs Z' :=
  ⟨h.lw.keep hb, h.kb.trans (KeepBut.of_below hb lb (some mm)) (.inl rfl), (hb.block _ (blk_lt h.rb)).trans h.rb, h.lt⟩
theorem Lv.set (h : Lv w0 W lb am mm na A0 n c0 F s cs Z) {b : Nat} (hb : W.heap.size < b) (i : Nat) (v : Value) : Lv w0 W lb am mm na A0 n c0 F s cs (Z.setCell ⟨b, i, none⟩ v) := by
 obtain ⟨l1, l2, l3, l4⟩ := h.lt
 exact ⟨h.lw.set (by omega) (by omega) (by omega) (by omega) i v, ⟨by simpa [World.setCell] using h.kb.1, fun k hk h1 h2 => (Below.heap_setCell Z ⟨b, i, none⟩ v k (by show k ≠ b; omega)).trans (h.kb.2 k hk h1 h2)⟩, (Below.heap_setCell Z ⟨b, i, none⟩ v _ (by show W.heap.size ≠ b; omega)).trans h.rb, h.lt⟩
theorem Lv.why (h : Lv w0 W lb am mm na A0 n c0 F s cs Z) (x : Int) : Lv w0 W lb am mm na A0 n c0 F (s.1, x, s.2.2) cs (Z.setCell ⟨lb, 3, none⟩ (.int .i64 x)) :=
  ⟨h.lw.why x, h.kb.set_ 3 _, (Below.heap_setCell Z ⟨lb, 3, none⟩ _ _ (by show W.heap.size ≠ lb; have := h.lt; omega)).trans h.rb, h.lt⟩
theorem Lv.put1 (h : Lv w0 W lb am mm na A0 n c0 F s cs Z) (i : Nat) (y : Value) : Lv w0 W lb am mm na A0 n c0 F s (cs.set! i y) (Z.setCell ⟨W.heap.size, i, none⟩ y) := by
 obtain ⟨l1, l2, l3, l4⟩ := h.lt
 refine ⟨h.lw.set l4 (by omega) (by omega) (by omega) i y, ⟨by simpa [World.setCell] using h.kb.1, fun k hk h1 h2 => (Below.heap_setCell Z ⟨W.heap.size, i, none⟩ y k (by show k ≠ W.heap.size; omega)).trans (h.kb.2 k hk h1 h2)⟩, ?_, h.lt⟩
 simpa using blk_set h.rb i y
theorem Lv.put4 {x0 x1 x2 x3 : Value} (h : Lv w0 W lb am mm na A0 n c0 F s #[x0, x1, x2, x3] Z) (y0 y1 y2 y3 : Value) : Lv w0 W lb am mm na A0 n c0 F s #[y0, y1, y2, y3] ((((Z.setCell ⟨W.heap.size, 0, none⟩ y0).setCell ⟨W.heap.size, 1, none⟩ y1).setCell ⟨W.heap.size, 2, none⟩ y2).setCell ⟨W.heap.size, 3, none⟩ y3) := by
  simpa using (((h.put1 0 y0).put1 1 y1).put1 2 y2).put1 3 y3
theorem Lv.res {x0 x1 x2 x3 : Value} (h : Lv w0 W lb am mm na A0 n c0 F s #[x0, x1, x2, x3] Z) :
  (Z.cell? ⟨W.heap.size, 0, none⟩ = some x0 ∧ Z.cell? ⟨W.heap.size, 1, none⟩ = some x1 ∧ Z.cell? ⟨W.heap.size, 2, none⟩ = some x2 ∧ Z.cell? ⟨W.heap.size, 3, none⟩ = some x3) ∧
  Z.frozen? ⟨W.heap.size, 0, none⟩ = false ∧ Z.frozen? ⟨W.heap.size, 1, none⟩ = false ∧ Z.frozen? ⟨W.heap.size, 2, none⟩ = false ∧ Z.frozen? ⟨W.heap.size, 3, none⟩ = false :=
 ⟨⟨(blk_cell h.rb 0).trans rfl, (blk_cell h.rb 1).trans rfl, (blk_cell h.rb 2).trans rfl, (blk_cell h.rb 3).trans rfl⟩, blk_frozen h.rb 0, blk_frozen h.rb 1, blk_frozen h.rb 2, blk_frozen h.rb 3⟩
end
structure Lk (w0 W : World) (lb am mm na : Nat) (A0 : Option Addr) (n c0 : Nat) (F : Int → Option ByteArray) (s : LS) (cs : Array Value) (tb K : Nat) (c1 c2 c3 u u2 : Value) (ts : List Tr) (Z : World) : Prop where
 lv : Lv w0 W lb am mm na A0 n c0 F s cs Z
 t : Z.heap[tb]? = some (.cells #[c1, c2, c3, u] 29)
 row : Kd.R k29 29 Z W.heap.size (fun k => k ≠ tb ∧ k ≠ W.heap.size) u2 ts
 gt : W.heap.size < tb
section
variable {w0 W Z Z' : World} {lb am mm na n c0 tb K : Nat} {A0 : Option Addr} {F : Int → Option ByteArray} {s s' : LS} {cs : Array Value} {c1 c2 c3 u u2 v1 : Value} {ts ts' : List Tr}
theorem Lk.below (h : Lk w0 W lb am mm na A0 n c0 F s cs tb K c1 c2 c3 u u2 ts Z) (hb : Below Z.heap.size Z Z') : Lk w0 W lb am mm na A0 n c0 F s cs tb K c1 c2 c3 u u2 ts Z' :=
  ⟨h.lv.below hb, (hb.block tb (blk_lt h.t)).trans h.t, Kd.R_below h.row hb, h.gt⟩
theorem Lk.call (h : Lk w0 W lb am mm na A0 n c0 F s cs tb K c1 c2 c3 u u2 ts Z) (hl : Lw w0 lb am mm na A0 n c0 F s' Z') (hk : KeepBut Z Z' lb (some mm)) : Lk w0 W lb am mm na A0 n c0 F s' cs tb K c1 c2 c3 u u2 ts Z' := by
 obtain ⟨l1, l2, l3, l4⟩ := h.lv.lt
 have hgt := h.gt
 refine ⟨⟨hl, h.lv.kb.trans hk (.inl rfl), (hk.2 _ (blk_lt h.lv.rb) (by omega) (fun e => by have := Option.some.inj e; omega)).trans h.lv.rb, h.lv.lt⟩, (hk.2 _ (blk_lt h.t) (by omega) (fun e => by have := Option.some.inj e; omega)).trans h.t, ?_, h.gt⟩
 exact Kd.R_mono (Kd.R_step (Kd.R_bound h.row) (fun k hk' hlt => hk.2 k hlt (by have := hk'.2.1; omega) (fun e => by have := hk'.2.1; have := Option.some.inj e; omega))) (fun _ hk' => hk'.1)
theorem Lk.grow (h : Lk w0 W lb am mm na A0 n c0 F s cs tb K c1 c2 c3 u u2 ts Z) (hg : Z.grownBy Z' u2.ownBlock) (hr : Kd.R k29 29 Z' W.heap.size (fun k => k ≠ tb ∧ k ≠ W.heap.size) v1 ts') : Lk w0 W lb am mm na A0 n c0 F s cs tb K c1 c2 c3 u v1 ts' Z' := by
 obtain ⟨l1, l2, l3, l4⟩ := h.lv.lt
 have hgt := h.gt
 have hO : ∀ k, u2.ownBlock = some k → (k ≠ tb ∧ k ≠ W.heap.size) ∧ W.heap.size ≤ k := fun k e => ⟨((Kd.R_bound h.row).1 k e).1, ((Kd.R_bound h.row).1 k e).2.1⟩
 have hB : ∀ k, k < Z.heap.size → (k < W.heap.size ∨ k = tb ∨ k = W.heap.size) → Z'.heap[k]? = Z.heap[k]? := fun k hk hc => hg.block k hk (fun e => by have := hO k e.symm; omega)
 have hw := h.lv.lw
 refine ⟨⟨⟨(hB lb (blk_lt hw.l) (.inl l1)).trans hw.l, hw.a.of_block (hB am hw.a.lt (.inl l2)), hw.m.of_block (hB mm hw.m.lt (.inl l3)), hw.bel.trans ⟨hg.os, hg.tape, hg.output, hg.size, fun k hk => hB k (Nat.lt_of_lt_of_le hk hw.bel.size) (.inl (by omega))⟩, hw.lts⟩, ?_, (hB _ (blk_lt h.lv.rb) (.inr (.inr rfl))).trans h.lv.rb, h.lv.lt⟩, (hB _ (blk_lt h.t) (.inr (.inl rfl))).trans h.t, hr, h.gt⟩
 exact ⟨Nat.le_trans h.lv.kb.1 hg.size, fun k hk a b => (hB k (Nat.lt_of_lt_of_le hk h.lv.kb.1) (.inl hk)).trans (h.lv.kb.2 k hk a b)⟩
theorem Lk.store (h : Lk w0 W lb am mm na A0 n c0 F s cs tb K c1 c2 c3 u u2 ts Z) : Lk w0 W lb am mm na A0 n c0 F s cs tb K c1 c2 c3 u2 u2 ts (Z.setCell ⟨tb, 3, none⟩ u2) := by
 have hgt := h.gt
 exact ⟨h.lv.set hgt 3 u2, by simpa using blk_set h.t 3 u2, Kd.R_far h.row (fun k hk => hk.1) u2, h.gt⟩
theorem Lk.cells (h : Lk w0 W lb am mm na A0 n c0 F s cs tb K c1 c2 c3 u u2 ts Z) : Z.cell? ⟨tb, 3, none⟩ = some u ∧ Z.frozen? ⟨tb, 3, none⟩ = false ∧ Z.cell? ⟨tb, 0, none⟩ = some c1 ∧ Z.cell? ⟨tb, 1, none⟩ = some c2 ∧ Z.cell? ⟨tb, 2, none⟩ = some c3 :=
  ⟨(blk_cell h.t 3).trans rfl, blk_frozen h.t 3, (blk_cell h.t 0).trans rfl, (blk_cell h.t 1).trans rfl, (blk_cell h.t 2).trans rfl⟩
end
end Go.Proofs.YtnjcpoojgmpmeaaGreatDoor.Plug
namespace Go.Proofs.YtnjcpoojgmpmeaaGreatDoor.Plug
open Go.Maps RowKit YtnjcpoojgmpmeaaGreatDoor YtnjcpoojgmpmeaaGreatDoor.PX YtnjcpoojgmpmeaaGreatDoor.Utf YtnjcpoojgmpmeaaGreatDoor.Mapk YtnjcpoojgmpmeaaGreatDoor.Graphs YtnjcpoojgmpmeaaGreatDoorW.PrintWords YtnjcpoojgmpmeaaGreatDoorW.PrintLast YtnjcpoojgmpmeaaGreatDoorW.PrintMore
set_option linter.unusedVariables false
set_option linter.unusedSimpArgs false
theorem merge_ {G X : Prop} (hb : Hid X → G) (hx : X) : G := hb (Lib.hid hx)
set_option maxHeartbeats 8000000 in
set_option maxRecDepth 100000 in
theorem tree_is (w0 : World) (lb am mm na : Nat) (A0 : Option Addr) (c0 : Nat) (l : List Nd) (F : Int → Option ByteArray) (hr : Kd.C k45 w0 A0 l.length l) (hl : l.length ≤ 4096) (hz : ∀ n ∈ l, n.f2.length ≤ 1099511627776) (hk : ∀ n ∈ l, ∀ k ∈ n.f2, 0 ≤ k ∧ k < (l.length : Int)) :
    ∀ (K : Nat) (at_ deep : Int) (s s' : LS) (t : Tr) (W : World), Lw w0 lb am mm na A0 l.length c0 F s W → treeO l (fun k => (F k).getD ⟨#[]⟩) K at_ deep s = some (t, s') → 0 ≤ at_ → at_ < (l.length : Int) → 0 ≤ deep → deep + K ≤ 1099511627776 →
      Calls Tryz.prog 29 #[.pointer (some ⟨lb, 0, none⟩), .int .i64 at_, .int .i64 deep] W fun e W' => ∃ v, e = .returned (.agg #[.int .i64 t.f0, .string t.f1, .string t.f2, v]) ∧ Kd.M k29 W' W.heap.size (fun _ => True) t [.int .i64 t.f0, .string t.f1, .string t.f2, v] ∧ Lw w0 lb am mm na A0 l.length c0 F s' W' ∧ KeepBut W W' lb (some mm) := by
  intro K
  induction K with
  | zero => intro at_ deep s s' t W _ h; simp [treeO] at h
  | succ K ih =>
    intro at_ deep s s' t W hW h h0 h1 hd0 hd1
    have HR := Lib.hid hr
    have IH := Lib.hid ih
    have hW1 := hW.keep (below_alloc (Below.refl _ _) (.cells #[.int .i64 0, .string ⟨#[]⟩, .string ⟨#[]⟩, .slice none 0 0] 29))
    have hW2 := hW.keep (below_alloc (Below.refl _ _) (.cells #[.int .i64 7, .string ⟨#[]⟩, .string ((F at_).getD ⟨#[]⟩), .slice none 0 0] 29))
    obtain ⟨x0, x1, x2, x3, x4⟩ := hW1.cells
    obtain ⟨m1, m2⟩ := hW1.look at_ (by omega)
    have HW := Lib.hid hW
    have HW1 := Lib.hid hW1
    have HW2 := Lib.hid hW2
    have hlt := blk_lt hW.l
    clear ih hr hW hW1 hW2
    rw [treeO] at h
    cases hm : s.1 at_ with
    | true =>
      rw [hm] at m1
      rw [if_pos hm] at h
      obtain ⟨e1, e2⟩ := Prod.mk.inj (Option.some.inj h)
      subst e2
      have HT := Lib.hid e1.symm
      clear h e1 hm
      go_enter Tryz.func29, Tryz.ntmps29
      go_wp2_with (fail)
      have z0 : (W.alloc (.cells #[.int .i64 7, .string ⟨#[]⟩, .string ((F at_).getD ⟨#[]⟩), .slice none 0 0] 29)).heap[W.heap.size]? = some (.cells #[.int .i64 7, .string ⟨#[]⟩, .string ((F at_).getD ⟨#[]⟩), .slice none 0 0] 29) := blk_new W _
      refine bodyPost_ret (results_cell_row rfl _ _ W.heap.size 29 #[.int .i64 7, .string ⟨#[]⟩, .string ((F at_).getD ⟨#[]⟩), .slice none 0 0] (0, 0) _ rfl z0 Tryz.underlying29 rfl (by kernel_rfl)) rfl ?_
      rw [HT.out]
      exact ⟨.slice none 0 0, rfl, k29_mkM _ _ _ ⟨7, ⟨#[]⟩, _, []⟩ (Kd.R_nil _ _ _ _ _), HW2.out, KeepBut.of_below (below_alloc (Below.refl _ _) _) lb (some mm)⟩
    | false =>
      rw [hm] at m1
      rw [if_neg (by rw [hm]; exact Bool.false_ne_true)] at h
      by_cases hcn : 1099511627776 < s.2.2
      · rw [if_pos hcn] at h; cases h
      · rw [if_neg hcn] at h
        obtain ⟨w3, hrun, hL3, hg3⟩ := HW1.out.put at_ (by omega) (by omega)
        obtain ⟨bd, A2, c2, eA, y0, y1, y2, hc2, hC⟩ := at_T45 HR.out at_ h0 h1
        subst eA
        have y0 := (hL3.bel.cell (World.block_lt_of_cell? w0 _ y0)).trans y0
        have y1 := (hL3.bel.cell (World.block_lt_of_cell? w0 _ y1)).trans y1
        have y2 := (hL3.bel.cell (World.block_lt_of_cell? w0 _ y2)).trans y2
        have hzz := hz _ (rd_mem l at_ h0 h1)
        have hkk := hk _ (rd_mem l at_ h0 h1)
        dsimp only at h
        generalize rd_T45 l at_ = n at *
        obtain ⟨kd, tx, kids⟩ := n
        dsimp only at y0 y1 y2 hc2 hC hzz hkk h
        obtain ⟨u0, _, _, _, _⟩ := hL3.cells
        have hL4 := hL3.keep (below_alloc (Below.refl _ _) (.cells #[.int .i64 kd, .string tx, .slice A2 kids.length c2] 45))
        obtain ⟨v0, v1, v2, v3, v4⟩ := hL4.cells
        obtain ⟨_, m4⟩ := hL4.look at_ (by omega)
        have hg : s.2.1 = s.2.1 := rfl
        obtain ⟨smet, why, cnt⟩ := s
        dsimp only at v3 h hm hcn
        have hlts := HW.out.lts
        have hLV3 : Lv w0 W lb am mm na (some bd) l.length c0 F (seen smet at_, why, cnt + 1) #[.int .i64 0, .string ⟨#[]⟩, .string ⟨#[]⟩, .slice none 0 0] w3 :=
          ⟨hL3, (KeepBut.of_below (below_alloc (Below.refl _ _) _) lb (some mm)).trans (KeepBut.of_grown hg3 lb) (.inl rfl), (hg3.block W.heap.size (by simp) (fun e => by have := HW.out.m.lt; have := Option.some.inj e; omega)).trans (blk_new W _), hlt, HW.out.a.lt, HW.out.m.lt, HW.out.bel.size⟩
        have hLV4 := hLV3.below (below_alloc (Below.refl _ _) (.cells #[.int .i64 kd, .string tx, .slice A2 kids.length c2] 45))
        have HV3 := Lib.hid hLV3
        have HV4 := Lib.hid hLV4
        have HC := Lib.hid hC
        have HKK := Lib.hid hkk
        have p3 : (0 ≤ at_) = True := eq_true h0
        have p4 : (at_ < (l.length : Int)) = True := eq_true h1
        clear hL3 hL4 hg3 hC hkk hg m2 hm hLV3 hLV4 hlts
        by_cases hbig : 5 ≤ kd ∧ deep = 64
        · have q1 : decide (kd ≥ 5) = true := decide_eq_true hbig.1
          have q2 : (deep == 64) = true := beq_iff_eq.2 hbig.2
          rw [if_pos hbig, if_pos (by decide)] at h
          obtain ⟨e1, e2⟩ := Prod.mk.inj (Option.some.inj h)
          subst e2
          have HT := Lib.hid e1.symm
          clear h e1
          have HV5 := Lib.hid (HV4.out.why 10)
          obtain ⟨⟨r0, r1, r2, r3⟩, r4, r5, r6, r7⟩ := HV5.out.res
          have HV6 := Lib.hid ((HV3.out.why 10).below (below_alloc (Below.refl _ _) (.cells #[.int .i64 kd, .string tx, .slice A2 kids.length c2] 45)))
          obtain ⟨⟨t0, t1, t2, t3⟩, t4, t5, t6, t7⟩ := HV6.out.res
          go_enter Tryz.func29, Tryz.ntmps29
          go_wp2_with (fail)
          have HV7 := Lib.hid (HV5.out.put4 (.int .i64 0) (.string ⟨#[]⟩) (.string ⟨#[]⟩) (.slice none 0 0))
          refine bodyPost_ret (results_cell_row rfl _ _ W.heap.size 29 #[.int .i64 0, .string ⟨#[]⟩, .string ⟨#[]⟩, .slice none 0 0] (0, 0) _ rfl HV7.out.rb Tryz.underlying29 rfl (by kernel_rfl)) rfl ?_
          rw [HT.out]
          exact ⟨.slice none 0 0, rfl, k29_mkM _ _ _ noTr (Kd.R_nil _ _ _ _ _), HV7.out.lw, HV7.out.kb⟩
        · rw [if_neg hbig] at h
          have hq : decide (kd ≥ 5) = false ∨ (decide (kd ≥ 5) = true ∧ (deep == 64) = false) := by
            by_cases h5 : 5 ≤ kd
            · exact .inr ⟨decide_eq_true h5, beq_eq_false_iff_ne.2 (fun e => hbig ⟨h5, e⟩)⟩
            · exact .inl (decide_eq_false h5)
          clear hbig
          by_cases hw : why ≠ 0
          · have q3 : (why != 0) = true := bne_iff_ne.2 hw
            rw [if_pos hw] at h
            obtain ⟨e1, e2⟩ := Prod.mk.inj (Option.some.inj h)
            subst e2
            have HT := Lib.hid e1.symm
            clear h e1
            obtain ⟨⟨r0, r1, r2, r3⟩, r4, r5, r6, r7⟩ := HV4.out.res
            rcases hq with q1 | ⟨q1, q2⟩
            all_goals
              go_enter Tryz.func29, Tryz.ntmps29
              go_wp2_with (fail)
              have HV7 := Lib.hid (HV4.out.put4 (.int .i64 0) (.string ⟨#[]⟩) (.string ⟨#[]⟩) (.slice none 0 0))
              refine bodyPost_ret (results_cell_row rfl _ _ W.heap.size 29 #[.int .i64 0, .string ⟨#[]⟩, .string ⟨#[]⟩, .slice none 0 0] (0, 0) _ rfl HV7.out.rb Tryz.underlying29 rfl (by kernel_rfl)) rfl ?_
              rw [HT.out]
              exact ⟨.slice none 0 0, rfl, k29_mkM _ _ _ noTr (Kd.R_nil _ _ _ _ _), HV7.out.lw, HV7.out.kb⟩
          · have hw0 : why = 0 := Decidable.not_not.1 hw
            rw [if_neg hw] at h
            subst hw0
            obtain ⟨p, hp1, hp2⟩ := Option.map_eq_some_iff.1 h
            have HP := Lib.hid hp1
            have HF := Lib.hid hp2
            clear h hp1 hp2 hw
            have hV5 := HV4.out.below (below_alloc (Below.refl _ _) (.cells #[.int .i64 0, .string ⟨#[]⟩, .string ⟨#[]⟩, .slice none 0 0] 29))
            obtain ⟨z0, z1, z2, z3, z4⟩ := hV5.lw.cells
            obtain ⟨_, m5⟩ := hV5.lw.look at_ (by omega)
            obtain ⟨_, m6⟩ := (hV5.below (below_drew1 (Below.refl _ _))).lw.look at_ (by omega)
            obtain ⟨_, m7⟩ := (HV4.out.below (below_drew1 (Below.refl _ _))).lw.look at_ (by omega)
            have n4 : (w3.alloc (.cells #[.int .i64 kd, .string tx, .slice A2 kids.length c2] 45)).heap[w3.heap.size]? = some (.cells #[.int .i64 kd, .string tx, .slice A2 kids.length c2] 45) := blk_new w3 _
            have n5 := (below_alloc (Below.refl _ _) (.cells #[.int .i64 0, .string ⟨#[]⟩, .string ⟨#[]⟩, .slice none 0 0] 29)).block w3.heap.size (blk_lt n4) |>.trans n4
            have n40 := (blk_cell n4 0).trans rfl
            have n41 := (blk_cell n4 1).trans rfl
            have n42 := (blk_cell n4 2).trans rfl
            have n50 := (blk_cell n5 0).trans rfl
            have n51 := (blk_cell n5 1).trans rfl
            have HN4 := Lib.hid n4
            clear n4 n5 hV5
            rcases hq with q1 | ⟨q1, q2⟩
            all_goals
              go_enter Tryz.func29, Tryz.ntmps29
              go_wp2_with (fail)
              apply merge_
              · intro hXm
                go_region
                all_goals
                  have HL5 := Lib.hid (show Lk w0 W lb am mm na (some bd) l.length c0 F (seen smet at_, 0, cnt + 1) #[.int .i64 0, .string ⟨#[]⟩, .string ⟨#[]⟩, .slice none 0 0] (w3.heap.size + 1) K (.int .i64 kd) (.string tx) (.string ((F at_).getD ⟨#[]⟩)) (.slice none 0 0) (.slice none 0 0) []
                      ((w3.alloc (.cells #[.int .i64 kd, .string tx, .slice A2 kids.length c2] 45)).alloc (.cells #[.int .i64 kd, .string tx, .string ((F at_).getD ⟨#[]⟩), .slice none 0 0] 29)).drew from by
                    have e1 : (w3.alloc (.cells #[.int .i64 kd, .string tx, .slice A2 kids.length c2] 45)).heap.size = w3.heap.size + 1 := by simp
                    have e2 := blk_new (w3.alloc (.cells #[.int .i64 kd, .string tx, .slice A2 kids.length c2] 45)) (.cells #[.int .i64 kd, .string tx, .string ((F at_).getD ⟨#[]⟩), .slice none 0 0] 29)
                    rw [e1] at e2
                    exact ⟨HV4.out.below (below_drew1 (below_alloc (Below.refl _ _) _)), e2, Kd.R_nil _ _ _ _ _, by have := blk_lt HV3.out.rb; omega⟩)
                  have n6 := ((below_drew1 (below_alloc (Below.refl _ _) (.cells #[.int .i64 kd, .string tx, .string ((F at_).getD ⟨#[]⟩), .slice none 0 0] 29))).block w3.heap.size (blk_lt HN4.out)).trans HN4.out
                  have n62 := (blk_cell n6 2).trans rfl
                  go_wp2_with (fail)
                  generalize World.drew _ = w5 at HL5 ⊢
                  clear n6 n62
                  rename_i Kx hKx
                  revert w5
                  revert Kx
                  exact hXm.out
              · intro Kx hKx w5 HL5
                clear n40 n41 n42 n50 n51 m4 m5 m6 m7 z0 z1 z2 z3 z4 v0 v1 v2 v3 v4 u0 y0 y1 y2 x0 x1 x2 x3 x4 m1 hrun
                have hn3 := Nat.lt_of_lt_of_le (blk_lt HV3.out.rb) (Nat.le_refl _)
                clear HV3 HV4 HN4 HW1 HW2
                generalize w3.heap.size + 1 = tb at HL5 ⊢
                go_loopw [66] (fun v wr => ∃ (j : Nat) (ts : List Tr) (s2 : LS) (u : Value), v = .int .i64 j ∧ j ≤ kids.length ∧ Hid (ts.length = j) ∧ Hid ((kids.drop j).foldlM (fun (p : List Tr × LS) k => (treeO l (fun k => (F k).getD ⟨#[]⟩) K k (deep + 1) p.2).map fun q => (p.1 ++ [q.1], q.2)) (ts, s2) = some p) ∧ Hid (Lk w0 W lb am mm na (some bd) l.length c0 F s2 #[.int .i64 0, .string ⟨#[]⟩, .string ⟨#[]⟩, .slice none 0 0] tb K (.int .i64 kd) (.string tx) (.string ((F at_).getD ⟨#[]⟩)) u u ts wr)) (fun v _ => kids.length - (intOf v).toNat)
                case atStart => exact ⟨0, [], _, _, rfl, by omega, Lib.hid rfl, HP, HL5⟩
                case round =>
                  clear HL5 HP
                  obtain ⟨j, ts, s2, u, rfl, hj, htl, HPR, HLR⟩ := hrel
                  by_cases hlj : j < kids.length
                  · have hc : decide ((j : Int) < (kids.length : Int)) = true := decide_eq_true (by omega)
                    obtain ⟨cd, eA, hx0⟩ := Kd.at_int (Kd.C_below HC.out HLR.out.lv.lw.bel) (j : Int) (by omega) (by omega)
                    subst eA
                    rw [rd_at kids j hlj, Int.toNat_natCast] at hx0
                    obtain ⟨k0, k1⟩ := HKK.out kids[j] (List.getElem_mem _)
                    have hst := HPR.out
                    rw [List.drop_eq_getElem_cons hlj, List.foldlM_cons] at hst
                    obtain ⟨p1, hp1, hp2⟩ := Option.bind_eq_some_iff.1 hst
                    obtain ⟨q, hq1, hq2⟩ := Option.map_eq_some_iff.1 hp1
                    subst hq2
                    obtain ⟨t2, s3⟩ := q
                    have HPN := Lib.hid hp2
                    have HQ := Lib.hid hq1
                    have HLJ := Lib.hid hlj
                    have p5 : (0 ≤ (j : Int)) = True := eq_true (by omega)
                    have p6 : ((j : Int) < (kids.length : Int)) = True := eq_true (by omega)
                    clear hst hp1 hp2 hq1 HPR
                    generalize kids[j] = k at *
                    obtain ⟨A7, c7, ev⟩ := Kd.R_slice HLR.out.row
                    subst ev
                    obtain ⟨i3, i4, _, _, _⟩ := HLR.out.cells
                    go_wp2_with (fail)
                    have hwd : wrap64 (deep + 1) = deep + 1 := by unfold wrap64; omega
                    refine start_ (n := 11) (S := fun w' => w'.cell? ⟨tb, 3, none⟩ = some (.slice A7 ts.length c7)) (ds := [10]) #[false, false, false, false, false, false, false, false, false, false, false] (by kernel_rfl) rfl rfl (i3) (fun hHeld => ?_)
                    refine pure_ (i := 0) (N := some 70) (v := ?_) (a' := ?_) #[true, false, false, false, false, false, false, false, false, false, false] rfl rfl (by kernel_rfl) (fun _ _ _ h => h) (Or.inl ⟨by rfl, ?_⟩) ?_ ?_
                    rotate_left
                    · intro w'
                      go_simp
                      with_reducible rfl
                    rotate_left
                    · simp only [Act.put, List.setIfInBounds_toArray, List.set_cons_zero, List.set_cons_succ, i64_w, i32_w]
                      rfl
                    refine pure_ (i := 2) (N := some 72) (v := ?_) (a' := ?_) #[true, false, true, false, false, false, false, false, false, false, false] rfl rfl (by kernel_rfl) (fun _ _ _ h => h) (Or.inl ⟨by rfl, ?_⟩) ?_ ?_
                    rotate_left
                    · intro w'
                      go_simp
                      with_reducible rfl
                    rotate_left
                    · simp only [Act.put, List.setIfInBounds_toArray, List.set_cons_zero, List.set_cons_succ, i64_w, i32_w]
                      rfl
                    refine pure_ (i := 3) (N := some 73) (v := ?_) (a' := ?_) #[true, false, true, true, false, false, false, false, false, false, false] rfl rfl (by kernel_rfl) (fun _ _ _ h => h) (Or.inl ⟨by rfl, ?_⟩) ?_ ?_
                    rotate_left
                    · intro w'
                      go_simp
                      with_reducible rfl
                    rotate_left
                    · simp only [Act.put, List.setIfInBounds_toArray, List.set_cons_zero, List.set_cons_succ, i64_w, i32_w]
                      rfl
                    refine pure_ (i := 4) (N := some 74) (v := ?_) (a' := ?_) #[true, false, true, true, true, false, false, false, false, false, false] rfl rfl (by kernel_rfl) (fun _ _ _ h => h) (Or.inl ⟨by rfl, ?_⟩) ?_ ?_
                    rotate_left
                    · intro w'
                      go_simp
                      with_reducible rfl
                    rotate_left
                    · simp only [Act.put, List.setIfInBounds_toArray, List.set_cons_zero, List.set_cons_succ, i64_w, i32_w]
                      rfl
                    refine pure_ (i := 5) (N := some 75) (v := ?_) (a' := ?_) #[true, false, true, true, true, true, false, false, false, false, false] rfl rfl (by kernel_rfl) (fun _ _ _ h => h) (Or.inl ⟨by rfl, ?_⟩) ?_ ?_
                    rotate_left
                    · intro w'
                      go_simp
                      with_reducible rfl
                    rotate_left
                    · simp only [Act.put, List.setIfInBounds_toArray, List.set_cons_zero, List.set_cons_succ, i64_w, i32_w]
                      rfl
                    refine take_ (i := 1) (N := some 71) (v := ?_) (a' := ?_) #[true, true, true, true, true, true, false, false, false, false, false] rfl rfl (by kernel_rfl) (fun _ _ _ h => h) (Or.inl ⟨by rfl, ?_⟩) hHeld ?_ ?_
                    rotate_left
                    · intro w' s0
                      go_simp
                      with_reducible rfl
                    rotate_left
                    · simp only [Act.put, List.setIfInBounds_toArray, List.set_cons_zero, List.set_cons_succ, i64_w, i32_w]
                      rfl
                    refine one_ (i := 6) (N := some 76) #[true, true, true, true, true, true, true, false, false, false, false] rfl rfl (by kernel_rfl) (by decide) (fun K hK => ?_)
                    refine goes_ Tryz.func29 (by kernel_rfl) rfl #[.pointer (some ⟨lb, 0, none⟩), .int .i64 k, .int .i64 (wrap64 (deep + 1))] (by rfl) rfl rfl (by simp only [List.map_toArray, List.map_cons, List.map_nil]; rfl) ?_
                    rw [hwd]
                    with_reducible refine (IH.out k (deep + 1) s2 s3 t2 _ (HLR.out.below (below_drew1 (Below.refl _ _))).lv.lw HQ.out k0 k1 (by omega) (by omega)).mono ?_
                    rintro e w9 ⟨v9, rfl, hM, hL9, hK9⟩
                    refine ⟨_, rfl, ?_⟩
                    have HM := Lib.hid hM
                    have HL9 := Lib.hid ((HLR.out.below (below_drew1 (Below.refl _ _))).call hL9 hK9)
                    have HS9 := Lib.hid hK9.1
                    have HP9 := Lib.hid (Kd.M_mono k29 (ok' := fun k => wr.heap.size ≤ k) (fun k hk => hk.2.1) (Kd.M_lower k29 HLR.out.lv.kb.1 (Kd.M_bound k29 HM.out)))
                    have hs9 : wr.heap.size ≤ w9.heap.size := HS9.out
                    have ht9 := blk_lt HLR.out.t
                    have hg9 := HLR.out.gt
                    have HOK : Hid (∀ k, wr.heap.size ≤ k → (k ≠ tb ∧ k ≠ W.heap.size) ∧ some k ≠ (Value.slice A7 ts.length c7).ownBlock) := Lib.hid (fun k hk => ⟨⟨by omega, by omega⟩, fun e => by have := ((Kd.R_bound HLR.out.row).1 k e.symm).2.2.1; omega⟩)
                    have HFR : Hid (∀ k, w9.heap.size ≤ k → k ≠ tb ∧ k ≠ W.heap.size) := Lib.hid (fun k hk => ⟨by omega, by omega⟩)
                    have HB9 : Hid (W.heap.size ≤ w9.heap.size) := Lib.hid (by omega)
                    have HLEN : Hid ((ts.length + 1) * 64 ≤ 140737488355328) := Lib.hid (by have := htl.out; omega)
                    clear hs9 ht9 hg9
                    have c93 := HL9.out.cells.1
                    clear hM hL9 hK9
                    refine hK.out _ _ (c93) (fun hHeld => ?_)
                    clear hK K
                    refine norm_ (a' := ?_) ?_ ?_
                    rotate_left
                    · show Act.put _ (some 76) _ = _
                      simp only [Act.put, List.setIfInBounds_toArray, List.set_cons_zero, List.set_cons_succ, i64_w, i32_w]
                      rfl
                    refine one_ (i := 7) (N := some 77) #[true, true, true, true, true, true, true, true, false, false, false] rfl rfl (by kernel_rfl) (by decide) (fun K hK => ?_)
                    refine value_ (w1 := ?_) (v := ?_) (by rfl) rfl ?_ ?_
                    rotate_left 2
                    · go_simp
                      constructor
                      · rfl
                      · rfl
                    refine hK.out _ _ (cell_al c93) (fun hHeld => ?_)
                    clear hK K
                    refine norm_ (a' := ?_) ?_ ?_
                    rotate_left
                    · show Act.put _ (some 77) _ = _
                      simp only [Act.put, List.setIfInBounds_toArray, List.set_cons_zero, List.set_cons_succ, i64_w, i32_w]
                      rfl
                    refine one_ (i := 8) (N := some 78) #[true, true, true, true, true, true, true, true, true, false, false] rfl rfl (by kernel_rfl) (by decide) (fun K hK => ?_)
                    refine Kd.R_append_step k29 (w0 := w9) W.heap.size (by rfl) (.tmp 71) (.tmp 77) 27 29 (.agg #[.int .i64 0, .string ⟨#[]⟩, .string ⟨#[]⟩, .slice none 0 0]) 64 rfl Tryz.underlying27 info_tree rfl (by decide) (by omega) _ ts t2 [.int .i64 t2.f0, .string t2.f1, .string t2.f2, v9] (fun k => k ≠ tb ∧ k ≠ W.heap.size) (fun k => wr.heap.size ≤ k) rfl rfl HP9.out HOK.out HFR.out HL9.out.row (Below.refl _ _) HB9.out HLEN.out ?_
                    intro v1 w10 hR10 _ hg10 _
                    have HL10 := Lib.hid (HL9.out.grow hg10 hR10)
                    obtain ⟨A8, c8, ev⟩ := Kd.R_slice HL10.out.row
                    obtain ⟨n8, hn8⟩ : ∃ n, (ts ++ [t2]).length = n := ⟨_, rfl⟩
                    rw [hn8] at ev
                    subst ev
                    clear hn8
                    have c103 := HL10.out.cells.1
                    have f103 := HL10.out.cells.2.1
                    clear hR10 hg10
                    refine hK.out _ _ (c103) (fun hHeld => ?_)
                    clear hK K
                    refine norm_ (a' := ?_) ?_ ?_
                    rotate_left
                    · show Act.put _ (some 78) _ = _
                      simp only [Act.put, List.setIfInBounds_toArray, List.set_cons_zero, List.set_cons_succ, i64_w, i32_w]
                      rfl
                    refine pure_ (i := 9) (N := some 79) (v := ?_) (a' := ?_) #[true, true, true, true, true, true, true, true, true, true, false] rfl rfl (by kernel_rfl) (fun _ _ _ h => h) (Or.inl ⟨by rfl, ?_⟩) ?_ ?_
                    rotate_left
                    · intro w'
                      go_simp
                      with_reducible rfl
                    rotate_left
                    · simp only [Act.put, List.setIfInBounds_toArray, List.set_cons_zero, List.set_cons_succ, i64_w, i32_w]
                      rfl
                    refine last_ (i := 10) (N := none) #[true, true, true, true, true, true, true, true, true, true, true] rfl rfl (by kernel_rfl) (by decide) (fun K hK => ?_)
                    refine skip_ (w1 := ?_) (by rfl) rfl ?_ ?_
                    rotate_left
                    · go_simp
                      rfl
                    refine hK.out _ _ ?_
                    clear hK K
                    refine done_ (by kernel_rfl) ?_
                    go_wp2_with (fail)
                    go_roundw
                    case rel =>
                      have h1 := HLJ.out
                      have h2 := htl.out
                      exact ⟨j + 1, ts ++ [t2], s3, _, by go_num, by omega, Lib.hid (by rw [List.length_append, List.length_singleton]; omega), HPN, Lib.hid HL10.out.store⟩
                    case measure => have := HLJ.out; simp [intOf]; omega
                  · have hc : decide ((j : Int) < (kids.length : Int)) = false := decide_eq_false (by omega)
                    have hje : j = kids.length := by omega
                    have hpe : (ts, s2) = p := by have h := HPR.out; rw [hje, List.drop_length] at h; exact Option.some.inj h
                    subst hpe
                    obtain ⟨e1, e2⟩ := Prod.mk.inj HF.out
                    dsimp only at e1 e2
                    subst e2
                    have HT := Lib.hid e1.symm
                    clear e1 HPR
                    obtain ⟨A7, c7, ev⟩ := Kd.R_slice HLR.out.row
                    subst ev
                    obtain ⟨i3, _, i0, i1, i2⟩ := HLR.out.cells
                    obtain ⟨⟨r0, r1, r2, r3⟩, r4, r5, r6, r7⟩ := HLR.out.lv.res
                    have HV7 := Lib.hid (HLR.out.lv.put4 (.int .i64 kd) (.string tx) (.string ((F at_).getD ⟨#[]⟩)) (.slice A7 ts.length c7))
                    have HR7 := Lib.hid (Kd.R_far (Kd.R_far (Kd.R_far (Kd.R_far HLR.out.row (p := ⟨W.heap.size, 0, none⟩) (fun k hk => hk.2) (.int .i64 kd)) (p := ⟨W.heap.size, 1, none⟩) (fun k hk => hk.2) (.string tx)) (p := ⟨W.heap.size, 2, none⟩) (fun k hk => hk.2) (.string ((F at_).getD ⟨#[]⟩))) (p := ⟨W.heap.size, 3, none⟩) (fun k hk => hk.2) (.slice A7 ts.length c7))
                    go_wp2_with (fail)
                    refine bodyPost_ret (results_cell_row rfl _ _ W.heap.size 29 #[.int .i64 kd, .string tx, .string ((F at_).getD ⟨#[]⟩), .slice A7 ts.length c7] (0, 0) _ rfl HV7.out.rb Tryz.underlying29 rfl (by kernel_rfl)) rfl ?_
                    rw [HT.out]
                    exact ⟨.slice A7 ts.length c7, rfl, k29_mkM _ _ _ ⟨kd, tx, _, ts⟩ (Kd.R_mono HR7.out (fun _ _ => trivial)), HV7.out.lw, HV7.out.kb⟩
end Go.Proofs.YtnjcpoojgmpmeaaGreatDoor.Plug
namespace Go.Proofs.YtnjcpoojgmpmeaaGreatDoor.Plug
open Go.Maps RowKit YtnjcpoojgmpmeaaGreatDoor YtnjcpoojgmpmeaaGreatDoor.PX YtnjcpoojgmpmeaaGreatDoor.Utf YtnjcpoojgmpmeaaGreatDoor.Mapk YtnjcpoojgmpmeaaGreatDoor.Graphs YtnjcpoojgmpmeaaGreatDoorW.PrintWords YtnjcpoojgmpmeaaGreatDoorW.PrintLast YtnjcpoojgmpmeaaGreatDoorW.PrintMore
theorem rd_nat (l : List Nd) (i : Nat) (h : i < l.length) : rd_T45 l (i : Int) = l[i] := by
 unfold rd_T45
 rw [Int.toNat_natCast, List.getD_eq_getElem?_getD, List.getElem?_eq_getElem h]; rfl
theorem rdOf_put (d : Bool) (u : List Bool) (k : Int) (j : Int) (v : Bool) (hk0 : 0 ≤ k) (hk1 : k < (u.length : Int)) (hj : 0 ≤ j) : rdOf d (u.set k.toNat v) j = if j = k then v else rdOf d u j := by
 unfold rdOf
 rw [List.getD_eq_getElem?_getD, List.getD_eq_getElem?_getD, List.getElem?_set]
 by_cases h : j = k
 rotate_left
 · rw [if_neg (by omega), if_neg h]
 subst h; rw [if_pos rfl, if_pos rfl, if_pos (by omega)]; rfl
theorem nodup_le : ∀ (n : Nat) (L : List Int), L.Nodup → (∀ k ∈ L, 0 ≤ k ∧ k < (n : Int)) → L.length ≤ n
  | 0, L, _, hr => by
    cases L with
    | nil => simp
    | cons a r => have := hr a (by simp); omega
  | n + 1, L, hn, hr => by
    by_cases h : (n : Int) ∈ L
    · have h1 := nodup_le n (L.erase (n : Int)) (hn.erase _) (fun k hk => by
        have h2 := (List.Nodup.mem_erase_iff hn).1 hk
        have h3 := hr k h2.2
        have h4 := h2.1
        omega)
      have h5 := List.length_erase_of_mem h
      omega
    · have h1 := nodup_le n L hn (fun k hk => by
        have h3 := hr k hk
        have : k ≠ (n : Int) := fun e => h (e ▸ hk)
        omega)
      omega
structure GoS (n : Nat) (s : WS) : Prop where
 len : s.1.length = n
 met : ∀ k, 0 ≤ k → k < (n : Int) → (rdOf false s.1 k = true ↔ k ∈ s.2.1)
 nd : s.2.1.Nodup
 rng : ∀ k ∈ s.2.1, 0 ≤ k ∧ k < (n : Int)
theorem GoS.le {n : Nat} {s : WS} (h : GoS n s) : s.2.1.length ≤ n := nodup_le n _ h.nd h.rng
theorem GoS.add {n : Nat} {s : WS} (h : GoS n s) (k d : Int) (k0 : 0 ≤ k) (k1 : k < (n : Int)) (hm : ¬ rdOf false s.1 k = true) : GoS n (s.1.set k.toNat true, s.2.1 ++ [k], d) := by
 refine ⟨by simp [h.len], fun j j0 j1 => ?_, ?_, fun j hj => ?_⟩
 ·
  dsimp only
  rw [rdOf_put _ _ _ _ _ k0 (by rw [h.len]; exact k1) j0]
  by_cases e : j = k
  · simp [e]
  rw [if_neg e, h.met j j0 j1]; simp [e]
 ·
  dsimp only
  refine List.nodup_append.2 ⟨h.nd, by simp, fun a ha b hb e => ?_⟩
  have hb2 : b = k := by simpa using hb
  exact hm ((h.met k k0 k1).2 (hb2 ▸ e ▸ ha))
 ·
  rcases List.mem_append.1 hj with h1 | h1
  · exact h.rng j h1
  ·
   have : j = k := by simpa using h1
   subst this; exact ⟨k0, k1⟩
def Kin (l : List Nd) : Prop := ∀ n ∈ l, ∀ k ∈ n.f2, 0 ≤ k ∧ k < (l.length : Int)
theorem go_some (l : List Nd) (hk : Kin l) : ∀ (K : Nat) (at_ deep : Int) (s : WS), GoS l.length s → l.length < K + s.2.1.length → 0 ≤ at_ → at_ < (l.length : Int) →
  ∃ s' ext, goO l K at_ deep s = some s' ∧ GoS l.length s' ∧ s'.2.1 = s.2.1 ++ ext ∧ at_ ∈ s'.2.1 ∧ (∀ a ∈ ext, ∀ k ∈ (rd_T45 l a).f2, k ∈ s'.2.1)
 | 0, at_, deep, s, hs, hK, _, _ => absurd hs.le (by omega)
 | K + 1, at_, deep, s, hs, hK, h0, h1 => by
  rw [goO]
  by_cases hm : rdOf false s.1 at_ = true
  ·
   rw [if_pos hm]
   exact ⟨s, [], rfl, hs, by simp, (hs.met at_ h0 h1).1 hm, fun a ha => by simp at ha⟩
  rw [if_neg hm]
  have hs1 := hs.add at_ (if s.2.2 < deep then deep else s.2.2) h0 h1 hm
  have hkid := hk _ (rd_mem l at_ h0 h1)
  have fold : ∀ (kids : List Int) (s1 : WS), GoS l.length s1 → l.length < K + s1.2.1.length → (∀ k ∈ kids, 0 ≤ k ∧ k < (l.length : Int)) →
    ∃ s' ext, kids.foldlM (fun s x => goO l K x (deep + 1) s) s1 = some s' ∧ GoS l.length s' ∧ s'.2.1 = s1.2.1 ++ ext ∧ (∀ k ∈ kids, k ∈ s'.2.1) ∧ (∀ a ∈ ext, ∀ k ∈ (rd_T45 l a).f2, k ∈ s'.2.1) := by
   intro kids
   induction kids with
   | nil => intro s1 h _ _; exact ⟨s1, [], rfl, h, by simp, fun k hk => by simp at hk, fun a ha => by simp at ha⟩
   | cons k r ih =>
    intro s1 h hl hr
    obtain ⟨s2, e2, g1, g2, g3, g4, g5⟩ := go_some l hk K k (deep + 1) s1 h hl (hr k (by simp)).1 (hr k (by simp)).2
    obtain ⟨s3, e3, f1, f2, f3, f4, f5⟩ := ih s2 g2 (by rw [g3, List.length_append]; omega) (fun x hx => hr x (by simp [hx]))
    refine ⟨s3, e2 ++ e3, ?_, f2, by rw [f3, g3, List.append_assoc], ?_, ?_⟩
    · rw [List.foldlM_cons, g1]; exact f1
    ·
     intro x hx
     rcases List.mem_cons.1 hx with e | e
     · subst e; rw [f3]; exact List.mem_append_left _ g4
     · exact f4 x e
    ·
     intro a ha x hx
     rcases List.mem_append.1 ha with e | e
     · rw [f3]; exact List.mem_append_left _ (g5 a e x hx)
     · exact f5 a e x hx
  obtain ⟨s', ext, g1, g2, g3, g4, g5⟩ := fold _ _ hs1 (by simp; omega) hkid
  refine ⟨s', at_ :: ext, g1, g2, by rw [g3]; simp, by rw [g3]; simp, ?_⟩
  intro a ha x hx
  rcases List.mem_cons.1 ha with e | e
  · subst e; exact g4 x hx
  · exact g5 a e x hx
structure LaS (n : Nat) (L : List Int) (t : LS) : Prop where
 met : ∀ k, t.1 k = true ↔ k ∈ L
 nd : L.Nodup
 rng : ∀ k ∈ L, 0 ≤ k ∧ k < (n : Int)
 cnt : t.2.2 = L.length
theorem LaS.le {n : Nat} {L : List Int} {t : LS} (h : LaS n L t) : L.length ≤ n := nodup_le n _ h.nd h.rng
theorem LaS.add {n : Nat} {L : List Int} {t : LS} (h : LaS n L t) (k w : Int) (k0 : 0 ≤ k) (k1 : k < (n : Int)) (hm : ¬ t.1 k = true) : LaS n (L ++ [k]) (seen t.1 k, w, t.2.2 + 1) := by
 refine ⟨fun j => ?_, ?_, fun j hj => ?_, by simp [h.cnt]⟩
 ·
  dsimp only [seen]
  by_cases e : j = k
  · simp [e]
  rw [if_neg e, h.met j]; simp [e]
 ·
  refine List.nodup_append.2 ⟨h.nd, by simp, fun a ha b hb e => ?_⟩
  have hb2 : b = k := by simpa using hb
  exact hm ((h.met k).2 (hb2 ▸ e ▸ ha))
 ·
  rcases List.mem_append.1 hj with h1 | h1
  · exact h.rng j h1
  ·
   have : j = k := by simpa using h1
   subst this; exact ⟨k0, k1⟩
mutual
def ancT : Tr → Int × Int
  | .mk k _ a l => ((if k = 7 then 0 else if a = ⟨#[]⟩ then 0 else 1) + (ancTs l).1, (if k = 7 then 1 else 0) + (ancTs l).2)
def ancTs : List Tr → Int × Int
 | [] => (0, 0)
 | t :: r => ((ancT t).1 + (ancTs r).1, (ancT t).2 + (ancTs r).2)
end
theorem ancTs_append : ∀ (a : List Tr) (t : Tr), ancTs (a ++ [t]) = ((ancTs a).1 + (ancT t).1, (ancTs a).2 + (ancT t).2)
 | [], t => by simp [ancTs]
 | x :: r, t => by rw [List.cons_append, ancTs, ancTs_append r t, ancTs]; simp only; rw [Prod.mk.injEq]; omega
def named (an : Int → ByteArray) (L : List Int) : Nat := (L.filter fun k => decide (an k ≠ ⟨#[]⟩)).length
theorem named_append (an : Int → ByteArray) (a b : List Int) : named an (a ++ b) = named an a + named an b := by simp [named]
def kidsL (l : List Nd) (L : List Int) : Nat := (L.map fun a => (rd_T45 l a).f2.length).sum
theorem kidsL_append (l : List Nd) (a b : List Int) : kidsL l (a ++ b) = kidsL l a + kidsL l b := by simp [kidsL]
theorem tree_some (l : List Nd) (an : Int → ByteArray) (hk : Kin l) (hl : l.length ≤ 4096) (h7 : ∀ n ∈ l, n.f0 ≤ 6) : ∀ (K : Nat) (at_ deep : Int) (L : List Int) (t : LS), LaS l.length L t → l.length < K + L.length → 0 ≤ at_ → at_ < (l.length : Int) →
  ∃ x t' ext, treeO l an K at_ deep t = some (x, t') ∧ LaS l.length (L ++ ext) t' ∧ (t.2.1 ≠ 0 → t'.2.1 ≠ 0) ∧
   (t'.2.1 = 0 → (ancT x).1 = (named an ext : Int) ∧ (ancT x).2 + (ext.length : Int) = 1 + (kidsL l ext : Int) ∧ ∀ (s : WS) (d : Int), GoS l.length s → s.2.1 = L → ∃ s', goO l K at_ d s = some s' ∧ s'.2.1 = L ++ ext ∧ GoS l.length s')
 | 0, at_, deep, L, t, hs, hK, _, _ => absurd hs.le (by omega)
 | K + 1, at_, deep, L, t, hs, hK, h0, h1 => by
  rw [treeO]
  by_cases hm : t.1 at_ = true
  ·
   rw [if_pos hm]
   refine ⟨_, t, [], rfl, by simpa using hs, id, fun _ => ⟨by simp [ancT, ancTs, named], by simp [ancT, ancTs, kidsL], fun s d hg he => ⟨s, ?_, by simpa using he, hg⟩⟩⟩
   rw [goO, if_pos ((hg.met at_ h0 h1).2 (by rw [he]; exact (hs.met at_).1 hm))]
  rw [if_neg hm, if_neg (by have := hs.le; have := hs.cnt; omega)]
  dsimp only
  have hkid := hk _ (rd_mem l at_ h0 h1)
  have hk7 := h7 _ (rd_mem l at_ h0 h1)
  generalize hn : rd_T45 l at_ = n at *
  generalize hwy : (if 5 ≤ n.f0 ∧ deep = 64 then (10 : Int) else t.2.1) = why
  have hs1 := hs.add at_ why h0 h1 hm
  have hwt : t.2.1 ≠ 0 → why ≠ 0 := fun h => by
   rw [← hwy]
   by_cases c : 5 ≤ n.f0 ∧ deep = 64
   · rw [if_pos c]; decide
   rw [if_neg c]; exact h
  by_cases hw : why = 0
  rotate_left
  ·
   rw [if_pos hw]
   exact ⟨_, _, [at_], rfl, hs1, fun _ => hw, fun h => absurd h hw⟩
  rw [if_neg (by simp [hw])]
  have fold : ∀ (kids : List Int) (ts : List Tr) (L1 : List Int) (t1 : LS), LaS l.length L1 t1 → l.length < K + L1.length → (∀ k ∈ kids, 0 ≤ k ∧ k < (l.length : Int)) →
    ∃ p ext, kids.foldlM (fun (p : List Tr × LS) k => (treeO l an K k (deep + 1) p.2).map fun q => (p.1 ++ [q.1], q.2)) (ts, t1) = some p ∧ LaS l.length (L1 ++ ext) p.2 ∧ (t1.2.1 ≠ 0 → p.2.2.1 ≠ 0) ∧
     (p.2.2.1 = 0 → (ancTs p.1).1 = (ancTs ts).1 + (named an ext : Int) ∧ (ancTs p.1).2 + (ext.length : Int) = (ancTs ts).2 + kids.length + (kidsL l ext : Int) ∧ ∀ (s : WS) (d : Int), GoS l.length s → s.2.1 = L1 → ∃ s', kids.foldlM (fun s x => goO l K x d s) s = some s' ∧ s'.2.1 = L1 ++ ext ∧ GoS l.length s') := by
   intro kids
   induction kids with
   | nil => intro ts L1 t1 h _ _; exact ⟨_, [], rfl, by simpa using h, id, fun _ => ⟨by simp [named], by simp [kidsL], fun s d hg he => ⟨s, rfl, by simpa using he, hg⟩⟩⟩
   | cons k r ih =>
    intro ts L1 t1 h hlt hr
    obtain ⟨x, t2, e2, g1, g2, g3, g4⟩ := tree_some l an hk hl h7 K k (deep + 1) L1 t1 h hlt (hr k (by simp)).1 (hr k (by simp)).2
    obtain ⟨p, e3, f1, f2, f3, f4⟩ := ih (ts ++ [x]) (L1 ++ e2) t2 g2 (by rw [List.length_append]; omega) (fun y hy => hr y (by simp [hy]))
    refine ⟨p, e2 ++ e3, ?_, by rw [← List.append_assoc]; exact f2, fun h => f3 (g3 h), fun hp => ?_⟩
    · rw [List.foldlM_cons, g1]; exact f1
    ·
     obtain ⟨a1, a2, a3⟩ := f4 hp
     obtain ⟨b1, b2, b3⟩ := g4 (Decidable.byContradiction fun h => f3 h hp)
     refine ⟨?_, ?_, fun s d hg he => ?_⟩
     · rw [a1, ancTs_append, named_append, b1]; simp only; omega
     · rw [ancTs_append] at a2; simp only at a2; rw [List.length_append, kidsL_append, List.length_cons]; omega
     ·
      obtain ⟨s2, c1, c2, c3⟩ := b3 s d hg he
      obtain ⟨s3, d1, d2, d3⟩ := a3 s2 d c3 c2
      exact ⟨s3, by rw [List.foldlM_cons, c1]; exact d1, by rw [d2, List.append_assoc], d3⟩
  obtain ⟨p, ext, g1, g2, g3, g4⟩ := fold n.f2 [] _ _ hs1 (by rw [List.length_append, List.length_singleton]; omega) hkid
  refine ⟨_, p.2, at_ :: ext, by rw [g1]; rfl, by simpa using g2, fun h => absurd hw (hwt h), fun hp => ?_⟩
  obtain ⟨a1, a2, a3⟩ := g4 hp
  have e7 : n.f0 ≠ 7 := by omega
  refine ⟨?_, ?_, fun s d hg he => ?_⟩
  ·
   rw [ancT, a1, if_neg e7]
   have : named an (at_ :: ext) = (if an at_ = ⟨#[]⟩ then 0 else 1) + named an ext := by
    by_cases e : an at_ = ⟨#[]⟩
    · simp [named, e]
    simp [named, e]; omega
   rw [this]
   by_cases e : an at_ = ⟨#[]⟩
   · simp [e, ancTs]
   simp [e, ancTs]
  ·
   rw [ancT, if_neg e7]
   have : kidsL l (at_ :: ext) = n.f2.length + kidsL l ext := by simp [kidsL, hn]
   rw [this, List.length_cons]
   simp only [ancTs] at a2 ⊢
   omega
  ·
   rw [goO, if_neg (fun h => hm ((hs.met at_).2 (by rw [← he]; exact (hg.met at_ h0 h1).1 h))), hn]
   have hmm : ¬ rdOf false s.1 at_ = true := fun h => hm ((hs.met at_).2 (by rw [← he]; exact (hg.met at_ h0 h1).1 h))
   obtain ⟨s', c1, c2, c3⟩ := a3 _ (d + 1) (hg.add at_ (if s.2.2 < d then d else s.2.2) h0 h1 hmm) (by dsimp only; rw [he])
   exact ⟨s', c1, by rw [c2]; simp, c3⟩
theorem bumps_cnt : ∀ (ks : List Int) (c : Int → Nat) (x : Int), ks.foldl bumpC c x = c x + ks.count x
 | [], c, x => by simp
 | k :: r, c, x => by
  rw [List.foldl_cons, bumps_cnt r]
  unfold bumpC
  rw [List.count_cons]
  by_cases e : x = k
  · subst e; simp; omega
  rw [if_neg e, if_neg (by simpa using Ne.symm e)]; omega
theorem usesC_sum (l : List Nd) : ∀ (xs : List Int) (c : Int → Nat) (x : Int), usesC l xs c x = c x + (xs.map fun a => (rd_T45 l a).f2.count x).sum
 | [], c, x => by simp [usesC]
 | a :: r, c, x => by rw [usesC, usesC_sum l r, bumps_cnt, List.map_cons, List.sum_cons]; omega
theorem sum_zero {α : Type} (f : α → Nat) : ∀ L : List α, (∀ x ∈ L, f x = 0) → (L.map f).sum = 0
 | [], _ => rfl
 | a :: r, h => by rw [List.map_cons, List.sum_cons, h a (by simp), sum_zero f r (fun x hx => h x (by simp [hx]))]
theorem sum_add {α : Type} (f g : α → Nat) : ∀ L : List α, (L.map fun x => f x + g x).sum = (L.map f).sum + (L.map g).sum
 | [] => rfl
 | a :: r => by simp only [List.map_cons, List.sum_cons, sum_add f g r]; omega
theorem sum_one (k : Int) : ∀ L : List Int, L.Nodup → k ∈ L → (L.map fun x => if k = x then 1 else 0).sum = 1
 | [], _, h => by simp at h
 | a :: r, hn, h => by
  obtain ⟨h1, h2⟩ := List.nodup_cons.1 hn
  rw [List.map_cons, List.sum_cons]
  by_cases e : k = a
  rotate_left
  · rw [if_neg e, sum_one k r h2 ((List.mem_cons.1 h).resolve_left e)]
  subst e
  have hz : ∀ x ∈ r, (if k = x then 1 else 0) = 0 := fun x hx => by
   by_cases c : k = x
   rotate_left
   · rw [if_neg c]
   subst c; exact absurd hx h1
  rw [if_pos rfl, sum_zero _ r hz]
theorem sum_counts (L : List Int) (hn : L.Nodup) : ∀ ks : List Int, (∀ k ∈ ks, k ∈ L) → (L.map fun x => ks.count x).sum = ks.length
 | [], _ => by rw [sum_zero _ L (fun x _ => by simp)]; rfl
 | k :: r, h => by
  have e : (fun x => (k :: r).count x) = fun x => r.count x + (if k = x then 1 else 0) := by
   funext x
   rw [List.count_cons]
   by_cases c : k = x
   · simp [c]
   simp [c]
  rw [e, sum_add, sum_counts L hn r (fun x hx => h x (by simp [hx])), sum_one k L hn (h k (by simp)), List.length_cons]
theorem sum_swap (l : List Nd) (L : List Int) : ∀ xs : List Int, (L.map fun x => (xs.map fun a => (rd_T45 l a).f2.count x).sum).sum = (xs.map fun a => (L.map fun x => (rd_T45 l a).f2.count x).sum).sum
 | [] => sum_zero _ L (fun _ _ => rfl)
 | a :: r => by
  simp only [List.map_cons, List.sum_cons]
  rw [sum_add, sum_swap l L r]
theorem uses_all (l : List Nd) (root : Int) (L : List Int) (hn : L.Nodup) (hr : root ∈ L) (hc : ∀ a ∈ L, ∀ k ∈ (rd_T45 l a).f2, k ∈ L) : (L.map fun x => usesC l L (bumpC (fun _ => 0) root) x).sum = 1 + kidsL l L := by
 have e : (fun x => usesC l L (bumpC (fun _ => 0) root) x) = fun x => (if root = x then 1 else 0) + (L.map fun a => (rd_T45 l a).f2.count x).sum := by
  funext x
  rw [usesC_sum]
  unfold bumpC
  by_cases c : x = root
  · rw [if_pos c, if_pos c.symm]
  rw [if_neg c, if_neg (Ne.symm c)]
 rw [e, sum_add, sum_one root L hn hr, sum_swap, kidsL]
 congr 2
 exact List.map_congr_left (fun a ha => sum_counts L hn _ (hc a ha))
theorem sum_le_len (f : Int → Nat) : ∀ L : List Int, (∀ x ∈ L, f x ≤ 1) → (L.map f).sum ≤ L.length
 | [], _ => by simp
 | a :: r, h => by rw [List.map_cons, List.sum_cons, List.length_cons]; have := h a (by simp); have := sum_le_len f r (fun x hx => h x (by simp [hx])); omega
def anG : List Int → Nat → (Int → Option ByteArray) → Int → Option ByteArray
 | [], _, F => F
 | a :: r, n, F => anG r (n + 1) (fun y => if y = a then some (nameB (n + 1)) else F y)
theorem anG_out : ∀ (L : List Int) (n : Nat) (F : Int → Option ByteArray) (k : Int), k ∉ L → anG L n F k = F k
 | [], _, _, _, _ => rfl
 | a :: r, n, F, k, h => by
  rw [anG, anG_out r _ _ k (fun x => h (by simp [x])), if_neg (fun e => h (by simp [e]))]
theorem anG_in : ∀ (L : List Int) (n : Nat) (F : Int → Option ByteArray) (k : Int), k ∈ L → ∃ j, anG L n F k = some (nameB (j + 1))
 | [], _, _, _, h => by simp at h
 | a :: r, n, F, k, h => by
  by_cases c : k ∈ r
  · exact anG_in r (n + 1) _ k c
  rw [anG, anG_out r _ _ k c, if_pos ((List.mem_cons.1 h).resolve_right c)]
  exact ⟨n, rfl⟩
def anB (sh : List Int) (k : Int) : ByteArray := (anG sh 0 (fun _ => none) k).getD ⟨#[]⟩
theorem nameB_ne (n : Nat) : nameB n ≠ ⟨#[]⟩ := fun e => by
 have := congrArg ByteArray.size e
 unfold nameB at this
 rw [ByteArray.size_append] at this
 have h2 : (ByteArray.mk #[97]).size = 1 := rfl
 have h3 : (ByteArray.mk #[]).size = 0 := rfl
 omega
theorem named_filter (p : Int → Bool) (L : List Int) : named (anB (L.filter p)) L = (L.filter p).length := by
 unfold named
 congr 1
 refine List.filter_congr (fun k hk => ?_)
 by_cases h : p k = true
 rotate_left
 ·
  rw [anB, anG_out _ _ _ k (fun e => h (List.mem_filter.1 e).2), Bool.eq_false_iff.2 h]
  exact decide_eq_false (fun e => e rfl)
 obtain ⟨j, hj⟩ := anG_in (L.filter p) 0 (fun _ => none) k (List.mem_filter.2 ⟨hk, h⟩)
 rw [anB, hj, h]
 exact decide_eq_true (nameB_ne _)
mutual
theorem anc_pos : ∀ t : Tr, 0 ≤ (ancT t).2
 | .mk k _ _ l => by
  have := ancs_pos l
  rw [ancT]
  dsimp only
  split <;> omega
theorem ancs_pos : ∀ l : List Tr, 0 ≤ (ancTs l).2
 | [] => by simp [ancTs]
 | t :: r => by
  have h1 := anc_pos t
  have h2 := ancs_pos r
  rw [ancTs]
  dsimp only
  omega
end
theorem rdOf_rep (n : Nat) (k : Int) : rdOf false (List.replicate n false) k = false := by
 unfold rdOf
 rw [List.getD_eq_getElem?_getD, List.getElem?_replicate]; split <;> rfl
theorem go_start (n : Nat) : GoS n (List.replicate n false, [], 0) :=
  ⟨by simp, fun k _ _ => by dsimp only; rw [rdOf_rep]; simp, by simp, fun k hk => by simp at hk⟩
theorem la_start (n : Nat) : LaS n [] (fun _ => false, 0, 0) := ⟨fun k => by simp, by simp, fun k hk => by simp at hk, rfl⟩
def layF (l : List Nd) (root : Int) : Option (Tr × Int) :=
 match graph_Order.f l root, iso_Shared.f l root with
 | some (xs, e), some (sh, _) =>
  if e ≠ 0 then some (noTr, e) else
  match treeO l (anB sh) (l.length + 1) root 0 (fun _ => false, 0, 0) with
  | none => none
  | some (t, s) => some (if s.2.1 ≠ 0 then (noTr, s.2.1) else if 4096 < 1 + kidsL l xs then (noTr, 5) else (t, 0))
 | _, _ => none
theorem lay_right (l : List Nd) (root : Int) (hs : sizesB l = true) (hG : RightG l root) (hk : Kin l) (h7 : ∀ n ∈ l, n.f0 ≤ 6) :
    ∃ xs sh t s, graph_Order.f l root = some (xs, 0) ∧ iso_Shared.f l root = some (sh, 0) ∧ treeO l (anB sh) (l.length + 1) root 0 (fun _ => false, 0, 0) = some (t, s) ∧
      xs.length ≤ l.length ∧ (s.2.1 = 0 → (ancT t).1 = (sh.length : Int) ∧ (ancT t).2 + (xs.length : Int) = 1 + (kidsL l xs : Int) ∧ (sh = [] → (ancT t).2 = 0)) := by
  have hr := (right_iff l root hs).2 hG
  obtain ⟨s0, xs, g1, g2, g3, g4, g5⟩ := go_some l hk (l.length + 1) root 1 _ (go_start l.length) (by simp) hG.r0 hG.r1
  have gx : s0.2.1 = xs := by rw [g3]; rfl
  rw [gx] at g4 g5
  have hn := g2.nd
  have hrg := g2.rng
  rw [gx] at hn hrg
  have hle := g2.le
  rw [gx] at hle
  have hO : graph_Order.f l root = some (xs, 0) := by
    unfold graph_Order.f
    rw [if_pos hs, if_pos hr, g1]
    simp [gx]
  have hS : iso_Shared.f l root = some (xs.filter (fun x => !decide ((usesC l xs (bumpC (fun _ => 0) root) x : Int) < 2)), 0) := by
    unfold iso_Shared.f
    rw [hO]
    dsimp only
    rw [if_neg (by simp), if_pos ⟨fun e => by rw [e] at g4; simp at g4, by have := hG.le; omega, List.all_eq_true.2 (fun x hx => by have := hrg x hx; simp; omega)⟩]
  obtain ⟨t, s, ext, t1, t2, t3, t4⟩ := tree_some l (anB (xs.filter (fun x => !decide ((usesC l xs (bumpC (fun _ => 0) root) x : Int) < 2)))) hk hG.le h7 (l.length + 1) root 0 [] _ (la_start l.length) (by simp) hG.r0 hG.r1
  refine ⟨xs, _, t, s, hO, hS, t1, hle, fun hw => ?_⟩
  obtain ⟨a1, a2, a3⟩ := t4 hw
  obtain ⟨s1, b1, b2, b3⟩ := a3 _ 1 (go_start l.length) rfl
  rw [g1] at b1
  have hx : ext = xs := by
    have := Option.some.inj b1
    rw [← this, gx] at b2
    simpa using b2.symm
  subst hx
  refine ⟨by rw [a1, named_filter], a2, fun he => ?_⟩
  have h1 := uses_all l root ext hn g4 g5
  have h2 := sum_le_len (fun x => usesC l ext (bumpC (fun _ => 0) root) x) ext (fun x hx => by
    have h3 := List.filter_eq_nil_iff.1 he x hx
    simp at h3
    omega)
  have h0 := anc_pos t
  omega
end Go.Proofs.YtnjcpoojgmpmeaaGreatDoor.Plug
