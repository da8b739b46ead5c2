/- Texts that stand behind one another, laid into one: what this claim needs of them. -/
import Derived.Test.YtnjcpoojgmpmeaaGreatDoorBT0
import Derived.Deep.Slices
import Derived.Deep.Fields
import Derived.ChangeSame
import Derived.Lib.DecodeNEq
import Derived.Lib.Strings
import Derived.Lib.SlTrimSet
import Derived.Shelf.Strings.SlTrimAscii
import Derived.Lib.AppendIntMem
import Derived.Deep.LoopGhost
import Derived.Outline
import Derived.Deep.QuietTactic
import Derived.BigQuiet
import Derived.Test.YtnjcpoojgmpmeaaGreatDoorProg
import Derived.Lib.OthersKept
import Derived.Lib.FrozenHead2
import Derived.Lib.RuneBytes
import Derived.Lib.Walk
import Derived.Lib.UnsafeStr
import Derived.Lib.AppendStr
import Derived.Lib.Hide
import Derived.WalkKit
import Derived.WalkSmall
import Derived.RowKit
import Derived.KernelRfl
import Derived.Laws.Externs
import Derived.Laws.IdiomCopy
import Derived.Laws.BitsLemmas
import Derived.Lib.MapLaws
namespace Go.Proofs.YtnjcpoojgmpmeaaGreatDoor.Opened
open Go.ChangeShapes Go.WideShapes Go.Deep RowKit YtnjcpoojgmpmeaaGreatDoor.PX YtnjcpoojgmpmeaaGreatDoorW.PrintWords YtnjcpoojgmpmeaaGreatDoorW.PrintLast
def Opens {α : Type} (d : Kd α) (t : TypeId) (good : α → Prop) (bulk : α → Nat) : Prop :=
  ∀ (H : Type) (enc : TypeId × Value → H) (w : World) (base : Nat) (sp : Nat → Bool) (held : Bool) (fuel : Nat) (cs : List Value) (x : DataW H × List MemPlace), DataW.trod enc Tryz.prog w base sp held fuel t cs = some x → ∃ a, d.K w a cs ∧ good a ∧ bulk a ≤ Rows.uptoBulk x.1
theorem opens_int {t : TypeId} {k : IntKind} (ht : Tryz.prog.underlying t = some (.int k)) : Opens (Kd.int k) t (fun a => (Lit.int k a).wf = true) (fun _ => 1) := by
 intro H enc w base sp held fuel cs x h
 obtain ⟨n, rfl, rfl, hw⟩ := DataW.trod_int ht h
 exact ⟨n, rfl, hw, by simp [Rows.uptoBulk]⟩
theorem choose_list {α : Type} {Q : Nat → α → Prop} : ∀ n : Nat, (∀ i, i < n → ∃ x, Q i x) → ∃ xs : List α, xs.length = n ∧ ∀ i x, xs[i]? = some x → Q i x
 | 0, _ => ⟨[], rfl, fun i x h => by simp at h⟩
 | n + 1, h => by
  obtain ⟨xs, hl, hq⟩ := choose_list n (fun i hi => h i (by omega))
  obtain ⟨y, hy⟩ := h n (by omega)
  refine ⟨xs ++ [y], by simp [hl], fun i x hx => ?_⟩
  by_cases hi : i < n
  · rw [List.getElem?_append_left (by omega)] at hx; exact hq i x hx
  rw [List.getElem?_append_right (by omega)] at hx
  have : i - xs.length = 0 := by
   by_cases h0 : i - xs.length = 0
   · exact h0
   rw [List.getElem?_eq_none (by simp; omega)] at hx; cases hx
  rw [this] at hx
  cases Option.some.inj hx
  rw [show i = n by omega]; exact hy
def bulkL {α : Type} (bulk : α → Nat) : List α → Nat
 | [] => 0
 | x :: xs => bulk x + bulkL bulk xs
theorem bulkAll_append {H : Type} : ∀ a b : List (DataW H), Rows.uptoBulkAll (a ++ b) = Rows.uptoBulkAll a + Rows.uptoBulkAll b
 | [], b => by simp [Rows.uptoBulkAll]
 | x :: a, b => by rw [List.cons_append, Rows.uptoBulkAll, Rows.uptoBulkAll, bulkAll_append a b]; omega
theorem bulkL_append {α : Type} (bulk : α → Nat) : ∀ a b : List α, bulkL bulk (a ++ b) = bulkL bulk a + bulkL bulk b
 | [], b => by simp [bulkL]
 | x :: a, b => by rw [List.cons_append, bulkL, bulkL, bulkL_append bulk a b]; omega
theorem bulk_range {α H : Type} (bulk : α → Nat) (D : Nat → DataW H) : ∀ (n : Nat) (xs : List α), xs.length = n → (∀ i x, xs[i]? = some x → bulk x ≤ Rows.uptoBulk (D i)) → bulkL bulk xs ≤ Rows.uptoBulkAll ((List.range n).map D)
  | 0, xs, hl, _ => by have : xs = [] := List.eq_nil_of_length_eq_zero hl; subst this; simp [bulkL]
  | n + 1, xs, hl, h => by
    have hne : xs ≠ [] := fun e => by subst e; simp at hl
    have hx := List.dropLast_concat_getLast hne
    have h1 := bulk_range bulk D n xs.dropLast (by simp [hl]) (fun i x hi => h i x (by
      have := List.getElem?_eq_some_iff.1 hi
      obtain ⟨hlt, e⟩ := this
      rw [List.getElem_dropLast] at e
      rw [List.getElem?_eq_getElem (by simp at hlt; omega), e]))
    have h2 := h n (xs.getLast hne) (by rw [List.getLast_eq_getElem, List.getElem?_eq_getElem (by omega)]; simp [hl])
    rw [← hx, bulkL_append, List.range_succ, List.map_append, bulkAll_append]
    simp only [bulkL, List.map_cons, List.map_nil, Rows.uptoBulkAll]
    omega
theorem opens_slice {α : Type} {d : Kd α} {e t : TypeId} {good : α → Prop} {bulk : α → Nat} (hd : Opens d e good bulk) (ht : Tryz.prog.underlying t = some (.slice e)) (hs : Tryz.prog.cellsOf e = d.sz) :
    Opens (Kd.slice e d) t (fun xs => ∀ x ∈ xs, good x) (fun xs => bulkL bulk xs + 1) := by
  intro H enc w base sp held fuel cs x h
  rcases open_slice ht h with ⟨rfl, rfl⟩ | ⟨a, len, cap, m, n, D, Pl, rfl, hb, hl, hm, hmm, rfl, hi⟩
  · exact ⟨[], ⟨none, 0, rfl, Nat.le_refl _, Kd.C_nil _ _⟩, by simp, by simp [bulkL, Rows.uptoBulk]⟩
  · have hlm : len ≤ m := by rw [hmm]; split <;> omega
    obtain ⟨xs, hxl, hxs⟩ := choose_list (Q := fun i x => ∃ cs', w.cells? base (a.add (i * Tryz.prog.cellsOf e)) (Tryz.prog.cellsOf e) = some cs' ∧ d.K w x cs' ∧ good x ∧ bulk x ≤ Rows.uptoBulk (D i)) len (fun i hil => by
      obtain ⟨cs', hc, htr⟩ := hi i (by omega)
      obtain ⟨y, hy, hg, hbk⟩ := hd H enc w base sp held n cs' _ htr
      exact ⟨y, cs', hc, hy, hg, hbk⟩)
    refine ⟨xs, ⟨some a, cap, by rw [hxl], by omega, ⟨rfl, by unfold maxLen at hm; omega, fun _ => ⟨a, rfl, fun j p hj => ?_⟩⟩⟩, fun y hy => ?_, ?_⟩
    · obtain ⟨cs', hc, hk, _, _⟩ := hxs j p hj
      rw [hs] at hc
      obtain ⟨_, hcl, hat⟩ := World.cells?_some hc
      refine ⟨cs', hcl, hk, fun i u hu => ?_⟩
      have hlt : i < d.sz := by rw [← hcl]; exact (List.getElem?_eq_some_iff.1 hu).1
      rw [← Go.Deep.add_add, hat i hlt]; exact hu
    · obtain ⟨i, hil, e1⟩ := List.getElem_of_mem hy
      obtain ⟨_, _, _, hg, _⟩ := hxs i y (by rw [List.getElem?_eq_getElem hil, e1])
      exact hg
    · have := bulk_range bulk D len xs hxl (fun i y hy => (hxs i y hy).choose_spec.2.2.2)
      simp only [Rows.uptoBulk]
      omega
theorem three_cells {α : Type} {cs : List α} {a b c : α} (hl : cs.length = 3) (h0 : (cs.drop 0).take 1 = [a]) (h1 : (cs.drop 1).take 1 = [b]) (h2 : (cs.drop 2).take 1 = [c]) : cs = [a, b, c] := by
 match cs, hl with
 | [x, y, z], _ => simp at h0 h1 h2; rw [h0, h1, h2]
abbrev goodNode (x : S45) : Prop := (Lit.int .i64 x.f0).wf = true ∧ ∀ k ∈ x.f2, (Lit.int .i64 k).wf = true
abbrev bulkNode (x : S45) : Nat := x.f1.size + x.f2.length + 4
theorem bulk_ones {α : Type} : ∀ l : List α, bulkL (fun _ => 1) l = l.length
 | [] => rfl
 | x :: l => by rw [bulkL, bulk_ones l, List.length_cons]; omega
theorem opens_ints : Opens (Kd.slice 3 (Kd.int .i64)) 40 (fun xs => ∀ x ∈ xs, (Lit.int .i64 x).wf = true) (fun xs => bulkL (fun _ => 1) xs + 1) :=
  opens_slice (opens_int Tryz.underlying3) Tryz.underlying40 (by kernel_rfl)
set_option maxRecDepth 100000 in
theorem opens_node : Opens k45 45 goodNode bulkNode := by
 intro H enc w base sp held fuel cs x h
 obtain ⟨xs, n, _, rfl, hl, hlen, hf⟩ := DataW.trod_struct Tryz.underlying45 h
 have h0 := hf 0 _ rfl
 have h1 := hf 1 _ rfl
 have h2 := hf 2 _ rfl
 match xs, hlen with
 | [y0, y1, y2], _ =>
  obtain ⟨i, e0, rfl, hw⟩ := DataW.trod_int Tryz.underlying3 h0
  obtain ⟨s, e1, rfl, _⟩ := DataW.trod_string Tryz.underlying9 h1
  obtain ⟨ks, ⟨A, c, e2, hc, hC⟩, hg, hb⟩ := opens_ints H enc w base sp held n _ _ h2
  obtain rfl := three_cells (hl.trans (by kernel_rfl)) e0 e1 e2
  refine ⟨⟨i, s, ks⟩, k45_mk w ⟨i, s, ks⟩ hc hC, ⟨hw, hg⟩, ?_⟩
  replace hb : bulkL (fun _ => 1) ks + 1 ≤ _ := hb
  rw [bulk_ones] at hb
  simp only [Rows.uptoBulk, Rows.uptoBulkAll, List.map_cons, List.map_nil, bulkNode]
  have : s.data.toList.length = s.size := by simp
  omega
abbrev goodGraph (x : List S45 × Int) : Prop := (∀ n ∈ x.1, goodNode n) ∧ (Lit.int .i64 x.2).wf = true
abbrev bulkGraph (x : List S45 × Int) : Nat := bulkL bulkNode x.1 + 2
theorem two_cells {α : Type} {cs : List α} {a b : α} (hl : cs.length = 2) (h0 : (cs.drop 0).take 1 = [a]) (h1 : (cs.drop 1).take 1 = [b]) : cs = [a, b] := by
 match cs, hl with
 | [x, y], _ => simp at h0 h1; rw [h0, h1]
theorem opens_nodes : Opens (Kd.slice 45 k45) 22 (fun xs => ∀ x ∈ xs, goodNode x) (fun xs => bulkL bulkNode xs + 1) :=
  opens_slice opens_node Tryz.underlying22 (by kernel_rfl)
set_option maxRecDepth 100000 in
theorem opens_graph (H : Type) (enc : TypeId × Value → H) (w : World) (base : Nat) (sp : Nat → Bool) (held : Bool) (fuel : Nat) (cs : List Value) (x : DataW H × List MemPlace) (h : DataW.trod enc Tryz.prog w base sp held fuel 24 cs = some x) :
  ∃ l root A c, cs = [.slice A l.length c, .int .i64 root] ∧ l.length ≤ c ∧ Kd.C k45 w A l.length l ∧ goodGraph (l, root) ∧ bulkGraph (l, root) ≤ Rows.uptoBulk x.1 := by
 obtain ⟨xs, n, _, rfl, hl, hlen, hf⟩ := DataW.trod_struct Tryz.underlying24 h
 have h0 := hf 0 _ rfl
 have h1 := hf 1 _ rfl
 match xs, hlen with
 | [y0, y1], _ =>
  obtain ⟨l, ⟨A, c, e0, hc, hC⟩, hg, hb⟩ := opens_nodes H enc w base sp held n _ _ h0
  obtain ⟨i, e1, rfl, hw⟩ := DataW.trod_int Tryz.underlying3 h1
  obtain rfl := two_cells (hl.trans (by kernel_rfl)) e0 e1
  refine ⟨l, i, A, c, rfl, hc, hC, ⟨hg, hw⟩, ?_⟩
  replace hb : bulkL bulkNode l + 1 ≤ _ := hb
  simp only [Rows.uptoBulk, Rows.uptoBulkAll, List.map_cons, List.map_nil, bulkGraph]
  omega
theorem nodes_bulk : ∀ l : List S45, (∀ n ∈ l, n.f1.size + n.f2.length ≤ bulkL bulkNode l) ∧ l.length + (l.map fun n => n.f2.length).sum ≤ bulkL bulkNode l
 | [] => ⟨by simp, by simp [bulkL]⟩
 | m :: l => by
  obtain ⟨h1, h2⟩ := nodes_bulk l
  have hb : bulkL bulkNode (m :: l) = m.f1.size + m.f2.length + 4 + bulkL bulkNode l := rfl
  refine ⟨fun n hn => ?_, ?_⟩
  ·
   rcases List.mem_cons.1 hn with e | e
   · subst e; omega
   · have := h1 n e; omega
  · rw [List.map_cons, List.sum_cons, List.length_cons]; omega
end Go.Proofs.YtnjcpoojgmpmeaaGreatDoor.Opened
namespace Go.Proofs.YtnjcpoojgmpmeaaGreatDoor.PX
open RowKit YtnjcpoojgmpmeaaGreatDoorW.PrintWords YtnjcpoojgmpmeaaGreatDoorW.PrintLast YtnjcpoojgmpmeaaGreatDoorW.PrintMore YtnjcpoojgmpmeaaGreatDoor
attribute [local go_sem] max2_int min2_int max_two min_two max_three min_three max_four min_four   -- for this text's walks alone
set_option linter.unusedVariables false
set_option linter.unusedSimpArgs false
def grommetlaw14_large.l0 : Nat → Int → List (S45) → Int → Int → List (S45) → Int → Option (Bool)
  | 0, _, _, _, _, _, _ => none
  | k + 1, x3, x12, x13, x14, x102000, x102001 => if x14 < x13 then (if 0 ≤ x14 then (if x14 < (x12.length : Int) then (grommetlaw14_large.l0 k (wrap64 (x3 + ((mn (((rd_T45 x12 x14).f2).length : Int) 2000) + (mn (((rd_T45 x12 x14).f1).size : Int) 2000)))) x12 x13 (wrap64 (x14 + 1)) x102000 x102001) else (none)) else (none)) else (if (x102000.length : Int) > 200 then (if (x102000.length : Int) ≤ 4096 then (some true) else (some (decide (x3 > 1200)))) else (some (decide (x3 > 1200))))
def grommetlaw14_large.f (k : Nat) (l0_0 : List (S45)) (a0_1 : Int) : Option (Bool) := if 0 ≤ (mn (l0_0.length : Int) 200) then (if (mn (l0_0.length : Int) 200) ≤ (l0_0.length : Int) then ((some (l0_0.take ((mn (l0_0.length : Int) 200) : Int).toNat : List (S45))).bind fun y102 => (grommetlaw14_large.l0 k 0 y102 (y102.length : Int) 0 l0_0 a0_1)) else (none)) else (none)
theorem qca0_ {P : Prop} (h_ : P := by repeat (first | (with_reducible first | exact HB.out | apply below_alloc | apply pw_below_drewN | apply below_drew1 | refine below_set ?_ GE101.out) | exact HB.out)) : P := h_
theorem qca1_ {P : Prop} (h_ : P := by (with_reducible repeat (first | refine blk_drewN ?_ _ | refine blk_drew ?_ | refine blk_alloc ?_ _)); exact BK101.out) : P := h_
theorem qca2_ {P : Prop} (h_ : P := by first | rfl | (simp [errW_none, errW_some] <;> rfl) | (simp only [← hji2]; first | rfl | (simp [errW_none, errW_some] <;> rfl)) | (simp [*, errW_none, errW_some] <;> rfl)) : P := h_
theorem qca3_ {P : Prop} (h_ : P := by repeat (first | (with_reducible first | exact HB.out | apply below_alloc | apply pw_below_drewN | apply below_drew1) | exact HB.out)) : P := h_
theorem qca4_ {P : Prop} (h_ : P := by first | (with_reducible assumption) | assumption) : P := h_
set_option maxHeartbeats 8000000 in
set_option maxRecDepth 100000 in
theorem grommetlaw14_large.calls (k : Nat) (A0_0 : Option Addr) (c0_0 : Nat) (l0_0 : List (S45)) (a0_1 : Int) (r : Bool) (w : World) (hr0_0 : Kd.C k45 w A0_0 l0_0.length l0_0) (hc0_0 : l0_0.length ≤ c0_0) (hG : Glob.G w) (h : grommetlaw14_large.f k l0_0 a0_1 = some r) :
  Calls Tryz.prog 9 #[.agg #[.slice A0_0 l0_0.length c0_0, .int .i64 a0_1]] w fun e w' => e = .returned (.bool r) ∧ Below w.heap.size w w' := by
 have hu24 := Tryz.underlying24
 have hu45 := Tryz.underlying45
 have HR0_0 := Aside0.mk hr0_0
 have HC0_0 := Aside0.mk hc0_0
 clear hr0_0 hc0_0
 have HB := Aside0.mk (Below.refl w.heap.size w)
 have H : (if 0 ≤ (mn (l0_0.length : Int) 200) then (if (mn (l0_0.length : Int) 200) ≤ (l0_0.length : Int) then ((some (l0_0.take ((mn (l0_0.length : Int) 200) : Int).toNat : List (S45))).bind fun y102 => (grommetlaw14_large.l0 k 0 y102 (y102.length : Int) 0 l0_0 a0_1)) else (none)) else (none)) = some r := h
 clear h
 obtain ⟨ji2, hji2⟩ : ∃ j_ : Int, (mn (l0_0.length : Int) 200) = j_ := ⟨_, rfl⟩
 replace H : (if 0 ≤ (ji2) then (if (ji2) ≤ (l0_0.length : Int) then ((some (l0_0.take ((ji2) : Int).toNat : List (S45))).bind fun y102 => (grommetlaw14_large.l0 k 0 y102 (y102.length : Int) 0 l0_0 a0_1)) else (none)) else (none)) = some r := by first | (rw [hji2] at H; exact H) | (simp only [hji2] at H ⊢; exact H)
 (try (have hji2h : ji2 ≤ 200 := by (rw [← hji2]; unfold mn; (repeat' split) <;> omega)))
 (try (have hji2g : ji2 ≤ 64 := by omega))
 (try (have hji2l : 0 ≤ ji2 := by (rw [← hji2]; unfold mn; (repeat' split) <;> omega)))
 (try (have hji2m : 0 ≤ ji2 := by omega))
 have hji2_ : (if 200 < (l0_0.length : Int) then 200 else (l0_0.length : Int)) = ji2 := hji2
 by_cases c3 : 0 ≤ (ji2)
 rotate_left
 ·
  rw [if_neg c3] at H
  exact absurd H (by simp)
 rw [if_pos c3] at H
 have c3b0 := eq_true c3
 have c3b1 : decide (0 ≤ (ji2)) = true := decide_eq_true c3
 clear c3
 by_cases c4 : (ji2) ≤ (l0_0.length : Int)
 rotate_left
 ·
  rw [if_neg c4] at H
  exact absurd H (by simp)
 rw [if_pos c4] at H
 have c4b0 := eq_true c4
 have c4b1 : decide ((ji2) ≤ (l0_0.length : Int)) = true := decide_eq_true c4
 clear c4
 obtain ⟨y102, hy102⟩ : ∃ y_ : List (S45), y_ = (l0_0.take ((ji2) : Int).toNat) := ⟨_, rfl⟩
 replace H : (grommetlaw14_large.l0 k 0 y102 (y102.length : Int) 0 l0_0 a0_1) = some r := by first | (rw [hy102]; with_reducible exact H) | (have H2_ := (Option.bind_some _ _).symm.trans H; rw [hy102]; with_reducible exact H2_) | (have H2_ := (Option.bind_some _ _).symm.trans H; with_reducible exact H2_) | with_reducible exact H | (rw [hy102]; exact H) | exact H
 have Ny102 := Aside0.mk hy102
 clear hy102
 have H' := Aside0.mk H
 clear H
 go_enter Tryz.func9, Tryz.ntmps9
 go_wp2_with (first | ((with_reducible refine gate_dst (N := 1) rfl ?_); (try (refine gate_guard (by rfl) ?_; dsimp only)); refine box_event ?hg (N := 1) ?hd (cs := #[.slice A0_0 l0_0.length c0_0, .int .i64 a0_1]) (t := 24) ?hr ?_; (case hd => rfl); (case hg => rfl); (case hr => first | (go_simp; done) | (go_simp; rfl)); intro gb101 hg w5 hbox hb; have n0_ := Aside0.mk (below_step (qca3_) hb); have n1_ := Aside0.mk (hbox); have n2_ := Aside0.mk ((by rw [hg]; exact (below_size (qca3_)) : w.heap.size ≤ gb101)); have n3_ := Aside0.mk ((by rw [hg]; exact (below_size (qca3_)) : w.heap.size ≤ gb101)); clear HB; have HB := n0_; have BK101 := n1_; have GW101 := n2_; have GE101 := n3_; clear n0_ n1_ n2_ n3_; clear hb hbox hg; have hcz6_0 : w5.cell? ⟨gb101, 0, none⟩ = some (.slice A0_0 l0_0.length c0_0) := (blk_cell BK101.out 0).trans rfl; have hcz6_1 : w5.cell? ⟨gb101, 1, none⟩ = some (.int .i64 a0_1) := (blk_cell BK101.out 1).trans rfl; have hfz6_0 := blk_frozen BK101.out 0; have hfz6_1 := blk_frozen BK101.out 1; have q7 : ((ji2) : Int) ≤ ((l0_0.length : Int) : Int) := of_decide_eq_true (qca4_); obtain ⟨i07, hi07, _, hsz7, _⟩ := info_parts info45; have hroom7 : l0_0.length ≤ c0_0 := HC0_0.out; have hC7 : Kd.C k45 _ A0_0 l0_0.length l0_0 := HR0_0.out; have hcut7 := cut_to (P := Tryz.prog) 22 45 .i64 Tryz.underlying22 hi07 A0_0 l0_0.length c0_0 (ji2) (of_decide_eq_true (qca4_)) q7 hroom7; have hr7 := Kd.C_take (m := ((ji2) : Int).toNat) hC7 (by omega); have hy7 : y102.length = ((ji2) : Int).toNat := (by rw [Ny102.out, List.length_take]; omega); rw [← Ny102.out] at hr7; rw [← hy7] at hcut7; have HR105 := Aside0.mk hr7; have HC105 := Aside0.mk (show y102.length ≤ c0_0 from by omega); clear hr7 hC7 hroom7 hi07 hsz7; have KY7 := Aside0.mk hy7; clear hy7; replace q7 := eq_true q7))
 go_loopg [3, 14] k (fun kq v3 v14 w' => ∃ (x3_1 : Int) (x14_1 : Int), v3 = .int .i64 x3_1 ∧ v14 = .int .i64 x14_1 ∧ Aside0 (grommetlaw14_large.l0 kq x3_1 y102 (y102.length : Int) x14_1 l0_0 a0_1 = some r) ∧ Aside0 (kq ≤ k) ∧ Aside0 (w'.heap[gb101]? = some (.cells #[(.slice A0_0 l0_0.length c0_0), .int .i64 a0_1] 24 (0, 0))) ∧ Aside0 (Below w.heap.size w w'))
 case atStart => exact ⟨(0), (0), (by first | rfl | (simp; done) | (simp [*]; done)), (by first | rfl | (simp; done) | (simp [*]; done)), H', ⟨Nat.le_refl _⟩, ⟨qca1_⟩, ⟨qca0_⟩⟩
 case round =>
  clear H'
  try clear p2
  try clear c3
  try clear c3b0
  try clear c3b1
  try clear c4
  try clear c4b0
  try clear c4b1
  try clear q7
  try clear hcz6_0
  try clear hcz6_1
  try clear hfz6_0
  try clear hfz6_1
  try clear q7
  obtain ⟨x3_1, x14_1, rfl, rfl, HA, HK1, BK101, HB⟩ := hrel
  cases gk with
  | zero => exact absurd HA.out (by simp [grommetlaw14_large.l0])
  | succ k1 =>
   have H := HA.out
   clear HA
   simp only [grommetlaw14_large.l0] at H
   by_cases c8 : x14_1 < (y102.length : Int)
   rotate_left
   ·
    rw [if_neg c8] at H
    have c8b0 : decide (x14_1 < (y102.length : Int)) = false := decide_eq_false c8
    clear c8
    by_cases c16 : (l0_0.length : Int) > 200
    rotate_left
    ·
     rw [if_neg c16] at H
     have c16b0 : decide (200 < (l0_0.length : Int)) = false := decide_eq_false c16
     have c16b1 : decide (200 < l0_0.length) = false := decide_eq_false (by omega)
     clear c16
     obtain rfl := Option.some.inj H
     have hcz20_0 : wr.cell? ⟨gb101, 0, none⟩ = some (.slice A0_0 l0_0.length c0_0) := (blk_cell BK101.out 0).trans rfl
     have hcz20_1 : wr.cell? ⟨gb101, 1, none⟩ = some (.int .i64 a0_1) := (blk_cell BK101.out 1).trans rfl
     have hfz20_0 := blk_frozen BK101.out 0
     have hfz20_1 := blk_frozen BK101.out 1
     go_wp2
     go_ret
     exact ⟨qca2_, qca0_⟩
    rw [if_pos c16] at H
    have c16b0 : decide (200 < (l0_0.length : Int)) = true := decide_eq_true c16
    have c16b1 : decide (200 < l0_0.length) = true := decide_eq_true (by omega)
    clear c16
    by_cases c17 : (l0_0.length : Int) ≤ 4096
    ·
     rw [if_pos c17] at H
     have c17b0 : decide ((l0_0.length : Int) ≤ 4096) = true := decide_eq_true c17
     have c17b1 : decide (l0_0.length ≤ 4096) = true := decide_eq_true (by omega)
     clear c17
     obtain rfl := Option.some.inj H
     have hcz18_0 : wr.cell? ⟨gb101, 0, none⟩ = some (.slice A0_0 l0_0.length c0_0) := (blk_cell BK101.out 0).trans rfl
     have hcz18_1 : wr.cell? ⟨gb101, 1, none⟩ = some (.int .i64 a0_1) := (blk_cell BK101.out 1).trans rfl
     have hfz18_0 := blk_frozen BK101.out 0
     have hfz18_1 := blk_frozen BK101.out 1
     go_wp2
     go_ret
     exact ⟨qca2_, qca0_⟩
    rw [if_neg c17] at H
    have c17b0 : decide ((l0_0.length : Int) ≤ 4096) = false := decide_eq_false c17
    have c17b1 : decide (l0_0.length ≤ 4096) = false := decide_eq_false (by omega)
    clear c17
    obtain rfl := Option.some.inj H
    have hcz19_0 : wr.cell? ⟨gb101, 0, none⟩ = some (.slice A0_0 l0_0.length c0_0) := (blk_cell BK101.out 0).trans rfl
    have hcz19_1 : wr.cell? ⟨gb101, 1, none⟩ = some (.int .i64 a0_1) := (blk_cell BK101.out 1).trans rfl
    have hfz19_0 := blk_frozen BK101.out 0
    have hfz19_1 := blk_frozen BK101.out 1
    go_wp2
    go_ret
    exact ⟨qca2_, qca0_⟩
   rw [if_pos c8] at H
   have c8b0 : decide (x14_1 < (y102.length : Int)) = true := decide_eq_true c8
   clear c8
   by_cases c9 : 0 ≤ x14_1
   rotate_left
   ·
    rw [if_neg c9] at H
    exact absurd H (by simp)
   rw [if_pos c9] at H
   have c9b0 : decide (0 ≤ x14_1) = true := decide_eq_true c9
   clear c9
   by_cases c10 : x14_1 < (y102.length : Int)
   rotate_left
   · exact absurd (of_decide_eq_true c8b0) c10
   rw [if_pos c10] at H
   have c10b0 : decide (x14_1 < (y102.length : Int)) = true := decide_eq_true c10
   clear c10
   obtain ⟨ji11, hji11⟩ : ∃ j_ : Int, (mn (((rd_T45 y102 x14_1).f2).length : Int) 2000) = j_ := ⟨_, rfl⟩
   replace H : (grommetlaw14_large.l0 k1 (wrap64 (x3_1 + ((ji11) + (mn (((rd_T45 y102 x14_1).f1).size : Int) 2000)))) y102 (y102.length : Int) (wrap64 (x14_1 + 1)) l0_0 a0_1) = some r := by first | (rw [hji11] at H; exact H) | (simp only [hji11] at H ⊢; exact H)
   have hji11_ : (if 2000 < (((rd_T45 y102 x14_1).f2).length : Int) then 2000 else (((rd_T45 y102 x14_1).f2).length : Int)) = ji11 := hji11
   obtain ⟨ji12, hji12⟩ : ∃ j_ : Int, (mn (((rd_T45 y102 x14_1).f1).size : Int) 2000) = j_ := ⟨_, rfl⟩
   replace H : (grommetlaw14_large.l0 k1 (wrap64 (x3_1 + ((ji11) + (ji12)))) y102 (y102.length : Int) (wrap64 (x14_1 + 1)) l0_0 a0_1) = some r := by first | (rw [hji12] at H; exact H) | (simp only [hji12] at H ⊢; exact H)
   have hji12_ : (if 2000 < (((rd_T45 y102 x14_1).f1).size : Int) then 2000 else (((rd_T45 y102 x14_1).f1).size : Int)) = ji12 := hji12
   have H' := Aside0.mk H
   clear H
   have p106 : 0 ≤ (x14_1 : Int) := of_decide_eq_true (qca4_)
   have q106 : x14_1 < (y102.length : Int) := of_decide_eq_true (qca4_)
   obtain ⟨ad106, A106_2, c106_2, e106, hx106_0, hx106_1, hx106_2, hl106_2, hi106_2⟩ := at_T45 HR105.out x14_1 p106 q106
   have KX106_2 := Aside0.mk hx106_2
   cases e106
   replace hx106_0 := (HB.out.cell (World.block_lt_of_cell? w _ hx106_0)).trans hx106_0
   replace hx106_1 := (HB.out.cell (World.block_lt_of_cell? w _ hx106_1)).trans hx106_1
   replace hx106_2 := (HB.out.cell (World.block_lt_of_cell? w _ hx106_2)).trans hx106_2
   have HR106_2 := Aside0.mk hi106_2
   have HC106_2 := Aside0.mk hl106_2
   clear hi106_2 hl106_2
   replace p106 := eq_true p106
   replace q106 := eq_true q106
   go_wp2_with (first | ((with_reducible refine gate_dst (N := 5) rfl ?_); (try (refine gate_guard (by rfl) ?_; dsimp only)); refine box_event ?hg (N := 5) ?hd (cs := #[.int .i64 0, .string (⟨#[]⟩ : ByteArray), .slice none 0 0]) (t := 45) ?hr ?_; (case hd => rfl); (case hg => rfl); (case hr => first | (go_simp; done) | (go_simp; rfl)); intro gb107 hg w13 hbox hb; have n0_ := Aside0.mk (blk_below (g := gb101) (o := .cells #[.slice (some ad106) l0_0.length c0_0, .int .i64 a0_1] 24 (0, 0)) (qca1_) hb); have n1_ := Aside0.mk (below_step (qca0_) hb); have n2_ := Aside0.mk (hbox); have n3_ := Aside0.mk ((by rw [hg]; exact (below_size (qca0_)) : w.heap.size ≤ gb107)); have n4_ := Aside0.mk ((by rw [hg]; exact (below_size (qca0_)) : w.heap.size ≤ gb107)); have n5_ := Aside0.mk ((by rw [hg]; exact Nat.ne_of_lt (blk_lt (g := gb101) (o := .cells #[.slice (some ad106) l0_0.length c0_0, .int .i64 a0_1] 24 (0, 0)) (qca1_)) : gb101 ≠ gb107)); have n6_ := Aside0.mk ((by rw [hg]; exact Nat.ne_of_gt (blk_lt (g := gb101) (o := .cells #[.slice (some ad106) l0_0.length c0_0, .int .i64 a0_1] 24 (0, 0)) (qca1_)) : gb107 ≠ gb101)); clear BK101; clear HB; have BK101 := n0_; have HB := n1_; have BK107 := n2_; have GW107 := n3_; have GE107 := n4_; have NB101_107 := n5_; have NB107_101 := n6_; clear n0_ n1_ n2_ n3_ n4_ n5_ n6_; clear hb hbox hg; have hnb14 := NB107_101.out; have hnc14 := NB101_107.out; have hcz15_0 : w13.cell? ⟨gb107, 0, none⟩ = some (.int .i64 0) := (blk_cell BK107.out 0).trans rfl; have hcz15_1 : w13.cell? ⟨gb107, 1, none⟩ = some (.string (⟨#[]⟩ : ByteArray)) := (blk_cell BK107.out 1).trans rfl; have hcz15_2 : w13.cell? ⟨gb107, 2, none⟩ = some (.slice none 0 0) := (blk_cell BK107.out 2).trans rfl; have hfz15_0 := blk_frozen BK107.out 0; have hfz15_1 := blk_frozen BK107.out 1; have hfz15_2 := blk_frozen BK107.out 2))
   go_roundg k1
   case measure => have := HK1.out; omega
   case rel => exact ⟨(wrap64 (x3_1 + ((ji11) + (ji12)))), (wrap64 (x14_1 + 1)), (by first | rfl | (simp; done) | (simp only [← hji11, ← hji12] <;> (first | rfl | simp)) | (simp [*]; done)), (by first | rfl | (simp; done) | (simp [*]; done)), H', ⟨by have := HK1.out; omega⟩, ⟨by (with_reducible repeat (first | refine blk_drewN ?_ _ | refine blk_drew ?_ | refine blk_alloc ?_ _)); refine blk_far ?_ NB101_107.out _; (with_reducible repeat (first | refine blk_drewN ?_ _ | refine blk_drew ?_ | refine blk_alloc ?_ _)); refine blk_far ?_ NB101_107.out _; (with_reducible repeat (first | refine blk_drewN ?_ _ | refine blk_drew ?_ | refine blk_alloc ?_ _)); refine blk_far ?_ NB101_107.out _; (with_reducible repeat (first | refine blk_drewN ?_ _ | refine blk_drew ?_ | refine blk_alloc ?_ _)); exact BK101.out⟩, ⟨by repeat (first | (with_reducible first | exact HB.out | apply below_alloc | apply pw_below_drewN | apply below_drew1 | refine below_set ?_ GE101.out | refine below_set ?_ GE107.out) | exact HB.out)⟩⟩
theorem eqA143 (d : Nat) (w : World) (x0 y0 : Int) (x1 y1 : Int) :
    (Op.equalIn (d + 2) 143 (.agg #[.int .i64 x0, .int .i64 x1]) (.agg #[.int .i64 y0, .int .i64 y1])).run Tryz.prog w = .ok (x0 == y0 && (x1 == y1)) w := by
  refine eqA_of Tryz.underlying143 (by kernel_rfl) ?_
  refine eqf_cons (by rfl) (by go_simp; rfl) (by go_simp; rfl) (by go_simp) ?_
  exact eqf_last (by rfl) (by go_simp; rfl) (by go_simp; rfl) (by go_simp)
def grommetref01_guess.l0 : Nat → ByteArray → Int → Int → Int → Option (Int)
  | 0, _, _, _, _ => none
  | k + 1, x0, x1, x6, x7 => if x7 < x1 then (if 0 ≤ x7 then (if x7 < (x0.size : Int) then (grommetref01_guess.l0 k x0 x1 (wrap64 ((wrap64 ((wrap64 (x6 * 64)) + (wrap64 (bt x0 x7)))) - 128)) (wrap64 (x7 + 1))) else (none)) else (none)) else (some x6)
def grommetref01_guess.f (k : Nat) (a0 : ByteArray) (a1 : Int) : Option (Int) := (some (([0, 0, 192, 224, 240] : List Int) : List Int)).bind fun y101 => (if 0 < (a0.size : Int) then (if 0 ≤ a1 then (if a1 < (y101.length : Int) then (grommetref01_guess.l0 k a0 a1 (wrap64 ((wrap64 (bt a0 0)) - (rd y101 a1))) 1) else (none)) else (none)) else (none))
theorem qha0_ {P : Prop} (h_ : P := by repeat (first | (with_reducible first | exact HB.out | apply below_alloc | apply pw_below_drewN | apply below_drew1) | exact HB.out)) : P := h_
theorem qha1_ {P : Prop} (h_ : P := by first | (with_reducible assumption) | assumption) : P := h_
theorem qha2_ {P : Prop} (h_ : P := by first | rfl | (simp; done) | (simp [*]; done)) : P := h_
set_option maxHeartbeats 8000000 in
set_option maxRecDepth 100000 in
theorem grommetref01_guess.calls (k : Nat) (a0 : ByteArray) (a1 : Int) (r : Int) (w : World) (hG : Glob.G w) (h : grommetref01_guess.f k a0 a1 = some r) :
  Calls Tryz.prog 146 #[.string a0, .int .i64 a1] w fun e w' => e = .returned (.int .i64 r) ∧ Below w.heap.size w w' := by
 have HB := Aside0.mk (Below.refl w.heap.size w)
 have H : ((some (([0, 0, 192, 224, 240] : List Int) : List Int)).bind fun y101 => (if 0 < (a0.size : Int) then (if 0 ≤ a1 then (if a1 < (y101.length : Int) then (grommetref01_guess.l0 k a0 a1 (wrap64 ((wrap64 (bt a0 0)) - (rd y101 a1))) 1) else (none)) else (none)) else (none))) = some r := h
 clear h
 obtain ⟨y101, hy101⟩ : ∃ y_ : List Int, y_ = (([0, 0, 192, 224, 240] : List Int)) := ⟨_, rfl⟩
 replace H : (if 0 < (a0.size : Int) then (if 0 ≤ a1 then (if a1 < (y101.length : Int) then (grommetref01_guess.l0 k a0 a1 (wrap64 ((wrap64 (bt a0 0)) - (rd y101 a1))) 1) else (none)) else (none)) else (none)) = some r := by first | (rw [hy101]; with_reducible exact H) | (have H2_ := (Option.bind_some _ _).symm.trans H; rw [hy101]; with_reducible exact H2_) | (have H2_ := (Option.bind_some _ _).symm.trans H; with_reducible exact H2_) | with_reducible exact H | (rw [hy101]; exact H) | exact H
 have Ny101 := Aside0.mk hy101
 clear hy101
 by_cases c3 : 0 < (a0.size : Int)
 rotate_left
 ·
  rw [if_neg c3] at H
  exact absurd H (by simp)
 rw [if_pos c3] at H
 have c3b0 : decide (0 < (a0.size : Int)) = true := decide_eq_true c3
 have c3b1 : decide (0 < a0.size) = true := decide_eq_true (by omega)
 clear c3
 by_cases c5 : 0 ≤ a1
 rotate_left
 ·
  rw [if_neg c5] at H
  exact absurd H (by simp)
 rw [if_pos c5] at H
 have c5b0 : decide (0 ≤ a1) = true := decide_eq_true c5
 clear c5
 by_cases c6 : a1 < (y101.length : Int)
 rotate_left
 ·
  rw [if_neg c6] at H
  exact absurd H (by simp)
 rw [if_pos c6] at H
 have c6b0 : decide (a1 < (y101.length : Int)) = true := decide_eq_true c6
 clear c6
 have H' := Aside0.mk H
 clear H
 go_enter Tryz.func146, Tryz.ntmps146
 go_wp2_with (first | ((with_reducible refine gate_dst (N := 8) rfl ?_); refine Kd.R_lit (Kd.int .i64) _ 3 ?hg (N := 8) ?hd (xs := ([0, 0, 192, 224, 240] : List Int)) (inner := [.int .i64 0, .int .i64 0, .int .i64 192, .int .i64 224, .int .i64 240]) (ok := fun _ => True) (okp := fun _ => True) ?hr ?hp (fun _ hk => hk) trivial (Below.refl _ _) (Nat.le_refl _) (by simp) ?_; (case hd => rfl); (case hg => rfl); (case hr => first | (go_simp; done) | (go_simp; rfl)); (case hp => exact (Reps.one (show Kd.M (Kd.int .i64) _ _ _ 0 [.int .i64 0] from rfl) (Reps.one (show Kd.M (Kd.int .i64) _ _ _ 0 [.int .i64 0] from rfl) (Reps.one (show Kd.M (Kd.int .i64) _ _ _ 192 [.int .i64 192] from rfl) (Reps.one (show Kd.M (Kd.int .i64) _ _ _ 224 [.int .i64 224] from rfl) (Reps.one (show Kd.M (Kd.int .i64) _ _ _ 240 [.int .i64 240] from rfl) (Reps.none _ _))))))); intro v102 w7 ho8 hb hg_ hnew_; clear hg_ hnew_; (first | rw [← Ny101.out] at ho8 | (simp only [Int.reduceToNat] at ho8; rw [← Ny101.out] at ho8)); have n0_ := Aside0.mk (Kd.R_lower ho8 (below_size (qha0_))); have n1_ := Aside0.mk (below_step (qha0_) hb); clear HB; have HO103 := n0_; have HB := n1_; clear n0_ n1_; clear hb ho8; have p4 : 0 ≤ (0 : Int) := (by omega); have q4 : 0 < a0.size := (by have : (0 : Int) < (a0.size : Int) := of_decide_eq_true (qha1_); omega); have hx4 : ∀ h : 0 < a0.size, ((a0[0]'h).toNat : Int) = bt a0 0 := bt_at a0 0; clear p4; have qi4 : (0 < (a0.size : Int)) = True := eq_true (of_decide_eq_true (qha1_)); replace q4 := eq_true q4; obtain ⟨Ao9, co9, eo9⟩ := Kd.R_slice HO103.out; subst eo9; have p104 : 0 ≤ (a1 : Int) := of_decide_eq_true (qha1_); have q104 : a1 < (y101.length : Int) := of_decide_eq_true (qha1_); obtain ⟨ad104, e104, hx104_0⟩ := Kd.at_int (Kd.R_reads' HO103.out).2.2 a1 p104 q104; cases e104; replace p104 := eq_true p104; replace q104 := eq_true q104))
 repeat (go_quiet (first | ((with_reducible refine gate_dst (N := 8) rfl ?_); refine Kd.R_lit (Kd.int .i64) _ 3 ?hg (N := 8) ?hd (xs := ([0, 0, 192, 224, 240] : List Int)) (inner := [.int .i64 0, .int .i64 0, .int .i64 192, .int .i64 224, .int .i64 240]) (ok := fun _ => True) (okp := fun _ => True) ?hr ?hp (fun _ hk => hk) trivial (Below.refl _ _) (Nat.le_refl _) (by simp) ?_; (case hd => rfl); (case hg => rfl); (case hr => first | (go_simp; done) | (go_simp; rfl)); (case hp => exact (Reps.one (show Kd.M (Kd.int .i64) _ _ _ 0 [.int .i64 0] from rfl) (Reps.one (show Kd.M (Kd.int .i64) _ _ _ 0 [.int .i64 0] from rfl) (Reps.one (show Kd.M (Kd.int .i64) _ _ _ 192 [.int .i64 192] from rfl) (Reps.one (show Kd.M (Kd.int .i64) _ _ _ 224 [.int .i64 224] from rfl) (Reps.one (show Kd.M (Kd.int .i64) _ _ _ 240 [.int .i64 240] from rfl) (Reps.none _ _))))))); intro v102 w7 ho8 hb hg_ hnew_; clear hg_ hnew_; (first | rw [← Ny101.out] at ho8 | (simp only [Int.reduceToNat] at ho8; rw [← Ny101.out] at ho8)); have n0_ := Aside0.mk (Kd.R_lower ho8 (below_size (qha0_))); have n1_ := Aside0.mk (below_step (qha0_) hb); clear HB; have HO103 := n0_; have HB := n1_; clear n0_ n1_; clear hb ho8; have p4 : 0 ≤ (0 : Int) := (by omega); have q4 : 0 < a0.size := (by have : (0 : Int) < (a0.size : Int) := of_decide_eq_true (qha1_); omega); have hx4 : ∀ h : 0 < a0.size, ((a0[0]'h).toNat : Int) = bt a0 0 := bt_at a0 0; clear p4; have qi4 : (0 < (a0.size : Int)) = True := eq_true (of_decide_eq_true (qha1_)); replace q4 := eq_true q4; obtain ⟨Ao9, co9, eo9⟩ := Kd.R_slice HO103.out; subst eo9; have p104 : 0 ≤ (a1 : Int) := of_decide_eq_true (qha1_); have q104 : a1 < (y101.length : Int) := of_decide_eq_true (qha1_); obtain ⟨ad104, e104, hx104_0⟩ := Kd.at_int (Kd.R_reads' HO103.out).2.2 a1 p104 q104; cases e104; replace p104 := eq_true p104; replace q104 := eq_true q104)); try go_wp2_with (first | ((with_reducible refine gate_dst (N := 8) rfl ?_); refine Kd.R_lit (Kd.int .i64) _ 3 ?hg (N := 8) ?hd (xs := ([0, 0, 192, 224, 240] : List Int)) (inner := [.int .i64 0, .int .i64 0, .int .i64 192, .int .i64 224, .int .i64 240]) (ok := fun _ => True) (okp := fun _ => True) ?hr ?hp (fun _ hk => hk) trivial (Below.refl _ _) (Nat.le_refl _) (by simp) ?_; (case hd => rfl); (case hg => rfl); (case hr => first | (go_simp; done) | (go_simp; rfl)); (case hp => exact (Reps.one (show Kd.M (Kd.int .i64) _ _ _ 0 [.int .i64 0] from rfl) (Reps.one (show Kd.M (Kd.int .i64) _ _ _ 0 [.int .i64 0] from rfl) (Reps.one (show Kd.M (Kd.int .i64) _ _ _ 192 [.int .i64 192] from rfl) (Reps.one (show Kd.M (Kd.int .i64) _ _ _ 224 [.int .i64 224] from rfl) (Reps.one (show Kd.M (Kd.int .i64) _ _ _ 240 [.int .i64 240] from rfl) (Reps.none _ _))))))); intro v102 w7 ho8 hb hg_ hnew_; clear hg_ hnew_; (first | rw [← Ny101.out] at ho8 | (simp only [Int.reduceToNat] at ho8; rw [← Ny101.out] at ho8)); have n0_ := Aside0.mk (Kd.R_lower ho8 (below_size (qha0_))); have n1_ := Aside0.mk (below_step (qha0_) hb); clear HB; have HO103 := n0_; have HB := n1_; clear n0_ n1_; clear hb ho8; have p4 : 0 ≤ (0 : Int) := (by omega); have q4 : 0 < a0.size := (by have : (0 : Int) < (a0.size : Int) := of_decide_eq_true (qha1_); omega); have hx4 : ∀ h : 0 < a0.size, ((a0[0]'h).toNat : Int) = bt a0 0 := bt_at a0 0; clear p4; have qi4 : (0 < (a0.size : Int)) = True := eq_true (of_decide_eq_true (qha1_)); replace q4 := eq_true q4; obtain ⟨Ao9, co9, eo9⟩ := Kd.R_slice HO103.out; subst eo9; have p104 : 0 ≤ (a1 : Int) := of_decide_eq_true (qha1_); have q104 : a1 < (y101.length : Int) := of_decide_eq_true (qha1_); obtain ⟨ad104, e104, hx104_0⟩ := Kd.at_int (Kd.R_reads' HO103.out).2.2 a1 p104 q104; cases e104; replace p104 := eq_true p104; replace q104 := eq_true q104)))
 go_loopg [6, 7] k (fun kq v6 v7 w' => ∃ (x6_1 : Int) (x7_1 : Int), v6 = .int .i64 x6_1 ∧ v7 = .int .i64 x7_1 ∧ Aside0 (grommetref01_guess.l0 kq a0 a1 x6_1 x7_1 = some r) ∧ Aside0 (kq ≤ k) ∧ Aside0 (Below w.heap.size w w'))
 case atStart => exact ⟨(wrap64 ((wrap64 (bt a0 0)) - (rd y101 a1))), (1), (qha2_), (qha2_), H', ⟨Nat.le_refl _⟩, ⟨qha0_⟩⟩
 case round =>
  clear H'
  try clear c1
  try clear p1
  try clear q1
  try clear hx1
  try clear p2
  try clear c3
  try clear c3b0
  try clear c3b1
  try clear p4
  try clear q4
  try clear hx4
  try clear qi4
  try clear c5
  try clear c5b0
  try clear c6
  try clear c6b0
  try clear p6
  try clear hx104_0
  try clear p104
  try clear p4
  try clear q104
  try clear q4
  obtain ⟨x6_1, x7_1, rfl, rfl, HA, HK1, HB⟩ := hrel
  cases gk with
  | zero => exact absurd HA.out (by simp [grommetref01_guess.l0])
  | succ k1 =>
   have H := HA.out
   clear HA
   simp only [grommetref01_guess.l0] at H
   by_cases c10 : x7_1 < a1
   rotate_left
   ·
    rw [if_neg c10] at H
    have c10b0 : decide (x7_1 < a1) = false := decide_eq_false c10
    clear c10
    obtain rfl := Option.some.inj H
    go_wp2
    repeat (go_quiet (fail); try go_wp2)
    go_ret
    exact ⟨by first | rfl | (simp [errW_none, errW_some] <;> rfl) | (simp [*, errW_none, errW_some] <;> rfl), qha0_⟩
   rw [if_pos c10] at H
   have c10b0 : decide (x7_1 < a1) = true := decide_eq_true c10
   clear c10
   by_cases c11 : 0 ≤ x7_1
   rotate_left
   ·
    rw [if_neg c11] at H
    exact absurd H (by simp)
   rw [if_pos c11] at H
   have c11b0 : decide (0 ≤ x7_1) = true := decide_eq_true c11
   clear c11
   by_cases c12 : x7_1 < (a0.size : Int)
   rotate_left
   ·
    rw [if_neg c12] at H
    exact absurd H (by simp)
   rw [if_pos c12] at H
   have c12b0 : decide (x7_1 < (a0.size : Int)) = true := decide_eq_true c12
   clear c12
   have H' := Aside0.mk H
   clear H
   have p13 : 0 ≤ (x7_1 : Int) := of_decide_eq_true (qha1_)
   have q13 : x7_1 < (a0.size : Int) := of_decide_eq_true (qha1_)
   have hx13 := bt_at a0 x7_1
   replace p13 := eq_true p13
   replace q13 := eq_true q13
   go_wp2
   repeat (go_quiet (fail); try go_wp2)
   go_roundg k1
   case measure => have := HK1.out; omega
   case rel => exact ⟨(wrap64 ((wrap64 ((wrap64 (x6_1 * 64)) + (wrap64 (bt a0 x7_1)))) - 128)), (wrap64 (x7_1 + 1)), (qha2_), (qha2_), H', ⟨by have := HK1.out; omega⟩, ⟨qha0_⟩⟩
def grommetref01_Sign.f (a0 : Int) : Option (Bool) := if a0 ≥ 0 then (if a0 ≤ 1114111 then (if a0 < 55296 then (some true) else (some (decide (a0 > 57343)))) else (some false)) else (some false)
theorem qia0_ {P : Prop} (h_ : P := by first | rfl | (simp; done) | (simp [*]; done) | (simp; generalize ByteArray.toList _ = l_; cases l_ <;> rfl)) : P := h_
theorem qia1_ {P : Prop} (h_ : P := by repeat (first | exact Drawn0.refl _ | apply Drawn0.step)) : P := h_
set_option maxHeartbeats 8000000 in
set_option maxRecDepth 100000 in
theorem grommetref01_Sign.calls (a0 : Int) (r : Bool) (w : World) (hG : Glob.G w) (h : grommetref01_Sign.f a0 = some r) :
  Calls Tryz.prog 147 #[.int .i64 a0] w fun e w' => e = .returned (.bool r) ∧ Drawn0 w w' := by
 have H : (if a0 ≥ 0 then (if a0 ≤ 1114111 then (if a0 < 55296 then (some true) else (some (decide (a0 > 57343)))) else (some false)) else (some false)) = some r := h
 clear h
 by_cases c2 : a0 ≥ 0
 rotate_left
 ·
  rw [if_neg c2] at H
  have c2b0 : decide (0 ≤ a0) = false := decide_eq_false c2
  clear c2
  obtain rfl := Option.some.inj H
  go_enter Tryz.func147, Tryz.ntmps147
  go_wp2
  go_ret
  exact ⟨qia0_, qia1_⟩
 rw [if_pos c2] at H
 have c2b0 : decide (0 ≤ a0) = true := decide_eq_true c2
 clear c2
 by_cases c3 : a0 ≤ 1114111
 rotate_left
 ·
  rw [if_neg c3] at H
  have c3b0 : decide (a0 ≤ 1114111) = false := decide_eq_false c3
  clear c3
  obtain rfl := Option.some.inj H
  go_enter Tryz.func147, Tryz.ntmps147
  go_wp2
  go_ret
  exact ⟨qia0_, qia1_⟩
 rw [if_pos c3] at H
 have c3b0 : decide (a0 ≤ 1114111) = true := decide_eq_true c3
 clear c3
 by_cases c4 : a0 < 55296
 ·
  rw [if_pos c4] at H
  have c4b0 : decide (a0 < 55296) = true := decide_eq_true c4
  clear c4
  obtain rfl := Option.some.inj H
  go_enter Tryz.func147, Tryz.ntmps147
  go_wp2
  go_ret
  exact ⟨qia0_, qia1_⟩
 rw [if_neg c4] at H
 have c4b0 : decide (a0 < 55296) = false := decide_eq_false c4
 clear c4
 obtain rfl := Option.some.inj H
 go_enter Tryz.func147, Tryz.ntmps147
 go_wp2
 go_ret
 exact ⟨qia0_, qia1_⟩
def grommetref01_bytes.f (a0 : Int) : Option (List Int) := if a0 < 128 then (some (([(a0) % 256] : List Int))) else (if a0 < 2048 then (some (([(wrap64 (192 + (wrap64 (Int.tdiv a0 64)))) % 256, (wrap64 (128 + (Int.tmod a0 64))) % 256] : List Int))) else (if a0 < 65536 then (some (([(wrap64 (224 + (wrap64 (Int.tdiv a0 4096)))) % 256, (wrap64 (128 + (Int.tmod (wrap64 (Int.tdiv a0 64)) 64))) % 256, (wrap64 (128 + (Int.tmod a0 64))) % 256] : List Int))) else (some (([(wrap64 (240 + (wrap64 (Int.tdiv a0 262144)))) % 256, (wrap64 (128 + (Int.tmod (wrap64 (Int.tdiv a0 4096)) 64))) % 256, (wrap64 (128 + (Int.tmod (wrap64 (Int.tdiv a0 64)) 64))) % 256, (wrap64 (128 + (Int.tmod a0 64))) % 256] : List Int)))))
theorem qja0_ {P : Prop} (h_ : P := by repeat (first | (with_reducible first | exact HB.out | apply below_alloc | apply pw_below_drewN | apply below_drew1) | exact HB.out)) : P := h_
theorem qja1_ {P : Prop} (h_ : P := by first | rfl | (simp [errW_none, errW_some] <;> rfl) | (simp [*, errW_none, errW_some] <;> rfl)) : P := h_
set_option maxHeartbeats 8000000 in
set_option maxRecDepth 100000 in
theorem grommetref01_bytes.calls (a0 : Int) (r : List Int) (w : World) (hG : Glob.G w) (h : grommetref01_bytes.f a0 = some r) :
  Calls Tryz.prog 148 #[.int .i64 a0] w fun e w' => ∃ v0_ : Value, e = .returned (v0_) ∧ Kd.R (Kd.int .u8) 5 w' w.heap.size (fun _ => True) v0_ r ∧ Below w.heap.size w w' := by
 have HB := Aside0.mk (Below.refl w.heap.size w)
 have H : (if a0 < 128 then (some (([(a0) % 256] : List Int))) else (if a0 < 2048 then (some (([(wrap64 (192 + (wrap64 (Int.tdiv a0 64)))) % 256, (wrap64 (128 + (Int.tmod a0 64))) % 256] : List Int))) else (if a0 < 65536 then (some (([(wrap64 (224 + (wrap64 (Int.tdiv a0 4096)))) % 256, (wrap64 (128 + (Int.tmod (wrap64 (Int.tdiv a0 64)) 64))) % 256, (wrap64 (128 + (Int.tmod a0 64))) % 256] : List Int))) else (some (([(wrap64 (240 + (wrap64 (Int.tdiv a0 262144)))) % 256, (wrap64 (128 + (Int.tmod (wrap64 (Int.tdiv a0 4096)) 64))) % 256, (wrap64 (128 + (Int.tmod (wrap64 (Int.tdiv a0 64)) 64))) % 256, (wrap64 (128 + (Int.tmod a0 64))) % 256] : List Int)))))) = some r := h
 clear h
 by_cases c2 : a0 < 128
 ·
  rw [if_pos c2] at H
  have c2b0 : decide (a0 < 128) = true := decide_eq_true c2
  clear c2
  obtain ⟨y101, hy101⟩ : ∃ y_ : List Int, y_ = (([(a0) % 256] : List Int)) := ⟨_, rfl⟩
  replace H : (some y101) = some r := by first | (rw [hy101]; with_reducible exact H) | (have H2_ := (Option.bind_some _ _).symm.trans H; rw [hy101]; with_reducible exact H2_) | (have H2_ := (Option.bind_some _ _).symm.trans H; with_reducible exact H2_) | with_reducible exact H | (rw [hy101]; exact H) | exact H
  have Ny101 := Aside0.mk hy101
  clear hy101
  obtain rfl := Option.some.inj H
  go_enter Tryz.func148, Tryz.ntmps148
  go_wp2_with (first | ((with_reducible refine gate_dst (N := 8) rfl ?_); refine Kd.R_lit (Kd.int .u8) _ 5 ?hg (N := 8) ?hd (xs := ([(a0) % 256] : List Int)) (inner := [.int .u8 ((a0) % 256)]) (ok := fun _ => True) (okp := fun _ => True) ?hr ?hp (fun _ hk => hk) trivial (Below.refl _ _) (Nat.le_refl _) (by simp) ?_; (case hd => rfl); (case hg => rfl); (case hr => first | (go_simp; done) | (go_simp; rfl)); (case hp => exact (Reps.one (show Kd.M (Kd.int .u8) _ _ _ ((a0) % 256) [.int .u8 ((a0) % 256)] from rfl) (Reps.none _ _))); intro v102 w3 ho4 hb hg_ hnew_; clear hg_ hnew_; (first | rw [← Ny101.out] at ho4 | (simp only [Int.reduceToNat] at ho4; rw [← Ny101.out] at ho4)); have n0_ := Aside0.mk (Kd.R_lower ho4 (below_size (qja0_))); have n1_ := Aside0.mk (below_step (qja0_) hb); clear HB; have HO103 := n0_; have HB := n1_; clear n0_ n1_; clear hb ho4))
  go_ret
  exact ⟨_, qja1_, by (with_reducible repeat (first | apply Kd.R_alloc | apply Kd.R_drewN | apply Kd.R_drew)); exact HO103.out, qja0_⟩
 rw [if_neg c2] at H
 have c2b0 : decide (a0 < 128) = false := decide_eq_false c2
 clear c2
 by_cases c5 : a0 < 2048
 ·
  rw [if_pos c5] at H
  have c5b0 : decide (a0 < 2048) = true := decide_eq_true c5
  clear c5
  obtain ⟨y104, hy104⟩ : ∃ y_ : List Int, y_ = (([(wrap64 (192 + (wrap64 (Int.tdiv a0 64)))) % 256, (wrap64 (128 + (Int.tmod a0 64))) % 256] : List Int)) := ⟨_, rfl⟩
  replace H : (some y104) = some r := by first | (rw [hy104]; with_reducible exact H) | (have H2_ := (Option.bind_some _ _).symm.trans H; rw [hy104]; with_reducible exact H2_) | (have H2_ := (Option.bind_some _ _).symm.trans H; with_reducible exact H2_) | with_reducible exact H | (rw [hy104]; exact H) | exact H
  have Ny104 := Aside0.mk hy104
  clear hy104
  obtain rfl := Option.some.inj H
  go_enter Tryz.func148, Tryz.ntmps148
  go_wp2_with (first | ((with_reducible refine gate_dst (N := 20) rfl ?_); refine Kd.R_lit (Kd.int .u8) _ 5 ?hg (N := 20) ?hd (xs := ([(wrap64 (192 + (wrap64 (Int.tdiv a0 64)))) % 256, (wrap64 (128 + (Int.tmod a0 64))) % 256] : List Int)) (inner := [.int .u8 ((wrap64 (192 + (wrap64 (Int.tdiv a0 64)))) % 256), .int .u8 ((wrap64 (128 + (Int.tmod a0 64))) % 256)]) (ok := fun _ => True) (okp := fun _ => True) ?hr ?hp (fun _ hk => hk) trivial (Below.refl _ _) (Nat.le_refl _) (by simp) ?_; (case hd => rfl); (case hg => rfl); (case hr => first | (go_simp; done) | (go_simp; rfl)); (case hp => exact (Reps.one (show Kd.M (Kd.int .u8) _ _ _ ((wrap64 (192 + (wrap64 (Int.tdiv a0 64)))) % 256) [.int .u8 ((wrap64 (192 + (wrap64 (Int.tdiv a0 64)))) % 256)] from rfl) (Reps.one (show Kd.M (Kd.int .u8) _ _ _ ((wrap64 (128 + (Int.tmod a0 64))) % 256) [.int .u8 ((wrap64 (128 + (Int.tmod a0 64))) % 256)] from rfl) (Reps.none _ _)))); intro v105 w6 ho7 hb hg_ hnew_; clear hg_ hnew_; (first | rw [← Ny104.out] at ho7 | (simp only [Int.reduceToNat] at ho7; rw [← Ny104.out] at ho7)); have n0_ := Aside0.mk (Kd.R_lower ho7 (below_size (qja0_))); have n1_ := Aside0.mk (below_step (qja0_) hb); clear HB; have HO106 := n0_; have HB := n1_; clear n0_ n1_; clear hb ho7))
  go_ret
  exact ⟨_, qja1_, by (with_reducible repeat (first | apply Kd.R_alloc | apply Kd.R_drewN | apply Kd.R_drew)); exact HO106.out, qja0_⟩
 rw [if_neg c5] at H
 have c5b0 : decide (a0 < 2048) = false := decide_eq_false c5
 clear c5
 by_cases c8 : a0 < 65536
 ·
  rw [if_pos c8] at H
  have c8b0 : decide (a0 < 65536) = true := decide_eq_true c8
  clear c8
  obtain ⟨y107, hy107⟩ : ∃ y_ : List Int, y_ = (([(wrap64 (224 + (wrap64 (Int.tdiv a0 4096)))) % 256, (wrap64 (128 + (Int.tmod (wrap64 (Int.tdiv a0 64)) 64))) % 256, (wrap64 (128 + (Int.tmod a0 64))) % 256] : List Int)) := ⟨_, rfl⟩
  replace H : (some y107) = some r := by first | (rw [hy107]; with_reducible exact H) | (have H2_ := (Option.bind_some _ _).symm.trans H; rw [hy107]; with_reducible exact H2_) | (have H2_ := (Option.bind_some _ _).symm.trans H; with_reducible exact H2_) | with_reducible exact H | (rw [hy107]; exact H) | exact H
  have Ny107 := Aside0.mk hy107
  clear hy107
  obtain rfl := Option.some.inj H
  go_enter Tryz.func148, Tryz.ntmps148
  go_wp2_with (first | ((with_reducible refine gate_dst (N := 37) rfl ?_); refine Kd.R_lit (Kd.int .u8) _ 5 ?hg (N := 37) ?hd (xs := ([(wrap64 (224 + (wrap64 (Int.tdiv a0 4096)))) % 256, (wrap64 (128 + (Int.tmod (wrap64 (Int.tdiv a0 64)) 64))) % 256, (wrap64 (128 + (Int.tmod a0 64))) % 256] : List Int)) (inner := [.int .u8 ((wrap64 (224 + (wrap64 (Int.tdiv a0 4096)))) % 256), .int .u8 ((wrap64 (128 + (Int.tmod (wrap64 (Int.tdiv a0 64)) 64))) % 256), .int .u8 ((wrap64 (128 + (Int.tmod a0 64))) % 256)]) (ok := fun _ => True) (okp := fun _ => True) ?hr ?hp (fun _ hk => hk) trivial (Below.refl _ _) (Nat.le_refl _) (by simp) ?_; (case hd => rfl); (case hg => rfl); (case hr => first | (go_simp; done) | (go_simp; rfl)); (case hp => exact (Reps.one (show Kd.M (Kd.int .u8) _ _ _ ((wrap64 (224 + (wrap64 (Int.tdiv a0 4096)))) % 256) [.int .u8 ((wrap64 (224 + (wrap64 (Int.tdiv a0 4096)))) % 256)] from rfl) (Reps.one (show Kd.M (Kd.int .u8) _ _ _ ((wrap64 (128 + (Int.tmod (wrap64 (Int.tdiv a0 64)) 64))) % 256) [.int .u8 ((wrap64 (128 + (Int.tmod (wrap64 (Int.tdiv a0 64)) 64))) % 256)] from rfl) (Reps.one (show Kd.M (Kd.int .u8) _ _ _ ((wrap64 (128 + (Int.tmod a0 64))) % 256) [.int .u8 ((wrap64 (128 + (Int.tmod a0 64))) % 256)] from rfl) (Reps.none _ _))))); intro v108 w9 ho10 hb hg_ hnew_; clear hg_ hnew_; (first | rw [← Ny107.out] at ho10 | (simp only [Int.reduceToNat] at ho10; rw [← Ny107.out] at ho10)); have n0_ := Aside0.mk (Kd.R_lower ho10 (below_size (qja0_))); have n1_ := Aside0.mk (below_step (qja0_) hb); clear HB; have HO109 := n0_; have HB := n1_; clear n0_ n1_; clear hb ho10))
  go_ret
  exact ⟨_, qja1_, by (with_reducible repeat (first | apply Kd.R_alloc | apply Kd.R_drewN | apply Kd.R_drew)); exact HO109.out, qja0_⟩
 rw [if_neg c8] at H
 have c8b0 : decide (a0 < 65536) = false := decide_eq_false c8
 clear c8
 obtain ⟨y110, hy110⟩ : ∃ y_ : List Int, y_ = (([(wrap64 (240 + (wrap64 (Int.tdiv a0 262144)))) % 256, (wrap64 (128 + (Int.tmod (wrap64 (Int.tdiv a0 4096)) 64))) % 256, (wrap64 (128 + (Int.tmod (wrap64 (Int.tdiv a0 64)) 64))) % 256, (wrap64 (128 + (Int.tmod a0 64))) % 256] : List Int)) := ⟨_, rfl⟩
 replace H : (some y110) = some r := by first | (rw [hy110]; with_reducible exact H) | (have H2_ := (Option.bind_some _ _).symm.trans H; rw [hy110]; with_reducible exact H2_) | (have H2_ := (Option.bind_some _ _).symm.trans H; with_reducible exact H2_) | with_reducible exact H | (rw [hy110]; exact H) | exact H
 have Ny110 := Aside0.mk hy110
 clear hy110
 obtain rfl := Option.some.inj H
 go_enter Tryz.func148, Tryz.ntmps148
 go_wp2_with (first | ((with_reducible refine gate_dst (N := 56) rfl ?_); refine Kd.R_lit (Kd.int .u8) _ 5 ?hg (N := 56) ?hd (xs := ([(wrap64 (240 + (wrap64 (Int.tdiv a0 262144)))) % 256, (wrap64 (128 + (Int.tmod (wrap64 (Int.tdiv a0 4096)) 64))) % 256, (wrap64 (128 + (Int.tmod (wrap64 (Int.tdiv a0 64)) 64))) % 256, (wrap64 (128 + (Int.tmod a0 64))) % 256] : List Int)) (inner := [.int .u8 ((wrap64 (240 + (wrap64 (Int.tdiv a0 262144)))) % 256), .int .u8 ((wrap64 (128 + (Int.tmod (wrap64 (Int.tdiv a0 4096)) 64))) % 256), .int .u8 ((wrap64 (128 + (Int.tmod (wrap64 (Int.tdiv a0 64)) 64))) % 256), .int .u8 ((wrap64 (128 + (Int.tmod a0 64))) % 256)]) (ok := fun _ => True) (okp := fun _ => True) ?hr ?hp (fun _ hk => hk) trivial (Below.refl _ _) (Nat.le_refl _) (by simp) ?_; (case hd => rfl); (case hg => rfl); (case hr => first | (go_simp; done) | (go_simp; rfl)); (case hp => exact (Reps.one (show Kd.M (Kd.int .u8) _ _ _ ((wrap64 (240 + (wrap64 (Int.tdiv a0 262144)))) % 256) [.int .u8 ((wrap64 (240 + (wrap64 (Int.tdiv a0 262144)))) % 256)] from rfl) (Reps.one (show Kd.M (Kd.int .u8) _ _ _ ((wrap64 (128 + (Int.tmod (wrap64 (Int.tdiv a0 4096)) 64))) % 256) [.int .u8 ((wrap64 (128 + (Int.tmod (wrap64 (Int.tdiv a0 4096)) 64))) % 256)] from rfl) (Reps.one (show Kd.M (Kd.int .u8) _ _ _ ((wrap64 (128 + (Int.tmod (wrap64 (Int.tdiv a0 64)) 64))) % 256) [.int .u8 ((wrap64 (128 + (Int.tmod (wrap64 (Int.tdiv a0 64)) 64))) % 256)] from rfl) (Reps.one (show Kd.M (Kd.int .u8) _ _ _ ((wrap64 (128 + (Int.tmod a0 64))) % 256) [.int .u8 ((wrap64 (128 + (Int.tmod a0 64))) % 256)] from rfl) (Reps.none _ _)))))); intro v111 w11 ho12 hb hg_ hnew_; clear hg_ hnew_; (first | rw [← Ny110.out] at ho12 | (simp only [Int.reduceToNat] at ho12; rw [← Ny110.out] at ho12)); have n0_ := Aside0.mk (Kd.R_lower ho12 (below_size (qja0_))); have n1_ := Aside0.mk (below_step (qja0_) hb); clear HB; have HO112 := n0_; have HB := n1_; clear n0_ n1_; clear hb ho12))
 go_ret
 exact ⟨_, qja1_, by (with_reducible repeat (first | apply Kd.R_alloc | apply Kd.R_drewN | apply Kd.R_drew)); exact HO112.out, qja0_⟩
def grommetref01_begins.f (a0 : ByteArray) (a1 : Int) : Option (Bool) := (grommetref01_bytes.f a1).bind fun t101 => (if (a0.size : Int) ≥ ((strOfNums t101).size : Int) then (if 0 ≤ ((strOfNums t101).size : Int) then (if ((strOfNums t101).size : Int) ≤ (a0.size : Int) then (some ((a0.extract 0 (((strOfNums t101).size : Int) : Int).toNat).toList == (strOfNums t101).toList)) else (none)) else (none)) else (some false))
theorem qka0_ {P : Prop} (h_ : P := by repeat (first | (with_reducible first | exact HB.out | apply below_alloc | apply pw_below_drewN | apply below_drew1) | exact HB.out)) : P := h_
theorem qka1_ {P : Prop} (h_ : P := by first | ((repeat (first | (with_reducible first | exact HB.out | apply below_alloc | apply pw_below_drewN | apply below_drew1 | (refine Glob.below_set ?_ (by assumption) _ _ _)) | exact HB.out)); done) | (refine Drawn0.below ?_; repeat (first | exact Drawn0.refl _ | assumption | apply Drawn0.step))) : P := h_
theorem qka2_ {P : Prop} (h_ : P := by (try simp only [List.map_toArray, List.map_cons, List.map_nil]); first | done | rfl | (simp only [List.length_drop, List.length_take]; rfl)) : P := h_
set_option maxHeartbeats 8000000 in
set_option maxRecDepth 100000 in
theorem grommetref01_begins.calls (a0 : ByteArray) (a1 : Int) (r : Bool) (w : World) (hG : Glob.G w) (h : grommetref01_begins.f a0 a1 = some r) :
  Calls Tryz.prog 149 #[.string a0, .int .i64 a1] w fun e w' => e = .returned (.bool r) ∧ Below w.heap.size w w' := by
 have HB := Aside0.mk (Below.refl w.heap.size w)
 have H : ((grommetref01_bytes.f a1).bind fun t101 => (if (a0.size : Int) ≥ ((strOfNums t101).size : Int) then (if 0 ≤ ((strOfNums t101).size : Int) then (if ((strOfNums t101).size : Int) ≤ (a0.size : Int) then (some ((a0.extract 0 (((strOfNums t101).size : Int) : Int).toNat).toList == (strOfNums t101).toList)) else (none)) else (none)) else (some false))) = some r := h
 clear h
 replace H := Option.bind_eq_some_iff.mp H
 obtain ⟨t101, A30, H⟩ := H
 replace H : (if (a0.size : Int) ≥ ((strOfNums t101).size : Int) then (if 0 ≤ ((strOfNums t101).size : Int) then (if ((strOfNums t101).size : Int) ≤ (a0.size : Int) then (some ((a0.extract 0 (((strOfNums t101).size : Int) : Int).toNat).toList == (strOfNums t101).toList)) else (none)) else (none)) else (some false)) = some r := H
 have A3 := Aside0.mk A30
 clear A30
 by_cases c4 : (a0.size : Int) ≥ ((strOfNums t101).size : Int)
 rotate_left
 ·
  rw [if_neg c4] at H
  have c4b0 : decide (((strOfNums t101).size : Int) ≤ (a0.size : Int)) = false := decide_eq_false c4
  have c4b1 : decide ((strOfNums t101).size ≤ a0.size) = false := decide_eq_false (fun h => c4 (Int.ofNat_le.mpr h))
  clear c4
  obtain rfl := Option.some.inj H
  go_enter Tryz.func149, Tryz.ntmps149
  go_wp2_with (first | ((with_reducible refine gate_callee (f := 148) rfl ?_); refine goesL_ (some 7) rfl rfl Tryz.func148 (by kernel_rfl) rfl #[.int .i64 a1] rfl (qka2_) ?_; (with_reducible refine (grommetref01_bytes.calls a1 t101 _ (hG.below (qka1_)) A3.out).mono ?_); rintro e w9 ⟨v102, rfl, ho0, hb⟩; refine ⟨_, rfl, ?_⟩; have n0_ := Aside0.mk (Kd.R_lower ho0 (below_size (qka0_))); have n1_ := Aside0.mk (below_step (qka0_) hb); clear HB; have HO103 := n0_; have HB := n1_; clear n0_ n1_; (try clear hb); (try clear ho0); have hcv10 := own_string (P := Tryz.prog) Tryz.underlying97 Tryz.underlying5 Tryz.underlying9 (Kd.own_of_R HO103.out)))
  go_ret
  exact ⟨by first | rfl | (simp [errW_none, errW_some] <;> rfl) | (simp [*, errW_none, errW_some] <;> rfl), qka0_⟩
 rw [if_pos c4] at H
 have c4b0 : decide (((strOfNums t101).size : Int) ≤ (a0.size : Int)) = true := decide_eq_true c4
 have c4b1 : decide ((strOfNums t101).size ≤ a0.size) = true := decide_eq_true (Int.ofNat_le.mp c4)
 clear c4
 by_cases c5 : 0 ≤ ((strOfNums t101).size : Int)
 rotate_left
 ·
  rw [if_neg c5] at H
  exact absurd H (by simp)
 rw [if_pos c5] at H
 have c5b0 := eq_true c5
 have c5b1 : decide (0 ≤ ((strOfNums t101).size : Int)) = true := decide_eq_true c5
 clear c5
 by_cases c6 : ((strOfNums t101).size : Int) ≤ (a0.size : Int)
 rotate_left
 ·
  rw [if_neg c6] at H
  exact absurd H (by simp)
 rw [if_pos c6] at H
 have c6b0 := eq_true c6
 have c6b1 : decide (((strOfNums t101).size : Int) ≤ (a0.size : Int)) = true := decide_eq_true c6
 clear c6
 obtain rfl := Option.some.inj H
 go_enter Tryz.func149, Tryz.ntmps149
 go_wp2_with (first | ((with_reducible refine gate_callee (f := 148) rfl ?_); refine goesL_ (some 7) rfl rfl Tryz.func148 (by kernel_rfl) rfl #[.int .i64 a1] rfl (qka2_) ?_; (with_reducible refine (grommetref01_bytes.calls a1 t101 _ (hG.below (qka1_)) A3.out).mono ?_); rintro e w7 ⟨v102, rfl, ho0, hb⟩; refine ⟨_, rfl, ?_⟩; have n0_ := Aside0.mk (Kd.R_lower ho0 (below_size (qka0_))); have n1_ := Aside0.mk (below_step (qka0_) hb); clear HB; have HO103 := n0_; have HB := n1_; clear n0_ n1_; (try clear hb); (try clear ho0); have hcv8 := own_string (P := Tryz.prog) Tryz.underlying97 Tryz.underlying5 Tryz.underlying9 (Kd.own_of_R HO103.out)))
 go_ret
 exact ⟨by first | rfl | (simp [errW_none, errW_some] <;> rfl) | (simp [*, errW_none, errW_some] <;> rfl), qka0_⟩
mutual
def grommetref01_First.l0 : Nat → ByteArray → Int → Option (Int × Int)
  | 0, _, _ => none
  | k + 1, x0, x4 => if x4 ≤ 4 then (grommetref01_First.j1 k x0 x4 (decide (x4 ≤ (x0.size : Int)))) else (grommetref01_First.j1 k x0 x4 false)
def grommetref01_First.j1 : Nat → ByteArray → Int → Bool → Option (Int × Int)
  | 0, _, _, _ => none
  | k + 1, x0, x4, x15 => if x15 = true then ((grommetref01_guess.f k x0 x4).bind fun t101 => ((grommetref01_Sign.f t101).bind fun t102 => (if t102 = true then ((grommetref01_bytes.f t101).bind fun t103 => (if (t103.length : Int) = x4 then ((grommetref01_begins.f x0 t101).bind fun t106 => (if t106 = true then (some (t101, x4)) else (grommetref01_First.l0 k x0 (wrap64 (x4 + 1))))) else (grommetref01_First.l0 k x0 (wrap64 (x4 + 1))))) else (grommetref01_First.l0 k x0 (wrap64 (x4 + 1)))))) else (some ((-1), 1))
end
def grommetref01_First.f (k : Nat) (a0 : ByteArray) : Option (Int × Int) := if a0.toList = ([] : List UInt8) then (some ((-1), 0)) else (grommetref01_First.l0 k a0 1)
theorem qga0_ {P : Prop} (h_ : P := by first | ((repeat (first | (with_reducible first | exact HB.out | apply below_alloc | apply pw_below_drewN | apply below_drew1 | (refine Glob.below_set ?_ (by assumption) _ _ _)) | exact HB.out)); done) | (refine Drawn0.below ?_; repeat (first | exact Drawn0.refl _ | assumption | apply Drawn0.step))) : P := h_
theorem qga1_ {P : Prop} (h_ : P := by repeat (first | (with_reducible first | exact HB.out | apply below_alloc | apply pw_below_drewN | apply below_drew1) | exact HB.out)) : P := h_
theorem qga2_ {P : Prop} (h_ : P := by (try simp only [List.map_toArray, List.map_cons, List.map_nil]); first | done | rfl | (simp only [List.length_drop, List.length_take]; rfl)) : P := h_
theorem qga3_ {P : Prop} (h_ : P := by first | rfl | (simp; done) | (simp [*]; done)) : P := h_
theorem qga4_ {P : Prop} (h_ : P := by first | rfl | (simp [errW_none, errW_some] <;> rfl) | (simp [*, errW_none, errW_some] <;> rfl)) : P := h_
set_option maxHeartbeats 8000000 in
set_option maxRecDepth 100000 in
theorem grommetref01_First.calls (k : Nat) (a0 : ByteArray) (r1 : Int) (r2 : Int) (w : World) (hG : Glob.G w) (h : grommetref01_First.f k a0 = some (r1, r2)) :
  Calls Tryz.prog 131 #[.string a0] w fun e w' => e = .returned (.tuple #[.int .i64 r1, .int .i64 r2]) ∧ Below w.heap.size w w' := by
 have HB := Aside0.mk (Below.refl w.heap.size w)
 have H : (if a0.toList = ([] : List UInt8) then (some ((-1), 0)) else (grommetref01_First.l0 k a0 1)) = some (r1, r2) := h
 clear h
 by_cases c2 : a0.toList = ([] : List UInt8)
 ·
  rw [if_pos c2] at H
  have c2b0 : (a0.toList == ([] : List UInt8)) = true := beq_iff_eq.mpr c2
  have c2b1 : (a0.toList != ([] : List UInt8)) = false := bne_eq_false_iff_eq.mpr c2
  clear c2
  simp only [Option.some.injEq, Prod.mk.injEq] at H
  obtain ⟨rfl, rfl⟩ := H
  go_enter Tryz.func131, Tryz.ntmps131
  go_wp2
  go_ret2
  exact ⟨qga4_, qga1_⟩
 rw [if_neg c2] at H
 have c2b0 : (a0.toList == ([] : List UInt8)) = false := beq_eq_false_iff_ne.mpr c2
 have c2b1 : (a0.toList != ([] : List UInt8)) = true := bne_iff_ne.mpr c2
 have H' := Aside0.mk H
 clear H
 go_enter Tryz.func131, Tryz.ntmps131
 go_wp2
 go_loopg [4] k (fun kq v4 w' => ∃ (x4_1 : Int), v4 = .int .i64 x4_1 ∧ Aside0 (grommetref01_First.l0 kq a0 x4_1 = some (r1, r2)) ∧ Aside0 (kq ≤ k) ∧ Aside0 (Below w.heap.size w w'))
 case atStart => exact ⟨(1), (qga3_), H', ⟨Nat.le_refl _⟩, ⟨qga1_⟩⟩
 case round =>
  clear H'
  try clear c1
  try clear c2
  try clear c2b0
  try clear c2b1
  try clear p2
  obtain ⟨x4_1, rfl, HA, HK1, HB⟩ := hrel
  cases gk with
  | zero => exact absurd HA.out (by simp [grommetref01_First.l0])
  | succ k1 =>
   have H := HA.out
   clear HA
   simp only [grommetref01_First.l0] at H
   have HC3 := Aside0.mk H
   clear H
   go_upto_region 4 with (fail)
   go_cut [15] (fun v15 wc => ∃ (kq : Nat) (x15_2 : Bool), v15 = .bool x15_2 ∧ Aside0 (grommetref01_First.j1 kq a0 x4_1 x15_2 = some (r1, r2)) ∧ Aside0 (kq ≤ k1) ∧ Aside0 (Below w.heap.size w wc))
   case first =>
    have H := HC3.out
    clear HC3
    by_cases c4 : x4_1 ≤ 4
    rotate_left
    ·
     rw [if_neg c4] at H
     have c4b0 : decide (x4_1 ≤ 4) = false := decide_eq_false c4
     clear c4
     (first | rw [c4b0] | (simp only [i64_w, i32_w]; rw [c4b0]) | skip)
     have H' := Aside0.mk H
     clear H
     go_wp2
     go_meet
     case rel => exact ⟨_, (false), (qga3_), H', ⟨by have := HK1.out; first | omega | exact Nat.le_refl _⟩, ⟨qga1_⟩⟩
    rw [if_pos c4] at H
    have c4b0 : decide (x4_1 ≤ 4) = true := decide_eq_true c4
    clear c4
    (first | rw [c4b0] | (simp only [i64_w, i32_w]; rw [c4b0]) | skip)
    have H' := Aside0.mk H
    clear H
    go_wp2
    go_meet
    case rel => exact ⟨_, (decide (x4_1 ≤ (a0.size : Int))), (qga3_), H', ⟨by have := HK1.out; first | omega | exact Nat.le_refl _⟩, ⟨qga1_⟩⟩
   case rest =>
    clear HC3
    try clear c1
    try clear c2
    try clear c2b0
    try clear c2b1
    try clear p2
    try clear c4
    try clear c4b0
    try clear p2
    obtain ⟨kq, x15_2, rfl, HA, HJ2, HB⟩ := hcut
    cases kq with
    | zero => exact absurd HA.out (by simp [grommetref01_First.j1])
    | succ kj2 =>
     have H := HA.out
     clear HA
     simp only [grommetref01_First.j1] at H
     by_cases c5 : x15_2 = true
     rotate_left
     ·
      replace c5 := Bool.eq_false_iff.mpr c5
      subst c5
      have H1 : (some ((-1), 1)) = some (r1, r2) := by rw [if_neg (show ¬ (false = true) by decide)] at H; exact H
      clear H
      have H := H1
      clear H1
      simp only [Option.some.injEq, Prod.mk.injEq] at H
      obtain ⟨rfl, rfl⟩ := H
      go_wp2
      go_ret2
      exact ⟨qga4_, qga1_⟩
     subst c5
     have H1 : ((grommetref01_guess.f kj2 a0 x4_1).bind fun t101 => ((grommetref01_Sign.f t101).bind fun t102 => (if t102 = true then ((grommetref01_bytes.f t101).bind fun t103 => (if (t103.length : Int) = x4_1 then ((grommetref01_begins.f a0 t101).bind fun t106 => (if t106 = true then (some (t101, x4_1)) else (grommetref01_First.l0 kj2 a0 (wrap64 (x4_1 + 1))))) else (grommetref01_First.l0 kj2 a0 (wrap64 (x4_1 + 1))))) else (grommetref01_First.l0 kj2 a0 (wrap64 (x4_1 + 1)))))) = some (r1, r2) := by rw [if_pos rfl] at H; exact H
     clear H
     have H := H1
     clear H1
     replace H := Option.bind_eq_some_iff.mp H
     obtain ⟨t101, A60, H⟩ := H
     replace H : ((grommetref01_Sign.f t101).bind fun t102 => (if t102 = true then ((grommetref01_bytes.f t101).bind fun t103 => (if (t103.length : Int) = x4_1 then ((grommetref01_begins.f a0 t101).bind fun t106 => (if t106 = true then (some (t101, x4_1)) else (grommetref01_First.l0 kj2 a0 (wrap64 (x4_1 + 1))))) else (grommetref01_First.l0 kj2 a0 (wrap64 (x4_1 + 1))))) else (grommetref01_First.l0 kj2 a0 (wrap64 (x4_1 + 1))))) = some (r1, r2) := H
     have A6 := Aside0.mk A60
     clear A60
     replace H := Option.bind_eq_some_iff.mp H
     obtain ⟨t102, A70, H⟩ := H
     replace H : (if t102 = true then ((grommetref01_bytes.f t101).bind fun t103 => (if (t103.length : Int) = x4_1 then ((grommetref01_begins.f a0 t101).bind fun t106 => (if t106 = true then (some (t101, x4_1)) else (grommetref01_First.l0 kj2 a0 (wrap64 (x4_1 + 1))))) else (grommetref01_First.l0 kj2 a0 (wrap64 (x4_1 + 1))))) else (grommetref01_First.l0 kj2 a0 (wrap64 (x4_1 + 1)))) = some (r1, r2) := H
     have A7 := Aside0.mk A70
     clear A70
     by_cases c8 : t102 = true
     rotate_left
     ·
      replace c8 := Bool.eq_false_iff.mpr c8
      subst c8
      have H1 : (grommetref01_First.l0 kj2 a0 (wrap64 (x4_1 + 1))) = some (r1, r2) := by rw [if_neg (show ¬ (false = true) by decide)] at H; exact H
      clear H
      have H := H1
      clear H1
      have H' := Aside0.mk H
      clear H
      go_wp2_with (first | ((with_reducible refine gate_callee (f := 146) rfl ?_); refine goesL_ (some 20) rfl rfl Tryz.func146 (by kernel_rfl) rfl #[.string a0, .int .i64 x4_1] rfl (qga2_) ?_; (with_reducible refine (grommetref01_guess.calls kj2 a0 x4_1 t101 _ (hG.below (qga0_)) A6.out).mono ?_); rintro e w24 ⟨rfl, hb⟩; refine ⟨_, rfl, ?_⟩; have n0_ := Aside0.mk (below_step (qga1_) hb); clear HB; have HB := n0_; clear n0_; (try clear hb)) | ((with_reducible refine gate_callee (f := 147) rfl ?_); refine goesL_ (some 22) rfl rfl Tryz.func147 (by kernel_rfl) rfl #[.int .i64 t101] rfl (qga2_) ?_; (with_reducible refine (grommetref01_Sign.calls t101 false _ (hG.below (qga0_)) A7.out).mono ?_); rintro e w' ⟨rfl, ⟨nd, rfl⟩⟩; refine ⟨_, rfl, ?_⟩))
      go_roundg kj2
      case measure => have := HK1.out; have := HJ2.out; omega
      case rel => exact ⟨(wrap64 (x4_1 + 1)), (qga3_), H', ⟨by have := HK1.out; have := HJ2.out; omega⟩, ⟨qga1_⟩⟩
     subst c8
     have H1 : ((grommetref01_bytes.f t101).bind fun t103 => (if (t103.length : Int) = x4_1 then ((grommetref01_begins.f a0 t101).bind fun t106 => (if t106 = true then (some (t101, x4_1)) else (grommetref01_First.l0 kj2 a0 (wrap64 (x4_1 + 1))))) else (grommetref01_First.l0 kj2 a0 (wrap64 (x4_1 + 1))))) = some (r1, r2) := by rw [if_pos rfl] at H; exact H
     clear H
     have H := H1
     clear H1
     replace H := Option.bind_eq_some_iff.mp H
     obtain ⟨t103, A90, H⟩ := H
     replace H : (if (t103.length : Int) = x4_1 then ((grommetref01_begins.f a0 t101).bind fun t106 => (if t106 = true then (some (t101, x4_1)) else (grommetref01_First.l0 kj2 a0 (wrap64 (x4_1 + 1))))) else (grommetref01_First.l0 kj2 a0 (wrap64 (x4_1 + 1)))) = some (r1, r2) := H
     have A9 := Aside0.mk A90
     clear A90
     by_cases c10 : (t103.length : Int) = x4_1
     rotate_left
     ·
      rw [if_neg c10] at H
      have c10b0 : ((t103.length : Int) == x4_1) = false := beq_eq_false_iff_ne.mpr c10
      have c10b1 : ((t103.length : Int) != x4_1) = true := bne_iff_ne.mpr c10
      have H' := Aside0.mk H
      clear H
      go_wp2_with (first | ((with_reducible refine gate_callee (f := 146) rfl ?_); refine goesL_ (some 20) rfl rfl Tryz.func146 (by kernel_rfl) rfl #[.string a0, .int .i64 x4_1] rfl (qga2_) ?_; (with_reducible refine (grommetref01_guess.calls kj2 a0 x4_1 t101 _ (hG.below (qga0_)) A6.out).mono ?_); rintro e w21 ⟨rfl, hb⟩; refine ⟨_, rfl, ?_⟩; have n0_ := Aside0.mk (below_step (qga1_) hb); clear HB; have HB := n0_; clear n0_; (try clear hb)) | ((with_reducible refine gate_callee (f := 147) rfl ?_); refine goesL_ (some 22) rfl rfl Tryz.func147 (by kernel_rfl) rfl #[.int .i64 t101] rfl (qga2_) ?_; (with_reducible refine (grommetref01_Sign.calls t101 true _ (hG.below (qga0_)) A7.out).mono ?_); rintro e w' ⟨rfl, ⟨nd, rfl⟩⟩; refine ⟨_, rfl, ?_⟩) | (go_at_call 148; (with_reducible refine (grommetref01_bytes.calls t101 t103 _ (hG.below (qga0_)) A9.out).mono ?_); rintro e w22 ⟨v104, rfl, ho0, hb⟩; have n0_ := Aside0.mk (Kd.R_lower ho0 (below_size (qga1_))); have n1_ := Aside0.mk (below_step (qga1_) hb); clear HB; have HO105 := n0_; have HB := n1_; clear n0_ n1_; (try clear hb); (try clear ho0); obtain ⟨Ao23, co23, eo23⟩ := Kd.R_slice HO105.out; subst eo23))
      go_roundg kj2
      case measure => have := HK1.out; have := HJ2.out; omega
      case rel => exact ⟨(wrap64 (x4_1 + 1)), (qga3_), H', ⟨by have := HK1.out; have := HJ2.out; omega⟩, ⟨qga1_⟩⟩
     rw [if_pos c10] at H
     have c10b0 : ((t103.length : Int) == x4_1) = true := beq_iff_eq.mpr c10
     have c10b1 : ((t103.length : Int) != x4_1) = false := bne_eq_false_iff_eq.mpr c10
     clear c10
     replace H := Option.bind_eq_some_iff.mp H
     obtain ⟨t106, A110, H⟩ := H
     replace H : (if t106 = true then (some (t101, x4_1)) else (grommetref01_First.l0 kj2 a0 (wrap64 (x4_1 + 1)))) = some (r1, r2) := H
     have A11 := Aside0.mk A110
     clear A110
     by_cases c12 : t106 = true
     ·
      subst c12
      have H1 : (some (t101, x4_1)) = some (r1, r2) := by rw [if_pos rfl] at H; exact H
      clear H
      have H := H1
      clear H1
      simp only [Option.some.injEq, Prod.mk.injEq] at H
      obtain ⟨rfl, rfl⟩ := H
      go_wp2_with (first | ((with_reducible refine gate_callee (f := 146) rfl ?_); refine goesL_ (some 20) rfl rfl Tryz.func146 (by kernel_rfl) rfl #[.string a0, .int .i64 x4_1] rfl (qga2_) ?_; (with_reducible refine (grommetref01_guess.calls kj2 a0 x4_1 t101 _ (hG.below (qga0_)) A6.out).mono ?_); rintro e w13 ⟨rfl, hb⟩; refine ⟨_, rfl, ?_⟩; have n0_ := Aside0.mk (below_step (qga1_) hb); clear HB; have HB := n0_; clear n0_; (try clear hb)) | ((with_reducible refine gate_callee (f := 147) rfl ?_); refine goesL_ (some 22) rfl rfl Tryz.func147 (by kernel_rfl) rfl #[.int .i64 t101] rfl (qga2_) ?_; (with_reducible refine (grommetref01_Sign.calls t101 true _ (hG.below (qga0_)) A7.out).mono ?_); rintro e w' ⟨rfl, ⟨nd, rfl⟩⟩; refine ⟨_, rfl, ?_⟩) | (go_at_call 148; (with_reducible refine (grommetref01_bytes.calls t101 t103 _ (hG.below (qga0_)) A9.out).mono ?_); rintro e w14 ⟨v104, rfl, ho0, hb⟩; have n0_ := Aside0.mk (Kd.R_lower ho0 (below_size (qga1_))); have n1_ := Aside0.mk (below_step (qga1_) hb); clear HB; have HO105 := n0_; have HB := n1_; clear n0_ n1_; (try clear hb); (try clear ho0); obtain ⟨Ao15, co15, eo15⟩ := Kd.R_slice HO105.out; subst eo15) | (go_at_call 149; (with_reducible refine (grommetref01_begins.calls a0 t101 true _ (hG.below (qga0_)) A11.out).mono ?_); rintro e w16 ⟨rfl, hb⟩; have n0_ := Aside0.mk (Kd.R_below (by (with_reducible repeat (first | apply Kd.R_alloc | apply Kd.R_drewN | apply Kd.R_drew)); exact HO105.out) hb); have n1_ := Aside0.mk (below_step (qga1_) hb); clear HO105; clear HB; have HO105 := n0_; have HB := n1_; clear n0_ n1_; (try clear hb)))
      go_ret2
      exact ⟨qga4_, qga1_⟩
     replace c12 := Bool.eq_false_iff.mpr c12
     subst c12
     have H1 : (grommetref01_First.l0 kj2 a0 (wrap64 (x4_1 + 1))) = some (r1, r2) := by rw [if_neg (show ¬ (false = true) by decide)] at H; exact H
     clear H
     have H := H1
     clear H1
     have H' := Aside0.mk H
     clear H
     go_wp2_with (first | ((with_reducible refine gate_callee (f := 146) rfl ?_); refine goesL_ (some 20) rfl rfl Tryz.func146 (by kernel_rfl) rfl #[.string a0, .int .i64 x4_1] rfl (qga2_) ?_; (with_reducible refine (grommetref01_guess.calls kj2 a0 x4_1 t101 _ (hG.below (qga0_)) A6.out).mono ?_); rintro e w17 ⟨rfl, hb⟩; refine ⟨_, rfl, ?_⟩; have n0_ := Aside0.mk (below_step (qga1_) hb); clear HB; have HB := n0_; clear n0_; (try clear hb)) | ((with_reducible refine gate_callee (f := 147) rfl ?_); refine goesL_ (some 22) rfl rfl Tryz.func147 (by kernel_rfl) rfl #[.int .i64 t101] rfl (qga2_) ?_; (with_reducible refine (grommetref01_Sign.calls t101 true _ (hG.below (qga0_)) A7.out).mono ?_); rintro e w' ⟨rfl, ⟨nd, rfl⟩⟩; refine ⟨_, rfl, ?_⟩) | (go_at_call 148; (with_reducible refine (grommetref01_bytes.calls t101 t103 _ (hG.below (qga0_)) A9.out).mono ?_); rintro e w18 ⟨v104, rfl, ho0, hb⟩; have n0_ := Aside0.mk (Kd.R_lower ho0 (below_size (qga1_))); have n1_ := Aside0.mk (below_step (qga1_) hb); clear HB; have HO105 := n0_; have HB := n1_; clear n0_ n1_; (try clear hb); (try clear ho0); obtain ⟨Ao19, co19, eo19⟩ := Kd.R_slice HO105.out; subst eo19) | (go_at_call 149; (with_reducible refine (grommetref01_begins.calls a0 t101 false _ (hG.below (qga0_)) A11.out).mono ?_); rintro e w20 ⟨rfl, hb⟩; have n0_ := Aside0.mk (Kd.R_below (by (with_reducible repeat (first | apply Kd.R_alloc | apply Kd.R_drewN | apply Kd.R_drew)); exact HO105.out) hb); have n1_ := Aside0.mk (below_step (qga1_) hb); clear HO105; clear HB; have HO105 := n0_; have HB := n1_; clear n0_ n1_; (try clear hb)))
     go_roundg kj2
     case measure => have := HK1.out; have := HJ2.out; omega
     case rel => exact ⟨(wrap64 (x4_1 + 1)), (qga3_), H', ⟨by have := HK1.out; have := HJ2.out; omega⟩, ⟨qga1_⟩⟩
end Go.Proofs.YtnjcpoojgmpmeaaGreatDoor.PX
namespace Go.Proofs.YtnjcpoojgmpmeaaGreatDoor.Utf
open RowKit YtnjcpoojgmpmeaaGreatDoor.PX YtnjcpoojgmpmeaaGreatDoorW.PrintWords YtnjcpoojgmpmeaaGreatDoorW.PrintLast
def at_ (l : List UInt8) (i : Nat) : Nat := (l.getD i 0).toNat
theorem at_lt (l : List UInt8) (i : Nat) : at_ l i < 256 := UInt8.toNat_lt _
def dec (l : List UInt8) : Int × Nat :=
 if l = [] then (-1, 0) else
 if (Lib.decodeN l.length (at_ l 0) (at_ l 1) (at_ l 2) (at_ l 3)).1 = 65533 ∧ (Lib.decodeN l.length (at_ l 0) (at_ l 1) (at_ l 2) (at_ l 3)).2 < 3 then
  (-1, (Lib.decodeN l.length (at_ l 0) (at_ l 1) (at_ l 2) (at_ l 3)).2)
 else (((Lib.decodeN l.length (at_ l 0) (at_ l 1) (at_ l 2) (at_ l 3)).1 : Int), (Lib.decodeN l.length (at_ l 0) (at_ l 1) (at_ l 2) (at_ l 3)).2)
theorem bt_at_ (s : ByteArray) (i : Nat) : bt s (i : Int) = (at_ s.data.toList i : Int) := by
 unfold bt at_
 have hs : s.size = s.data.toList.length := by rw [Array.length_toList]; rfl
 by_cases h : i < s.size
 rotate_left
 · rw [dif_neg (by simpa using h), List.getD_eq_getElem?_getD, List.getElem?_eq_none (by omega)]; rfl
 rw [dif_pos (by simpa using h)]
 have : s.data.toList.getD i 0 = s[i] := by
  rw [List.getD_eq_getElem?_getD, List.getElem?_eq_getElem (by omega)]; rfl
 rw [this]; rfl
theorem guess_done (k : Nat) (s : ByteArray) (m n i : Int) (h : ¬ i < m) : grommetref01_guess.l0 (k + 1) s m n i = some n := by
  simp only [grommetref01_guess.l0]; rw [if_neg h]
theorem guess_more (k : Nat) (s : ByteArray) (m n i : Int) (h : i < m) (h0 : 0 ≤ i) (h1 : i < (s.size : Int)) (h2 : i < 1000) (h3 : -1000000000 ≤ n) (h4 : n ≤ 1000000000) :
  grommetref01_guess.l0 (k + 1) s m n i = grommetref01_guess.l0 k s m (n * 64 + bt s i - 128) (i + 1) := by
 have := bt_range s i
 simp only [grommetref01_guess.l0]; rw [if_pos h, if_pos h0, if_pos h1]
 congr 1 <;> (unfold wrap64; omega)
theorem guess1 (k : Nat) (s : ByteArray) (h : 1 ≤ s.size) : grommetref01_guess.f (k + 4) s 1 = some (bt s 0) := by
 have := bt_range s 0
 unfold grommetref01_guess.f
 simp only [Option.bind_some, List.length_cons, List.length_nil]
 rw [if_pos (by omega), if_pos (by omega), if_pos (by omega), guess_done _ _ _ _ _ (by omega)]
 congr 1; simp [rd]; unfold wrap64; omega
theorem guess2 (k : Nat) (s : ByteArray) (h : 2 ≤ s.size) : grommetref01_guess.f (k + 4) s 2 = some ((bt s 0 - 192) * 64 + bt s 1 - 128) := by
 have := bt_range s 0; have := bt_range s 1
 unfold grommetref01_guess.f
 simp only [Option.bind_some, List.length_cons, List.length_nil]
 rw [if_pos (by omega), if_pos (by omega), if_pos (by omega)]
 have e : wrap64 (wrap64 (bt s 0) - rd [0, 0, 192, 224, 240] 2) = bt s 0 - 192 := by simp [rd]; unfold wrap64; omega
 rw [e, guess_more _ _ _ _ _ (by omega) (by omega) (by omega) (by omega) (by omega) (by omega), guess_done _ _ _ _ _ (by omega)]
theorem guess3 (k : Nat) (s : ByteArray) (h : 3 ≤ s.size) : grommetref01_guess.f (k + 4) s 3 = some (((bt s 0 - 224) * 64 + bt s 1 - 128) * 64 + bt s 2 - 128) := by
  have := bt_range s 0; have := bt_range s 1; have := bt_range s 2
  unfold grommetref01_guess.f
  simp only [Option.bind_some, List.length_cons, List.length_nil]
  rw [if_pos (by omega), if_pos (by omega), if_pos (by omega)]
  have e : wrap64 (wrap64 (bt s 0) - rd [0, 0, 192, 224, 240] 3) = bt s 0 - 224 := by simp [rd]; unfold wrap64; omega
  rw [e, guess_more _ _ _ _ _ (by omega) (by omega) (by omega) (by omega) (by omega) (by omega), guess_more _ _ _ _ _ (by omega) (by omega) (by omega) (by omega) (by omega) (by omega),
    guess_done _ _ _ _ _ (by omega)]
  rfl
theorem guess4 (k : Nat) (s : ByteArray) (h : 4 ≤ s.size) : grommetref01_guess.f (k + 4) s 4 = some ((((bt s 0 - 240) * 64 + bt s 1 - 128) * 64 + bt s 2 - 128) * 64 + bt s 3 - 128) := by
  have := bt_range s 0; have := bt_range s 1; have := bt_range s 2; have := bt_range s 3; have := bt_range s (1 + 1)
  unfold grommetref01_guess.f
  simp only [Option.bind_some, List.length_cons, List.length_nil]
  rw [if_pos (by omega), if_pos (by omega), if_pos (by omega)]
  have e : wrap64 (wrap64 (bt s 0) - rd [0, 0, 192, 224, 240] 4) = bt s 0 - 240 := by simp [rd]; unfold wrap64; omega
  rw [e, guess_more _ _ _ _ _ (by omega) (by omega) (by omega) (by omega) (by omega) (by omega), guess_more _ _ _ _ _ (by omega) (by omega) (by omega) (by omega) (by omega) (by omega),
    guess_more _ _ _ _ _ (by omega) (by omega) (by omega) (by omega) (by omega) (by omega), guess_done _ _ _ _ _ (by omega)]
  rfl
def sgn (n : Int) : Bool := decide (0 ≤ n) && decide (n ≤ 1114111) && (decide (n < 55296) || decide (57343 < n))
theorem sign_eq (n : Int) : grommetref01_Sign.f n = some (sgn n) := by
 unfold grommetref01_Sign.f sgn
 by_cases h : 0 ≤ n <;> by_cases h1 : n ≤ 1114111 <;> by_cases h2 : n < 55296 <;> simp [h, h1, h2]
def byt (n : Int) : List Int :=
 if n < 128 then [n] else if n < 2048 then [192 + n / 64, 128 + n % 64] else
 if n < 65536 then [224 + n / 4096, 128 + n / 64 % 64, 128 + n % 64] else [240 + n / 262144, 128 + n / 4096 % 64, 128 + n / 64 % 64, 128 + n % 64]
theorem bytes_eq (n : Int) (h0 : 0 ≤ n) (h1 : n ≤ 1114111) : grommetref01_bytes.f n = some (byt n) := by
 unfold grommetref01_bytes.f byt
 have e1 : wrap64 (Int.tdiv n 64) = n / 64 := by rw [Int.tdiv_eq_ediv_of_nonneg h0]; unfold wrap64; omega
 have e2 : wrap64 (Int.tdiv n 4096) = n / 4096 := by rw [Int.tdiv_eq_ediv_of_nonneg h0]; unfold wrap64; omega
 have e3 : wrap64 (Int.tdiv n 262144) = n / 262144 := by rw [Int.tdiv_eq_ediv_of_nonneg h0]; unfold wrap64; omega
 have m1 : Int.tmod n 64 = n % 64 := Int.tmod_eq_emod_of_nonneg h0
 have m2 : Int.tmod (n / 64) 64 = n / 64 % 64 := Int.tmod_eq_emod_of_nonneg (by omega)
 have m3 : Int.tmod (n / 4096) 64 = n / 4096 % 64 := Int.tmod_eq_emod_of_nonneg (by omega)
 rw [e1, e2, e3, m1, m2, m3]
 by_cases a : n < 128
 · rw [if_pos a, if_pos a]; congr 2; omega
 rw [if_neg a, if_neg a]
 by_cases b : n < 2048
 ·
  rw [if_pos b, if_pos b]; congr 2
  · unfold wrap64; omega
  · congr 1; unfold wrap64; omega
 rw [if_neg b, if_neg b]
 by_cases c : n < 65536
 ·
  rw [if_pos c, if_pos c]; congr 2
  · unfold wrap64; omega
  ·
   congr 1
   · unfold wrap64; omega
   · congr 1; unfold wrap64; omega
 rw [if_neg c, if_neg c]; congr 2
 · unfold wrap64; omega
 ·
  congr 1
  · unfold wrap64; omega
  ·
   congr 1
   · unfold wrap64; omega
   · congr 1; unfold wrap64; omega
theorem u8 (n : Nat) (h : n < 256) : (UInt8.ofNat n).toNat = n := by
  rw [UInt8.toNat_ofNat']; exact Nat.mod_eq_of_lt h
theorem size_list (s : ByteArray) : s.size = s.data.toList.length := by rw [Array.length_toList]; rfl
theorem pre_iff (s : ByteArray) (l : List Int) (h : ∀ x ∈ l, 0 ≤ x ∧ x < 256) (hl : l.length ≤ s.size) :
  ((s.extract 0 l.length).toList == (strOfNums l).toList) = true ↔ ∀ i < l.length, bt s (i : Int) = l.getD i 0 := by
 rw [beq_iff_eq, Lib.toList_data, Lib.toList_data, Lib.extract_data]
 have hL := size_list s
 simp only [strOfNums, Nat.sub_zero, List.drop_zero]
 generalize hLL : s.data.toList = L at *
 constructor
 ·
  intro e i hi
  rw [bt_at_, hLL]
  have e2 := congrArg (fun q => q.getD i 0) e
  simp only [List.getD_eq_getElem?_getD, List.getElem?_take, List.getElem?_map] at e2
  rw [if_pos hi, List.getElem?_eq_getElem (show i < L.length by omega), List.getElem?_eq_getElem hi] at e2
  have hx := h l[i] (List.getElem_mem hi)
  have e3 := congrArg UInt8.toNat e2
  simp only [Option.getD_some, Option.map_some] at e3
  rw [u8 _ (by omega)] at e3
  unfold at_
  rw [List.getD_eq_getElem?_getD, List.getElem?_eq_getElem (show i < L.length by omega), List.getD_eq_getElem?_getD, List.getElem?_eq_getElem hi]
  simp only [Option.getD_some]
  omega
 ·
  intro e
  apply List.ext_getElem
  · simp; omega
  ·
   intro i h1 h2
   have hi : i < l.length := by simpa using h2
   have e3 := e i hi
   rw [bt_at_, hLL] at e3
   have hx := h l[i] (List.getElem_mem hi)
   unfold at_ at e3
   rw [List.getD_eq_getElem?_getD, List.getElem?_eq_getElem (show i < L.length by omega), List.getD_eq_getElem?_getD, List.getElem?_eq_getElem hi] at e3
   simp only [Option.getD_some] at e3
   simp only [List.getElem_take, List.getElem_map]
   apply UInt8.toNat_inj.1
   rw [u8 _ (by omega)]
   omega
theorem byt_range (n : Int) (h0 : 0 ≤ n) (h1 : n ≤ 1114111) : ∀ x ∈ byt n, 0 ≤ x ∧ x < 256 := by
 unfold byt
 intro x hx
 split at hx
 · simp at hx; omega
 split at hx
 · simp at hx; omega
 split at hx
 · simp at hx; omega
 · simp at hx; omega
theorem begins_eq (s : ByteArray) (n : Int) (h0 : 0 ≤ n) (h1 : n ≤ 1114111) (hl : (byt n).length ≤ s.size) :
  grommetref01_begins.f s n = some (decide (∀ i < (byt n).length, bt s (i : Int) = (byt n).getD i 0)) := by
 unfold grommetref01_begins.f
 rw [bytes_eq n h0 h1]
 simp only [Option.bind_some]
 have hz : (strOfNums (byt n)).size = (byt n).length := by rw [size_list]; simp [strOfNums]
 rw [hz, if_pos (by omega), if_pos (by omega), if_pos (by omega), Int.toNat_natCast]
 congr 1
 have := pre_iff s (byt n) (byt_range n h0 h1) hl
 rw [Bool.eq_iff_iff, decide_eq_true_iff]
 exact this
theorem l0_eq (k : Nat) (s : ByteArray) (m : Int) : grommetref01_First.l0 (k + 1) s m = if m ≤ 4 then grommetref01_First.j1 k s m (decide (m ≤ (s.size : Int))) else grommetref01_First.j1 k s m false := by
  rw [grommetref01_First.l0]
theorem j1_eq (k : Nat) (s : ByteArray) (m : Int) : grommetref01_First.j1 (k + 1) s m true = ((grommetref01_guess.f k s m).bind fun t => ((grommetref01_Sign.f t).bind fun b => (if b = true then ((grommetref01_bytes.f t).bind fun l => (if (l.length : Int) = m then ((grommetref01_begins.f s t).bind fun c => (if c = true then (some (t, m)) else (grommetref01_First.l0 k s (wrap64 (m + 1))))) else (grommetref01_First.l0 k s (wrap64 (m + 1))))) else (grommetref01_First.l0 k s (wrap64 (m + 1)))))) := by
  rw [grommetref01_First.j1, if_pos rfl]
theorem first_stop (k : Nat) (s : ByteArray) (m : Int) (h : ¬ (m ≤ 4 ∧ m ≤ (s.size : Int))) : grommetref01_First.l0 (k + 2) s m = some (-1, 1) := by
 simp only [grommetref01_First.l0]
 by_cases a : m ≤ 4
 rotate_left
 · rw [if_neg a]; simp [grommetref01_First.j1]
 rw [if_pos a]; have : decide (m ≤ (s.size : Int)) = false := by simp; omega
 rw [this]; simp [grommetref01_First.j1]
theorem first_round (k : Nat) (s : ByteArray) (m : Nat) (n : Int) (h : m ≤ 4) (h2 : m ≤ s.size) (hg : grommetref01_guess.f (k + 5) s m = some n) :
  grommetref01_First.l0 (k + 7) s m =
   if sgn n = true ∧ (byt n).length = m ∧ (∀ i < (byt n).length, bt s (i : Int) = (byt n).getD i 0) then some (n, (m : Int)) else grommetref01_First.l0 (k + 5) s ((m : Int) + 1) := by
 have hd : decide ((m : Int) ≤ (s.size : Int)) = true := by simp; omega
 rw [show k + 7 = k + 5 + 1 + 1 from rfl, l0_eq, if_pos (by omega), hd, j1_eq, hg]; simp only [Option.bind_some]
 rw [sign_eq]; simp only [Option.bind_some]
 have hw : wrap64 ((m : Int) + 1) = (m : Int) + 1 := by unfold wrap64; omega
 by_cases a : sgn n = true
 rotate_left
 · rw [if_neg a, if_neg (fun x => a x.1), hw]
 rw [if_pos a]
 have a' : 0 ≤ n ∧ n ≤ 1114111 := by unfold sgn at a; simp at a; omega
 rw [bytes_eq n a'.1 a'.2]; simp only [Option.bind_some]
 by_cases b : (byt n).length = m
 rotate_left
 · rw [if_neg (by omega), if_neg (fun x => b x.2.1), hw]
 rw [if_pos (by omega), begins_eq s n a'.1 a'.2 (by omega)]
 simp only [Option.bind_some, decide_eq_true_eq, hw]
 by_cases c : ∀ i < (byt n).length, bt s (i : Int) = (byt n).getD i 0
 · rw [if_pos c, if_pos ⟨a, b, c⟩]
 rw [if_neg c, if_neg (fun x => c x.2.2)]
theorem all1 (f : Nat → Prop) : (∀ i < 1, f i) ↔ f 0 := ⟨fun h => h 0 (by omega), fun h i hi => by rcases (by omega : i = 0) with rfl; exact h⟩
theorem all2 (f : Nat → Prop) : (∀ i < 2, f i) ↔ f 0 ∧ f 1 := ⟨fun h => ⟨h 0 (by omega), h 1 (by omega)⟩, fun h i hi => by rcases (by omega : i = 0 ∨ i = 1) with rfl | rfl; exact h.1; exact h.2⟩
theorem all3 (f : Nat → Prop) : (∀ i < 3, f i) ↔ f 0 ∧ f 1 ∧ f 2 :=
  ⟨fun h => ⟨h 0 (by omega), h 1 (by omega), h 2 (by omega)⟩, fun h i hi => by rcases (by omega : i = 0 ∨ i = 1 ∨ i = 2) with rfl | rfl | rfl; exact h.1; exact h.2.1; exact h.2.2⟩
theorem all4 (f : Nat → Prop) : (∀ i < 4, f i) ↔ f 0 ∧ f 1 ∧ f 2 ∧ f 3 :=
  ⟨fun h => ⟨h 0 (by omega), h 1 (by omega), h 2 (by omega), h 3 (by omega)⟩,
    fun h i hi => by rcases (by omega : i = 0 ∨ i = 1 ∨ i = 2 ∨ i = 3) with rfl | rfl | rfl | rfl; exact h.1; exact h.2.1; exact h.2.2.1; exact h.2.2.2⟩
theorem is1 (s : ByteArray) (n : Int) : (sgn n = true ∧ (byt n).length = 1 ∧ (∀ i < (byt n).length, bt s (i : Int) = (byt n).getD i 0)) ↔ 0 ≤ n ∧ n < 128 ∧ bt s 0 = n := by
 unfold sgn byt
 by_cases c0 : n < 128
 · rw [if_pos c0]; simp only [List.length_cons, List.length_nil, Nat.zero_add, all1]; simp; omega
 rw [if_neg c0]
 by_cases c1 : n < 2048
 · rw [if_pos c1]; simp; omega
 rw [if_neg c1]
 by_cases c2 : n < 65536
 · rw [if_pos c2]; simp; omega
 rw [if_neg c2]
 simp; omega
theorem is2 (s : ByteArray) (n : Int) : (sgn n = true ∧ (byt n).length = 2 ∧ (∀ i < (byt n).length, bt s (i : Int) = (byt n).getD i 0)) ↔ 128 ≤ n ∧ n < 2048 ∧ bt s 0 = 192 + n / 64 ∧ bt s 1 = 128 + n % 64 := by
 unfold sgn byt
 by_cases c0 : n < 128
 · rw [if_pos c0]; simp; omega
 rw [if_neg c0]
 by_cases c1 : n < 2048
 · rw [if_pos c1]; simp only [List.length_cons, List.length_nil, Nat.zero_add, Nat.reduceAdd, all2]; simp; omega
 rw [if_neg c1]
 by_cases c2 : n < 65536
 · rw [if_pos c2]; simp; omega
 rw [if_neg c2]
 simp; omega
theorem is3 (s : ByteArray) (n : Int) : (sgn n = true ∧ (byt n).length = 3 ∧ (∀ i < (byt n).length, bt s (i : Int) = (byt n).getD i 0)) ↔ 2048 ≤ n ∧ n < 65536 ∧ (n < 55296 ∨ 57343 < n) ∧ bt s 0 = 224 + n / 4096 ∧ bt s 1 = 128 + n / 64 % 64 ∧ bt s 2 = 128 + n % 64 := by
 unfold sgn byt
 by_cases c0 : n < 128
 · rw [if_pos c0]; simp; omega
 rw [if_neg c0]
 by_cases c1 : n < 2048
 · rw [if_pos c1]; simp; omega
 rw [if_neg c1]
 by_cases c2 : n < 65536
 · rw [if_pos c2]; simp only [List.length_cons, List.length_nil, Nat.zero_add, Nat.reduceAdd, all3]; simp; omega
 rw [if_neg c2]
 simp; omega
theorem is4 (s : ByteArray) (n : Int) : (sgn n = true ∧ (byt n).length = 4 ∧ (∀ i < (byt n).length, bt s (i : Int) = (byt n).getD i 0)) ↔ 65536 ≤ n ∧ n ≤ 1114111 ∧ bt s 0 = 240 + n / 262144 ∧ bt s 1 = 128 + n / 4096 % 64 ∧ bt s 2 = 128 + n / 64 % 64 ∧ bt s 3 = 128 + n % 64 := by
 unfold sgn byt
 by_cases c0 : n < 128
 · rw [if_pos c0]; simp; omega
 rw [if_neg c0]
 by_cases c1 : n < 2048
 · rw [if_pos c1]; simp; omega
 rw [if_neg c1]
 by_cases c2 : n < 65536
 · rw [if_pos c2]; simp; omega
 rw [if_neg c2]
 simp only [List.length_cons, List.length_nil, Nat.zero_add, Nat.reduceAdd, all4]; simp; omega
theorem first_eq (k : Nat) (s : ByteArray) : grommetref01_First.f (k + 20) s = some ((dec s.data.toList).1, ((dec s.data.toList).2 : Int)) := by
 unfold grommetref01_First.f
 rw [Lib.toList_data]
 have hL := size_list s
 have g0 := bt_at_ s 0; have g1 := bt_at_ s 1; have g2 := bt_at_ s 2; have g3 := bt_at_ s 3
 have r0 := at_lt s.data.toList 0; have r1 := at_lt s.data.toList 1; have r2 := at_lt s.data.toList 2; have r3 := at_lt s.data.toList 3
 unfold dec
 by_cases h : s.data.toList = []
 · rw [if_pos h, if_pos h]; rfl
 rw [if_neg h, if_neg h]
 have h0 : 0 < s.data.toList.length := List.length_pos_iff.2 h
 rw [← hL] at h0 ⊢
 generalize at_ s.data.toList 0 = b0 at *
 generalize at_ s.data.toList 1 = b1 at *
 generalize at_ s.data.toList 2 = b2 at *
 generalize at_ s.data.toList 3 = b3 at *
 have e0 : bt s 0 = (b0 : Int) := g0
 have e1 : bt s 1 = (b1 : Int) := g1
 have e2 : bt s 2 = (b2 : Int) := g2
 have e3 : bt s 3 = (b3 : Int) := g3
 clear g0 g1 g2 g3 hL h
 have q1 := first_round (k + 13) s 1 _ (by omega) (by omega) (guess1 (k + 14) s (by omega))
 rw [show ((1 : Nat) : Int) = 1 from rfl] at q1
 rw [show k + 20 = k + 13 + 7 from rfl, q1]
 clear q1
 simp only [is1]
 rw [e0]
 by_cases a1 : b0 < 128
 ·
  have hd : Lib.decodeN s.size b0 b1 b2 b3 = (b0, 1) := by simp only [Lib.decodeN]; rw [if_pos a1]
  rw [hd, if_pos ⟨by omega, by omega, trivial⟩, if_neg (by simp; omega)]; rfl
 rw [if_neg (fun h => a1 (by have := h.2.1; omega))]
 by_cases s2 : 2 ≤ s.size
 rotate_left
 ·
  rw [show k + 13 + 5 = k + 16 + 2 from rfl, first_stop _ _ _ (by omega)]
  have : Lib.decodeN s.size b0 b1 b2 b3 = (65533, 1) := by
   simp only [Lib.decodeN]
   rw [if_neg a1]
   repeat' split
   all_goals first | rfl | (exfalso; omega)
  rw [this]; rfl
 have q1 := first_round (k + 11) s 2 _ (by omega) (by omega) (guess2 (k + 12) s (by omega))
 rw [show ((2 : Nat) : Int) = 2 from rfl] at q1
 rw [show (1 : Int) + 1 = 2 from rfl, show k + 13 + 5 = k + 11 + 7 from rfl, q1]
 clear q1
 simp only [is2]
 rw [e0, e1]
 by_cases a2 : b0 / 32 = 6 ∧ b1 / 64 = 2 ∧ b0 % 32 * 64 + b1 % 64 ≥ 128
 ·
  have hd : Lib.decodeN s.size b0 b1 b2 b3 = (b0 % 32 * 64 + b1 % 64, 2) := by
   simp only [Lib.decodeN]
   rw [if_neg a1, if_pos (by omega), if_pos (by omega)]
  rw [hd, if_pos (by omega), if_neg (by simp; omega)]
  simp; omega
 rw [if_neg (c := (128 ≤ ((b0 : Int) - 192) * 64 + b1 - 128 ∧ _)) (by omega)]
 by_cases s3 : 3 ≤ s.size
 rotate_left
 ·
  rw [show k + 11 + 5 = k + 14 + 2 from rfl, first_stop _ _ _ (by omega)]
  have : Lib.decodeN s.size b0 b1 b2 b3 = (65533, 1) := by
   simp only [Lib.decodeN]
   rw [if_neg a1]
   repeat' split
   all_goals first | rfl | (exfalso; omega)
  rw [this]; rfl
 have q1 := first_round (k + 9) s 3 _ (by omega) (by omega) (guess3 (k + 10) s (by omega))
 rw [show ((3 : Nat) : Int) = 3 from rfl] at q1
 rw [show (2 : Int) + 1 = 3 from rfl, show k + 11 + 5 = k + 9 + 7 from rfl, q1]
 clear q1
 simp only [is3]
 rw [e0, e1, e2]
 by_cases a3 : b0 / 16 = 14 ∧ b1 / 64 = 2 ∧ b2 / 64 = 2 ∧ (b0 % 16 * 4096 + b1 % 64 * 64 + b2 % 64 ≥ 2048 ∧ (b0 % 16 * 4096 + b1 % 64 * 64 + b2 % 64 < 55296 ∨ (57344 ≤ b0 % 16 * 4096 + b1 % 64 * 64 + b2 % 64 ∧ b0 % 16 * 4096 + b1 % 64 * 64 + b2 % 64 ≤ 1114111)))
 ·
  have hd : Lib.decodeN s.size b0 b1 b2 b3 = (b0 % 16 * 4096 + b1 % 64 * 64 + b2 % 64, 3) := by
   simp only [Lib.decodeN]
   rw [if_neg a1, if_neg (by omega), if_pos (by omega), if_pos (by omega)]
  rw [hd, if_pos (by omega), if_neg (by simp)]
  simp; omega
 rw [if_neg (c := (2048 ≤ (((b0 : Int) - 224) * 64 + b1 - 128) * 64 + b2 - 128 ∧ _)) (by omega)]
 by_cases s4 : 4 ≤ s.size
 rotate_left
 ·
  rw [show k + 9 + 5 = k + 12 + 2 from rfl, first_stop _ _ _ (by omega)]
  have : Lib.decodeN s.size b0 b1 b2 b3 = (65533, 1) := by
   simp only [Lib.decodeN]
   rw [if_neg a1]
   repeat' split
   all_goals first | rfl | (exfalso; omega)
  rw [this]; rfl
 have q1 := first_round (k + 7) s 4 _ (by omega) (by omega) (guess4 (k + 8) s (by omega))
 rw [show ((4 : Nat) : Int) = 4 from rfl] at q1
 rw [show (3 : Int) + 1 = 4 from rfl, show k + 9 + 5 = k + 7 + 7 from rfl, q1]
 clear q1
 simp only [is4]
 rw [e0, e1, e2, e3]
 by_cases a4 : b0 / 8 = 30 ∧ b1 / 64 = 2 ∧ b2 / 64 = 2 ∧ b3 / 64 = 2 ∧ (b0 % 8 * 262144 + b1 % 64 * 4096 + b2 % 64 * 64 + b3 % 64 ≥ 65536 ∧ b0 % 8 * 262144 + b1 % 64 * 4096 + b2 % 64 * 64 + b3 % 64 ≤ 1114111)
 ·
  have hd : Lib.decodeN s.size b0 b1 b2 b3 = (b0 % 8 * 262144 + b1 % 64 * 4096 + b2 % 64 * 64 + b3 % 64, 4) := by
   simp only [Lib.decodeN]
   rw [if_neg a1, if_neg (by omega), if_neg (by omega), if_pos (by omega), if_pos (by omega)]
  rw [hd, if_pos (by omega), if_neg (by simp)]
  simp; omega
 rw [if_neg (c := (65536 ≤ ((((b0 : Int) - 240) * 64 + b1 - 128) * 64 + b2 - 128) * 64 + b3 - 128 ∧ _)) (by omega), show k + 7 + 5 = k + 10 + 2 from rfl, first_stop _ _ _ (by omega)]
 have : Lib.decodeN s.size b0 b1 b2 b3 = (65533, 1) := by
  simp only [Lib.decodeN]
  rw [if_neg a1]
  repeat' split
  all_goals first | rfl | (exfalso; omega)
 rw [this]; rfl
end Go.Proofs.YtnjcpoojgmpmeaaGreatDoor.Utf
namespace Go.Proofs.YtnjcpoojgmpmeaaGreatDoor.Plug
open RowKit YtnjcpoojgmpmeaaGreatDoor YtnjcpoojgmpmeaaGreatDoorW.PrintWords YtnjcpoojgmpmeaaGreatDoorW.PrintLast
def utf8_DecodeRuneInString.f (a0 : ByteArray) : Option (Int × Int) := some (((Lib.decodeGo a0).1 : Int), ((Lib.decodeGo a0).2 : Int))
theorem utf8_DecodeRuneInString.calls (a0 : ByteArray) (r1 r2 : Int) (w : World) (hG : Glob.G w) (h : utf8_DecodeRuneInString.f a0 = some (r1, r2)) :
  Calls Tryz.prog 115 #[.string a0] w fun e w' => e = .returned (.tuple #[.int .i32 r1, .int .i64 r2]) ∧ Below w.heap.size w w' := by
 simp only [utf8_DecodeRuneInString.f, Option.some.injEq, Prod.mk.injEq] at h
 obtain ⟨rfl, rfl⟩ := h
 exact Tryz.utf8_DecodeRuneInString a0 w hG.utf
def asciiB (cs : List UInt8) : Bool := cs.all fun b => decide (b.toNat < 128)
theorem info_set : (Tryz.prog.info? (Tryz.lays160_ren.t 116)).map (fun i => (i.zero, i.size)) = some (some (.agg (Array.replicate 256 (.bool false))), 256) := by kernel_rfl
def strings_Trim.f (a0 a1 : ByteArray) : Option ByteArray :=
  if a0.size ≤ 9223372036854775807 ∧ a1.size < 4294967281 ∧ asciiB a1.data.toList = true then some ⟨(Lib.trimS a0.data.toList a1.data.toList).toArray⟩ else none
theorem strings_Trim.calls (a0 a1 : ByteArray) (r : ByteArray) (w : World) (_hG : Glob.G w) (h : strings_Trim.f a0 a1 = some r) :
  Calls Tryz.prog 78 #[.string a0, .string a1] w fun e w' => e = .returned (.string r) ∧ Below w.heap.size w w' := by
 unfold strings_Trim.f at h
 by_cases c : a0.size ≤ 9223372036854775807 ∧ a1.size < 4294967281 ∧ asciiB a1.data.toList = true
 rotate_left
 · rw [if_neg c] at h; cases h
 rw [if_pos c] at h
 obtain rfl := Option.some.inj h
 exact Any.strings_Trim_laid Tryz.lays160 info_set a0 a1 w c.1 c.2.1 (ascii_of_all c.2.2)
def strconv_Itoa.f (a0 : Int) : Option ByteArray := if -9223372036854775808 ≤ a0 ∧ a0 ≤ 9223372036854775807 then some ⟨(Lib.itoa a0).toArray⟩ else none
theorem strconv_Itoa.calls (a0 : Int) (r : ByteArray) (w : World) (hG : Glob.G w) (h : strconv_Itoa.f a0 = some r) :
  Calls Tryz.prog 66 #[.int .i64 a0] w fun e w' => e = .returned (.string r) ∧ Below w.heap.size w w' := by
 unfold strconv_Itoa.f at h
 by_cases c : -9223372036854775808 ≤ a0 ∧ a0 ≤ 9223372036854775807
 rotate_left
 · rw [if_neg c] at h; cases h
 rw [if_pos c] at h
 obtain rfl := Option.some.inj h
 exact (Tryz.strconv_Itoa a0 c.1 c.2 w hG.pow).mono fun e w' ⟨he, k, os, hw⟩ => ⟨he, by rw [hw]; exact Lib.below_grow _ _ (Nat.le_refl _) _ _⟩
end Go.Proofs.YtnjcpoojgmpmeaaGreatDoor.Plug
namespace Go.Proofs.YtnjcpoojgmpmeaaGreatDoor.PX
open RowKit YtnjcpoojgmpmeaaGreatDoorW.PrintWords YtnjcpoojgmpmeaaGreatDoorW.PrintLast YtnjcpoojgmpmeaaGreatDoorW.PrintMore YtnjcpoojgmpmeaaGreatDoor YtnjcpoojgmpmeaaGreatDoor.Plug
attribute [local go_sem] max2_int min2_int max_two min_two max_three min_three max_four min_four   -- for this text's walks alone
set_option linter.unusedVariables false
set_option linter.unusedSimpArgs false
def utf_First.f (a0 : ByteArray) : Option (Int × Int) := (utf8_DecodeRuneInString.f a0).bind fun bt101 => (if bt101.1 = 65533 then (if bt101.2 < 3 then (some ((-1), bt101.2)) else (some (wrap64 (bt101.1), bt101.2))) else (some (wrap64 (bt101.1), bt101.2)))
theorem qla0_ {P : Prop} (h_ : P := by repeat (first | (with_reducible first | exact HB.out | apply below_alloc | apply pw_below_drewN | apply below_drew1) | exact HB.out)) : P := h_
theorem qla1_ {P : Prop} (h_ : P := by first | ((repeat (first | (with_reducible first | exact HB.out | apply below_alloc | apply pw_below_drewN | apply below_drew1 | (refine Glob.below_set ?_ (by assumption) _ _ _)) | exact HB.out)); done) | (refine Drawn0.below ?_; repeat (first | exact Drawn0.refl _ | assumption | apply Drawn0.step))) : P := h_
theorem qla2_ {P : Prop} (h_ : P := by (try simp only [List.map_toArray, List.map_cons, List.map_nil]); first | done | rfl | (simp only [List.length_drop, List.length_take]; rfl)) : P := h_
theorem qla3_ {P : Prop} (h_ : P := by first | rfl | (simp [errW_none, errW_some] <;> rfl) | (simp [*, errW_none, errW_some] <;> rfl)) : P := h_
set_option maxHeartbeats 8000000 in
set_option maxRecDepth 100000 in
theorem utf_First.calls (a0 : ByteArray) (r1 : Int) (r2 : Int) (w : World) (hG : Glob.G w) (h : utf_First.f a0 = some (r1, r2)) :
  Calls Tryz.prog 113 #[.string a0] w fun e w' => e = .returned (.tuple #[.int .i64 r1, .int .i64 r2]) ∧ Below w.heap.size w w' := by
 have HB := Aside0.mk (Below.refl w.heap.size w)
 have H : ((utf8_DecodeRuneInString.f a0).bind fun bt101 => (if bt101.1 = 65533 then (if bt101.2 < 3 then (some ((-1), bt101.2)) else (some (wrap64 (bt101.1), bt101.2))) else (some (wrap64 (bt101.1), bt101.2)))) = some (r1, r2) := h
 clear h
 replace H := Option.bind_eq_some_iff.mp H
 obtain ⟨⟨t101, t102⟩, A20, H⟩ := H
 replace H : (if t101 = 65533 then (if t102 < 3 then (some ((-1), t102)) else (some (wrap64 (t101), t102))) else (some (wrap64 (t101), t102))) = some (r1, r2) := H
 have A2 := Aside0.mk A20
 clear A20
 by_cases c3 : t101 = 65533
 rotate_left
 ·
  rw [if_neg c3] at H
  have c3b0 : (t101 == 65533) = false := beq_eq_false_iff_ne.mpr c3
  have c3b1 : (t101 != 65533) = true := bne_iff_ne.mpr c3
  simp only [Option.some.injEq, Prod.mk.injEq] at H
  obtain ⟨rfl, rfl⟩ := H
  go_enter Tryz.func113, Tryz.ntmps113
  go_wp2_with (first | ((with_reducible refine gate_callee (f := 115) rfl ?_); refine goesL_ (some 8) rfl rfl Tryz.func115 (by kernel_rfl) rfl #[.string a0] rfl (qla2_) ?_; (with_reducible refine (utf8_DecodeRuneInString.calls a0 t101 t102 _ (hG.below (qla1_)) A2.out).mono ?_); rintro e w7 ⟨rfl, hb⟩; refine ⟨_, rfl, ?_⟩; have n0_ := Aside0.mk (below_step (qla0_) hb); clear HB; have HB := n0_; clear n0_; (try clear hb)))
  go_ret2
  exact ⟨qla3_, qla0_⟩
 rw [if_pos c3] at H
 have c3b0 : (t101 == 65533) = true := beq_iff_eq.mpr c3
 have c3b1 : (t101 != 65533) = false := bne_eq_false_iff_eq.mpr c3
 clear c3
 by_cases c4 : t102 < 3
 ·
  rw [if_pos c4] at H
  have c4b0 : decide (t102 < 3) = true := decide_eq_true c4
  clear c4
  simp only [Option.some.injEq, Prod.mk.injEq] at H
  obtain ⟨rfl, rfl⟩ := H
  go_enter Tryz.func113, Tryz.ntmps113
  go_wp2_with (first | ((with_reducible refine gate_callee (f := 115) rfl ?_); refine goesL_ (some 8) rfl rfl Tryz.func115 (by kernel_rfl) rfl #[.string a0] rfl (qla2_) ?_; (with_reducible refine (utf8_DecodeRuneInString.calls a0 t101 t102 _ (hG.below (qla1_)) A2.out).mono ?_); rintro e w5 ⟨rfl, hb⟩; refine ⟨_, rfl, ?_⟩; have n0_ := Aside0.mk (below_step (qla0_) hb); clear HB; have HB := n0_; clear n0_; (try clear hb)))
  go_ret2
  exact ⟨qla3_, qla0_⟩
 rw [if_neg c4] at H
 have c4b0 : decide (t102 < 3) = false := decide_eq_false c4
 clear c4
 simp only [Option.some.injEq, Prod.mk.injEq] at H
 obtain ⟨rfl, rfl⟩ := H
 go_enter Tryz.func113, Tryz.ntmps113
 go_wp2_with (first | ((with_reducible refine gate_callee (f := 115) rfl ?_); refine goesL_ (some 8) rfl rfl Tryz.func115 (by kernel_rfl) rfl #[.string a0] rfl (qla2_) ?_; (with_reducible refine (utf8_DecodeRuneInString.calls a0 t101 t102 _ (hG.below (qla1_)) A2.out).mono ?_); rintro e w6 ⟨rfl, hb⟩; refine ⟨_, rfl, ?_⟩; have n0_ := Aside0.mk (below_step (qla0_) hb); clear HB; have HB := n0_; clear n0_; (try clear hb)))
 go_ret2
 exact ⟨qla3_, qla0_⟩
end Go.Proofs.YtnjcpoojgmpmeaaGreatDoor.PX
namespace Go.Proofs.YtnjcpoojgmpmeaaGreatDoor.Utf
open RowKit YtnjcpoojgmpmeaaGreatDoor.PX YtnjcpoojgmpmeaaGreatDoor.Plug YtnjcpoojgmpmeaaGreatDoorW.PrintWords YtnjcpoojgmpmeaaGreatDoorW.PrintLast
theorem decodeN_wide (n b0 b1 b2 b3 : Nat) (h : 1 ≤ n) : 1 ≤ (Lib.decodeN n b0 b1 b2 b3).2 ∧ (Lib.decodeN n b0 b1 b2 b3).2 ≤ 4 ∧ (Lib.decodeN n b0 b1 b2 b3).2 ≤ n := by
 unfold Lib.decodeN
 repeat' split
 all_goals (simp only; omega)
theorem decodeN_most (n b0 b1 b2 b3 : Nat) (h : b0 < 256) : (Lib.decodeN n b0 b1 b2 b3).1 ≤ 1114111 := by
 unfold Lib.decodeN
 repeat' split
 all_goals (simp only; omega)
theorem dec_wide (l : List UInt8) (h : l ≠ []) : 1 ≤ (dec l).2 ∧ (dec l).2 ≤ 4 ∧ (dec l).2 ≤ l.length := by
 have hl : 1 ≤ l.length := List.length_pos_iff.2 h
 have := decodeN_wide l.length (at_ l 0) (at_ l 1) (at_ l 2) (at_ l 3) hl
 unfold dec
 rw [if_neg h]
 split <;> exact this
theorem decodeGo_eq (s : ByteArray) : Lib.decodeGo s = if s.data.toList = [] then (65533, 0) else Lib.decodeN s.data.toList.length (at_ s.data.toList 0) (at_ s.data.toList 1) (at_ s.data.toList 2) (at_ s.data.toList 3) := by
 unfold Lib.decodeGo
 have hL := size_list s
 have g : ∀ i, (s.get! i).toNat = at_ s.data.toList i := by
  intro i
  unfold at_
  by_cases h : i < s.size
  · rw [Utf8W.get!_of_lt s i h, List.getD_eq_getElem?_getD, List.getElem?_eq_getElem (by omega)]; rfl
  rw [List.getD_eq_getElem?_getD, List.getElem?_eq_none (by omega)]
  cases s with
  | mk d => simp only [ByteArray.get!]; rw [getElem!_neg d i (show ¬ i < d.size from h)]; rfl
 by_cases h : s.data.toList = []
 · rw [if_pos h, if_pos (by rw [hL, h]; rfl)]
 rw [if_neg h, if_neg (fun e => h (List.eq_nil_of_length_eq_zero (by omega))), Lib.decode_at, g, g, g, g, Nat.sub_zero, hL]
theorem prog_first (s : ByteArray) : utf_First.f s = some ((dec s.data.toList).1, ((dec s.data.toList).2 : Int)) := by
 unfold utf_First.f utf8_DecodeRuneInString.f
 simp only [Option.bind_some]
 rw [decodeGo_eq]
 unfold dec
 by_cases h : s.data.toList = []
 · rw [if_pos h, if_pos h]; rfl
 rw [if_neg h, if_neg h]
 have hm := decodeN_most s.data.toList.length (at_ s.data.toList 0) (at_ s.data.toList 1) (at_ s.data.toList 2) (at_ s.data.toList 3) (at_lt _ _)
 generalize Lib.decodeN s.data.toList.length (at_ s.data.toList 0) (at_ s.data.toList 1) (at_ s.data.toList 2) (at_ s.data.toList 3) = d at *
 obtain ⟨r, n⟩ := d
 simp only at *
 have hw : wrap64 (r : Int) = r := by unfold wrap64; omega
 by_cases a : r = 65533
 rotate_left
 · rw [if_neg (by omega), if_neg (fun x => a x.1)]; simp; exact hw
 by_cases b : n < 3
 · rw [if_pos (by omega), if_pos (by omega), if_pos ⟨a, b⟩]
 rw [if_pos (by omega), if_neg (by omega), if_neg (fun x => b x.2)]; simp; exact hw
theorem drop_list (s : ByteArray) (i : Nat) : (s.extract i s.size).data.toList = s.data.toList.drop i := by
 rw [Lib.extract_data, List.take_of_length_le]
 rw [List.length_drop, ← size_list]
 omega
end Go.Proofs.YtnjcpoojgmpmeaaGreatDoor.Utf
namespace Go.Proofs.YtnjcpoojgmpmeaaGreatDoor.PX
open RowKit YtnjcpoojgmpmeaaGreatDoorW.PrintWords YtnjcpoojgmpmeaaGreatDoorW.PrintLast YtnjcpoojgmpmeaaGreatDoorW.PrintMore YtnjcpoojgmpmeaaGreatDoor
attribute [local go_sem] max2_int min2_int max_two min_two max_three min_three max_four min_four   -- for this text's walks alone
set_option linter.unusedVariables false
set_option linter.unusedSimpArgs false
def utf_fault.f (a0 : ByteArray) (a1 : Int) : Option (Int × Int) := if a1 < (a0.size : Int) then (some (8, a1)) else (some (0, 0))
theorem qna0_ {P : Prop} (h_ : P := by repeat (first | (with_reducible first | exact HB.out | apply below_alloc | apply pw_below_drewN | apply below_drew1) | exact HB.out)) : P := h_
theorem qna1_ {P : Prop} (h_ : P := by repeat (first | (with_reducible first | exact HB.out | apply below_alloc | apply pw_below_drewN | apply below_drew1 | refine below_set ?_ GE101.out) | exact HB.out)) : P := h_
set_option maxHeartbeats 8000000 in
set_option maxRecDepth 100000 in
theorem utf_fault.calls (a0 : ByteArray) (a1 : Int) (r1 : Int) (r2 : Int) (w : World) (hG : Glob.G w) (h : utf_fault.f a0 a1 = some (r1, r2)) :
  Calls Tryz.prog 93 #[.string a0, .int .i64 a1] w fun e w' => e = .returned (.agg #[.int .i64 r1, .int .i64 r2]) ∧ Below w.heap.size w w' := by
 have hu143 := Tryz.underlying143
 have HB := Aside0.mk (Below.refl w.heap.size w)
 have H : (if a1 < (a0.size : Int) then (some (8, a1)) else (some (0, 0))) = some (r1, r2) := h
 clear h
 by_cases c3 : a1 < (a0.size : Int)
 ·
  rw [if_pos c3] at H
  have c3b0 : decide (a1 < (a0.size : Int)) = true := decide_eq_true c3
  clear c3
  simp only [Option.some.injEq, Prod.mk.injEq] at H
  obtain ⟨rfl, rfl⟩ := H
  go_enter Tryz.func93, Tryz.ntmps93
  go_wp2_with (first | ((with_reducible refine gate_dst (N := 4) rfl ?_); refine box_event ?hg (N := 4) ?hd (cs := #[.int .i64 0, .int .i64 0]) (t := 143) ?hr ?_; (case hd => rfl); (case hg => rfl); (case hr => first | (go_simp; done) | (go_simp; rfl)); intro gb101 hg w4 hbox hb; have n0_ := Aside0.mk (below_step (qna0_) hb); have n1_ := Aside0.mk (hbox); have n2_ := Aside0.mk ((by rw [hg]; exact (below_size (qna0_)) : w.heap.size ≤ gb101)); have n3_ := Aside0.mk ((by rw [hg]; exact (below_size (qna0_)) : w.heap.size ≤ gb101)); clear HB; have HB := n0_; have BK101 := n1_; have GW101 := n2_; have GE101 := n3_; clear n0_ n1_ n2_ n3_; clear hb hbox hg; have hcz5_0 : w4.cell? ⟨gb101, 0, none⟩ = some (.int .i64 0) := (blk_cell BK101.out 0).trans rfl; have hcz5_1 : w4.cell? ⟨gb101, 1, none⟩ = some (.int .i64 0) := (blk_cell BK101.out 1).trans rfl; have hfz5_0 := blk_frozen BK101.out 0; have hfz5_1 := blk_frozen BK101.out 1))
  refine bodyPost_ret (results_cell_row rfl _ _ gb101 143 #[.int .i64 8, .int .i64 a1] (0, 0) _ rfl (by (with_reducible repeat (first | refine blk_drewN ?_ _ | refine blk_drew ?_ | refine blk_alloc ?_ _)); refine blk_put (cs := #[.int .i64 8, .int .i64 0]) ?_ 1 _ rfl; (with_reducible repeat (first | refine blk_drewN ?_ _ | refine blk_drew ?_ | refine blk_alloc ?_ _)); refine blk_put (cs := #[.int .i64 0, .int .i64 0]) ?_ 0 _ rfl; (with_reducible repeat (first | refine blk_drewN ?_ _ | refine blk_drew ?_ | refine blk_alloc ?_ _)); exact BK101.out) Tryz.underlying143 rfl (by kernel_rfl)) rfl ?_
  exact ⟨by first | rfl | (simp [errW_none, errW_some] <;> rfl) | (simp [*, errW_none, errW_some] <;> rfl), qna1_⟩
 rw [if_neg c3] at H
 have c3b0 : decide (a1 < (a0.size : Int)) = false := decide_eq_false c3
 clear c3
 simp only [Option.some.injEq, Prod.mk.injEq] at H
 obtain ⟨rfl, rfl⟩ := H
 go_enter Tryz.func93, Tryz.ntmps93
 go_wp2_with (first | ((with_reducible refine gate_dst (N := 4) rfl ?_); refine box_event ?hg (N := 4) ?hd (cs := #[.int .i64 0, .int .i64 0]) (t := 143) ?hr ?_; (case hd => rfl); (case hg => rfl); (case hr => first | (go_simp; done) | (go_simp; rfl)); intro gb101 hg w6 hbox hb; have n0_ := Aside0.mk (below_step (qna0_) hb); have n1_ := Aside0.mk (hbox); have n2_ := Aside0.mk ((by rw [hg]; exact (below_size (qna0_)) : w.heap.size ≤ gb101)); have n3_ := Aside0.mk ((by rw [hg]; exact (below_size (qna0_)) : w.heap.size ≤ gb101)); clear HB; have HB := n0_; have BK101 := n1_; have GW101 := n2_; have GE101 := n3_; clear n0_ n1_ n2_ n3_; clear hb hbox hg; have hcz7_0 : w6.cell? ⟨gb101, 0, none⟩ = some (.int .i64 0) := (blk_cell BK101.out 0).trans rfl; have hcz7_1 : w6.cell? ⟨gb101, 1, none⟩ = some (.int .i64 0) := (blk_cell BK101.out 1).trans rfl; have hfz7_0 := blk_frozen BK101.out 0; have hfz7_1 := blk_frozen BK101.out 1))
 refine bodyPost_ret (results_cell_row rfl _ _ gb101 143 #[.int .i64 0, .int .i64 0] (0, 0) _ rfl (by (with_reducible repeat (first | refine blk_drewN ?_ _ | refine blk_drew ?_ | refine blk_alloc ?_ _)); refine blk_put (cs := #[.int .i64 0, .int .i64 0]) ?_ 1 _ rfl; (with_reducible repeat (first | refine blk_drewN ?_ _ | refine blk_drew ?_ | refine blk_alloc ?_ _)); refine blk_put (cs := #[.int .i64 0, .int .i64 0]) ?_ 0 _ rfl; (with_reducible repeat (first | refine blk_drewN ?_ _ | refine blk_drew ?_ | refine blk_alloc ?_ _)); exact BK101.out) Tryz.underlying143 rfl (by kernel_rfl)) rfl ?_
 exact ⟨by first | rfl | (simp [errW_none, errW_some] <;> rfl) | (simp [*, errW_none, errW_some] <;> rfl), qna1_⟩
end Go.Proofs.YtnjcpoojgmpmeaaGreatDoor.PX
namespace Go.Proofs.YtnjcpoojgmpmeaaGreatDoor.PX
open RowKit YtnjcpoojgmpmeaaGreatDoorW.PrintWords YtnjcpoojgmpmeaaGreatDoorW.PrintLast YtnjcpoojgmpmeaaGreatDoorW.PrintMore YtnjcpoojgmpmeaaGreatDoor YtnjcpoojgmpmeaaGreatDoor.Plug
attribute [local go_sem] max2_int min2_int max_two min_two max_three min_three max_four min_four   -- for this text's walks alone
set_option linter.unusedVariables false
set_option linter.unusedSimpArgs false
def plain_Text.f (a0 : Int) : Option (ByteArray) := (strconv_Itoa.f a0).bind fun t101 => (some t101)
theorem qoa0_ {P : Prop} (h_ : P := by repeat (first | (with_reducible first | exact HB.out | apply below_alloc | apply pw_below_drewN | apply below_drew1) | exact HB.out)) : P := h_
set_option maxHeartbeats 8000000 in
set_option maxRecDepth 100000 in
theorem plain_Text.calls (a0 : Int) (r : ByteArray) (w : World) (hG : Glob.G w) (h : plain_Text.f a0 = some r) :
  Calls Tryz.prog 45 #[.int .i64 a0] w fun e w' => e = .returned (.string r) ∧ Below w.heap.size w w' := by
 have HB := Aside0.mk (Below.refl w.heap.size w)
 have H : ((strconv_Itoa.f a0).bind fun t101 => (some t101)) = some r := h
 clear h
 replace H := Option.bind_eq_some_iff.mp H
 obtain ⟨t101, A20, H⟩ := H
 replace H : (some t101) = some r := H
 have A2 := Aside0.mk A20
 clear A20
 obtain rfl := Option.some.inj H
 go_enter Tryz.func45, Tryz.ntmps45
 go_wp2_with (first | ((with_reducible refine gate_callee (f := 66) rfl ?_); refine goesL_ (some 4) rfl rfl Tryz.func66 (by kernel_rfl) rfl #[.int .i64 a0] rfl (by (try simp only [List.map_toArray, List.map_cons, List.map_nil]); first | done | rfl | (simp only [List.length_drop, List.length_take]; rfl)) ?_; (with_reducible refine (strconv_Itoa.calls a0 t101 _ (hG.below (by first | ((repeat (first | (with_reducible first | exact HB.out | apply below_alloc | apply pw_below_drewN | apply below_drew1 | (refine Glob.below_set ?_ (by assumption) _ _ _)) | exact HB.out)); done) | (refine Drawn0.below ?_; repeat (first | exact Drawn0.refl _ | assumption | apply Drawn0.step)))) A2.out).mono ?_); rintro e w3 ⟨rfl, hb⟩; refine ⟨_, rfl, ?_⟩; have n0_ := Aside0.mk (below_step (qoa0_) hb); clear HB; have HB := n0_; clear n0_; (try clear hb)))
 go_ret
 exact ⟨by first | rfl | (simp [errW_none, errW_some] <;> rfl) | (simp [*, errW_none, errW_some] <;> rfl), qoa0_⟩
end Go.Proofs.YtnjcpoojgmpmeaaGreatDoor.PX
namespace Go.Proofs.YtnjcpoojgmpmeaaGreatDoor.Plug
open RowKit YtnjcpoojgmpmeaaGreatDoor YtnjcpoojgmpmeaaGreatDoor.PX YtnjcpoojgmpmeaaGreatDoor.Utf YtnjcpoojgmpmeaaGreatDoorW.PrintWords YtnjcpoojgmpmeaaGreatDoorW.PrintLast
def numB (l : List UInt8) : Int × Bool := match Lib.atoiAll l with
 | .ok v => if Lib.itoa v = l then (v, true) else (0, false)
 | _ => (0, false)
def plain_Number.f (a0 : ByteArray) : Option (Int × Bool) := if a0.size ≤ 140737488351232 then some (numB a0.data.toList) else none
theorem atoi_ok (s : ByteArray) (w : World) (hs : s.size ≤ 140737488351232) (v : Int) (h : Lib.atoiAll s.data.toList = .ok v) :
    Calls Tryz.prog 112 #[.string s] w fun e w' => e = .returned (.tuple #[.int .i64 v, .nilIface]) ∧ Below w.heap.size w w' :=
  (Tryz.strconv_Atoi_ok s (by omega) v h w).mono fun e w' ⟨he, hw⟩ => ⟨he, by
    rcases hw with rfl | ⟨t, rfl⟩
    · exact Below.refl _ _
    · exact Lib.bytesWorld_below _ _ _⟩
theorem atoi_bad (s : ByteArray) (w : World) (hG : Glob.G w) (hs : s.size ≤ 140737488351232) (h : ∀ v, Lib.atoiAll s.data.toList ≠ .ok v) :
  ∃ n : Int, Calls Tryz.prog 112 #[.string s] w fun e w' => ∃ p : Addr, e = .returned (.tuple #[.int .i64 n, .iface 206 (.pointer (some p))]) ∧ Below w.heap.size w w' := by
 rcases hc : Lib.atoiAll s.data.toList with v | _ | _
 · exact absurd hc (h v)
 ·
  obtain ⟨tp, pp, hv⟩ := hG.syn
  exact ⟨0, (Any.strconv_Atoi_syntax_var Tryz.laysC172 s (by omega) hc tp pp w hv).mono fun e w' ⟨N, he, _, _, hb⟩ => ⟨_, he, hb⟩⟩
 ·
  obtain ⟨tp, pp, hv⟩ := hG.rng
  exact ⟨_, (Tryz.strconv_Atoi_range_var s (by omega) hc tp pp w hv).mono fun e w' ⟨N, he, _, _, hb⟩ => ⟨_, he, hb⟩⟩
set_option maxHeartbeats 1000000 in
theorem plain_Number.calls (a0 : ByteArray) (r1 : Int) (r2 : Bool) (w : World) (hG : Glob.G w) (h : plain_Number.f a0 = some (r1, r2)) :
  Calls Tryz.prog 90 #[.string a0] w fun e w' => e = .returned (.tuple #[.int .i64 r1, .bool r2]) ∧ Below w.heap.size w w' := by
 unfold plain_Number.f at h
 by_cases c : a0.size ≤ 140737488351232
 rotate_left
 · rw [if_neg c] at h; cases h
 rw [if_pos c] at h
 by_cases hv : ∃ v, Lib.atoiAll a0.data.toList = .ok v
 rotate_left
 ·
  obtain ⟨n, hA⟩ := atoi_bad a0 w hG c (fun v hv' => hv ⟨v, hv'⟩)
  have hN : numB a0.data.toList = (0, false) := by
   unfold numB
   rcases hc : Lib.atoiAll a0.data.toList with v | _ | _
   · exact absurd ⟨v, hc⟩ hv
   · rfl
   · rfl
  rw [hN] at h
  obtain ⟨rfl, rfl⟩ := Prod.mk.inj (Option.some.inj h)
  have HA := Lib.hid hA
  clear hA h hv hN
  go_enter Tryz.func90, Tryz.ntmps90
  go_wp2_with (first | (go_at_call 112; refine HA.out.mono ?_; rintro e w1 ⟨p, rfl, hb1⟩))
  go_ret2
  exact ⟨rfl, hb1⟩
 obtain ⟨v, hv⟩ := hv
 have hbd := Lib.atoiAll_bounds hv
 unfold numB at h
 rw [hv] at h
 simp only at h
 have hT : plain_Text.f v = some ⟨(Lib.itoa v).toArray⟩ := by unfold plain_Text.f strconv_Itoa.f; rw [if_pos hbd]; rfl
 have HV := Lib.hid hv; have HT := Lib.hid hT
 obtain ⟨b1, b2⟩ := hbd
 clear hv hT
 by_cases he : Lib.itoa v = a0.data.toList
 ·
  rw [if_pos he] at h
  obtain ⟨rfl, rfl⟩ := Prod.mk.inj (Option.some.inj h)
  have hne : (Lib.itoa v == a0.toList) = true := by rw [Lib.toList_data, he]; simp
  clear h he
  go_enter Tryz.func90, Tryz.ntmps90
  go_wp2_with (first | (go_at_call 112; refine (atoi_ok _ _ c _ HV.out).mono ?_; rintro e w1 ⟨rfl, hb1⟩) | (go_at_call 45; refine (plain_Text.calls _ _ _ (hG.below hb1) HT.out).mono ?_; rintro e w2 ⟨rfl, hb2⟩))
  go_ret2
  exact ⟨rfl, hb1.trans (hb2.mono hb1.size)⟩
 rw [if_neg he] at h
 obtain ⟨rfl, rfl⟩ := Prod.mk.inj (Option.some.inj h)
 have hne : (Lib.itoa v == a0.toList) = false := by rw [Lib.toList_data]; simpa using he
 clear h he
 go_enter Tryz.func90, Tryz.ntmps90
 go_wp2_with (first | (go_at_call 112; refine (atoi_ok _ _ c _ HV.out).mono ?_; rintro e w1 ⟨rfl, hb1⟩) | (go_at_call 45; refine (plain_Text.calls _ _ _ (hG.below hb1) HT.out).mono ?_; rintro e w2 ⟨rfl, hb2⟩))
 go_ret2
 exact ⟨rfl, hb1.trans (hb2.mono hb1.size)⟩
def resB (l : List UInt8) : Int :=
  if l = [] ∨ l = [126] ∨ l = [110, 117, 108, 108] then 1 else if l = [116, 114, 117, 101] ∨ l = [102, 97, 108, 115, 101] then 2 else if (numB l).2 = true then 3 else 4
def plain_Resolve.f (a0 : ByteArray) : Option Int := if a0.size ≤ 140737488351232 then some (resB a0.data.toList) else none
theorem of_list {s : ByteArray} {l : List UInt8} (h : s.data.toList = l) : s = ⟨l.toArray⟩ := by
 cases s with
 | mk d => subst h; rfl
set_option maxHeartbeats 2000000 in
theorem plain_Resolve.calls (a0 : ByteArray) (r : Int) (w : World) (hG : Glob.G w) (h : plain_Resolve.f a0 = some r) :
  Calls Tryz.prog 76 #[.string a0] w fun e w' => e = .returned (.int .i64 r) ∧ Below w.heap.size w w' := by
 unfold plain_Resolve.f at h
 by_cases c : a0.size ≤ 140737488351232
 rotate_left
 · rw [if_neg c] at h; cases h
 rw [if_pos c] at h
 obtain rfl := Option.some.inj h
 clear h
 by_cases h0 : a0.data.toList = []
 ·
  obtain rfl := of_list h0; clear h0 c hG
  rw [show resB (⟨([] : List UInt8).toArray⟩ : ByteArray).data.toList = 1 from rfl]
  go_enter Tryz.func76, Tryz.ntmps76
  go_wp2_with (fail)
  go_ret
  exact ⟨rfl, Below.refl _ _⟩
 by_cases h1 : a0.data.toList = [126]
 ·
  obtain rfl := of_list h1; clear h0 h1 c hG
  rw [show resB (⟨([126] : List UInt8).toArray⟩ : ByteArray).data.toList = 1 from rfl]
  go_enter Tryz.func76, Tryz.ntmps76
  go_wp2_with (fail)
  go_ret
  exact ⟨rfl, Below.refl _ _⟩
 by_cases h2 : a0.data.toList = [110, 117, 108, 108]
 ·
  obtain rfl := of_list h2; clear h0 h1 h2 c hG
  rw [show resB (⟨([110, 117, 108, 108] : List UInt8).toArray⟩ : ByteArray).data.toList = 1 from rfl]
  go_enter Tryz.func76, Tryz.ntmps76
  go_wp2_with (fail)
  go_ret
  exact ⟨rfl, Below.refl _ _⟩
 by_cases h3 : a0.data.toList = [116, 114, 117, 101]
 ·
  obtain rfl := of_list h3; clear h0 h1 h2 h3 c hG
  rw [show resB (⟨([116, 114, 117, 101] : List UInt8).toArray⟩ : ByteArray).data.toList = 2 from rfl]
  go_enter Tryz.func76, Tryz.ntmps76
  go_wp2_with (fail)
  go_ret
  exact ⟨rfl, Below.refl _ _⟩
 by_cases h4 : a0.data.toList = [102, 97, 108, 115, 101]
 ·
  obtain rfl := of_list h4; clear h0 h1 h2 h3 h4 c hG
  rw [show resB (⟨([102, 97, 108, 115, 101] : List UInt8).toArray⟩ : ByteArray).data.toList = 2 from rfl]
  go_enter Tryz.func76, Tryz.ntmps76
  go_wp2_with (fail)
  go_ret
  exact ⟨rfl, Below.refl _ _⟩
 have hN : plain_Number.f a0 = some ((numB a0.data.toList).1, (numB a0.data.toList).2) := by unfold plain_Number.f; rw [if_pos c]
 have hR : resB a0.data.toList = if (numB a0.data.toList).2 = true then 3 else 4 := by
  unfold resB
  rw [if_neg (by simp [h0, h1, h2]), if_neg (by simp [h3, h4])]
 have e0 : a0.toList.isEmpty = false := by rw [Lib.toList_data]; simpa using h0
 have e1 : (a0.toList == [126]) = false := by rw [Lib.toList_data]; simpa using h1
 have e2 : (a0.toList == [110, 117, 108, 108]) = false := by rw [Lib.toList_data]; simpa using h2
 have e3 : (a0.toList == [116, 114, 117, 101]) = false := by rw [Lib.toList_data]; simpa using h3
 have e4 : (a0.toList == [102, 97, 108, 115, 101]) = false := by rw [Lib.toList_data]; simpa using h4
 rw [hR]
 generalize numB a0.data.toList = nb at hN
 obtain ⟨n, b⟩ := nb
 have HN := Lib.hid hN
 clear hN hR h0 h1 h2 h3 h4
 cases b
 all_goals
  go_enter Tryz.func76, Tryz.ntmps76
  go_wp2_with (go_at_call 90; refine (plain_Number.calls _ _ _ _ hG HN.out).mono ?_; rintro e w1 ⟨rfl, hb1⟩)
  go_ret
  exact ⟨rfl, hb1⟩
end Go.Proofs.YtnjcpoojgmpmeaaGreatDoor.Plug
set_option linter.unusedVariables false
namespace Go.Proofs.YtnjcpoojgmpmeaaGreatDoor.Bld
open RowKit YtnjcpoojgmpmeaaGreatDoor
structure Lies (T : TypeId) : Prop where
 lies : liesAt Tryz.prog Tryz.prog.depth T (2 / Tryz.prog.cellsOf T) 0 99 1 = true
 ne : T ≠ 5
theorem lies_plain : Lies 99 := ⟨by kernel_rfl, by decide⟩
theorem size_bld : (Tryz.prog.info? 99).map (·.size) = some 2 := by kernel_rfl
theorem info_byte : (Tryz.prog.info? 5).map (fun i => (i.zero, i.size, i.bytes)) = some (some (.int .u8 0), 1, 1) := by kernel_rfl
theorem ptr_bld : Tryz.prog.underlying 96 = some (.pointer 99) := by kernel_rfl
theorem ptr_raw : Tryz.prog.underlying 165 = some .unsafePointer := by kernel_rfl
theorem row_byte : Tryz.prog.underlying 97 = some (.slice 5) := by kernel_rfl
theorem str_t : Tryz.prog.underlying 9 = some .string := by kernel_rfl
set_option maxHeartbeats 2000000 in
set_option maxRecDepth 100000 in
theorem check (T : TypeId) (hT : Lies T) (B b : Nat) (bs : List Value) (w : World) (h : Lib.IsBuilderF T 5 B b bs w) :
  Calls Tryz.prog 81 #[.pointer (some ⟨b, 0, none⟩)] w fun e w' => e = .returned (.tuple #[]) ∧ (Lib.BuilderAtF T 5 B b (.pointer (some ⟨b, 0, none⟩)) bs w' ∧ Below B w w' ∧ Lib.OthersKept 5 (some b) w w') := by
 obtain ⟨j, hj, hjs⟩ := Option.map_eq_some_iff.1 size_bld
 rcases h with h | h
 ·
  have h0 := h.cell0; have hsh := h.shape; have hfz := h.frozen0
  have HE : Hid (Lib.BuilderAtF T 5 B b (.pointer (some ⟨b, 0, none⟩)) bs (w.setCell ⟨b, 0, none⟩ (.pointer (some ⟨b, 0, none⟩))) ∧ Below B w (w.setCell ⟨b, 0, none⟩ (.pointer (some ⟨b, 0, none⟩))) ∧ Lib.OthersKept 5 (some b) w (w.setCell ⟨b, 0, none⟩ (.pointer (some ⟨b, 0, none⟩)))) :=
   Lib.hid ⟨h.used _, (Below.refl B w).setCell (p := ⟨b, 0, none⟩) h.1 _, (Lib.OthersKept.refl _ _ w).setCell ⟨b, 0, none⟩ rfl _⟩
  clear h
  go_enter Tryz.func81, Tryz.ntmps81
  go_wp2
  rw [Lib.run_to_unsafe w ⟨b, 0, none⟩ ptr_bld ptr_raw hj (by rw [hjs]; decide) hsh (Nat.zero_lt_succ 1)]
  simp only [Result.andThen]
  rw [Oper.upon_value]
  go_wp2
  rw [run_callFunc_extern Tryz.func102 (by kernel_rfl) (by kernel_rfl) (by kernel_rfl) (e := Extern.AbiNoEscape.same) (by kernel_rfl)]
  rw [Lib.run_noEscape]
  simp only [Result.andThen]
  rw [Oper.upon_value]
  go_wp2
  rw [Lib.run_from_unsafe w ⟨b, 0, none⟩ ptr_raw ptr_bld hj hsh hT.lies]
  simp only [Result.andThen]
  rw [Oper.upon_value]
  go_wp2
  go_end0
  exact ⟨rfl, HE.out⟩
 ·
  have h0 := h.cell0
  have HE : Hid (Lib.BuilderAtF T 5 B b (.pointer (some ⟨b, 0, none⟩)) bs w ∧ Below B w w ∧ Lib.OthersKept 5 (some b) w w) := Lib.hid ⟨h, Below.refl B _, Lib.OthersKept.refl _ _ _⟩
  clear h
  go_enter Tryz.func81, Tryz.ntmps81
  go_wp2
  rw [Lib.run_neq_ptr_same w _ ptr_bld hj]
  go_wp2
  go_end0
  exact ⟨rfl, HE.out⟩
def Wrote (T : TypeId) (B b : Nat) (bs : List Value) (w w' : World) : Prop :=
  Lib.BuilderAtF T 5 B b (.pointer (some ⟨b, 0, none⟩)) bs w' ∧ Below B w w' ∧ Lib.OthersKept 5 (some b) w w'
theorem at_lt {w : World} {b : Nat} {o : Obj} (h : w.heap[b]? = some o) : b < w.heap.size := by
 rcases Nat.lt_or_ge b w.heap.size with h' | h'
 · exact h'
 · simp [Array.getElem?_eq_none h'] at h
set_option maxHeartbeats 2000000 in
set_option maxRecDepth 100000 in
theorem byte (T : TypeId) (hT : Lies T) (B b : Nat) (bs : List Value) (c : Int) (w : World) (h : Lib.IsBuilderF T 5 B b bs w) (hlen : bs.length + 1 ≤ 140737488355328) (hBw : B ≤ w.heap.size) :
  Calls Tryz.prog 65 #[.pointer (some ⟨b, 0, none⟩), .int .u8 c] w fun e w' => e = .returned .nilIface ∧ Wrote T B b (bs ++ [.int .u8 c]) w w' := by
 obtain ⟨i0, hi, hz0, hz1, hz2⟩ := info_parts info_byte
 go_enter Tryz.func65, Tryz.ntmps65
 go_wp2_with (go_at_call 81; refine (check T hT B b bs _ h).mono ?_)
 rintro e w1 ⟨rfl, h1, hb1, hk1⟩
 obtain ⟨hB, v, hbk, hown, hne⟩ := h1
 have c0 : w1.cell? ⟨b, 0, none⟩ = some (.pointer (some ⟨b, 0, none⟩)) := by rw [Lib.cell_of_heap hbk]; rfl
 have c1 : w1.cell? ⟨b, 1, none⟩ = some v := by rw [Lib.cell_of_heap hbk]; rfl
 go_wp2_with (at_builtin; refine wpList_append_ownF _ rfl _ _ 97 rfl B 5 i0 (.int .u8 0) 1 1 row_byte hi hz0 hz1 hz2 rfl (by decide) _ _ _ rfl (hown.alloc _) ⟨w1.heap.size, 0, none⟩ 1 1 [.int .u8 c] rfl rfl ?c1 ?c2 ?c3 ?c4 ?c5 ?_)
 case c1 =>
  intro j u hj
  match j, hj with
  | 0, hj => simp at hj; subst hj; simp [Addr.add]
 case c2 => intro u hu; simp at hu; subst hu; rfl
 case c3 => unfold maxLen; omega
 case c4 => omega
 case c5 => have := hb1.size; simp; omega
 intro v' w2 hown' hgrow _
 have hlt := at_lt hbk
 have hb2 : w2.heap[b]? = some (.cells #[.pointer (some ⟨b, 0, none⟩), v] T (0, 0)) := by
  rw [hgrow.block b (by simp; omega) (fun e => hne e.symm), Lib.alloc_old w1 _ b hlt]
  exact hbk
 have d0 : w2.cell? ⟨b, 0, none⟩ = some (.pointer (some ⟨b, 0, none⟩)) := by rw [Lib.cell_of_heap hb2]; rfl
 have d1 : w2.cell? ⟨b, 1, none⟩ = some v := by rw [Lib.cell_of_heap hb2]; rfl
 have f1 : w2.frozen? ⟨b, 1, none⟩ = false := Lib.frozen_of_heap hb2 1
 obtain ⟨g, cap, rfl⟩ : ∃ g cap, v' = .slice (some ⟨g, 0, none⟩) (bs.length + 1) cap := by
  rcases hown'.2 with ⟨_, h0⟩ | ⟨g, cap, cur, fz, hv, _⟩
  · omega
  · exact ⟨g, cap, hv⟩
 go_wp2
 go_ret
 refine ⟨rfl, ?_, ?_, ((hk1.alloc _).grown hgrow (Lib.ownsRowF_kind (hown.alloc _))).setCell ⟨b, 1, none⟩ rfl _⟩
 · exact Lib.BuilderAtF.put (T := T) (e := 5) hB hb2 (bs' := bs ++ [.int .u8 c]) (by simpa using hown') hT.ne
 · exact ((hb1.alloc (by have := hb1.size; omega) _).grown hgrow (by have := hb1.size; simp; omega) (fun k hk => (hown.lt k hk).1)).setCell (p := ⟨b, 1, none⟩) hB _
set_option maxHeartbeats 2000000 in
set_option maxRecDepth 100000 in
theorem text (T : TypeId) (hT : Lies T) (B b : Nat) (bs : List Value) (s : ByteArray) (w : World) (h : Lib.IsBuilderF T 5 B b bs w) (hlen : bs.length + s.size ≤ 140737488355328) (hBw : B ≤ w.heap.size) :
  Calls Tryz.prog 63 #[.pointer (some ⟨b, 0, none⟩), .string s] w fun e w' => e = .returned (.tuple #[.int .i64 s.size, .nilIface]) ∧ Wrote T B b (bs ++ Lib.strCells s) w w' := by
 obtain ⟨i0, hi, hz0, hz1, hz2⟩ := info_parts info_byte
 go_enter Tryz.func63, Tryz.ntmps63
 go_wp2_with (go_at_call 81; refine (check T hT B b bs _ h).mono ?_)
 rintro e w1 ⟨rfl, h1, hb1, hk1⟩
 obtain ⟨hB, v, hbk, hown, hne⟩ := h1
 have c0 : w1.cell? ⟨b, 0, none⟩ = some (.pointer (some ⟨b, 0, none⟩)) := by rw [Lib.cell_of_heap hbk]; rfl
 have c1 : w1.cell? ⟨b, 1, none⟩ = some v := by rw [Lib.cell_of_heap hbk]; rfl
 go_wp2_with (at_builtin; refine Lib.wpList_append_own_stringF _ rfl _ _ 97 9 rfl B 5 i0 row_byte str_t hi hz0 hz1 hz2 _ _ _ rfl hown s rfl ?c3 ?c4 ?c5 ?_)
 case c3 => unfold maxLen; omega
 case c4 => omega
 case c5 => have := hb1.size; omega
 intro v' w2 hown' hgrow _
 have hlt := at_lt hbk
 have hb2 : w2.heap[b]? = some (.cells #[.pointer (some ⟨b, 0, none⟩), v] T (0, 0)) := by
  rw [hgrow.block b hlt (fun e => hne e.symm)]
  exact hbk
 have d0 : w2.cell? ⟨b, 0, none⟩ = some (.pointer (some ⟨b, 0, none⟩)) := by rw [Lib.cell_of_heap hb2]; rfl
 have d1 : w2.cell? ⟨b, 1, none⟩ = some v := by rw [Lib.cell_of_heap hb2]; rfl
 have f1 : w2.frozen? ⟨b, 1, none⟩ = false := Lib.frozen_of_heap hb2 1
 obtain ⟨ao, n', cap, rfl⟩ : ∃ ao n' cap, v' = .slice ao n' cap := by
  rcases hown'.2 with ⟨hv, _⟩ | ⟨g, cap, cur, fz, hv, _⟩
  · exact ⟨_, _, _, hv⟩
  · exact ⟨_, _, _, hv⟩
 go_wp2
 go_ret2
 refine ⟨rfl, ?_, ?_, (hk1.grown hgrow (Lib.ownsRowF_kind hown)).setCell ⟨b, 1, none⟩ rfl _⟩
 · exact Lib.BuilderAtF.put (T := T) (e := 5) hB hb2 (bs' := bs ++ Lib.strCells s) (by simpa [Lib.strCells_length] using hown') hT.ne
 · exact (hb1.grown hgrow (by have := hb1.size; omega) (fun k hk => (hown.lt k hk).1)).setCell (p := ⟨b, 1, none⟩) hB _
set_option maxHeartbeats 4000000 in
set_option maxRecDepth 100000 in
theorem put4 (B : Nat) (v : Value) (n : Nat) (xs : List Value) (r : Int) (h0 : 65536 ≤ r) (h1 : r ≤ 1114111) (w : World) (hown : w.ownsRowF B 5 1 v n xs) (hlen : n + 4 ≤ 140737488355328) (hBw : B ≤ w.heap.size) :
  Calls Tryz.prog 158 #[v, .int .i32 r] w fun e w' => ∃ v', e = .returned v' ∧ w'.ownsRowF B 5 1 v' (n + 4) (xs ++ [.int .u8 (240 + r / 262144), .int .u8 (128 + r / 4096 % 64), .int .u8 (128 + r / 64 % 64), .int .u8 (128 + r % 64)]) ∧ ∃ o, (w.alloc o).grownBy w' v.ownBlock := by
 obtain ⟨i0, hi, hz0, hz1, hz2⟩ := info_parts info_byte
 go_enter Tryz.func158, Tryz.ntmps158
 go_wp2_with (at_builtin; refine wpList_append_ownF _ rfl _ _ 97 rfl B 5 i0 (.int .u8 0) 1 1 row_byte hi hz0 hz1 hz2 rfl (by decide) _ _ _ rfl (hown.alloc _) ⟨w.heap.size, 0, none⟩ 4 4 [.int .u8 (240 + r / 262144), .int .u8 (128 + r / 4096 % 64), .int .u8 (128 + r / 64 % 64), .int .u8 (128 + r % 64)] rfl rfl ?c1 ?c2 ?c3 ?c4 ?c5 ?_)
 case c1 =>
  intro j u hj
  match j, hj with
  | 0, hj => simp at hj; subst hj; simp [Addr.add]
  | 1, hj => simp at hj; subst hj; simp [Addr.add]
  | 2, hj => simp at hj; subst hj; simp [Addr.add]
  | 3, hj => simp at hj; subst hj; simp [Addr.add]
  | (j + 4), hj => simp at hj
 case c2 => intro u hu; simp at hu; rcases hu with rfl | rfl | rfl | rfl <;> rfl
 case c3 => unfold maxLen; omega
 case c4 => omega
 case c5 => simp; omega
 intro v' w2 hown' hgrow _
 go_wp2
 go_ret
 exact ⟨_, rfl, hown', _, hgrow⟩
theorem ptr_byte : Tryz.prog.underlying 134 = some (.pointer 5) := by kernel_rfl
theorem cells_byte : Tryz.prog.cellsOf 5 = 1 := by kernel_rfl
set_option maxHeartbeats 2000000 in
set_option maxRecDepth 100000 in
theorem got (T : TypeId) (B b : Nat) (l : List UInt8) (w : World) (h : Lib.IsBuilderF T 5 B b (Lib.byteCells l) w) (hBw : B ≤ w.heap.size) :
  Calls Tryz.prog 44 #[.pointer (some ⟨b, 0, none⟩)] w fun e w' => e = .returned (.string ⟨l.toArray⟩) ∧ Below B w w' := by
 obtain ⟨p, hAt⟩ : ∃ p, Lib.BuilderAtF T 5 B b p (Lib.byteCells l) w := by
  rcases h with h | h
  · exact ⟨_, h⟩
  · exact ⟨_, h⟩
 clear h
 obtain ⟨hB, v, hbk, hown, hne⟩ := hAt
 rw [Lib.byteCells_length] at hown
 have hlt := at_lt hbk
 by_cases hl : l = []
 rotate_left
 ·
  have hl0 : l.length ≠ 0 := by simpa using hl
  obtain ⟨g, cap, cur, fz, rfl, hbg, hg, hfz, hnc, hcm, hcs, htake⟩ : ∃ g cap cur fz, v = .slice (some ⟨g, 0, none⟩) l.length cap ∧ B ≤ g ∧ w.heap[g]? = some (.cells cur 5 fz) ∧ fz.2 ≤ l.length * 1 ∧ l.length ≤ cap ∧ cap ≤ maxLen ∧ cur.size = cap * 1 ∧ cur.toList.take (l.length * 1) = Lib.byteCells l := by
   rcases hown.2 with ⟨_, hz⟩ | ⟨g, cap, cur, fz, hv, r⟩
   · exact absurd hz hl0
   · exact ⟨g, cap, cur, fz, hv, r⟩
  have c1 : w.drew.cell? ⟨b, 1, none⟩ = some (.slice (some ⟨g, 0, none⟩) l.length cap) := by
   have : w.drew.heap[b]? = some (.cells #[p, .slice (some ⟨g, 0, none⟩) l.length cap] T (0, 0)) := hbk
   rw [Lib.cell_of_heap this]; rfl
  have hSD : (Builtin.unsafeSliceData_ #[97] 134 #[.slice (some ⟨g, 0, none⟩) l.length cap]).run Tryz.prog w.drew = .ok (.pointer (some ⟨g, 0, none⟩)) w.drew :=
   Lib.run_unsafeSliceData_row _ _ _ _ _ _ (by omega)
  have hUS : (Builtin.unsafeString_ #[134, 3] 9 #[.pointer (some ⟨g, 0, none⟩), .int .i64 l.length]).run Tryz.prog w.drew = .ok (.string ⟨l.toArray⟩) (w.drew.freeze ⟨g, 0, none⟩ l.length) := by
   refine Lib.run_unsafeString_row w.drew 134 3 9 5 ptr_byte cells_byte g cur.size (by have hg' : w.drew.heap[g]? = some (.cells cur 5 fz) := hg; simp [World.shape?, hg']) l hl (by omega) (by unfold maxLen at hcm; omega) ?_
   intro j x hx
   have := hown.cells (g := g) rfl j (.int .u8 x.toNat) (by simp [Lib.byteCells, hx])
   exact this
  clear hown htake hcs hnc hfz
  go_enter Tryz.func44, Tryz.ntmps44
  go_wp2
  go_region
  all_goals (go_wp2; go_ret; exact ⟨rfl, Lib.below_freeze (Below.drew (Below.refl B w)) (p := ⟨g, 0, none⟩) hbg _⟩)
 subst hl
 have hUS : ∀ (W : World) (q : Option Addr), (Builtin.unsafeString_ #[134, 3] 9 #[.pointer q, .int .i64 0]).run Tryz.prog W = .ok (.string .empty) W := fun W q => Lib.run_unsafeString_none W _ _ _ q
 rcases hown.2 with ⟨rfl, _⟩ | ⟨g, cap, cur, fz, rfl, hbg, hg, _, _, _, _, _⟩
 ·
  have c1 : w.drew.cell? ⟨b, 1, none⟩ = some (.slice none 0 0) := by
   have : w.drew.heap[b]? = some (.cells #[p, .slice none 0 0] T (0, 0)) := hbk
   rw [Lib.cell_of_heap this]; rfl
  have hSD : (Builtin.unsafeSliceData_ #[97] 134 #[.slice none 0 0]).run Tryz.prog w.drew = .ok (.pointer none) w.drew := rfl
  clear hown
  go_enter Tryz.func44, Tryz.ntmps44
  go_wp2
  go_region
  all_goals (go_wp2; go_ret; exact ⟨rfl, Below.drew (Below.refl B w)⟩)
 ·
  by_cases hc0 : cap = 0
  rotate_left
  ·
   have c1 : w.drew.cell? ⟨b, 1, none⟩ = some (.slice (some ⟨g, 0, none⟩) 0 cap) := by
    have : w.drew.heap[b]? = some (.cells #[p, .slice (some ⟨g, 0, none⟩) 0 cap] T (0, 0)) := hbk
    rw [Lib.cell_of_heap this]; rfl
   have hSD : (Builtin.unsafeSliceData_ #[97] 134 #[.slice (some ⟨g, 0, none⟩) 0 cap]).run Tryz.prog w.drew = .ok (.pointer (some ⟨g, 0, none⟩)) w.drew :=
    Lib.run_unsafeSliceData_row _ _ _ _ _ _ hc0
   clear hc0 hown
   go_enter Tryz.func44, Tryz.ntmps44
   go_wp2
   go_region
   all_goals (go_wp2; go_ret; exact ⟨rfl, Below.drew (Below.refl B w)⟩)
  subst hc0
  have c1 : w.drew.cell? ⟨b, 1, none⟩ = some (.slice (some ⟨g, 0, none⟩) 0 0) := by
   have : w.drew.heap[b]? = some (.cells #[p, .slice (some ⟨g, 0, none⟩) 0 0] T (0, 0)) := hbk
   rw [Lib.cell_of_heap this]; rfl
  have hSD : (Builtin.unsafeSliceData_ #[97] 134 #[.slice (some ⟨g, 0, none⟩) 0 0]).run Tryz.prog w.drew = .ok (.pointer (some ⟨w.drew.heap.size, 0, none⟩)) (w.drew.alloc (.view ⟨g, 0, none⟩ 5)) :=
   Lib.run_unsafeSliceData_zero w.drew _ _ 5 ptr_byte ⟨g, 0, none⟩ 0 (5, cur.size) (by have hg' : w.drew.heap[g]? = some (.cells cur 5 fz) := hg; simp [World.shape?, hg'])
  have c2 : (w.drew.alloc (.view ⟨g, 0, none⟩ 5)).cell? ⟨b, 1, none⟩ = some (.slice (some ⟨g, 0, none⟩) 0 0) := by
   have : (w.drew.alloc (.view ⟨g, 0, none⟩ 5)).heap[b]? = _ := (Lib.alloc_old w.drew _ b hlt).trans hbk
   rw [Lib.cell_of_heap this]; rfl
  have c3 : (w.alloc (.view ⟨g, 0, none⟩ 5)).drew.cell? ⟨b, 1, none⟩ = some (.slice (some ⟨g, 0, none⟩) 0 0) := c2
  have c0 : w.cell? ⟨b, 1, none⟩ = some (.slice (some ⟨g, 0, none⟩) 0 0) := c1
  clear hown
  go_enter Tryz.func44, Tryz.ntmps44
  go_wp2
  go_region
  all_goals (go_wp2; go_ret; exact ⟨rfl, (Below.drew (Below.refl B w)).alloc hBw _⟩)
end Go.Proofs.YtnjcpoojgmpmeaaGreatDoor.Bld
namespace Go.Proofs.YtnjcpoojgmpmeaaGreatDoor.Utf
def enc (n : Int) : List UInt8 := Lib.encodeRune n
end Go.Proofs.YtnjcpoojgmpmeaaGreatDoor.Utf
namespace Go.Proofs.YtnjcpoojgmpmeaaGreatDoor.Plug
open RowKit YtnjcpoojgmpmeaaGreatDoor YtnjcpoojgmpmeaaGreatDoor.PX YtnjcpoojgmpmeaaGreatDoor.Utf YtnjcpoojgmpmeaaGreatDoorW.PrintWords YtnjcpoojgmpmeaaGreatDoorW.PrintLast
def goF : Nat → List UInt8 → Nat → List Int → List Int × Nat
 | 0, _, i, acc => (acc, i)
 | k + 1, l, i, acc => if i < l.length then (if (dec (l.drop i)).1 < 0 then (acc ++ [(dec (l.drop i)).1], i) else goF k l (i + (dec (l.drop i)).2) (acc ++ [(dec (l.drop i)).1])) else (acc, i)
def goB (l : List UInt8) : List Int × Nat := goF l.length l 0 []
def decodeB (l : List UInt8) : List Int × Int × Int := if (goB l).2 < l.length then ([], 8, ((goB l).2 : Int)) else ((goB l).1, 0, 0)
theorem goF_end (k : Nat) (l : List UInt8) (i : Nat) (acc : List Int) (h : ¬ i < l.length) : goF k l i acc = (acc, i) := by
 cases k with
 | zero => rfl
 | succ k => simp [goF, h]
theorem info_int : (Tryz.prog.info? 3).map (fun i => (i.zero, i.size, i.bytes)) = some (some (.int .i64 0), 1, 8) := by kernel_rfl
theorem row_int : Tryz.prog.underlying 40 = some (.slice 3) := by kernel_rfl
structure Box (B g : Nat) (xs : List Int) (W : World) : Prop where
  ex : ∃ v, W.heap[g]? = some (.cells #[v] 40 (0, 0)) ∧ W.ownsRow B 3 1 v xs.length (nums .i64 xs)
def Stays (B g : Nat) (W W' : World) : Prop := Below B W W' ∧ ∀ k c t, W.heap[k]? = some (.cells c t (0, 0)) → t ≠ 3 → k ≠ g → W'.heap[k]? = some (.cells c t (0, 0))
theorem Stays.refl (B g : Nat) (W : World) : Stays B g W W := ⟨Below.refl B W, fun _ _ _ h _ _ => h⟩
theorem Stays.trans {B g : Nat} {W W1 W2 : World} (h : Stays B g W W1) (h2 : Stays B g W1 W2) : Stays B g W W2 := ⟨h.1.trans h2.1, fun k c t a b d => h2.2 k c t (h.2 k c t a b d) b d⟩
theorem Stays.of_below {B g : Nat} {W W1 : World} (h : Below W.heap.size W W1) (hB : B ≤ W.heap.size) : Stays B g W W1 :=
  ⟨h.mono hB, fun k _ _ a _ _ => (h.block k (Bld.at_lt a)).trans a⟩
theorem Box.of_below {B g : Nat} {xs : List Int} {W W1 : World} (h : Box B g xs W) (hb : Below W.heap.size W W1) : Box B g xs W1 := by
 obtain ⟨v, h1, h2⟩ := h.ex
 exact ⟨v, (hb.block g (Bld.at_lt h1)).trans h1, own_move h2 (fun k hk => hb.block k (own_lt h2 k hk))⟩
set_option maxHeartbeats 2000000 in
set_option maxRecDepth 100000 in
theorem on_is (x : Int) (B g : Nat) (xs : List Int) (W : World) (hbx : Box B g xs W) (hlen : xs.length + 1 ≤ 1099511627776) (hB : B ≤ g) (hBw : B ≤ W.heap.size) :
  Calls Tryz.prog 92 #[.int .i64 x, .pointer (some ⟨g, 0, none⟩)] W fun e w' => e = .returned (.bool (decide (x ≥ 0))) ∧ Box B g (xs ++ [x]) w' ∧ Stays B g W w' := by
 obtain ⟨v, hg, hown⟩ := hbx.ex
 clear hbx
 obtain ⟨i0, hi, hz0, hz1, hz2⟩ := info_parts info_int
 have c0 : W.cell? ⟨g, 0, none⟩ = some v := by rw [Lib.cell_of_heap hg]; rfl
 have hne := own_ne hown hg (by decide)
 go_enter Tryz.func92, Tryz.ntmps92
 go_wp2_with (at_builtin; refine wpList_append_own _ rfl _ _ 40 rfl B 3 i0 (.int .i64 0) 1 8 row_int hi hz0 hz1 hz2 rfl (by decide) _ _ _ rfl (hown.alloc _) ⟨W.heap.size, 0, none⟩ 1 1 [.int .i64 x] rfl rfl ?c1 ?c2 ?c3 ?c4 ?c5 ?_)
 case c1 =>
  intro j u hj
  match j, hj with
  | 0, hj => simp at hj; subst hj; simp [Addr.add]
 case c2 => intro u hu; simp at hu; subst hu; rfl
 case c3 => unfold maxLen; omega
 case c4 => omega
 case c5 => simp; omega
 intro v' w2 hown' hgrow _
 obtain ⟨ao, cap, rfl⟩ : ∃ ao cap, v' = .slice ao (xs.length + 1) cap := own_slice hown'
 have hlt := Bld.at_lt hg
 have hb2 : w2.heap[g]? = some (.cells #[v] 40 (0, 0)) := by
  rw [hgrow.block g (by simp; omega) hne, Lib.alloc_old W _ g hlt]
  exact hg
 have d0 : w2.cell? ⟨g, 0, none⟩ = some v := by rw [Lib.cell_of_heap hb2]; rfl
 have f0 : w2.frozen? ⟨g, 0, none⟩ = false := Lib.frozen_of_heap hb2 0
 have hne2 := own_ne hown' hb2 (by decide)
 have HR : Hid (Box B g (xs ++ [x]) (w2.setCell ⟨g, 0, none⟩ (.slice ao (xs.length + 1) cap)) ∧ Stays B g W (w2.setCell ⟨g, 0, none⟩ (.slice ao (xs.length + 1) cap))) := by
  refine Lib.hid ⟨⟨.slice ao (xs.length + 1) cap, ?_, ?_⟩, ?_, ?_⟩
  · exact blk_set hb2 0 _
  ·
   have h3 := own_setCell (p := ⟨g, 0, none⟩) hown' hne2 (.slice ao (xs.length + 1) cap)
   rw [List.length_append, List.length_singleton, nums_append]
   exact h3
  · exact ((((Below.refl B W).alloc hBw _).grown hgrow (by simp; omega) (fun k hk => own_base hown k hk)).setCell (p := ⟨g, 0, none⟩) hB _)
  ·
   intro k c t hk ht hkg
   rw [Below.heap_setCell w2 ⟨g, 0, none⟩ _ k hkg, hgrow.block k (by have := Bld.at_lt hk; simp; omega) (own_ne hown hk (Ne.symm ht)), Lib.alloc_old W _ k (Bld.at_lt hk)]
   exact hk
 clear hown hown' hgrow hg hne hne2
 go_wp2
 go_ret
 exact ⟨rfl, HR.out⟩
set_option maxHeartbeats 2000000 in
theorem walk_dec (s : ByteArray) (B g : Nat) (w w0 : World) (hG : Glob.G w0) (hw0 : Below B w0 w) (hB0 : w0.heap.size = B) (hs : s.size ≤ 1099511627775) (hbx : Box B g [] w) (hB : B ≤ g) (hBw : B ≤ w.heap.size) :
  Calls Tryz.prog 91 #[.string s, .func (.func 92) #[] #[.pointer (some ⟨g, 0, none⟩)]] w fun e w' => e = .returned (.int .i64 (goB s.data.toList).2) ∧ Box B g (goB s.data.toList).1 w' ∧ Stays B g w w' := by
 have hL := Lib.hid (size_list s)
 go_enter Tryz.func91, Tryz.ntmps91
 go_wp2
 go_loopw [5] (fun a wr => ∃ (i k : Nat) (xs : List Int), i ≤ s.size ∧ s.size ≤ i + k ∧ xs.length ≤ i ∧ Hid (goF k s.data.toList i xs = goB s.data.toList) ∧ a = .int .i64 i ∧ Box B g xs wr ∧ Stays B g w wr) (fun a _ => s.size - (intOf a).toNat)
 case atStart => exact ⟨0, s.size, [], Nat.zero_le _, by omega, Nat.le_refl _, by rw [hL.out]; rfl, rfl, hbx, Stays.refl _ _ _⟩
 case round =>
  obtain ⟨i, k, xs, hi, hk, hxl, hst, rfl, hbx, hb⟩ := hrel
  have hGr : Glob.G wr := hG.below (by rw [hB0]; exact hw0.trans hb.1)
  by_cases hlt : i < s.size
  rotate_left
  ·
   have hc : decide ((i : Int) < (s.size : Int)) = false := by simp; omega
   have HE := Lib.hid (hst.out.symm.trans (goF_end k s.data.toList i xs (by rw [← hL.out]; exact hlt)))
   clear hst
   go_wp2
   go_ret
   exact ⟨by rw [HE.out]; rfl, by rw [HE.out]; exact hbx, hb⟩
  have hne : s.data.toList.drop i ≠ [] := by
   intro e; have h2 := congrArg List.length e; rw [List.length_drop, ← hL.out, List.length_nil] at h2; omega
  have hw := dec_wide _ hne
  have hf := prog_first (s.extract i s.size)
  rw [drop_list] at hf
  have hlen : (s.data.toList.drop i).length = s.size - i := by rw [List.length_drop, ← hL.out]
  have hstep : goF k s.data.toList i xs = if (dec (s.data.toList.drop i)).1 < 0 then (xs ++ [(dec (s.data.toList.drop i)).1], i) else goF (k - 1) s.data.toList (i + (dec (s.data.toList.drop i)).2) (xs ++ [(dec (s.data.toList.drop i)).1]) := by
   obtain ⟨k, rfl⟩ : ∃ m, k = m + 1 := ⟨k - 1, by omega⟩
   rw [goF, if_pos (by have := hL.out; omega)]; rfl
  generalize dec (s.data.toList.drop i) = d at *
  obtain ⟨r, n⟩ := d
  simp only at hw hf hstep
  rw [hlen] at hw
  obtain ⟨hw1, hw2, hw3⟩ := hw
  have HF := Lib.hid hf; have HS := Lib.hid hstep
  clear hf hstep hlen hne
  by_cases hr : r < 0
  ·
   rw [if_pos hr] at HS
   have hge : decide (r ≥ 0) = false := by simp; omega
   have HQ := Lib.hid (hst.out.symm.trans HS.out)
   clear hst HS
   go_wp2_with (first | (go_at_call 113; refine (utf_First.calls _ _ _ _ hGr HF.out).mono ?_; rintro e w1 ⟨rfl, hb1⟩) | (go_at_call 92; refine (on_is r B g xs _ (hbx.of_below hb1) (by omega) hB (Nat.le_trans hBw (Nat.le_trans hb.1.size hb1.size))).mono ?_; rw [hge]; rintro e w2 ⟨rfl, hbx2, hs2⟩))
   go_ret
   exact ⟨by rw [HQ.out]; rfl, by rw [HQ.out]; exact hbx2, hb.trans ((Stays.of_below hb1 (Nat.le_trans hBw hb.1.size)).trans hs2)⟩
  rw [if_neg hr] at HS
  have hge : decide (r ≥ 0) = true := by simp; omega
  have HQ := Lib.hid (HS.out.symm.trans hst.out)
  clear hst HS
  go_wp2_with (first | (go_at_call 113; refine (utf_First.calls _ _ _ _ hGr HF.out).mono ?_; rintro e w1 ⟨rfl, hb1⟩) | (go_at_call 92; refine (on_is r B g xs _ (hbx.of_below hb1) (by omega) hB (Nat.le_trans hBw (Nat.le_trans hb.1.size hb1.size))).mono ?_; rw [hge]; rintro e w2 ⟨rfl, hbx2, hs2⟩))
  have hall := hb.trans ((Stays.of_below hb1 (Nat.le_trans hBw hb.1.size)).trans hs2)
  go_roundw
  case rel => exact ⟨i + n, k - 1, xs ++ [r], by omega, by omega, by rw [List.length_append]; simp; omega, Lib.hid HQ.out, by go_num, hbx2, hall⟩
  case measure => simp [intOf]; omega
theorem two_set {w2 : World} {B t : Nat} {x y : Value} (h : w2.heap[B]? = some (.cells #[x, y] t (0, 0))) (a b : Value) (o : Obj) :
  (((w2.setCell ⟨B, 0, none⟩ a).setCell ⟨B, 1, none⟩ b).alloc o).cell? ⟨B, 0, none⟩ = some a ∧ (((w2.setCell ⟨B, 0, none⟩ a).setCell ⟨B, 1, none⟩ b).alloc o).cell? ⟨B, 1, none⟩ = some b := by
 have h1 := blk_set h 0 a
 have h2 := blk_set h1 1 b
 have h3 : (((w2.setCell ⟨B, 0, none⟩ a).setCell ⟨B, 1, none⟩ b).alloc o).heap[B]? = some (.cells ((#[x, y].setIfInBounds 0 a).setIfInBounds 1 b) t (0, 0)) := (Lib.alloc_old _ _ _ (Bld.at_lt h2)).trans h2
 exact ⟨by rw [blk_cell h3]; rfl, by rw [blk_cell h3]; rfl⟩
def utf_Decode.f (a0 : ByteArray) : Option (List Int × Int × Int) := if a0.size ≤ 1099511627775 then some (decodeB a0.data.toList) else none
set_option maxHeartbeats 2000000 in
set_option maxRecDepth 100000 in
theorem utf_Decode.calls (a0 : ByteArray) (r1 : List Int) (r2 r3 : Int) (w : World) (hG : Glob.G w) (h : utf_Decode.f a0 = some (r1, r2, r3)) :
  Calls Tryz.prog 77 #[.string a0] w fun e w' => ∃ v0_ : Value, e = .returned (.tuple #[v0_, .agg #[.int .i64 r2, .int .i64 r3]]) ∧ Kd.R (Kd.int .i64) 3 w' w.heap.size (fun _ => True) v0_ r1 ∧ Below w.heap.size w w' := by
 unfold utf_Decode.f at h
 by_cases c : a0.size ≤ 1099511627775
 rotate_left
 · rw [if_neg c] at h; cases h
 rw [if_pos c] at h
 have hL := size_list a0
 unfold decodeB at h
 rw [← hL] at h
 have hH : Glob.G ((w.alloc (.cells #[.int .i64 0, .int .i64 0] 143)).alloc (.cells #[.slice none 0 0] 40)) := hG.below (((Below.refl _ w).alloc (Nat.le_refl _) _).alloc (by simp) _)
 obtain ⟨W0, hW0⟩ : ∃ W0, W0 = (w.alloc (.cells #[.int .i64 0, .int .i64 0] 143)).alloc (.cells #[.slice none 0 0] 40) := ⟨_, rfl⟩
 have hbx : Box w.heap.size (w.heap.size + 1) [] W0 := by
  refine ⟨.slice none 0 0, ?_, ?_⟩
  · rw [hW0]; have := heap_alloc_new (w.alloc (.cells #[.int .i64 0, .int .i64 0] 143)) (.cells #[.slice none 0 0] 40); simpa using this
  · exact ⟨rfl, .inl ⟨rfl, rfl⟩⟩
 have hf0 : W0.heap[w.heap.size]? = some (.cells #[.int .i64 0, .int .i64 0] 143 (0, 0)) := by
  rw [hW0, Lib.alloc_old _ _ _ (by simp)]; exact heap_alloc_new w _
 have hbel : Below w.heap.size w W0 := by rw [hW0]; exact ((Below.refl _ w).alloc (Nat.le_refl _) _).alloc (by simp) _
 have hsz : w.heap.size ≤ W0.heap.size := hbel.size
 have HW := Lib.hid (walk_dec a0 w.heap.size (w.heap.size + 1) W0 w hG hbel rfl c hbx (by omega) hsz)
 subst hW0
 go_enter Tryz.func77, Tryz.ntmps77
 go_wp2_with (first | (go_at_call 91; refine HW.out.mono ?_; rintro e w1 ⟨rfl, hbx1, hs1⟩))
 have hbel1 := hbel.trans hs1.1
 have hG1 := hG.below hbel1
 by_cases q : (goB a0.data.toList).2 < a0.size
 ·
  rw [if_pos q] at h
  simp only [Option.some.injEq, Prod.mk.injEq] at h
  obtain ⟨rfl, rfl, rfl⟩ := h
  have h2 : utf_fault.f a0 (goB a0.data.toList).2 = some (8, ((goB a0.data.toList).2 : Int)) := by unfold utf_fault.f; rw [if_pos (by omega)]
  have H2 := Lib.hid h2
  clear h2 HW q
  go_wp2_with (first | (go_at_call 93; refine (utf_fault.calls _ _ _ _ _ hG1 H2.out).mono ?_; rintro e w2 ⟨rfl, hb2⟩; have hf2 := (hb2.block w.heap.size (Bld.at_lt (hs1.2 _ _ _ hf0 (by decide) (by omega)))).trans (hs1.2 _ _ _ hf0 (by decide) (by omega)); have hc0 : w2.cell? ⟨w.heap.size, 0, none⟩ = some (.int .i64 0) := by { rw [blk_cell hf2]; rfl }; have hc1 : w2.cell? ⟨w.heap.size, 1, none⟩ = some (.int .i64 0) := by { rw [blk_cell hf2]; rfl }; have hz0 := blk_frozen hf2 0; have hz1 := blk_frozen hf2 1; have hz := Bld.at_lt hf2))
  have HBel := Lib.hid (hbel1.trans (hb2.mono hbel1.size))
  have hzz := hb2.size
  go_region
  all_goals
   go_wp2
   have hset := two_set hf2 (.int .i64 8) (.int .i64 (goB a0.data.toList).2) (.cells #[.int .i64 8, .int .i64 (goB a0.data.toList).2] 143)
   refine bodyPost_ret (v := .tuple #[.slice none 0 0, .agg #[.int .i64 8, .int .i64 (goB a0.data.toList).2]]) (by simp [results, Tryz.results77, go_sem, hset.1, hset.2]) rfl ?_
   refine ⟨.slice none 0 0, rfl, Kd.R_nil _ _ _ _ _, ?_⟩
   exact Below.drew ((((HBel.out.setCell (p := ⟨w.heap.size, 0, none⟩) (Nat.le_refl _) _).setCell (p := ⟨w.heap.size, 1, none⟩) (Nat.le_refl _) _).alloc (by simp; omega) _))
 rw [if_neg q] at h
 simp only [Option.some.injEq, Prod.mk.injEq] at h
 obtain ⟨rfl, rfl, rfl⟩ := h
 have h2 : utf_fault.f a0 (goB a0.data.toList).2 = some (0, 0) := by unfold utf_fault.f; rw [if_neg (by omega)]
 have H2 := Lib.hid h2
 clear h2 HW q
 generalize (goB a0.data.toList).2 = n at *
 go_wp2_with (first | (go_at_call 93; refine (utf_fault.calls _ _ _ _ _ hG1 H2.out).mono ?_; rintro e w2 ⟨rfl, hb2⟩; have hf2 := (hb2.block w.heap.size (Bld.at_lt (hs1.2 _ _ _ hf0 (by decide) (by omega)))).trans (hs1.2 _ _ _ hf0 (by decide) (by omega)); have hc0 : w2.cell? ⟨w.heap.size, 0, none⟩ = some (.int .i64 0) := by { rw [blk_cell hf2]; rfl }; have hc1 : w2.cell? ⟨w.heap.size, 1, none⟩ = some (.int .i64 0) := by { rw [blk_cell hf2]; rfl }; have hz0 := blk_frozen hf2 0; have hz1 := blk_frozen hf2 1; have hz := Bld.at_lt hf2; obtain ⟨v, hg2, hown⟩ := (hbx1.of_below hb2).ex; have hcg : w2.cell? ⟨w.heap.size + 1, 0, none⟩ = some v := by { rw [blk_cell hg2]; rfl }; obtain ⟨ao, cap, rfl⟩ := own_slice hown; have hzg := Bld.at_lt hg2))
 have HBel := Lib.hid (hbel1.trans (hb2.mono hbel1.size))
 have hzz := hb2.size
 have hset := two_set hf2 (.int .i64 0) (.int .i64 0) (.cells #[.int .i64 0, .int .i64 0] 143)
 refine bodyPost_ret (v := .tuple #[.slice ao (goB a0.data.toList).1.length cap, .agg #[.int .i64 0, .int .i64 0]]) (by simp [results, Tryz.results77, go_sem, hset.1, hset.2]) rfl ?_
 refine ⟨_, rfl, ?_, ((HBel.out.setCell (p := ⟨w.heap.size, 0, none⟩) (Nat.le_refl _) _).setCell (p := ⟨w.heap.size, 1, none⟩) (Nat.le_refl _) _).alloc (by simp; omega) _⟩
 have hne := own_ne hown hf2 (by decide)
 have hR : Kd.R (Kd.int .i64) 3 w2 w.heap.size (fun k => k ≠ w.heap.size) (.slice ao (goB a0.data.toList).1.length cap) (goB a0.data.toList).1 := Kd.R_of_own hown (fun k hk e => hne (by rw [hk, e]))
 exact Kd.R_mono (Kd.R_alloc (Kd.R_far (Kd.R_far hR (fun k hk => hk) _) (fun k hk => hk) _) _) (fun _ _ => trivial)
end Go.Proofs.YtnjcpoojgmpmeaaGreatDoor.Plug
namespace Go.Proofs.YtnjcpoojgmpmeaaGreatDoor.PX
open RowKit YtnjcpoojgmpmeaaGreatDoorW.PrintWords YtnjcpoojgmpmeaaGreatDoorW.PrintLast YtnjcpoojgmpmeaaGreatDoorW.PrintMore YtnjcpoojgmpmeaaGreatDoor YtnjcpoojgmpmeaaGreatDoor.Plug
attribute [local go_sem] max2_int min2_int max_two min_two max_three min_three max_four min_four   -- for this text's walks alone
set_option linter.unusedVariables false
set_option linter.unusedSimpArgs false
attribute [local go_sem high] eqA143
def flow_isText.j0 : Nat → Int → ByteArray → Int → Bool → Option (Bool)
  | 0, _, _, _, _ => none
  | k + 1, x0, x1, x7, x8 => if x8 = true then ((plain_Resolve.f x1).bind fun t101 => (some (t101 == x0))) else (if x7 = 4 then ((utf_Decode.f x1).bind fun bt102 => (some (bt102.2.1 == 0 && (bt102.2.2 == 0)))) else (some (x1.toList == ([] : List UInt8))))
def flow_isText.f (k : Nat) (a0 : Int) (a1 : ByteArray) : Option (Bool) := if a0 = 2 then (flow_isText.j0 k a0 a1 a0 (a0 == 2)) else (flow_isText.j0 k a0 a1 a0 (a0 == 3))
theorem qea0_ {P : Prop} (h_ : P := by repeat (first | (with_reducible first | exact HB.out | apply below_alloc | apply pw_below_drewN | apply below_drew1) | exact HB.out)) : P := h_
theorem qea1_ {P : Prop} (h_ : P := by first | ((repeat (first | (with_reducible first | exact HB.out | apply below_alloc | apply pw_below_drewN | apply below_drew1 | (refine Glob.below_set ?_ (by assumption) _ _ _)) | exact HB.out)); done) | (refine Drawn0.below ?_; repeat (first | exact Drawn0.refl _ | assumption | apply Drawn0.step))) : P := h_
theorem qea2_ {P : Prop} (h_ : P := by first | rfl | (simp [errW_none, errW_some] <;> rfl) | (simp [*, errW_none, errW_some] <;> rfl)) : P := h_
theorem qea3_ {P : Prop} (h_ : P := by (try simp only [List.map_toArray, List.map_cons, List.map_nil]); first | done | rfl | (simp only [List.length_drop, List.length_take]; rfl)) : P := h_
set_option maxHeartbeats 8000000 in
set_option maxRecDepth 100000 in
theorem flow_isText.calls (k : Nat) (a0 : Int) (a1 : ByteArray) (r : Bool) (w : World) (hG : Glob.G w) (h : flow_isText.f k a0 a1 = some r) :
  Calls Tryz.prog 59 #[.int .i64 a0, .string a1] w fun e w' => e = .returned (.bool r) ∧ Below w.heap.size w w' := by
 have hu143 := Tryz.underlying143
 have HB := Aside0.mk (Below.refl w.heap.size w)
 have H : (if a0 = 2 then (flow_isText.j0 k a0 a1 a0 (a0 == 2)) else (flow_isText.j0 k a0 a1 a0 (a0 == 3))) = some r := h
 clear h
 have HC3 := Aside0.mk H
 clear H
 go_enter Tryz.func59, Tryz.ntmps59
 go_upto_if 8 with (fail)
 go_cut [8] (fun v8 wc => ∃ (kq : Nat) (x8_2 : Bool), v8 = .bool x8_2 ∧ Aside0 (flow_isText.j0 kq a0 a1 a0 x8_2 = some r) ∧ Aside0 (kq ≤ k) ∧ Aside0 (Below w.heap.size w wc))
 case first =>
  have H := HC3.out
  clear HC3
  by_cases c4 : a0 = 2
  rotate_left
  ·
   rw [if_neg c4] at H
   have c4b0 : (a0 == 2) = false := beq_eq_false_iff_ne.mpr c4
   have c4b1 : (a0 != 2) = true := bne_iff_ne.mpr c4
   (first | rw [c4b0] | (simp only [i64_w, i32_w]; rw [c4b0]) | skip)
   have H' := Aside0.mk H
   clear H
   go_wp2
   go_meet
   case rel => exact ⟨_, ((a0 == 3)), (by first | rfl | (simp; done) | (simp [*]; done)), H', ⟨by first | omega | exact Nat.le_refl _⟩, ⟨qea0_⟩⟩
  rw [if_pos c4] at H
  have c4b0 : (a0 == 2) = true := beq_iff_eq.mpr c4
  have c4b1 : (a0 != 2) = false := bne_eq_false_iff_eq.mpr c4
  clear c4
  (first | rw [c4b0] | (simp only [i64_w, i32_w]; rw [c4b0]) | skip)
  have H' := Aside0.mk H
  clear H
  go_wp2
  go_meet
  case rel => exact ⟨_, ((a0 == 2)), (by first | rfl | (simp; done) | (simp [*]; done)), H', ⟨by first | omega | exact Nat.le_refl _⟩, ⟨qea0_⟩⟩
 case rest =>
  clear HC3
  try clear p2
  try clear c4
  try clear c4b0
  try clear c4b1
  obtain ⟨kq, x8_2, rfl, HA, HJ2, HB⟩ := hcut
  cases kq with
  | zero => exact absurd HA.out (by simp [flow_isText.j0])
  | succ kj2 =>
   have H := HA.out
   clear HA
   simp only [flow_isText.j0] at H
   by_cases c5 : x8_2 = true
   ·
    subst c5
    have H1 : ((plain_Resolve.f a1).bind fun t101 => (some (t101 == a0))) = some r := by rw [if_pos rfl] at H; exact H
    clear H
    have H := H1
    clear H1
    replace H := Option.bind_eq_some_iff.mp H
    obtain ⟨t101, A60, H⟩ := H
    replace H : (some (t101 == a0)) = some r := H
    have A6 := Aside0.mk A60
    clear A60
    obtain rfl := Option.some.inj H
    go_wp2_with (first | ((with_reducible refine gate_callee (f := 76) rfl ?_); refine goesL_ (some 12) rfl rfl Tryz.func76 (by kernel_rfl) rfl #[.string a1] rfl (qea3_) ?_; (with_reducible refine (plain_Resolve.calls a1 t101 _ (hG.below (qea1_)) A6.out).mono ?_); rintro e w7 ⟨rfl, hb⟩; refine ⟨_, rfl, ?_⟩; have n0_ := Aside0.mk (below_step (qea0_) hb); clear HB; have HB := n0_; clear n0_; (try clear hb)))
    go_ret
    exact ⟨qea2_, qea0_⟩
   replace c5 := Bool.eq_false_iff.mpr c5
   subst c5
   have H1 : (if a0 = 4 then ((utf_Decode.f a1).bind fun bt102 => (some (bt102.2.1 == 0 && (bt102.2.2 == 0)))) else (some (a1.toList == ([] : List UInt8)))) = some r := by rw [if_neg (show ¬ (false = true) by decide)] at H; exact H
   clear H
   have H := H1
   clear H1
   by_cases c8 : a0 = 4
   rotate_left
   ·
    rw [if_neg c8] at H
    have c8b0 : (a0 == 4) = false := beq_eq_false_iff_ne.mpr c8
    have c8b1 : (a0 != 4) = true := bne_iff_ne.mpr c8
    obtain rfl := Option.some.inj H
    go_wp2
    go_ret
    exact ⟨qea2_, qea0_⟩
   rw [if_pos c8] at H
   have c8b0 : (a0 == 4) = true := beq_iff_eq.mpr c8
   have c8b1 : (a0 != 4) = false := bne_eq_false_iff_eq.mpr c8
   clear c8
   replace H := Option.bind_eq_some_iff.mp H
   obtain ⟨⟨t102, t105, t106⟩, A90, H⟩ := H
   replace H : (some (t105 == 0 && (t106 == 0))) = some r := H
   have A9 := Aside0.mk A90
   clear A90
   obtain rfl := Option.some.inj H
   go_wp2_with (first | ((with_reducible refine gate_callee (f := 77) rfl ?_); refine goesL_ (some 19) rfl rfl Tryz.func77 (by kernel_rfl) rfl #[.string a1] rfl (qea3_) ?_; (with_reducible refine (utf_Decode.calls a1 t102 t105 t106 _ (hG.below (qea1_)) A9.out).mono ?_); rintro e w10 ⟨v103, rfl, ho0, hb⟩; refine ⟨_, rfl, ?_⟩; have n0_ := Aside0.mk (Kd.R_lower ho0 (below_size (qea0_))); have n1_ := Aside0.mk (below_step (qea0_) hb); clear HB; have HO104 := n0_; have HB := n1_; clear n0_ n1_; (try clear hb); (try clear ho0)) | ((with_reducible refine gate_dst (N := 6) rfl ?_); refine box_event ?hg (N := 6) ?hd (cs := #[.int .i64 0, .int .i64 0]) (t := 143) ?hr ?_; (case hd => rfl); (case hg => rfl); (case hr => first | (go_simp; done) | (go_simp; rfl)); intro gb107 hg w11 hbox hb; have n0_ := Aside0.mk (Kd.R_below (by (with_reducible repeat (first | apply Kd.R_alloc | apply Kd.R_drewN | apply Kd.R_drew)); exact HO104.out) hb); have n1_ := Aside0.mk (below_step (qea0_) hb); have n2_ := Aside0.mk (hbox); have n3_ := Aside0.mk ((by rw [hg]; exact (below_size (qea0_)) : w.heap.size ≤ gb107)); have n4_ := Aside0.mk ((by rw [hg]; exact (below_size (qea0_)) : w.heap.size ≤ gb107)); clear HO104; clear HB; have HO104 := n0_; have HB := n1_; have BK107 := n2_; have GW107 := n3_; have GE107 := n4_; clear n0_ n1_ n2_ n3_ n4_; clear hb hbox hg; have hcz12_0 : w11.cell? ⟨gb107, 0, none⟩ = some (.int .i64 0) := (blk_cell BK107.out 0).trans rfl; have hcz12_1 : w11.cell? ⟨gb107, 1, none⟩ = some (.int .i64 0) := (blk_cell BK107.out 1).trans rfl; have hfz12_0 := blk_frozen BK107.out 0; have hfz12_1 := blk_frozen BK107.out 1))
   go_ret
   exact ⟨qea2_, by repeat (first | (with_reducible first | exact HB.out | apply below_alloc | apply pw_below_drewN | apply below_drew1 | refine below_set ?_ GE107.out) | exact HB.out)⟩
end Go.Proofs.YtnjcpoojgmpmeaaGreatDoor.PX
namespace Go.Proofs.YtnjcpoojgmpmeaaGreatDoor.PX
open RowKit YtnjcpoojgmpmeaaGreatDoorW.PrintWords YtnjcpoojgmpmeaaGreatDoorW.PrintLast YtnjcpoojgmpmeaaGreatDoorW.PrintMore YtnjcpoojgmpmeaaGreatDoor YtnjcpoojgmpmeaaGreatDoor.Plug
attribute [local go_sem] max2_int min2_int max_two min_two max_three min_three max_four min_four   -- for this text's walks alone
set_option linter.unusedVariables false
set_option linter.unusedSimpArgs false
def flow_Name.f (a0 : ByteArray) : Option (Bool) := if a0.toList = ([] : List UInt8) then (some false) else (if (a0.size : Int) ≤ 32 then ((strings_Trim.f a0 (⟨#[97, 98, 99, 100, 101, 102, 103, 104, 105, 106, 107, 108, 109, 110, 111, 112, 113, 114, 115, 116, 117, 118, 119, 120, 121, 122, 65, 66, 67, 68, 69, 70, 71, 72, 73, 74, 75, 76, 77, 78, 79, 80, 81, 82, 83, 84, 85, 86, 87, 88, 89, 90, 48, 49, 50, 51, 52, 53, 54, 55, 56, 57, 45, 95]⟩ : ByteArray)).bind fun t101 => (some (t101.toList == ([] : List UInt8)))) else (some false))
theorem qpa0_ {P : Prop} (h_ : P := by repeat (first | (with_reducible first | exact HB.out | apply below_alloc | apply pw_below_drewN | apply below_drew1) | exact HB.out)) : P := h_
theorem qpa1_ {P : Prop} (h_ : P := by first | rfl | (simp [errW_none, errW_some] <;> rfl) | (simp [*, errW_none, errW_some] <;> rfl)) : P := h_
set_option maxHeartbeats 8000000 in
set_option maxRecDepth 100000 in
theorem flow_Name.calls (a0 : ByteArray) (r : Bool) (w : World) (hG : Glob.G w) (h : flow_Name.f a0 = some r) :
  Calls Tryz.prog 60 #[.string a0] w fun e w' => e = .returned (.bool r) ∧ Below w.heap.size w w' := by
 have HB := Aside0.mk (Below.refl w.heap.size w)
 have H : (if a0.toList = ([] : List UInt8) then (some false) else (if (a0.size : Int) ≤ 32 then ((strings_Trim.f a0 (⟨#[97, 98, 99, 100, 101, 102, 103, 104, 105, 106, 107, 108, 109, 110, 111, 112, 113, 114, 115, 116, 117, 118, 119, 120, 121, 122, 65, 66, 67, 68, 69, 70, 71, 72, 73, 74, 75, 76, 77, 78, 79, 80, 81, 82, 83, 84, 85, 86, 87, 88, 89, 90, 48, 49, 50, 51, 52, 53, 54, 55, 56, 57, 45, 95]⟩ : ByteArray)).bind fun t101 => (some (t101.toList == ([] : List UInt8)))) else (some false))) = some r := h
 clear h
 by_cases c2 : a0.toList = ([] : List UInt8)
 ·
  rw [if_pos c2] at H
  have c2b0 : (a0.toList == ([] : List UInt8)) = true := beq_iff_eq.mpr c2
  have c2b1 : (a0.toList != ([] : List UInt8)) = false := bne_eq_false_iff_eq.mpr c2
  clear c2
  obtain rfl := Option.some.inj H
  go_enter Tryz.func60, Tryz.ntmps60
  go_wp2
  go_ret
  exact ⟨qpa1_, qpa0_⟩
 rw [if_neg c2] at H
 have c2b0 : (a0.toList == ([] : List UInt8)) = false := beq_eq_false_iff_ne.mpr c2
 have c2b1 : (a0.toList != ([] : List UInt8)) = true := bne_iff_ne.mpr c2
 by_cases c3 : (a0.size : Int) ≤ 32
 rotate_left
 ·
  rw [if_neg c3] at H
  have c3b0 : decide ((a0.size : Int) ≤ 32) = false := decide_eq_false c3
  have c3b1 : decide (a0.size ≤ 32) = false := decide_eq_false (by omega)
  clear c3
  obtain rfl := Option.some.inj H
  go_enter Tryz.func60, Tryz.ntmps60
  go_wp2
  go_ret
  exact ⟨qpa1_, qpa0_⟩
 rw [if_pos c3] at H
 have c3b0 : decide ((a0.size : Int) ≤ 32) = true := decide_eq_true c3
 have c3b1 : decide (a0.size ≤ 32) = true := decide_eq_true (by omega)
 clear c3
 replace H := Option.bind_eq_some_iff.mp H
 obtain ⟨t101, A40, H⟩ := H
 replace H : (some (t101.toList == ([] : List UInt8))) = some r := H
 have A4 := Aside0.mk A40
 clear A40
 obtain rfl := Option.some.inj H
 go_enter Tryz.func60, Tryz.ntmps60
 go_wp2_with (first | (go_at_call 78; (with_reducible refine (strings_Trim.calls a0 (⟨#[97, 98, 99, 100, 101, 102, 103, 104, 105, 106, 107, 108, 109, 110, 111, 112, 113, 114, 115, 116, 117, 118, 119, 120, 121, 122, 65, 66, 67, 68, 69, 70, 71, 72, 73, 74, 75, 76, 77, 78, 79, 80, 81, 82, 83, 84, 85, 86, 87, 88, 89, 90, 48, 49, 50, 51, 52, 53, 54, 55, 56, 57, 45, 95]⟩ : ByteArray) t101 _ (hG.below (by first | ((repeat (first | (with_reducible first | exact HB.out | apply below_alloc | apply pw_below_drewN | apply below_drew1 | (refine Glob.below_set ?_ (by assumption) _ _ _)) | exact HB.out)); done) | (refine Drawn0.below ?_; repeat (first | exact Drawn0.refl _ | assumption | apply Drawn0.step)))) A4.out).mono ?_); rintro e w5 ⟨rfl, hb⟩; have n0_ := Aside0.mk (below_step (qpa0_) hb); clear HB; have HB := n0_; clear n0_; (try clear hb)))
 go_ret
 exact ⟨qpa1_, qpa0_⟩
end Go.Proofs.YtnjcpoojgmpmeaaGreatDoor.PX
namespace Go.Proofs.YtnjcpoojgmpmeaaGreatDoor.PX
open RowKit YtnjcpoojgmpmeaaGreatDoorW.PrintWords YtnjcpoojgmpmeaaGreatDoorW.PrintLast YtnjcpoojgmpmeaaGreatDoorW.PrintMore YtnjcpoojgmpmeaaGreatDoor
attribute [local go_sem] max2_int min2_int max_two min_two max_three min_three max_four min_four   -- for this text's walks alone
set_option linter.unusedVariables false
set_option linter.unusedSimpArgs false
def flow_isScalar.f (a0 : Int) : Option (Bool) := if a0 ≥ 1 then (some (decide (a0 ≤ 4))) else (some false)
theorem qqa0_ {P : Prop} (h_ : P := by first | rfl | (simp; done) | (simp [*]; done) | (simp; generalize ByteArray.toList _ = l_; cases l_ <;> rfl)) : P := h_
set_option maxHeartbeats 8000000 in
set_option maxRecDepth 100000 in
theorem flow_isScalar.calls (a0 : Int) (r : Bool) (w : World) (hG : Glob.G w) (h : flow_isScalar.f a0 = some r) :
  Calls Tryz.prog 61 #[.int .i64 a0] w fun e w' => e = .returned (.bool r) ∧ Drawn0 w w' := by
 have H : (if a0 ≥ 1 then (some (decide (a0 ≤ 4))) else (some false)) = some r := h
 clear h
 by_cases c2 : a0 ≥ 1
 ·
  rw [if_pos c2] at H
  have c2b0 : decide (1 ≤ a0) = true := decide_eq_true c2
  clear c2
  obtain rfl := Option.some.inj H
  go_enter Tryz.func61, Tryz.ntmps61
  go_wp2
  go_ret
  exact ⟨qqa0_, by repeat (first | exact Drawn0.refl _ | apply Drawn0.step)⟩
 rw [if_neg c2] at H
 have c2b0 : decide (1 ≤ a0) = false := decide_eq_false c2
 clear c2
 obtain rfl := Option.some.inj H
 go_enter Tryz.func61, Tryz.ntmps61
 go_wp2
 go_ret
 exact ⟨qqa0_, by repeat (first | exact Drawn0.refl _ | apply Drawn0.step)⟩
end Go.Proofs.YtnjcpoojgmpmeaaGreatDoor.PX
