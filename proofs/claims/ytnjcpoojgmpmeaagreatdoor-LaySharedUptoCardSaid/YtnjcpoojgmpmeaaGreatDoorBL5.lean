/- Texts that stand behind one another, laid into one: what this claim needs of them. -/
import Derived.Test.YtnjcpoojgmpmeaaGreatDoorBL0
import Derived.Deep.Slices
import Derived.Deep.Fields
import Derived.ChangeSame
import Derived.Test.YtnjcpoojgmpmeaaGreatDoorBL3
import Derived.Test.YtnjcpoojgmpmeaaGreatDoorBL2
import Derived.Test.YtnjcpoojgmpmeaaGreatDoorBL4
namespace Go.Proofs.YtnjcpoojgmpmeaaGreatDoor.Opened
open Go.ChangeShapes Go.WideShapes Go.Deep RowKit YtnjcpoojgmpmeaaGreatDoor.PX YtnjcpoojgmpmeaaGreatDoorW.PrintWords YtnjcpoojgmpmeaaGreatDoorW.PrintLast
def Opens {α : Type} (d : Kd α) (t : TypeId) (good : α → Prop) (bulk : α → Nat) : Prop :=
  ∀ (H : Type) (enc : TypeId × Value → H) (w : World) (base : Nat) (sp : Nat → Bool) (held : Bool) (fuel : Nat) (cs : List Value) (x : DataW H × List MemPlace), DataW.trod enc Tryz.prog w base sp held fuel t cs = some x → ∃ a, d.K w a cs ∧ good a ∧ bulk a ≤ Rows.uptoBulk x.1
theorem opens_int {t : TypeId} {k : IntKind} (ht : Tryz.prog.underlying t = some (.int k)) : Opens (Kd.int k) t (fun a => (Lit.int k a).wf = true) (fun _ => 1) := by
 intro H enc w base sp held fuel cs x h
 obtain ⟨n, rfl, rfl, hw⟩ := DataW.trod_int ht h
 exact ⟨n, rfl, hw, by simp [Rows.uptoBulk]⟩
theorem choose_list {α : Type} {Q : Nat → α → Prop} : ∀ n : Nat, (∀ i, i < n → ∃ x, Q i x) → ∃ xs : List α, xs.length = n ∧ ∀ i x, xs[i]? = some x → Q i x
 | 0, _ => ⟨[], rfl, fun i x h => by simp at h⟩
 | n + 1, h => by
  obtain ⟨xs, hl, hq⟩ := choose_list n (fun i hi => h i (by omega))
  obtain ⟨y, hy⟩ := h n (by omega)
  refine ⟨xs ++ [y], by simp [hl], fun i x hx => ?_⟩
  by_cases hi : i < n
  · rw [List.getElem?_append_left (by omega)] at hx; exact hq i x hx
  rw [List.getElem?_append_right (by omega)] at hx
  have : i - xs.length = 0 := by
   by_cases h0 : i - xs.length = 0
   · exact h0
   rw [List.getElem?_eq_none (by simp; omega)] at hx; cases hx
  rw [this] at hx
  cases Option.some.inj hx
  rw [show i = n by omega]; exact hy
def bulkL {α : Type} (bulk : α → Nat) : List α → Nat
 | [] => 0
 | x :: xs => bulk x + bulkL bulk xs
theorem bulkAll_append {H : Type} : ∀ a b : List (DataW H), Rows.uptoBulkAll (a ++ b) = Rows.uptoBulkAll a + Rows.uptoBulkAll b
 | [], b => by simp [Rows.uptoBulkAll]
 | x :: a, b => by rw [List.cons_append, Rows.uptoBulkAll, Rows.uptoBulkAll, bulkAll_append a b]; omega
theorem bulkL_append {α : Type} (bulk : α → Nat) : ∀ a b : List α, bulkL bulk (a ++ b) = bulkL bulk a + bulkL bulk b
 | [], b => by simp [bulkL]
 | x :: a, b => by rw [List.cons_append, bulkL, bulkL, bulkL_append bulk a b]; omega
theorem bulk_range {α H : Type} (bulk : α → Nat) (D : Nat → DataW H) : ∀ (n : Nat) (xs : List α), xs.length = n → (∀ i x, xs[i]? = some x → bulk x ≤ Rows.uptoBulk (D i)) → bulkL bulk xs ≤ Rows.uptoBulkAll ((List.range n).map D)
  | 0, xs, hl, _ => by have : xs = [] := List.eq_nil_of_length_eq_zero hl; subst this; simp [bulkL]
  | n + 1, xs, hl, h => by
    have hne : xs ≠ [] := fun e => by subst e; simp at hl
    have hx := List.dropLast_concat_getLast hne
    have h1 := bulk_range bulk D n xs.dropLast (by simp [hl]) (fun i x hi => h i x (by
      have := List.getElem?_eq_some_iff.1 hi
      obtain ⟨hlt, e⟩ := this
      rw [List.getElem_dropLast] at e
      rw [List.getElem?_eq_getElem (by simp at hlt; omega), e]))
    have h2 := h n (xs.getLast hne) (by rw [List.getLast_eq_getElem, List.getElem?_eq_getElem (by omega)]; simp [hl])
    rw [← hx, bulkL_append, List.range_succ, List.map_append, bulkAll_append]
    simp only [bulkL, List.map_cons, List.map_nil, Rows.uptoBulkAll]
    omega
theorem opens_slice {α : Type} {d : Kd α} {e t : TypeId} {good : α → Prop} {bulk : α → Nat} (hd : Opens d e good bulk) (ht : Tryz.prog.underlying t = some (.slice e)) (hs : Tryz.prog.cellsOf e = d.sz) :
    Opens (Kd.slice e d) t (fun xs => ∀ x ∈ xs, good x) (fun xs => bulkL bulk xs + 1) := by
  intro H enc w base sp held fuel cs x h
  rcases open_slice ht h with ⟨rfl, rfl⟩ | ⟨a, len, cap, m, n, D, Pl, rfl, hb, hl, hm, hmm, rfl, hi⟩
  · exact ⟨[], ⟨none, 0, rfl, Nat.le_refl _, Kd.C_nil _ _⟩, by simp, by simp [bulkL, Rows.uptoBulk]⟩
  · have hlm : len ≤ m := by rw [hmm]; split <;> omega
    obtain ⟨xs, hxl, hxs⟩ := choose_list (Q := fun i x => ∃ cs', w.cells? base (a.add (i * Tryz.prog.cellsOf e)) (Tryz.prog.cellsOf e) = some cs' ∧ d.K w x cs' ∧ good x ∧ bulk x ≤ Rows.uptoBulk (D i)) len (fun i hil => by
      obtain ⟨cs', hc, htr⟩ := hi i (by omega)
      obtain ⟨y, hy, hg, hbk⟩ := hd H enc w base sp held n cs' _ htr
      exact ⟨y, cs', hc, hy, hg, hbk⟩)
    refine ⟨xs, ⟨some a, cap, by rw [hxl], by omega, ⟨rfl, by unfold maxLen at hm; omega, fun _ => ⟨a, rfl, fun j p hj => ?_⟩⟩⟩, fun y hy => ?_, ?_⟩
    · obtain ⟨cs', hc, hk, _, _⟩ := hxs j p hj
      rw [hs] at hc
      obtain ⟨_, hcl, hat⟩ := World.cells?_some hc
      refine ⟨cs', hcl, hk, fun i u hu => ?_⟩
      have hlt : i < d.sz := by rw [← hcl]; exact (List.getElem?_eq_some_iff.1 hu).1
      rw [← Go.Deep.add_add, hat i hlt]; exact hu
    · obtain ⟨i, hil, e1⟩ := List.getElem_of_mem hy
      obtain ⟨_, _, _, hg, _⟩ := hxs i y (by rw [List.getElem?_eq_getElem hil, e1])
      exact hg
    · have := bulk_range bulk D len xs hxl (fun i y hy => (hxs i y hy).choose_spec.2.2.2)
      simp only [Rows.uptoBulk]
      omega
theorem three_cells {α : Type} {cs : List α} {a b c : α} (hl : cs.length = 3) (h0 : (cs.drop 0).take 1 = [a]) (h1 : (cs.drop 1).take 1 = [b]) (h2 : (cs.drop 2).take 1 = [c]) : cs = [a, b, c] := by
 match cs, hl with
 | [x, y, z], _ => simp at h0 h1 h2; rw [h0, h1, h2]
abbrev goodNode (x : S45) : Prop := (Lit.int .i64 x.f0).wf = true ∧ ∀ k ∈ x.f2, (Lit.int .i64 k).wf = true
abbrev bulkNode (x : S45) : Nat := x.f1.size + x.f2.length + 4
theorem bulk_ones {α : Type} : ∀ l : List α, bulkL (fun _ => 1) l = l.length
 | [] => rfl
 | x :: l => by rw [bulkL, bulk_ones l, List.length_cons]; omega
theorem opens_ints : Opens (Kd.slice 3 (Kd.int .i64)) 40 (fun xs => ∀ x ∈ xs, (Lit.int .i64 x).wf = true) (fun xs => bulkL (fun _ => 1) xs + 1) :=
  opens_slice (opens_int Tryz.underlying3) Tryz.underlying40 (by kernel_rfl)
set_option maxRecDepth 100000 in
theorem opens_node : Opens k45 45 goodNode bulkNode := by
 intro H enc w base sp held fuel cs x h
 obtain ⟨xs, n, _, rfl, hl, hlen, hf⟩ := DataW.trod_struct Tryz.underlying45 h
 have h0 := hf 0 _ rfl
 have h1 := hf 1 _ rfl
 have h2 := hf 2 _ rfl
 match xs, hlen with
 | [y0, y1, y2], _ =>
  obtain ⟨i, e0, rfl, hw⟩ := DataW.trod_int Tryz.underlying3 h0
  obtain ⟨s, e1, rfl, _⟩ := DataW.trod_string Tryz.underlying9 h1
  obtain ⟨ks, ⟨A, c, e2, hc, hC⟩, hg, hb⟩ := opens_ints H enc w base sp held n _ _ h2
  obtain rfl := three_cells (hl.trans (by kernel_rfl)) e0 e1 e2
  refine ⟨⟨i, s, ks⟩, k45_mk w ⟨i, s, ks⟩ hc hC, ⟨hw, hg⟩, ?_⟩
  replace hb : bulkL (fun _ => 1) ks + 1 ≤ _ := hb
  rw [bulk_ones] at hb
  simp only [Rows.uptoBulk, Rows.uptoBulkAll, List.map_cons, List.map_nil, bulkNode]
  have : s.data.toList.length = s.size := by simp
  omega
abbrev goodGraph (x : List S45 × Int) : Prop := (∀ n ∈ x.1, goodNode n) ∧ (Lit.int .i64 x.2).wf = true
abbrev bulkGraph (x : List S45 × Int) : Nat := bulkL bulkNode x.1 + 2
theorem two_cells {α : Type} {cs : List α} {a b : α} (hl : cs.length = 2) (h0 : (cs.drop 0).take 1 = [a]) (h1 : (cs.drop 1).take 1 = [b]) : cs = [a, b] := by
 match cs, hl with
 | [x, y], _ => simp at h0 h1; rw [h0, h1]
theorem opens_nodes : Opens (Kd.slice 45 k45) 22 (fun xs => ∀ x ∈ xs, goodNode x) (fun xs => bulkL bulkNode xs + 1) :=
  opens_slice opens_node Tryz.underlying22 (by kernel_rfl)
set_option maxRecDepth 100000 in
theorem opens_graph (H : Type) (enc : TypeId × Value → H) (w : World) (base : Nat) (sp : Nat → Bool) (held : Bool) (fuel : Nat) (cs : List Value) (x : DataW H × List MemPlace) (h : DataW.trod enc Tryz.prog w base sp held fuel 24 cs = some x) :
  ∃ l root A c, cs = [.slice A l.length c, .int .i64 root] ∧ l.length ≤ c ∧ Kd.C k45 w A l.length l ∧ goodGraph (l, root) ∧ bulkGraph (l, root) ≤ Rows.uptoBulk x.1 := by
 obtain ⟨xs, n, _, rfl, hl, hlen, hf⟩ := DataW.trod_struct Tryz.underlying24 h
 have h0 := hf 0 _ rfl
 have h1 := hf 1 _ rfl
 match xs, hlen with
 | [y0, y1], _ =>
  obtain ⟨l, ⟨A, c, e0, hc, hC⟩, hg, hb⟩ := opens_nodes H enc w base sp held n _ _ h0
  obtain ⟨i, e1, rfl, hw⟩ := DataW.trod_int Tryz.underlying3 h1
  obtain rfl := two_cells (hl.trans (by kernel_rfl)) e0 e1
  refine ⟨l, i, A, c, rfl, hc, hC, ⟨hg, hw⟩, ?_⟩
  replace hb : bulkL bulkNode l + 1 ≤ _ := hb
  simp only [Rows.uptoBulk, Rows.uptoBulkAll, List.map_cons, List.map_nil, bulkGraph]
  omega
theorem nodes_bulk : ∀ l : List S45, (∀ n ∈ l, n.f1.size + n.f2.length ≤ bulkL bulkNode l) ∧ l.length + (l.map fun n => n.f2.length).sum ≤ bulkL bulkNode l
 | [] => ⟨by simp, by simp [bulkL]⟩
 | m :: l => by
  obtain ⟨h1, h2⟩ := nodes_bulk l
  have hb : bulkL bulkNode (m :: l) = m.f1.size + m.f2.length + 4 + bulkL bulkNode l := rfl
  refine ⟨fun n hn => ?_, ?_⟩
  ·
   rcases List.mem_cons.1 hn with e | e
   · subst e; omega
   · have := h1 n e; omega
  · rw [List.map_cons, List.sum_cons, List.length_cons]; omega
end Go.Proofs.YtnjcpoojgmpmeaaGreatDoor.Opened
namespace Go.Proofs.YtnjcpoojgmpmeaaGreatDoor.PX
open RowKit YtnjcpoojgmpmeaaGreatDoorW.PrintWords YtnjcpoojgmpmeaaGreatDoorW.PrintLast YtnjcpoojgmpmeaaGreatDoorW.PrintMore YtnjcpoojgmpmeaaGreatDoor
attribute [local go_sem] max2_int min2_int max_two min_two max_three min_three max_four min_four   -- for this text's walks alone
set_option linter.unusedVariables false
set_option linter.unusedSimpArgs false
def grommetlaw14_large.l0 : Nat → Int → List (S45) → Int → Int → List (S45) → Int → Option (Bool)
  | 0, _, _, _, _, _, _ => none
  | k + 1, x3, x12, x13, x14, x102000, x102001 => if x14 < x13 then (if 0 ≤ x14 then (if x14 < (x12.length : Int) then (grommetlaw14_large.l0 k (wrap64 (x3 + ((mn (((rd_T45 x12 x14).f2).length : Int) 2000) + (mn (((rd_T45 x12 x14).f1).size : Int) 2000)))) x12 x13 (wrap64 (x14 + 1)) x102000 x102001) else (none)) else (none)) else (if (x102000.length : Int) > 200 then (if (x102000.length : Int) ≤ 4096 then (some true) else (some (decide (x3 > 1200)))) else (some (decide (x3 > 1200))))
def grommetlaw14_large.f (k : Nat) (l0_0 : List (S45)) (a0_1 : Int) : Option (Bool) := if 0 ≤ (mn (l0_0.length : Int) 200) then (if (mn (l0_0.length : Int) 200) ≤ (l0_0.length : Int) then ((some (l0_0.take ((mn (l0_0.length : Int) 200) : Int).toNat : List (S45))).bind fun y102 => (grommetlaw14_large.l0 k 0 y102 (y102.length : Int) 0 l0_0 a0_1)) else (none)) else (none)
theorem qwa0_ {P : Prop} (h_ : P := by repeat (first | (with_reducible first | exact HB.out | apply below_alloc | apply pw_below_drewN | apply below_drew1 | refine below_set ?_ GE101.out) | exact HB.out)) : P := h_
theorem qwa1_ {P : Prop} (h_ : P := by (with_reducible repeat (first | refine blk_drewN ?_ _ | refine blk_drew ?_ | refine blk_alloc ?_ _)); exact BK101.out) : P := h_
theorem qwa2_ {P : Prop} (h_ : P := by first | rfl | (simp [errW_none, errW_some] <;> rfl) | (simp only [← hji2]; first | rfl | (simp [errW_none, errW_some] <;> rfl)) | (simp [*, errW_none, errW_some] <;> rfl)) : P := h_
theorem qwa3_ {P : Prop} (h_ : P := by repeat (first | (with_reducible first | exact HB.out | apply below_alloc | apply pw_below_drewN | apply below_drew1) | exact HB.out)) : P := h_
theorem qwa4_ {P : Prop} (h_ : P := by first | (with_reducible assumption) | assumption) : P := h_
set_option maxHeartbeats 8000000 in
set_option maxRecDepth 100000 in
theorem grommetlaw14_large.calls (k : Nat) (A0_0 : Option Addr) (c0_0 : Nat) (l0_0 : List (S45)) (a0_1 : Int) (r : Bool) (w : World) (hr0_0 : Kd.C k45 w A0_0 l0_0.length l0_0) (hc0_0 : l0_0.length ≤ c0_0) (hG : Glob.G w) (h : grommetlaw14_large.f k l0_0 a0_1 = some r) :
  Calls Tryz.prog 9 #[.agg #[.slice A0_0 l0_0.length c0_0, .int .i64 a0_1]] w fun e w' => e = .returned (.bool r) ∧ Below w.heap.size w w' := by
 have hu24 := Tryz.underlying24
 have hu45 := Tryz.underlying45
 have HR0_0 := Aside0.mk hr0_0
 have HC0_0 := Aside0.mk hc0_0
 clear hr0_0 hc0_0
 have HB := Aside0.mk (Below.refl w.heap.size w)
 have H : (if 0 ≤ (mn (l0_0.length : Int) 200) then (if (mn (l0_0.length : Int) 200) ≤ (l0_0.length : Int) then ((some (l0_0.take ((mn (l0_0.length : Int) 200) : Int).toNat : List (S45))).bind fun y102 => (grommetlaw14_large.l0 k 0 y102 (y102.length : Int) 0 l0_0 a0_1)) else (none)) else (none)) = some r := h
 clear h
 obtain ⟨ji2, hji2⟩ : ∃ j_ : Int, (mn (l0_0.length : Int) 200) = j_ := ⟨_, rfl⟩
 replace H : (if 0 ≤ (ji2) then (if (ji2) ≤ (l0_0.length : Int) then ((some (l0_0.take ((ji2) : Int).toNat : List (S45))).bind fun y102 => (grommetlaw14_large.l0 k 0 y102 (y102.length : Int) 0 l0_0 a0_1)) else (none)) else (none)) = some r := by first | (rw [hji2] at H; exact H) | (simp only [hji2] at H ⊢; exact H)
 (try (have hji2h : ji2 ≤ 200 := by (rw [← hji2]; unfold mn; (repeat' split) <;> omega)))
 (try (have hji2g : ji2 ≤ 64 := by omega))
 (try (have hji2l : 0 ≤ ji2 := by (rw [← hji2]; unfold mn; (repeat' split) <;> omega)))
 (try (have hji2m : 0 ≤ ji2 := by omega))
 have hji2_ : (if 200 < (l0_0.length : Int) then 200 else (l0_0.length : Int)) = ji2 := hji2
 by_cases c3 : 0 ≤ (ji2)
 rotate_left
 ·
  rw [if_neg c3] at H
  exact absurd H (by simp)
 rw [if_pos c3] at H
 have c3b0 := eq_true c3
 have c3b1 : decide (0 ≤ (ji2)) = true := decide_eq_true c3
 clear c3
 by_cases c4 : (ji2) ≤ (l0_0.length : Int)
 rotate_left
 ·
  rw [if_neg c4] at H
  exact absurd H (by simp)
 rw [if_pos c4] at H
 have c4b0 := eq_true c4
 have c4b1 : decide ((ji2) ≤ (l0_0.length : Int)) = true := decide_eq_true c4
 clear c4
 obtain ⟨y102, hy102⟩ : ∃ y_ : List (S45), y_ = (l0_0.take ((ji2) : Int).toNat) := ⟨_, rfl⟩
 replace H : (grommetlaw14_large.l0 k 0 y102 (y102.length : Int) 0 l0_0 a0_1) = some r := by first | (rw [hy102]; with_reducible exact H) | (have H2_ := (Option.bind_some _ _).symm.trans H; rw [hy102]; with_reducible exact H2_) | (have H2_ := (Option.bind_some _ _).symm.trans H; with_reducible exact H2_) | with_reducible exact H | (rw [hy102]; exact H) | exact H
 have Ny102 := Aside0.mk hy102
 clear hy102
 have H' := Aside0.mk H
 clear H
 go_enter Tryz.func9, Tryz.ntmps9
 go_wp2_with (first | ((with_reducible refine gate_dst (N := 1) rfl ?_); (try (refine gate_guard (by rfl) ?_; dsimp only)); refine box_event ?hg (N := 1) ?hd (cs := #[.slice A0_0 l0_0.length c0_0, .int .i64 a0_1]) (t := 24) ?hr ?_; (case hd => rfl); (case hg => rfl); (case hr => first | (go_simp; done) | (go_simp; rfl)); intro gb101 hg w5 hbox hb; have n0_ := Aside0.mk (below_step (qwa3_) hb); have n1_ := Aside0.mk (hbox); have n2_ := Aside0.mk ((by rw [hg]; exact (below_size (qwa3_)) : w.heap.size ≤ gb101)); have n3_ := Aside0.mk ((by rw [hg]; exact (below_size (qwa3_)) : w.heap.size ≤ gb101)); clear HB; have HB := n0_; have BK101 := n1_; have GW101 := n2_; have GE101 := n3_; clear n0_ n1_ n2_ n3_; clear hb hbox hg; have hcz6_0 : w5.cell? ⟨gb101, 0, none⟩ = some (.slice A0_0 l0_0.length c0_0) := (blk_cell BK101.out 0).trans rfl; have hcz6_1 : w5.cell? ⟨gb101, 1, none⟩ = some (.int .i64 a0_1) := (blk_cell BK101.out 1).trans rfl; have hfz6_0 := blk_frozen BK101.out 0; have hfz6_1 := blk_frozen BK101.out 1; have q7 : ((ji2) : Int) ≤ ((l0_0.length : Int) : Int) := of_decide_eq_true (qwa4_); obtain ⟨i07, hi07, _, hsz7, _⟩ := info_parts info45; have hroom7 : l0_0.length ≤ c0_0 := HC0_0.out; have hC7 : Kd.C k45 _ A0_0 l0_0.length l0_0 := HR0_0.out; have hcut7 := cut_to (P := Tryz.prog) 22 45 .i64 Tryz.underlying22 hi07 A0_0 l0_0.length c0_0 (ji2) (of_decide_eq_true (qwa4_)) q7 hroom7; have hr7 := Kd.C_take (m := ((ji2) : Int).toNat) hC7 (by omega); have hy7 : y102.length = ((ji2) : Int).toNat := (by rw [Ny102.out, List.length_take]; omega); rw [← Ny102.out] at hr7; rw [← hy7] at hcut7; have HR105 := Aside0.mk hr7; have HC105 := Aside0.mk (show y102.length ≤ c0_0 from by omega); clear hr7 hC7 hroom7 hi07 hsz7; have KY7 := Aside0.mk hy7; clear hy7; replace q7 := eq_true q7))
 go_loopg [3, 14] k (fun kq v3 v14 w' => ∃ (x3_1 : Int) (x14_1 : Int), v3 = .int .i64 x3_1 ∧ v14 = .int .i64 x14_1 ∧ Aside0 (grommetlaw14_large.l0 kq x3_1 y102 (y102.length : Int) x14_1 l0_0 a0_1 = some r) ∧ Aside0 (kq ≤ k) ∧ Aside0 (w'.heap[gb101]? = some (.cells #[(.slice A0_0 l0_0.length c0_0), .int .i64 a0_1] 24 (0, 0))) ∧ Aside0 (Below w.heap.size w w'))
 case atStart => exact ⟨(0), (0), (by first | rfl | (simp; done) | (simp [*]; done)), (by first | rfl | (simp; done) | (simp [*]; done)), H', ⟨Nat.le_refl _⟩, ⟨qwa1_⟩, ⟨qwa0_⟩⟩
 case round =>
  clear H'
  try clear p2
  try clear c3
  try clear c3b0
  try clear c3b1
  try clear c4
  try clear c4b0
  try clear c4b1
  try clear q7
  try clear hcz6_0
  try clear hcz6_1
  try clear hfz6_0
  try clear hfz6_1
  try clear q7
  obtain ⟨x3_1, x14_1, rfl, rfl, HA, HK1, BK101, HB⟩ := hrel
  cases gk with
  | zero => exact absurd HA.out (by simp [grommetlaw14_large.l0])
  | succ k1 =>
   have H := HA.out
   clear HA
   simp only [grommetlaw14_large.l0] at H
   by_cases c8 : x14_1 < (y102.length : Int)
   rotate_left
   ·
    rw [if_neg c8] at H
    have c8b0 : decide (x14_1 < (y102.length : Int)) = false := decide_eq_false c8
    clear c8
    by_cases c16 : (l0_0.length : Int) > 200
    rotate_left
    ·
     rw [if_neg c16] at H
     have c16b0 : decide (200 < (l0_0.length : Int)) = false := decide_eq_false c16
     have c16b1 : decide (200 < l0_0.length) = false := decide_eq_false (by omega)
     clear c16
     obtain rfl := Option.some.inj H
     have hcz20_0 : wr.cell? ⟨gb101, 0, none⟩ = some (.slice A0_0 l0_0.length c0_0) := (blk_cell BK101.out 0).trans rfl
     have hcz20_1 : wr.cell? ⟨gb101, 1, none⟩ = some (.int .i64 a0_1) := (blk_cell BK101.out 1).trans rfl
     have hfz20_0 := blk_frozen BK101.out 0
     have hfz20_1 := blk_frozen BK101.out 1
     go_wp2
     go_ret
     exact ⟨qwa2_, qwa0_⟩
    rw [if_pos c16] at H
    have c16b0 : decide (200 < (l0_0.length : Int)) = true := decide_eq_true c16
    have c16b1 : decide (200 < l0_0.length) = true := decide_eq_true (by omega)
    clear c16
    by_cases c17 : (l0_0.length : Int) ≤ 4096
    ·
     rw [if_pos c17] at H
     have c17b0 : decide ((l0_0.length : Int) ≤ 4096) = true := decide_eq_true c17
     have c17b1 : decide (l0_0.length ≤ 4096) = true := decide_eq_true (by omega)
     clear c17
     obtain rfl := Option.some.inj H
     have hcz18_0 : wr.cell? ⟨gb101, 0, none⟩ = some (.slice A0_0 l0_0.length c0_0) := (blk_cell BK101.out 0).trans rfl
     have hcz18_1 : wr.cell? ⟨gb101, 1, none⟩ = some (.int .i64 a0_1) := (blk_cell BK101.out 1).trans rfl
     have hfz18_0 := blk_frozen BK101.out 0
     have hfz18_1 := blk_frozen BK101.out 1
     go_wp2
     go_ret
     exact ⟨qwa2_, qwa0_⟩
    rw [if_neg c17] at H
    have c17b0 : decide ((l0_0.length : Int) ≤ 4096) = false := decide_eq_false c17
    have c17b1 : decide (l0_0.length ≤ 4096) = false := decide_eq_false (by omega)
    clear c17
    obtain rfl := Option.some.inj H
    have hcz19_0 : wr.cell? ⟨gb101, 0, none⟩ = some (.slice A0_0 l0_0.length c0_0) := (blk_cell BK101.out 0).trans rfl
    have hcz19_1 : wr.cell? ⟨gb101, 1, none⟩ = some (.int .i64 a0_1) := (blk_cell BK101.out 1).trans rfl
    have hfz19_0 := blk_frozen BK101.out 0
    have hfz19_1 := blk_frozen BK101.out 1
    go_wp2
    go_ret
    exact ⟨qwa2_, qwa0_⟩
   rw [if_pos c8] at H
   have c8b0 : decide (x14_1 < (y102.length : Int)) = true := decide_eq_true c8
   clear c8
   by_cases c9 : 0 ≤ x14_1
   rotate_left
   ·
    rw [if_neg c9] at H
    exact absurd H (by simp)
   rw [if_pos c9] at H
   have c9b0 : decide (0 ≤ x14_1) = true := decide_eq_true c9
   clear c9
   by_cases c10 : x14_1 < (y102.length : Int)
   rotate_left
   · exact absurd (of_decide_eq_true c8b0) c10
   rw [if_pos c10] at H
   have c10b0 : decide (x14_1 < (y102.length : Int)) = true := decide_eq_true c10
   clear c10
   obtain ⟨ji11, hji11⟩ : ∃ j_ : Int, (mn (((rd_T45 y102 x14_1).f2).length : Int) 2000) = j_ := ⟨_, rfl⟩
   replace H : (grommetlaw14_large.l0 k1 (wrap64 (x3_1 + ((ji11) + (mn (((rd_T45 y102 x14_1).f1).size : Int) 2000)))) y102 (y102.length : Int) (wrap64 (x14_1 + 1)) l0_0 a0_1) = some r := by first | (rw [hji11] at H; exact H) | (simp only [hji11] at H ⊢; exact H)
   have hji11_ : (if 2000 < (((rd_T45 y102 x14_1).f2).length : Int) then 2000 else (((rd_T45 y102 x14_1).f2).length : Int)) = ji11 := hji11
   obtain ⟨ji12, hji12⟩ : ∃ j_ : Int, (mn (((rd_T45 y102 x14_1).f1).size : Int) 2000) = j_ := ⟨_, rfl⟩
   replace H : (grommetlaw14_large.l0 k1 (wrap64 (x3_1 + ((ji11) + (ji12)))) y102 (y102.length : Int) (wrap64 (x14_1 + 1)) l0_0 a0_1) = some r := by first | (rw [hji12] at H; exact H) | (simp only [hji12] at H ⊢; exact H)
   have hji12_ : (if 2000 < (((rd_T45 y102 x14_1).f1).size : Int) then 2000 else (((rd_T45 y102 x14_1).f1).size : Int)) = ji12 := hji12
   have H' := Aside0.mk H
   clear H
   have p106 : 0 ≤ (x14_1 : Int) := of_decide_eq_true (qwa4_)
   have q106 : x14_1 < (y102.length : Int) := of_decide_eq_true (qwa4_)
   obtain ⟨ad106, A106_2, c106_2, e106, hx106_0, hx106_1, hx106_2, hl106_2, hi106_2⟩ := at_T45 HR105.out x14_1 p106 q106
   have KX106_2 := Aside0.mk hx106_2
   cases e106
   replace hx106_0 := (HB.out.cell (World.block_lt_of_cell? w _ hx106_0)).trans hx106_0
   replace hx106_1 := (HB.out.cell (World.block_lt_of_cell? w _ hx106_1)).trans hx106_1
   replace hx106_2 := (HB.out.cell (World.block_lt_of_cell? w _ hx106_2)).trans hx106_2
   have HR106_2 := Aside0.mk hi106_2
   have HC106_2 := Aside0.mk hl106_2
   clear hi106_2 hl106_2
   replace p106 := eq_true p106
   replace q106 := eq_true q106
   go_wp2_with (first | ((with_reducible refine gate_dst (N := 5) rfl ?_); (try (refine gate_guard (by rfl) ?_; dsimp only)); refine box_event ?hg (N := 5) ?hd (cs := #[.int .i64 0, .string (⟨#[]⟩ : ByteArray), .slice none 0 0]) (t := 45) ?hr ?_; (case hd => rfl); (case hg => rfl); (case hr => first | (go_simp; done) | (go_simp; rfl)); intro gb107 hg w13 hbox hb; have n0_ := Aside0.mk (blk_below (g := gb101) (o := .cells #[.slice (some ad106) l0_0.length c0_0, .int .i64 a0_1] 24 (0, 0)) (qwa1_) hb); have n1_ := Aside0.mk (below_step (qwa0_) hb); have n2_ := Aside0.mk (hbox); have n3_ := Aside0.mk ((by rw [hg]; exact (below_size (qwa0_)) : w.heap.size ≤ gb107)); have n4_ := Aside0.mk ((by rw [hg]; exact (below_size (qwa0_)) : w.heap.size ≤ gb107)); have n5_ := Aside0.mk ((by rw [hg]; exact Nat.ne_of_lt (blk_lt (g := gb101) (o := .cells #[.slice (some ad106) l0_0.length c0_0, .int .i64 a0_1] 24 (0, 0)) (qwa1_)) : gb101 ≠ gb107)); have n6_ := Aside0.mk ((by rw [hg]; exact Nat.ne_of_gt (blk_lt (g := gb101) (o := .cells #[.slice (some ad106) l0_0.length c0_0, .int .i64 a0_1] 24 (0, 0)) (qwa1_)) : gb107 ≠ gb101)); clear BK101; clear HB; have BK101 := n0_; have HB := n1_; have BK107 := n2_; have GW107 := n3_; have GE107 := n4_; have NB101_107 := n5_; have NB107_101 := n6_; clear n0_ n1_ n2_ n3_ n4_ n5_ n6_; clear hb hbox hg; have hnb14 := NB107_101.out; have hnc14 := NB101_107.out; have hcz15_0 : w13.cell? ⟨gb107, 0, none⟩ = some (.int .i64 0) := (blk_cell BK107.out 0).trans rfl; have hcz15_1 : w13.cell? ⟨gb107, 1, none⟩ = some (.string (⟨#[]⟩ : ByteArray)) := (blk_cell BK107.out 1).trans rfl; have hcz15_2 : w13.cell? ⟨gb107, 2, none⟩ = some (.slice none 0 0) := (blk_cell BK107.out 2).trans rfl; have hfz15_0 := blk_frozen BK107.out 0; have hfz15_1 := blk_frozen BK107.out 1; have hfz15_2 := blk_frozen BK107.out 2))
   go_roundg k1
   case measure => have := HK1.out; omega
   case rel => exact ⟨(wrap64 (x3_1 + ((ji11) + (ji12)))), (wrap64 (x14_1 + 1)), (by first | rfl | (simp; done) | (simp only [← hji11, ← hji12] <;> (first | rfl | simp)) | (simp [*]; done)), (by first | rfl | (simp; done) | (simp [*]; done)), H', ⟨by have := HK1.out; omega⟩, ⟨by (with_reducible repeat (first | refine blk_drewN ?_ _ | refine blk_drew ?_ | refine blk_alloc ?_ _)); refine blk_far ?_ NB101_107.out _; (with_reducible repeat (first | refine blk_drewN ?_ _ | refine blk_drew ?_ | refine blk_alloc ?_ _)); refine blk_far ?_ NB101_107.out _; (with_reducible repeat (first | refine blk_drewN ?_ _ | refine blk_drew ?_ | refine blk_alloc ?_ _)); refine blk_far ?_ NB101_107.out _; (with_reducible repeat (first | refine blk_drewN ?_ _ | refine blk_drew ?_ | refine blk_alloc ?_ _)); exact BK101.out⟩, ⟨by repeat (first | (with_reducible first | exact HB.out | apply below_alloc | apply pw_below_drewN | apply below_drew1 | refine below_set ?_ GE101.out | refine below_set ?_ GE107.out) | exact HB.out)⟩⟩
mutual
def grommetlaw14_anchors.j0 : Nat → Int → Int → Int → ByteArray → ByteArray → List (S29) → Option (Int × Int)
  | 0, _, _, _, _, _, _ => none
  | k + 1, x4, x5, x102000, x102001, x102002, x102003 => grommetlaw14_anchors.l0 k x4 x5 x102003 (x102003.length : Int) 0
def grommetlaw14_anchors.l0 : Nat → Int → Int → List (S29) → Int → Int → Option (Int × Int)
  | 0, _, _, _, _, _ => none
  | k + 1, x4, x5, x17, x18, x19 => if x19 < x18 then (if 0 ≤ x19 then (if x19 < (x17.length : Int) then ((grommetlaw14_anchors.f k ((rd_T29 x17 x19).f0) ((rd_T29 x17 x19).f1) ((rd_T29 x17 x19).f2) ((rd_T29 x17 x19).f3)).bind fun bt104 => (grommetlaw14_anchors.l0 k (wrap64 (x4 + bt104.1)) (wrap64 (x5 + bt104.2)) x17 x18 (wrap64 (x19 + 1)))) else (none)) else (none)) else (some (x4, x5))
def grommetlaw14_anchors.f : Nat → Int → ByteArray → ByteArray → List (S29) → Option (Int × Int)
  | 0, _, _, _, _ => none
  | k + 1, a0_0, a0_1, a0_2, l0_3 => if a0_0 = 7 then (grommetlaw14_anchors.j0 k 0 1 a0_0 a0_1 a0_2 l0_3) else (if a0_2.toList = ([] : List UInt8) then (grommetlaw14_anchors.j0 k 0 0 a0_0 a0_1 a0_2 l0_3) else (grommetlaw14_anchors.j0 k 1 0 a0_0 a0_1 a0_2 l0_3))
end
theorem qxa0_ {P : Prop} (h_ : P := by repeat (first | (with_reducible first | exact HB.out | apply below_alloc | apply pw_below_drewN | apply below_drew1 | refine below_set ?_ GE101.out) | exact HB.out)) : P := h_
theorem qxa1_ {P : Prop} (h_ : P := by (with_reducible repeat (first | refine blk_drewN ?_ _ | refine blk_drew ?_ | refine blk_alloc ?_ _)); exact BK101.out) : P := h_
theorem qxa2_ {P : Prop} (h_ : P := by first | rfl | (simp; done) | (simp [*]; done)) : P := h_
theorem qxa3_ {P : Prop} (h_ : P := by repeat (first | (with_reducible first | exact HB.out | apply below_alloc | apply pw_below_drewN | apply below_drew1 | refine below_set ?_ GE101.out | refine below_set ?_ GE103.out) | exact HB.out)) : P := h_
theorem qxa4_ {P : Prop} (h_ : P := by repeat (first | (with_reducible first | exact HB.out | apply below_alloc | apply pw_below_drewN | apply below_drew1) | exact HB.out)) : P := h_
set_option maxHeartbeats 8000000 in
set_option maxRecDepth 100000 in
theorem grommetlaw14_anchors.calls (k : Nat) : ∀ (a0_0 : Int) (a0_1 : ByteArray) (a0_2 : ByteArray) (A0_3 : Option Addr) (c0_3 : Nat) (l0_3 : List (S29)) (r1 : Int) (r2 : Int) (w : World) (hr0_3 : Kd.C k29 w A0_3 l0_3.length l0_3) (hc0_3 : l0_3.length ≤ c0_3) (hG : Glob.G w) (h : grommetlaw14_anchors.f k a0_0 a0_1 a0_2 l0_3 = some (r1, r2)),
  Calls Tryz.prog 18 #[.agg #[.int .i64 a0_0, .string a0_1, .string a0_2, .slice A0_3 l0_3.length c0_3]] w fun e w' => e = .returned (.tuple #[.int .i64 r1, .int .i64 r2]) ∧ Below w.heap.size w w' := by
 induction k using Nat.strongRecOn with
 | _ k ih =>
 intro a0_0 a0_1 a0_2 A0_3 c0_3 l0_3 r1 r2 w hr0_3 hc0_3 hG h
 cases k with
 | zero => exact absurd h (by simp [grommetlaw14_anchors.f])
 | succ k =>
 simp only [grommetlaw14_anchors.f] at h
 have hu29 := Tryz.underlying29
 have HR0_3 := Aside0.mk hr0_3
 have HC0_3 := Aside0.mk hc0_3
 clear hr0_3 hc0_3
 have HB := Aside0.mk (Below.refl w.heap.size w)
 have H : (if a0_0 = 7 then (grommetlaw14_anchors.j0 k 0 1 a0_0 a0_1 a0_2 l0_3) else (if a0_2.toList = ([] : List UInt8) then (grommetlaw14_anchors.j0 k 0 0 a0_0 a0_1 a0_2 l0_3) else (grommetlaw14_anchors.j0 k 1 0 a0_0 a0_1 a0_2 l0_3))) = some (r1, r2) := h
 clear h
 have HC2 := Aside0.mk H
 clear H
 go_enter Tryz.func18, Tryz.ntmps18
 go_upto_if 12 with (first | ((with_reducible refine gate_dst (N := 1) rfl ?_); refine box_event ?hg (N := 1) ?hd (cs := #[.int .i64 a0_0, .string a0_1, .string a0_2, .slice A0_3 l0_3.length c0_3]) (t := 29) ?hr ?_; (case hd => rfl); (case hg => rfl); (case hr => first | (go_simp; done) | (go_simp; rfl)); intro gb101 hg w3 hbox hb; have n0_ := Aside0.mk (below_step (qxa4_) hb); have n1_ := Aside0.mk (hbox); have n2_ := Aside0.mk ((by rw [hg]; exact (below_size (qxa4_)) : w.heap.size ≤ gb101)); have n3_ := Aside0.mk ((by rw [hg]; exact (below_size (qxa4_)) : w.heap.size ≤ gb101)); clear HB; have HB := n0_; have BK101 := n1_; have GW101 := n2_; have GE101 := n3_; clear n0_ n1_ n2_ n3_; clear hb hbox hg; have hcz4_0 : w3.cell? ⟨gb101, 0, none⟩ = some (.int .i64 a0_0) := (blk_cell BK101.out 0).trans rfl; have hcz4_1 : w3.cell? ⟨gb101, 1, none⟩ = some (.string a0_1) := (blk_cell BK101.out 1).trans rfl; have hcz4_2 : w3.cell? ⟨gb101, 2, none⟩ = some (.string a0_2) := (blk_cell BK101.out 2).trans rfl; have hcz4_3 : w3.cell? ⟨gb101, 3, none⟩ = some (.slice A0_3 l0_3.length c0_3) := (blk_cell BK101.out 3).trans rfl; have hfz4_0 := blk_frozen BK101.out 0; have hfz4_1 := blk_frozen BK101.out 1; have hfz4_2 := blk_frozen BK101.out 2; have hfz4_3 := blk_frozen BK101.out 3))
 (try simp only [Act.put, List.setIfInBounds_toArray, List.set_cons_zero, List.set_cons_succ])
 go_cut [4, 5] (fun v4 v5 wc => ∃ (kq : Nat) (x4_1 : Int) (x5_1 : Int), v4 = .int .i64 x4_1 ∧ v5 = .int .i64 x5_1 ∧ Aside0 (grommetlaw14_anchors.j0 kq x4_1 x5_1 a0_0 a0_1 a0_2 l0_3 = some (r1, r2)) ∧ Aside0 (kq ≤ k) ∧ Aside0 (wc.heap[gb101]? = some (.cells #[.int .i64 a0_0, .string a0_1, .string a0_2, (.slice A0_3 l0_3.length c0_3)] 29 (0, 0))) ∧ Aside0 (Below w.heap.size w wc))
 case first =>
  have H := HC2.out
  clear HC2
  by_cases c5 : a0_0 = 7
  ·
   rw [if_pos c5] at H
   have c5b0 : (a0_0 == 7) = true := beq_iff_eq.mpr c5
   have c5b1 : (a0_0 != 7) = false := bne_eq_false_iff_eq.mpr c5
   clear c5
   (first | rw [c5b0] | (simp only [i64_w, i32_w]; rw [c5b0]) | skip)
   have H' := Aside0.mk H
   clear H
   go_wp2
   go_meet
   case rel => exact ⟨_, (0), (1), (qxa2_), (qxa2_), H', ⟨by first | omega | exact Nat.le_refl _⟩, ⟨qxa1_⟩, ⟨qxa0_⟩⟩
  rw [if_neg c5] at H
  have c5b0 : (a0_0 == 7) = false := beq_eq_false_iff_ne.mpr c5
  have c5b1 : (a0_0 != 7) = true := bne_iff_ne.mpr c5
  (first | rw [c5b0] | (simp only [i64_w, i32_w]; rw [c5b0]) | skip)
  by_cases c6 : a0_2.toList = ([] : List UInt8)
  rotate_left
  ·
   rw [if_neg c6] at H
   have c6b0 : (a0_2.toList == ([] : List UInt8)) = false := beq_eq_false_iff_ne.mpr c6
   have c6b1 : (a0_2.toList != ([] : List UInt8)) = true := bne_iff_ne.mpr c6
   have H' := Aside0.mk H
   clear H
   have hcz8_0 : w3.cell? ⟨gb101, 0, none⟩ = some (.int .i64 a0_0) := (blk_cell BK101.out 0).trans rfl
   have hcz8_1 : w3.cell? ⟨gb101, 1, none⟩ = some (.string a0_1) := (blk_cell BK101.out 1).trans rfl
   have hcz8_2 : w3.cell? ⟨gb101, 2, none⟩ = some (.string a0_2) := (blk_cell BK101.out 2).trans rfl
   have hcz8_3 : w3.cell? ⟨gb101, 3, none⟩ = some (.slice A0_3 l0_3.length c0_3) := (blk_cell BK101.out 3).trans rfl
   have hfz8_0 := blk_frozen BK101.out 0
   have hfz8_1 := blk_frozen BK101.out 1
   have hfz8_2 := blk_frozen BK101.out 2
   have hfz8_3 := blk_frozen BK101.out 3
   go_wp2
   go_meet
   case rel => exact ⟨_, (1), (0), (qxa2_), (qxa2_), H', ⟨by first | omega | exact Nat.le_refl _⟩, ⟨qxa1_⟩, ⟨qxa0_⟩⟩
  rw [if_pos c6] at H
  have c6b0 : (a0_2.toList == ([] : List UInt8)) = true := beq_iff_eq.mpr c6
  have c6b1 : (a0_2.toList != ([] : List UInt8)) = false := bne_eq_false_iff_eq.mpr c6
  clear c6
  have H' := Aside0.mk H
  clear H
  have hcz7_0 : w3.cell? ⟨gb101, 0, none⟩ = some (.int .i64 a0_0) := (blk_cell BK101.out 0).trans rfl
  have hcz7_1 : w3.cell? ⟨gb101, 1, none⟩ = some (.string a0_1) := (blk_cell BK101.out 1).trans rfl
  have hcz7_2 : w3.cell? ⟨gb101, 2, none⟩ = some (.string a0_2) := (blk_cell BK101.out 2).trans rfl
  have hcz7_3 : w3.cell? ⟨gb101, 3, none⟩ = some (.slice A0_3 l0_3.length c0_3) := (blk_cell BK101.out 3).trans rfl
  have hfz7_0 := blk_frozen BK101.out 0
  have hfz7_1 := blk_frozen BK101.out 1
  have hfz7_2 := blk_frozen BK101.out 2
  have hfz7_3 := blk_frozen BK101.out 3
  go_wp2
  go_meet
  case rel => exact ⟨_, (0), (0), (qxa2_), (qxa2_), H', ⟨by first | omega | exact Nat.le_refl _⟩, ⟨qxa1_⟩, ⟨qxa0_⟩⟩
 case rest =>
  clear HC2
  try clear c1
  try clear p2
  try clear c5
  try clear c5b0
  try clear c5b1
  try clear c6
  try clear c6b0
  try clear c6b1
  try clear hcz4_0
  try clear hcz4_1
  try clear hcz4_2
  try clear hcz4_3
  try clear hcz7_0
  try clear hcz7_1
  try clear hcz7_2
  try clear hcz7_3
  try clear hcz8_0
  try clear hcz8_1
  try clear hcz8_2
  try clear hcz8_3
  try clear hfz4_0
  try clear hfz4_1
  try clear hfz4_2
  try clear hfz4_3
  try clear hfz7_0
  try clear hfz7_1
  try clear hfz7_2
  try clear hfz7_3
  try clear hfz8_0
  try clear hfz8_1
  try clear hfz8_2
  try clear hfz8_3
  obtain ⟨kq, x4_1, x5_1, rfl, rfl, HA, HJ1, BK101, HB⟩ := hcut
  cases kq with
  | zero => exact absurd HA.out (by simp [grommetlaw14_anchors.j0])
  | succ kj1 =>
   have H := HA.out
   clear HA
   simp only [grommetlaw14_anchors.j0] at H
   have H' := Aside0.mk H
   clear H
   have hcz9_0 : wc.cell? ⟨gb101, 0, none⟩ = some (.int .i64 a0_0) := (blk_cell BK101.out 0).trans rfl
   have hcz9_1 : wc.cell? ⟨gb101, 1, none⟩ = some (.string a0_1) := (blk_cell BK101.out 1).trans rfl
   have hcz9_2 : wc.cell? ⟨gb101, 2, none⟩ = some (.string a0_2) := (blk_cell BK101.out 2).trans rfl
   have hcz9_3 : wc.cell? ⟨gb101, 3, none⟩ = some (.slice A0_3 l0_3.length c0_3) := (blk_cell BK101.out 3).trans rfl
   have hfz9_0 := blk_frozen BK101.out 0
   have hfz9_1 := blk_frozen BK101.out 1
   have hfz9_2 := blk_frozen BK101.out 2
   have hfz9_3 := blk_frozen BK101.out 3
   go_wp2
   go_loopg [4, 5, 19] kj1 (fun kq v4 v5 v19 w' => ∃ (x4_2 : Int) (x5_2 : Int) (x19_2 : Int), v4 = .int .i64 x4_2 ∧ v5 = .int .i64 x5_2 ∧ v19 = .int .i64 x19_2 ∧ Aside0 (grommetlaw14_anchors.l0 kq x4_2 x5_2 l0_3 (l0_3.length : Int) x19_2 = some (r1, r2)) ∧ Aside0 (kq ≤ kj1) ∧ Aside0 (w'.heap[gb101]? = some (.cells #[.int .i64 a0_0, .string a0_1, .string a0_2, (.slice A0_3 l0_3.length c0_3)] 29 (0, 0))) ∧ Aside0 (Below w.heap.size w w'))
   case atStart => exact ⟨(x4_1), (x5_1), (0), (qxa2_), (qxa2_), (qxa2_), H', ⟨Nat.le_refl _⟩, ⟨qxa1_⟩, ⟨qxa0_⟩⟩
   case round =>
    clear H'
    try clear c1
    try clear p2
    try clear c5
    try clear c5b0
    try clear c5b1
    try clear c6
    try clear c6b0
    try clear c6b1
    try clear hcz4_0
    try clear hcz4_1
    try clear hcz4_2
    try clear hcz4_3
    try clear hcz7_0
    try clear hcz7_1
    try clear hcz7_2
    try clear hcz7_3
    try clear hcz8_0
    try clear hcz8_1
    try clear hcz8_2
    try clear hcz8_3
    try clear hcz9_0
    try clear hcz9_1
    try clear hcz9_2
    try clear hcz9_3
    try clear hfz4_0
    try clear hfz4_1
    try clear hfz4_2
    try clear hfz4_3
    try clear hfz7_0
    try clear hfz7_1
    try clear hfz7_2
    try clear hfz7_3
    try clear hfz8_0
    try clear hfz8_1
    try clear hfz8_2
    try clear hfz8_3
    try clear hfz9_0
    try clear hfz9_1
    try clear hfz9_2
    try clear hfz9_3
    try clear p2
    obtain ⟨x4_2, x5_2, x19_2, rfl, rfl, rfl, HA, HK2, BK101, HB⟩ := hrel
    cases gk with
    | zero => exact absurd HA.out (by simp [grommetlaw14_anchors.l0])
    | succ k2 =>
     have H := HA.out
     clear HA
     simp only [grommetlaw14_anchors.l0] at H
     by_cases c10 : x19_2 < (l0_3.length : Int)
     rotate_left
     ·
      rw [if_neg c10] at H
      have c10b0 : decide (x19_2 < (l0_3.length : Int)) = false := decide_eq_false c10
      clear c10
      simp only [Option.some.injEq, Prod.mk.injEq] at H
      obtain ⟨rfl, rfl⟩ := H
      go_wp2
      go_ret2
      exact ⟨by first | rfl | (simp [errW_none, errW_some] <;> rfl) | (simp [*, errW_none, errW_some] <;> rfl), qxa0_⟩
     rw [if_pos c10] at H
     have c10b0 : decide (x19_2 < (l0_3.length : Int)) = true := decide_eq_true c10
     clear c10
     by_cases c11 : 0 ≤ x19_2
     rotate_left
     ·
      rw [if_neg c11] at H
      exact absurd H (by simp)
     rw [if_pos c11] at H
     have c11b0 : decide (0 ≤ x19_2) = true := decide_eq_true c11
     clear c11
     by_cases c12 : x19_2 < (l0_3.length : Int)
     rotate_left
     · exact absurd (of_decide_eq_true c10b0) c12
     rw [if_pos c12] at H
     have c12b0 : decide (x19_2 < (l0_3.length : Int)) = true := decide_eq_true c12
     clear c12
     replace H := Option.bind_eq_some_iff.mp H
     obtain ⟨⟨t104, t105⟩, A130, H⟩ := H
     replace H : (grommetlaw14_anchors.l0 k2 (wrap64 (x4_2 + t104)) (wrap64 (x5_2 + t105)) l0_3 (l0_3.length : Int) (wrap64 (x19_2 + 1))) = some (r1, r2) := H
     have A13 := Aside0.mk A130
     clear A130
     have H' := Aside0.mk H
     clear H
     have p102 : 0 ≤ (x19_2 : Int) := of_decide_eq_true (by first | (with_reducible assumption) | assumption)
     have q102 : x19_2 < (l0_3.length : Int) := of_decide_eq_true (by first | (with_reducible assumption) | assumption)
     obtain ⟨ad102, A102_3, c102_3, e102, hx102_0, hx102_1, hx102_2, hx102_3, hl102_3, hi102_3⟩ := at_T29 HR0_3.out x19_2 p102 q102
     have KX102_3 := Aside0.mk hx102_3
     cases e102
     replace hx102_0 := (HB.out.cell (World.block_lt_of_cell? w _ hx102_0)).trans hx102_0
     replace hx102_1 := (HB.out.cell (World.block_lt_of_cell? w _ hx102_1)).trans hx102_1
     replace hx102_2 := (HB.out.cell (World.block_lt_of_cell? w _ hx102_2)).trans hx102_2
     replace hx102_3 := (HB.out.cell (World.block_lt_of_cell? w _ hx102_3)).trans hx102_3
     have HR102_3 := Aside0.mk hi102_3
     have HC102_3 := Aside0.mk hl102_3
     clear hi102_3 hl102_3
     replace p102 := eq_true p102
     replace q102 := eq_true q102
     go_wp2_with (first | ((with_reducible refine gate_dst (N := 7) rfl ?_); refine box_event ?hg (N := 7) ?hd (cs := #[.int .i64 0, .string (⟨#[]⟩ : ByteArray), .string (⟨#[]⟩ : ByteArray), .slice none 0 0]) (t := 29) ?hr ?_; (case hd => rfl); (case hg => rfl); (case hr => first | (go_simp; done) | (go_simp; rfl)); intro gb103 hg w14 hbox hb; have n0_ := Aside0.mk (blk_below (g := gb101) (o := .cells #[.int .i64 a0_0, .string a0_1, .string a0_2, .slice (some ad102) l0_3.length c0_3] 29 (0, 0)) (qxa1_) hb); have n1_ := Aside0.mk (below_step (qxa0_) hb); have n2_ := Aside0.mk (hbox); have n3_ := Aside0.mk ((by rw [hg]; exact (below_size (qxa0_)) : w.heap.size ≤ gb103)); have n4_ := Aside0.mk ((by rw [hg]; exact (below_size (qxa0_)) : w.heap.size ≤ gb103)); have n5_ := Aside0.mk ((by rw [hg]; exact Nat.ne_of_lt (blk_lt (g := gb101) (o := .cells #[.int .i64 a0_0, .string a0_1, .string a0_2, .slice (some ad102) l0_3.length c0_3] 29 (0, 0)) (qxa1_)) : gb101 ≠ gb103)); have n6_ := Aside0.mk ((by rw [hg]; exact Nat.ne_of_gt (blk_lt (g := gb101) (o := .cells #[.int .i64 a0_0, .string a0_1, .string a0_2, .slice (some ad102) l0_3.length c0_3] 29 (0, 0)) (qxa1_)) : gb103 ≠ gb101)); clear BK101; clear HB; have BK101 := n0_; have HB := n1_; have BK103 := n2_; have GW103 := n3_; have GE103 := n4_; have NB101_103 := n5_; have NB103_101 := n6_; clear n0_ n1_ n2_ n3_ n4_ n5_ n6_; clear hb hbox hg; have hnb15 := NB103_101.out; have hnc15 := NB101_103.out; have hcz16_0 : w14.cell? ⟨gb103, 0, none⟩ = some (.int .i64 0) := (blk_cell BK103.out 0).trans rfl; have hcz16_1 : w14.cell? ⟨gb103, 1, none⟩ = some (.string (⟨#[]⟩ : ByteArray)) := (blk_cell BK103.out 1).trans rfl; have hcz16_2 : w14.cell? ⟨gb103, 2, none⟩ = some (.string (⟨#[]⟩ : ByteArray)) := (blk_cell BK103.out 2).trans rfl; have hcz16_3 : w14.cell? ⟨gb103, 3, none⟩ = some (.slice none 0 0) := (blk_cell BK103.out 3).trans rfl; have hfz16_0 := blk_frozen BK103.out 0; have hfz16_1 := blk_frozen BK103.out 1; have hfz16_2 := blk_frozen BK103.out 2; have hfz16_3 := blk_frozen BK103.out 3) | ((with_reducible refine gate_callee (f := 18) rfl ?_); refine goesL_ (some 25) rfl rfl Tryz.func18 (by kernel_rfl) rfl #[.agg #[.int .i64 ((rd_T29 l0_3 x19_2).f0), .string ((rd_T29 l0_3 x19_2).f1), .string ((rd_T29 l0_3 x19_2).f2), .slice A102_3 ((rd_T29 l0_3 x19_2).f3).length c102_3]] rfl (by (try simp only [List.map_toArray, List.map_cons, List.map_nil]); first | done | rfl | (simp only [List.length_drop, List.length_take]; rfl)) ?_; (with_reducible refine (ih k2 (by have := HJ1.out; have := HK2.out; omega) ((rd_T29 l0_3 x19_2).f0) ((rd_T29 l0_3 x19_2).f1) ((rd_T29 l0_3 x19_2).f2) _ _ ((rd_T29 l0_3 x19_2).f3) t104 t105 _ ?side1 ?side2 (hG.below (by first | ((repeat (first | (with_reducible first | exact HB.out | apply below_alloc | apply pw_below_drewN | apply below_drew1 | (refine Glob.below_set ?_ (by assumption) _ _ _)) | exact HB.out)); done) | (refine Drawn0.below ?_; repeat (first | exact Drawn0.refl _ | assumption | apply Drawn0.step)))) A13.out).mono ?_); (case side1 => exact Kd.C_below HR102_3.out (qxa3_)); (case side2 => exact HC102_3.out); rintro e w17 ⟨rfl, hb⟩; refine ⟨_, rfl, ?_⟩; have n0_ := Aside0.mk (blk_below (g := gb101) (o := .cells #[.int .i64 a0_0, .string a0_1, .string a0_2, .slice (some ad102) l0_3.length c0_3] 29 (0, 0)) (by (with_reducible repeat (first | refine blk_drewN ?_ _ | refine blk_drew ?_ | refine blk_alloc ?_ _)); refine blk_far ?_ NB101_103.out _; (with_reducible repeat (first | refine blk_drewN ?_ _ | refine blk_drew ?_ | refine blk_alloc ?_ _)); refine blk_far ?_ NB101_103.out _; (with_reducible repeat (first | refine blk_drewN ?_ _ | refine blk_drew ?_ | refine blk_alloc ?_ _)); refine blk_far ?_ NB101_103.out _; (with_reducible repeat (first | refine blk_drewN ?_ _ | refine blk_drew ?_ | refine blk_alloc ?_ _)); refine blk_far ?_ NB101_103.out _; (with_reducible repeat (first | refine blk_drewN ?_ _ | refine blk_drew ?_ | refine blk_alloc ?_ _)); exact BK101.out) hb); have n1_ := Aside0.mk (blk_below (g := gb103) (o := .cells #[.int .i64 ((rd_T29 l0_3 x19_2).f0), .string ((rd_T29 l0_3 x19_2).f1), .string ((rd_T29 l0_3 x19_2).f2), .slice A102_3 ((rd_T29 l0_3 x19_2).f3).length c102_3] 29 (0, 0)) (by (with_reducible repeat (first | refine blk_drewN ?_ _ | refine blk_drew ?_ | refine blk_alloc ?_ _)); refine blk_put (cs := #[.int .i64 ((rd_T29 l0_3 x19_2).f0), .string ((rd_T29 l0_3 x19_2).f1), .string ((rd_T29 l0_3 x19_2).f2), .slice none 0 0]) ?_ 3 _ rfl; (with_reducible repeat (first | refine blk_drewN ?_ _ | refine blk_drew ?_ | refine blk_alloc ?_ _)); refine blk_put (cs := #[.int .i64 ((rd_T29 l0_3 x19_2).f0), .string ((rd_T29 l0_3 x19_2).f1), .string (⟨#[]⟩ : ByteArray), .slice none 0 0]) ?_ 2 _ rfl; (with_reducible repeat (first | refine blk_drewN ?_ _ | refine blk_drew ?_ | refine blk_alloc ?_ _)); refine blk_put (cs := #[.int .i64 ((rd_T29 l0_3 x19_2).f0), .string (⟨#[]⟩ : ByteArray), .string (⟨#[]⟩ : ByteArray), .slice none 0 0]) ?_ 1 _ rfl; (with_reducible repeat (first | refine blk_drewN ?_ _ | refine blk_drew ?_ | refine blk_alloc ?_ _)); refine blk_put (cs := #[.int .i64 0, .string (⟨#[]⟩ : ByteArray), .string (⟨#[]⟩ : ByteArray), .slice none 0 0]) ?_ 0 _ rfl; (with_reducible repeat (first | refine blk_drewN ?_ _ | refine blk_drew ?_ | refine blk_alloc ?_ _)); exact BK103.out) hb); have n2_ := Aside0.mk (below_step (qxa3_) hb); clear BK101; clear BK103; clear HB; have BK101 := n0_; have BK103 := n1_; have HB := n2_; clear n0_ n1_ n2_; (try clear hb)))
     go_roundg k2
     case measure => have := HJ1.out; have := HK2.out; omega
     case rel => exact ⟨(wrap64 (x4_2 + t104)), (wrap64 (x5_2 + t105)), (wrap64 (x19_2 + 1)), (qxa2_), (qxa2_), (qxa2_), H', ⟨by have := HJ1.out; have := HK2.out; omega⟩, ⟨qxa1_⟩, ⟨qxa3_⟩⟩
end Go.Proofs.YtnjcpoojgmpmeaaGreatDoor.PX
namespace Go.Proofs.YtnjcpoojgmpmeaaGreatDoor.PX
open RowKit YtnjcpoojgmpmeaaGreatDoorW.PrintWords YtnjcpoojgmpmeaaGreatDoorW.PrintLast YtnjcpoojgmpmeaaGreatDoorW.PrintMore YtnjcpoojgmpmeaaGreatDoor YtnjcpoojgmpmeaaGreatDoor.Plug
attribute [local go_sem] max2_int min2_int max_two min_two max_three min_three max_four min_four   -- for this text's walks alone
set_option linter.unusedVariables false
set_option linter.unusedSimpArgs false
def grommetlaw14_LayShared.f (k : Nat) (l0_0 : List (S45)) (a0_1 : Int) : Option (Bool) := (grommetlaw14_large.f k l0_0 a0_1).bind fun t102 => (if t102 = true then ((grommetlaw14_alive.f).bind fun t103 => (some t103)) else ((lay_Tree.f l0_0 a0_1).bind fun bt104 => (if bt104.2.2.2.2 = 0 then ((iso_Shared.f l0_0 a0_1).bind fun bt113 => ((graph_Order.f l0_0 a0_1).bind fun bt117 => ((lay_Size.f k l0_0 a0_1).bind fun bt121 => ((grommetlaw14_anchors.f k bt104.1 bt104.2.1 bt104.2.2.1 bt104.2.2.2.1).bind fun bt123 => (if bt113.2 = 0 then (if bt117.2 = 0 then (if bt121.2 = 0 then (if bt123.1 = (bt113.1.length : Int) then (if bt123.2 = (wrap64 (bt121.1 - (bt117.1.length : Int))) then (if (bt113.1.length : Int) > 0 then ((grommetlaw14_alive.f).bind fun t125 => (some t125)) else (if bt123.2 = 0 then ((grommetlaw14_alive.f).bind fun t126 => (some t126)) else (some false))) else (some false)) else (some false)) else (some false)) else (some false)) else (some false)))))) else ((grommetlaw14_alive.f).bind fun t112 => (some t112)))))
theorem qva0_ {P : Prop} (h_ : P := by first | ((repeat (first | (with_reducible first | exact HB.out | apply below_alloc | apply pw_below_drewN | apply below_drew1 | (refine Glob.below_set ?_ (by assumption) _ _ _)) | exact HB.out)); done) | (refine Drawn0.below ?_; repeat (first | exact Drawn0.refl _ | assumption | apply Drawn0.step))) : P := h_
theorem qva1_ {P : Prop} (h_ : P := by repeat (first | (with_reducible first | exact HB.out | apply below_alloc | apply pw_below_drewN | apply below_drew1 | refine below_set ?_ GE101.out | refine below_set ?_ GE111.out) | exact HB.out)) : P := h_
theorem qva2_ {P : Prop} (h_ : P := by repeat (first | (with_reducible first | exact HB.out | apply below_alloc | apply pw_below_drewN | apply below_drew1 | refine below_set ?_ GE101.out) | exact HB.out)) : P := h_
theorem qva3_ {P : Prop} (h_ : P := by (with_reducible repeat (first | refine blk_drewN ?_ _ | refine blk_drew ?_ | refine blk_alloc ?_ _)); exact BK101.out) : P := h_
theorem qva4_ {P : Prop} (h_ : P := by (with_reducible repeat (first | refine blk_drewN ?_ _ | refine blk_drew ?_ | refine blk_alloc ?_ _)); refine blk_put (cs := #[.int .i64 t104, .string t105, .string t106, .slice none 0 0]) ?_ 3 _ rfl; (with_reducible repeat (first | refine blk_drewN ?_ _ | refine blk_drew ?_ | refine blk_alloc ?_ _)); refine blk_put (cs := #[.int .i64 t104, .string t105, .string (⟨#[]⟩ : ByteArray), .slice none 0 0]) ?_ 2 _ rfl; (with_reducible repeat (first | refine blk_drewN ?_ _ | refine blk_drew ?_ | refine blk_alloc ?_ _)); refine blk_put (cs := #[.int .i64 t104, .string (⟨#[]⟩ : ByteArray), .string (⟨#[]⟩ : ByteArray), .slice none 0 0]) ?_ 1 _ rfl; (with_reducible repeat (first | refine blk_drewN ?_ _ | refine blk_drew ?_ | refine blk_alloc ?_ _)); refine blk_put (cs := #[.int .i64 0, .string (⟨#[]⟩ : ByteArray), .string (⟨#[]⟩ : ByteArray), .slice none 0 0]) ?_ 0 _ rfl; (with_reducible repeat (first | refine blk_drewN ?_ _ | refine blk_drew ?_ | refine blk_alloc ?_ _)); exact BK111.out) : P := h_
theorem qva5_ {P : Prop} (h_ : P := by (try simp only [List.map_toArray, List.map_cons, List.map_nil]); first | done | rfl | (simp only [List.length_drop, List.length_take]; rfl)) : P := h_
theorem qva6_ {P : Prop} (h_ : P := by (with_reducible repeat (first | refine blk_drewN ?_ _ | refine blk_drew ?_ | refine blk_alloc ?_ _)); refine blk_far ?_ NB101_111.out _; (with_reducible repeat (first | refine blk_drewN ?_ _ | refine blk_drew ?_ | refine blk_alloc ?_ _)); refine blk_far ?_ NB101_111.out _; (with_reducible repeat (first | refine blk_drewN ?_ _ | refine blk_drew ?_ | refine blk_alloc ?_ _)); refine blk_far ?_ NB101_111.out _; (with_reducible repeat (first | refine blk_drewN ?_ _ | refine blk_drew ?_ | refine blk_alloc ?_ _)); refine blk_far ?_ NB101_111.out _; (with_reducible repeat (first | refine blk_drewN ?_ _ | refine blk_drew ?_ | refine blk_alloc ?_ _)); exact BK101.out) : P := h_
theorem qva7_ {P : Prop} (h_ : P := by repeat (first | (with_reducible first | exact HB.out | apply below_alloc | apply pw_below_drewN | apply below_drew1) | exact HB.out)) : P := h_
theorem qva8_ {P : Prop} (h_ : P := by (with_reducible repeat (first | apply Kd.R_alloc | apply Kd.R_drewN | apply Kd.R_drew)); exact HO109.out) : P := h_
theorem qva9_ {P : Prop} (h_ : P := by (with_reducible repeat (first | apply Kd.R_alloc | apply Kd.R_drewN | apply Kd.R_drew)); exact HO115.out) : P := h_
theorem qva10_ {P : Prop} (h_ : P := by (with_reducible repeat (first | refine blk_drewN ?_ _ | refine blk_drew ?_ | refine blk_alloc ?_ _)); exact BK111.out) : P := h_
theorem qva11_ {P : Prop} (h_ : P := by (with_reducible repeat (first | apply Kd.R_alloc | apply Kd.R_drewN | apply Kd.R_drew)); exact HO119.out) : P := h_
theorem qva12_ {P : Prop} (h_ : P := by first | rfl | (simp [errW_none, errW_some] <;> rfl) | (simp [*, errW_none, errW_some] <;> rfl)) : P := h_
theorem qva13_ {P : Prop} (h_ : P := by repeat (first | exact (Kd.C_below HR0_0.out HB.out) | (with_reducible refine Kd.C_alloc ?_ _) | (with_reducible refine Kd.C_drewN ?_ _) | (with_reducible refine Kd.C_drew ?_))) : P := h_
theorem qva14_ {P : Prop} (h_ : P := by exact HC0_0.out) : P := h_
theorem qva15_ {P : Prop} (h_ : P := by exact Kd.C_below HR0_0.out (qva1_)) : P := h_
theorem qva16_ {P : Prop} (h_ : P := by repeat (first | exact (Kd.R_reads' HO109.out).2.2 | (with_reducible refine Kd.C_alloc ?_ _) | (with_reducible refine Kd.C_drewN ?_ _) | (with_reducible refine Kd.C_drew ?_))) : P := h_
theorem qva17_ {P : Prop} (h_ : P := by exact (Kd.R_reads' HO109.out).2.1) : P := h_
set_option maxHeartbeats 8000000 in
set_option maxRecDepth 100000 in
theorem grommetlaw14_LayShared.calls (k : Nat) (A0_0 : Option Addr) (c0_0 : Nat) (l0_0 : List (S45)) (a0_1 : Int) (r : Bool) (w : World) (hr0_0 : Kd.C k45 w A0_0 l0_0.length l0_0) (hc0_0 : l0_0.length ≤ c0_0) (hG : Glob.G w) (h : grommetlaw14_LayShared.f k l0_0 a0_1 = some r) :
  Calls Tryz.prog 4 #[.agg #[.slice A0_0 l0_0.length c0_0, .int .i64 a0_1]] w fun e w' => e = .returned (.bool r) ∧ Below w.heap.size w w' := by
 have hu24 := Tryz.underlying24
 have hu29 := Tryz.underlying29
 have HR0_0 := Aside0.mk hr0_0
 have HC0_0 := Aside0.mk hc0_0
 clear hr0_0 hc0_0
 have HB := Aside0.mk (Below.refl w.heap.size w)
 have H : ((grommetlaw14_large.f k l0_0 a0_1).bind fun t102 => (if t102 = true then ((grommetlaw14_alive.f).bind fun t103 => (some t103)) else ((lay_Tree.f l0_0 a0_1).bind fun bt104 => (if bt104.2.2.2.2 = 0 then ((iso_Shared.f l0_0 a0_1).bind fun bt113 => ((graph_Order.f l0_0 a0_1).bind fun bt117 => ((lay_Size.f k l0_0 a0_1).bind fun bt121 => ((grommetlaw14_anchors.f k bt104.1 bt104.2.1 bt104.2.2.1 bt104.2.2.2.1).bind fun bt123 => (if bt113.2 = 0 then (if bt117.2 = 0 then (if bt121.2 = 0 then (if bt123.1 = (bt113.1.length : Int) then (if bt123.2 = (wrap64 (bt121.1 - (bt117.1.length : Int))) then (if (bt113.1.length : Int) > 0 then ((grommetlaw14_alive.f).bind fun t125 => (some t125)) else (if bt123.2 = 0 then ((grommetlaw14_alive.f).bind fun t126 => (some t126)) else (some false))) else (some false)) else (some false)) else (some false)) else (some false)) else (some false)))))) else ((grommetlaw14_alive.f).bind fun t112 => (some t112)))))) = some r := h
 clear h
 replace H := Option.bind_eq_some_iff.mp H
 obtain ⟨t102, A20, H⟩ := H
 replace H : (if t102 = true then ((grommetlaw14_alive.f).bind fun t103 => (some t103)) else ((lay_Tree.f l0_0 a0_1).bind fun bt104 => (if bt104.2.2.2.2 = 0 then ((iso_Shared.f l0_0 a0_1).bind fun bt113 => ((graph_Order.f l0_0 a0_1).bind fun bt117 => ((lay_Size.f k l0_0 a0_1).bind fun bt121 => ((grommetlaw14_anchors.f k bt104.1 bt104.2.1 bt104.2.2.1 bt104.2.2.2.1).bind fun bt123 => (if bt113.2 = 0 then (if bt117.2 = 0 then (if bt121.2 = 0 then (if bt123.1 = (bt113.1.length : Int) then (if bt123.2 = (wrap64 (bt121.1 - (bt117.1.length : Int))) then (if (bt113.1.length : Int) > 0 then ((grommetlaw14_alive.f).bind fun t125 => (some t125)) else (if bt123.2 = 0 then ((grommetlaw14_alive.f).bind fun t126 => (some t126)) else (some false))) else (some false)) else (some false)) else (some false)) else (some false)) else (some false)))))) else ((grommetlaw14_alive.f).bind fun t112 => (some t112))))) = some r := H
 have A2 := Aside0.mk A20
 clear A20
 by_cases c3 : t102 = true
 ·
  subst c3
  have H1 : ((grommetlaw14_alive.f).bind fun t103 => (some t103)) = some r := by rw [if_pos rfl] at H; exact H
  clear H
  have H := H1
  clear H1
  replace H := Option.bind_eq_some_iff.mp H
  obtain ⟨t103, A40, H⟩ := H
  replace H : (some t103) = some r := H
  have A4 := Aside0.mk A40
  clear A40
  obtain rfl := Option.some.inj H
  go_enter Tryz.func4, Tryz.ntmps4
  go_wp2_with (first | ((with_reducible refine gate_dst (N := 1) rfl ?_); (try (refine gate_guard (by rfl) ?_; dsimp only)); refine box_event ?hg (N := 1) ?hd (cs := #[.slice A0_0 l0_0.length c0_0, .int .i64 a0_1]) (t := 24) ?hr ?_; (case hd => rfl); (case hg => rfl); (case hr => first | (go_simp; done) | (go_simp; rfl)); intro gb101 hg w5 hbox hb; have n0_ := Aside0.mk (below_step (qva7_) hb); have n1_ := Aside0.mk (hbox); have n2_ := Aside0.mk ((by rw [hg]; exact (below_size (qva7_)) : w.heap.size ≤ gb101)); have n3_ := Aside0.mk ((by rw [hg]; exact (below_size (qva7_)) : w.heap.size ≤ gb101)); clear HB; have HB := n0_; have BK101 := n1_; have GW101 := n2_; have GE101 := n3_; clear n0_ n1_ n2_ n3_; clear hb hbox hg; have hcz6_0 : w5.cell? ⟨gb101, 0, none⟩ = some (.slice A0_0 l0_0.length c0_0) := (blk_cell BK101.out 0).trans rfl; have hcz6_1 : w5.cell? ⟨gb101, 1, none⟩ = some (.int .i64 a0_1) := (blk_cell BK101.out 1).trans rfl; have hfz6_0 := blk_frozen BK101.out 0; have hfz6_1 := blk_frozen BK101.out 1) | ((with_reducible refine gate_callee (f := 9) rfl ?_); refine goesL_ (some 14) rfl rfl Tryz.func9 (by kernel_rfl) rfl #[.agg #[.slice A0_0 l0_0.length c0_0, .int .i64 a0_1]] rfl (qva5_) ?_; (with_reducible refine (grommetlaw14_large.calls k _ _ l0_0 a0_1 true _ ?side1 ?side2 (hG.below (qva0_)) A2.out).mono ?_); (case side1 => exact qva13_); (case side2 => exact qva14_); rintro e w7 ⟨rfl, hb⟩; refine ⟨_, rfl, ?_⟩; have n0_ := Aside0.mk (blk_below (g := gb101) (o := .cells #[.slice A0_0 l0_0.length c0_0, .int .i64 a0_1] 24 (0, 0)) (qva3_) hb); have n1_ := Aside0.mk (below_step (qva2_) hb); clear BK101; clear HB; have BK101 := n0_; have HB := n1_; clear n0_ n1_; (try clear hb); (try clear hk)) | ((with_reducible refine gate_callee (f := 10) rfl ?_); refine goesL_ (some 15) rfl rfl Tryz.func10 (by kernel_rfl) rfl #[] rfl (qva5_) ?_; (with_reducible refine (grommetlaw14_alive.calls  t103 _ (hG.below (qva0_)) A4.out).mono ?_); rintro e w8 ⟨rfl, hb⟩; refine ⟨_, rfl, ?_⟩; have n0_ := Aside0.mk (blk_below (g := gb101) (o := .cells #[.slice A0_0 l0_0.length c0_0, .int .i64 a0_1] 24 (0, 0)) (qva3_) hb); have n1_ := Aside0.mk (below_step (qva2_) hb); clear BK101; clear HB; have BK101 := n0_; have HB := n1_; clear n0_ n1_; (try clear hb); (try clear hk)))
  go_ret
  exact ⟨qva12_, qva2_⟩
 replace c3 := Bool.eq_false_iff.mpr c3
 subst c3
 have H1 : ((lay_Tree.f l0_0 a0_1).bind fun bt104 => (if bt104.2.2.2.2 = 0 then ((iso_Shared.f l0_0 a0_1).bind fun bt113 => ((graph_Order.f l0_0 a0_1).bind fun bt117 => ((lay_Size.f k l0_0 a0_1).bind fun bt121 => ((grommetlaw14_anchors.f k bt104.1 bt104.2.1 bt104.2.2.1 bt104.2.2.2.1).bind fun bt123 => (if bt113.2 = 0 then (if bt117.2 = 0 then (if bt121.2 = 0 then (if bt123.1 = (bt113.1.length : Int) then (if bt123.2 = (wrap64 (bt121.1 - (bt117.1.length : Int))) then (if (bt113.1.length : Int) > 0 then ((grommetlaw14_alive.f).bind fun t125 => (some t125)) else (if bt123.2 = 0 then ((grommetlaw14_alive.f).bind fun t126 => (some t126)) else (some false))) else (some false)) else (some false)) else (some false)) else (some false)) else (some false)))))) else ((grommetlaw14_alive.f).bind fun t112 => (some t112)))) = some r := by rw [if_neg (show ¬ (false = true) by decide)] at H; exact H
 clear H
 have H := H1
 clear H1
 replace H := Option.bind_eq_some_iff.mp H
 obtain ⟨⟨t104, t105, t106, t107, t110⟩, A90, H⟩ := H
 replace H : (if t110 = 0 then ((iso_Shared.f l0_0 a0_1).bind fun bt113 => ((graph_Order.f l0_0 a0_1).bind fun bt117 => ((lay_Size.f k l0_0 a0_1).bind fun bt121 => ((grommetlaw14_anchors.f k t104 t105 t106 t107).bind fun bt123 => (if bt113.2 = 0 then (if bt117.2 = 0 then (if bt121.2 = 0 then (if bt123.1 = (bt113.1.length : Int) then (if bt123.2 = (wrap64 (bt121.1 - (bt117.1.length : Int))) then (if (bt113.1.length : Int) > 0 then ((grommetlaw14_alive.f).bind fun t125 => (some t125)) else (if bt123.2 = 0 then ((grommetlaw14_alive.f).bind fun t126 => (some t126)) else (some false))) else (some false)) else (some false)) else (some false)) else (some false)) else (some false)))))) else ((grommetlaw14_alive.f).bind fun t112 => (some t112))) = some r := H
 have A9 := Aside0.mk A90
 clear A90
 by_cases c10 : t110 = 0
 rotate_left
 ·
  rw [if_neg c10] at H
  have c10b0 : (t110 == 0) = false := beq_eq_false_iff_ne.mpr c10
  have c10b1 : (t110 != 0) = true := bne_iff_ne.mpr c10
  replace H := Option.bind_eq_some_iff.mp H
  obtain ⟨t112, A1710, H⟩ := H
  replace H : (some t112) = some r := H
  have A171 := Aside0.mk A1710
  clear A1710
  obtain rfl := Option.some.inj H
  go_enter Tryz.func4, Tryz.ntmps4
  go_wp2_with (first | ((with_reducible refine gate_dst (N := 1) rfl ?_); (try (refine gate_guard (by rfl) ?_; dsimp only)); refine box_event ?hg (N := 1) ?hd (cs := #[.slice A0_0 l0_0.length c0_0, .int .i64 a0_1]) (t := 24) ?hr ?_; (case hd => rfl); (case hg => rfl); (case hr => first | (go_simp; done) | (go_simp; rfl)); intro gb101 hg w172 hbox hb; have n0_ := Aside0.mk (below_step (qva7_) hb); have n1_ := Aside0.mk (hbox); have n2_ := Aside0.mk ((by rw [hg]; exact (below_size (qva7_)) : w.heap.size ≤ gb101)); have n3_ := Aside0.mk ((by rw [hg]; exact (below_size (qva7_)) : w.heap.size ≤ gb101)); clear HB; have HB := n0_; have BK101 := n1_; have GW101 := n2_; have GE101 := n3_; clear n0_ n1_ n2_ n3_; clear hb hbox hg; have hcz173_0 : w172.cell? ⟨gb101, 0, none⟩ = some (.slice A0_0 l0_0.length c0_0) := (blk_cell BK101.out 0).trans rfl; have hcz173_1 : w172.cell? ⟨gb101, 1, none⟩ = some (.int .i64 a0_1) := (blk_cell BK101.out 1).trans rfl; have hfz173_0 := blk_frozen BK101.out 0; have hfz173_1 := blk_frozen BK101.out 1) | ((with_reducible refine gate_callee (f := 9) rfl ?_); refine goesL_ (some 14) rfl rfl Tryz.func9 (by kernel_rfl) rfl #[.agg #[.slice A0_0 l0_0.length c0_0, .int .i64 a0_1]] rfl (qva5_) ?_; (with_reducible refine (grommetlaw14_large.calls k _ _ l0_0 a0_1 false _ ?side1 ?side2 (hG.below (qva0_)) A2.out).mono ?_); (case side1 => exact qva13_); (case side2 => exact qva14_); rintro e w174 ⟨rfl, hb⟩; refine ⟨_, rfl, ?_⟩; have n0_ := Aside0.mk (blk_below (g := gb101) (o := .cells #[.slice A0_0 l0_0.length c0_0, .int .i64 a0_1] 24 (0, 0)) (qva3_) hb); have n1_ := Aside0.mk (below_step (qva2_) hb); clear BK101; clear HB; have BK101 := n0_; have HB := n1_; clear n0_ n1_; (try clear hb); (try clear hk); have hcz175_0 : w174.cell? ⟨gb101, 0, none⟩ = some (.slice A0_0 l0_0.length c0_0) := (blk_cell BK101.out 0).trans rfl; have hcz175_1 : w174.cell? ⟨gb101, 1, none⟩ = some (.int .i64 a0_1) := (blk_cell BK101.out 1).trans rfl; have hfz175_0 := blk_frozen BK101.out 0; have hfz175_1 := blk_frozen BK101.out 1) | ((with_reducible refine gate_callee (f := 11) rfl ?_); refine goesL_ (some 18) rfl rfl Tryz.func11 (by kernel_rfl) rfl #[.agg #[.slice A0_0 l0_0.length c0_0, .int .i64 a0_1]] rfl (qva5_) ?_; (with_reducible refine (lay_Tree.calls _ _ l0_0 a0_1 t104 t105 t106 t107 t110 _ ?side1 ?side2 (hG.below (qva0_)) A9.out).mono ?_); (case side1 => exact qva13_); (case side2 => exact qva14_); rintro e w176 ⟨v108, rfl, ho0, hb⟩; refine ⟨_, rfl, ?_⟩; have n0_ := Aside0.mk (Kd.R_lower ho0 (below_size (qva2_))); have n1_ := Aside0.mk (blk_below (g := gb101) (o := .cells #[.slice A0_0 l0_0.length c0_0, .int .i64 a0_1] 24 (0, 0)) (qva3_) hb); have n2_ := Aside0.mk (below_step (qva2_) hb); clear BK101; clear HB; have HO109 := n0_; have BK101 := n1_; have HB := n2_; clear n0_ n1_ n2_; (try clear hb); (try clear hk); (try clear ho0)) | ((with_reducible refine gate_dst (N := 3) rfl ?_); (try (refine gate_guard (by rfl) ?_; dsimp only)); refine box_event ?hg (N := 3) ?hd (cs := #[.int .i64 0, .string (⟨#[]⟩ : ByteArray), .string (⟨#[]⟩ : ByteArray), .slice none 0 0]) (t := 29) ?hr ?_; (case hd => rfl); (case hg => rfl); (case hr => first | (go_simp; done) | (go_simp; rfl)); intro gb111 hg w177 hbox hb; have n0_ := Aside0.mk (Kd.R_below (Kd.R_elderB (qva8_) gb111 (Nat.le_of_eq hg.symm)) hb); have n1_ := Aside0.mk (blk_below (g := gb101) (o := .cells #[.slice A0_0 l0_0.length c0_0, .int .i64 a0_1] 24 (0, 0)) (qva3_) hb); have n2_ := Aside0.mk (below_step (qva2_) hb); have n3_ := Aside0.mk (hbox); have n4_ := Aside0.mk ((by rw [hg]; exact (below_size (qva2_)) : w.heap.size ≤ gb111)); have n5_ := Aside0.mk ((by rw [hg]; exact (below_size (qva2_)) : w.heap.size ≤ gb111)); have n6_ := Aside0.mk ((by rw [hg]; exact Nat.ne_of_lt (blk_lt (g := gb101) (o := .cells #[.slice A0_0 l0_0.length c0_0, .int .i64 a0_1] 24 (0, 0)) (qva3_)) : gb101 ≠ gb111)); have n7_ := Aside0.mk ((by rw [hg]; exact Nat.ne_of_gt (blk_lt (g := gb101) (o := .cells #[.slice A0_0 l0_0.length c0_0, .int .i64 a0_1] 24 (0, 0)) (qva3_)) : gb111 ≠ gb101)); clear HO109; clear BK101; clear HB; have HO109 := n0_; have BK101 := n1_; have HB := n2_; have BK111 := n3_; have GW111 := n4_; have GE111 := n5_; have NB101_111 := n6_; have NB111_101 := n7_; clear n0_ n1_ n2_ n3_ n4_ n5_ n6_ n7_; clear hb hbox hg; have hnb178 := NB111_101.out; have hnc178 := NB101_111.out; have hcz179_0 : w177.cell? ⟨gb111, 0, none⟩ = some (.int .i64 0) := (blk_cell BK111.out 0).trans rfl; have hcz179_1 : w177.cell? ⟨gb111, 1, none⟩ = some (.string (⟨#[]⟩ : ByteArray)) := (blk_cell BK111.out 1).trans rfl; have hcz179_2 : w177.cell? ⟨gb111, 2, none⟩ = some (.string (⟨#[]⟩ : ByteArray)) := (blk_cell BK111.out 2).trans rfl; have hcz179_3 : w177.cell? ⟨gb111, 3, none⟩ = some (.slice none 0 0) := (blk_cell BK111.out 3).trans rfl; have hfz179_0 := blk_frozen BK111.out 0; have hfz179_1 := blk_frozen BK111.out 1; have hfz179_2 := blk_frozen BK111.out 2; have hfz179_3 := blk_frozen BK111.out 3; obtain ⟨Ao180, co180, eo180⟩ := Kd.R_slice HO109.out; subst eo180) | ((with_reducible refine gate_callee (f := 10) rfl ?_); refine goesL_ (some 23) rfl rfl Tryz.func10 (by kernel_rfl) rfl #[] rfl (qva5_) ?_; (with_reducible refine (grommetlaw14_alive.calls  t112 _ (hG.below (qva0_)) A171.out).mono ?_); rintro e w181 ⟨rfl, hb⟩; refine ⟨_, rfl, ?_⟩; have n0_ := Aside0.mk (Kd.R_below (by (with_reducible repeat (first | apply Kd.R_alloc | apply Kd.R_drewN | apply Kd.R_drew)); exact (Kd.R_mono (Kd.R_far (p := ⟨gb111, 3, none⟩) (Kd.R_far (p := ⟨gb111, 2, none⟩) (Kd.R_far (p := ⟨gb111, 1, none⟩) (Kd.R_far (p := ⟨gb111, 0, none⟩) (Kd.R_mono HO109.out (fun k_ hk => (⟨hk, hk.2⟩ : _ ∧ k_ ≠ gb111))) (fun _ hk => hk.2) (.int .i64 t104)) (fun _ hk => hk.2) (.string t105)) (fun _ hk => hk.2) (.string t106)) (fun _ hk => hk.2) (.slice Ao180 t107.length co180)) (fun _ h_ => h_.1))) hb); have n1_ := Aside0.mk (blk_below (g := gb101) (o := .cells #[.slice A0_0 l0_0.length c0_0, .int .i64 a0_1] 24 (0, 0)) (qva6_) hb); have n2_ := Aside0.mk (blk_below (g := gb111) (o := .cells #[.int .i64 t104, .string t105, .string t106, .slice Ao180 t107.length co180] 29 (0, 0)) (qva4_) hb); have n3_ := Aside0.mk (below_step (qva1_) hb); clear HO109; clear BK101; clear BK111; clear HB; have HO109 := n0_; have BK101 := n1_; have BK111 := n2_; have HB := n3_; clear n0_ n1_ n2_ n3_; (try clear hb); (try clear hk)))
  go_ret
  exact ⟨qva12_, qva1_⟩
 rw [if_pos c10] at H
 have c10b0 : (t110 == 0) = true := beq_iff_eq.mpr c10
 have c10b1 : (t110 != 0) = false := bne_eq_false_iff_eq.mpr c10
 clear c10
 replace H := Option.bind_eq_some_iff.mp H
 obtain ⟨⟨t113, t116⟩, A110, H⟩ := H
 replace H : ((graph_Order.f l0_0 a0_1).bind fun bt117 => ((lay_Size.f k l0_0 a0_1).bind fun bt121 => ((grommetlaw14_anchors.f k t104 t105 t106 t107).bind fun bt123 => (if t116 = 0 then (if bt117.2 = 0 then (if bt121.2 = 0 then (if bt123.1 = (t113.length : Int) then (if bt123.2 = (wrap64 (bt121.1 - (bt117.1.length : Int))) then (if (t113.length : Int) > 0 then ((grommetlaw14_alive.f).bind fun t125 => (some t125)) else (if bt123.2 = 0 then ((grommetlaw14_alive.f).bind fun t126 => (some t126)) else (some false))) else (some false)) else (some false)) else (some false)) else (some false)) else (some false))))) = some r := H
 have A11 := Aside0.mk A110
 clear A110
 replace H := Option.bind_eq_some_iff.mp H
 obtain ⟨⟨t117, t120⟩, A120, H⟩ := H
 replace H : ((lay_Size.f k l0_0 a0_1).bind fun bt121 => ((grommetlaw14_anchors.f k t104 t105 t106 t107).bind fun bt123 => (if t116 = 0 then (if t120 = 0 then (if bt121.2 = 0 then (if bt123.1 = (t113.length : Int) then (if bt123.2 = (wrap64 (bt121.1 - (t117.length : Int))) then (if (t113.length : Int) > 0 then ((grommetlaw14_alive.f).bind fun t125 => (some t125)) else (if bt123.2 = 0 then ((grommetlaw14_alive.f).bind fun t126 => (some t126)) else (some false))) else (some false)) else (some false)) else (some false)) else (some false)) else (some false)))) = some r := H
 have A12 := Aside0.mk A120
 clear A120
 replace H := Option.bind_eq_some_iff.mp H
 obtain ⟨⟨t121, t122⟩, A130, H⟩ := H
 replace H : ((grommetlaw14_anchors.f k t104 t105 t106 t107).bind fun bt123 => (if t116 = 0 then (if t120 = 0 then (if t122 = 0 then (if bt123.1 = (t113.length : Int) then (if bt123.2 = (wrap64 (t121 - (t117.length : Int))) then (if (t113.length : Int) > 0 then ((grommetlaw14_alive.f).bind fun t125 => (some t125)) else (if bt123.2 = 0 then ((grommetlaw14_alive.f).bind fun t126 => (some t126)) else (some false))) else (some false)) else (some false)) else (some false)) else (some false)) else (some false))) = some r := H
 have A13 := Aside0.mk A130
 clear A130
 replace H := Option.bind_eq_some_iff.mp H
 obtain ⟨⟨t123, t124⟩, A140, H⟩ := H
 replace H : (if t116 = 0 then (if t120 = 0 then (if t122 = 0 then (if t123 = (t113.length : Int) then (if t124 = (wrap64 (t121 - (t117.length : Int))) then (if (t113.length : Int) > 0 then ((grommetlaw14_alive.f).bind fun t125 => (some t125)) else (if t124 = 0 then ((grommetlaw14_alive.f).bind fun t126 => (some t126)) else (some false))) else (some false)) else (some false)) else (some false)) else (some false)) else (some false)) = some r := H
 have A14 := Aside0.mk A140
 clear A140
 by_cases c15 : t116 = 0
 rotate_left
 ·
  rw [if_neg c15] at H
  have c15b0 : (t116 == 0) = false := beq_eq_false_iff_ne.mpr c15
  have c15b1 : (t116 != 0) = true := bne_iff_ne.mpr c15
  obtain rfl := Option.some.inj H
  go_enter Tryz.func4, Tryz.ntmps4
  go_wp2_with (first | ((with_reducible refine gate_dst (N := 1) rfl ?_); (try (refine gate_guard (by rfl) ?_; dsimp only)); refine box_event ?hg (N := 1) ?hd (cs := #[.slice A0_0 l0_0.length c0_0, .int .i64 a0_1]) (t := 24) ?hr ?_; (case hd => rfl); (case hg => rfl); (case hr => first | (go_simp; done) | (go_simp; rfl)); intro gb101 hg w154 hbox hb; have n0_ := Aside0.mk (below_step (qva7_) hb); have n1_ := Aside0.mk (hbox); have n2_ := Aside0.mk ((by rw [hg]; exact (below_size (qva7_)) : w.heap.size ≤ gb101)); have n3_ := Aside0.mk ((by rw [hg]; exact (below_size (qva7_)) : w.heap.size ≤ gb101)); clear HB; have HB := n0_; have BK101 := n1_; have GW101 := n2_; have GE101 := n3_; clear n0_ n1_ n2_ n3_; clear hb hbox hg; have hcz155_0 : w154.cell? ⟨gb101, 0, none⟩ = some (.slice A0_0 l0_0.length c0_0) := (blk_cell BK101.out 0).trans rfl; have hcz155_1 : w154.cell? ⟨gb101, 1, none⟩ = some (.int .i64 a0_1) := (blk_cell BK101.out 1).trans rfl; have hfz155_0 := blk_frozen BK101.out 0; have hfz155_1 := blk_frozen BK101.out 1) | ((with_reducible refine gate_callee (f := 9) rfl ?_); refine goesL_ (some 14) rfl rfl Tryz.func9 (by kernel_rfl) rfl #[.agg #[.slice A0_0 l0_0.length c0_0, .int .i64 a0_1]] rfl (qva5_) ?_; (with_reducible refine (grommetlaw14_large.calls k _ _ l0_0 a0_1 false _ ?side1 ?side2 (hG.below (qva0_)) A2.out).mono ?_); (case side1 => exact qva13_); (case side2 => exact qva14_); rintro e w156 ⟨rfl, hb⟩; refine ⟨_, rfl, ?_⟩; have n0_ := Aside0.mk (blk_below (g := gb101) (o := .cells #[.slice A0_0 l0_0.length c0_0, .int .i64 a0_1] 24 (0, 0)) (qva3_) hb); have n1_ := Aside0.mk (below_step (qva2_) hb); clear BK101; clear HB; have BK101 := n0_; have HB := n1_; clear n0_ n1_; (try clear hb); (try clear hk); have hcz157_0 : w156.cell? ⟨gb101, 0, none⟩ = some (.slice A0_0 l0_0.length c0_0) := (blk_cell BK101.out 0).trans rfl; have hcz157_1 : w156.cell? ⟨gb101, 1, none⟩ = some (.int .i64 a0_1) := (blk_cell BK101.out 1).trans rfl; have hfz157_0 := blk_frozen BK101.out 0; have hfz157_1 := blk_frozen BK101.out 1) | ((with_reducible refine gate_callee (f := 11) rfl ?_); refine goesL_ (some 18) rfl rfl Tryz.func11 (by kernel_rfl) rfl #[.agg #[.slice A0_0 l0_0.length c0_0, .int .i64 a0_1]] rfl (qva5_) ?_; (with_reducible refine (lay_Tree.calls _ _ l0_0 a0_1 t104 t105 t106 t107 t110 _ ?side1 ?side2 (hG.below (qva0_)) A9.out).mono ?_); (case side1 => exact qva13_); (case side2 => exact qva14_); rintro e w158 ⟨v108, rfl, ho0, hb⟩; refine ⟨_, rfl, ?_⟩; have n0_ := Aside0.mk (Kd.R_lower ho0 (below_size (qva2_))); have n1_ := Aside0.mk (blk_below (g := gb101) (o := .cells #[.slice A0_0 l0_0.length c0_0, .int .i64 a0_1] 24 (0, 0)) (qva3_) hb); have n2_ := Aside0.mk (below_step (qva2_) hb); clear BK101; clear HB; have HO109 := n0_; have BK101 := n1_; have HB := n2_; clear n0_ n1_ n2_; (try clear hb); (try clear hk); (try clear ho0)) | ((with_reducible refine gate_dst (N := 3) rfl ?_); (try (refine gate_guard (by rfl) ?_; dsimp only)); refine box_event ?hg (N := 3) ?hd (cs := #[.int .i64 0, .string (⟨#[]⟩ : ByteArray), .string (⟨#[]⟩ : ByteArray), .slice none 0 0]) (t := 29) ?hr ?_; (case hd => rfl); (case hg => rfl); (case hr => first | (go_simp; done) | (go_simp; rfl)); intro gb111 hg w159 hbox hb; have n0_ := Aside0.mk (Kd.R_below (Kd.R_elderB (qva8_) gb111 (Nat.le_of_eq hg.symm)) hb); have n1_ := Aside0.mk (blk_below (g := gb101) (o := .cells #[.slice A0_0 l0_0.length c0_0, .int .i64 a0_1] 24 (0, 0)) (qva3_) hb); have n2_ := Aside0.mk (below_step (qva2_) hb); have n3_ := Aside0.mk (hbox); have n4_ := Aside0.mk ((by rw [hg]; exact (below_size (qva2_)) : w.heap.size ≤ gb111)); have n5_ := Aside0.mk ((by rw [hg]; exact (below_size (qva2_)) : w.heap.size ≤ gb111)); have n6_ := Aside0.mk ((by rw [hg]; exact Nat.ne_of_lt (blk_lt (g := gb101) (o := .cells #[.slice A0_0 l0_0.length c0_0, .int .i64 a0_1] 24 (0, 0)) (qva3_)) : gb101 ≠ gb111)); have n7_ := Aside0.mk ((by rw [hg]; exact Nat.ne_of_gt (blk_lt (g := gb101) (o := .cells #[.slice A0_0 l0_0.length c0_0, .int .i64 a0_1] 24 (0, 0)) (qva3_)) : gb111 ≠ gb101)); clear HO109; clear BK101; clear HB; have HO109 := n0_; have BK101 := n1_; have HB := n2_; have BK111 := n3_; have GW111 := n4_; have GE111 := n5_; have NB101_111 := n6_; have NB111_101 := n7_; clear n0_ n1_ n2_ n3_ n4_ n5_ n6_ n7_; clear hb hbox hg; have hnb160 := NB111_101.out; have hnc160 := NB101_111.out; have hcz161_0 : w159.cell? ⟨gb111, 0, none⟩ = some (.int .i64 0) := (blk_cell BK111.out 0).trans rfl; have hcz161_1 : w159.cell? ⟨gb111, 1, none⟩ = some (.string (⟨#[]⟩ : ByteArray)) := (blk_cell BK111.out 1).trans rfl; have hcz161_2 : w159.cell? ⟨gb111, 2, none⟩ = some (.string (⟨#[]⟩ : ByteArray)) := (blk_cell BK111.out 2).trans rfl; have hcz161_3 : w159.cell? ⟨gb111, 3, none⟩ = some (.slice none 0 0) := (blk_cell BK111.out 3).trans rfl; have hfz161_0 := blk_frozen BK111.out 0; have hfz161_1 := blk_frozen BK111.out 1; have hfz161_2 := blk_frozen BK111.out 2; have hfz161_3 := blk_frozen BK111.out 3; obtain ⟨Ao162, co162, eo162⟩ := Kd.R_slice HO109.out; subst eo162; have hcz163_0 : w159.cell? ⟨gb101, 0, none⟩ = some (.slice A0_0 l0_0.length c0_0) := (blk_cell BK101.out 0).trans rfl; have hcz163_1 : w159.cell? ⟨gb101, 1, none⟩ = some (.int .i64 a0_1) := (blk_cell BK101.out 1).trans rfl; have hfz163_0 := blk_frozen BK101.out 0; have hfz163_1 := blk_frozen BK101.out 1) | ((with_reducible refine gate_callee (f := 16) rfl ?_); refine goesL_ (some 26) rfl rfl Tryz.func16 (by kernel_rfl) rfl #[.agg #[.slice A0_0 l0_0.length c0_0, .int .i64 a0_1]] rfl (qva5_) ?_; (with_reducible refine (iso_Shared.calls _ _ l0_0 a0_1 t113 t116 _ ?side1 ?side2 (hG.below (qva0_)) A11.out).mono ?_); (case side1 => exact qva15_); (case side2 => exact qva14_); rintro e w164 ⟨v114, rfl, ho0, hb⟩; refine ⟨_, rfl, ?_⟩; have n0_ := Aside0.mk (Kd.R_below (by (with_reducible repeat (first | apply Kd.R_alloc | apply Kd.R_drewN | apply Kd.R_drew)); exact (Kd.R_mono (Kd.R_far (p := ⟨gb111, 3, none⟩) (Kd.R_far (p := ⟨gb111, 2, none⟩) (Kd.R_far (p := ⟨gb111, 1, none⟩) (Kd.R_far (p := ⟨gb111, 0, none⟩) (Kd.R_mono HO109.out (fun k_ hk => (⟨hk, hk.2⟩ : _ ∧ k_ ≠ gb111))) (fun _ hk => hk.2) (.int .i64 t104)) (fun _ hk => hk.2) (.string t105)) (fun _ hk => hk.2) (.string t106)) (fun _ hk => hk.2) (.slice Ao162 t107.length co162)) (fun _ h_ => h_.1))) hb); have n1_ := Aside0.mk (Kd.R_lower ho0 (below_size (qva1_))); have n2_ := Aside0.mk (blk_below (g := gb101) (o := .cells #[.slice A0_0 l0_0.length c0_0, .int .i64 a0_1] 24 (0, 0)) (qva6_) hb); have n3_ := Aside0.mk (blk_below (g := gb111) (o := .cells #[.int .i64 t104, .string t105, .string t106, .slice Ao162 t107.length co162] 29 (0, 0)) (qva4_) hb); have n4_ := Aside0.mk (below_step (qva1_) hb); clear HO109; clear BK101; clear BK111; clear HB; have HO109 := n0_; have HO115 := n1_; have BK101 := n2_; have BK111 := n3_; have HB := n4_; clear n0_ n1_ n2_ n3_ n4_; (try clear hb); (try clear hk); (try clear ho0); have hcz165_0 : w164.cell? ⟨gb101, 0, none⟩ = some (.slice A0_0 l0_0.length c0_0) := (blk_cell BK101.out 0).trans rfl; have hcz165_1 : w164.cell? ⟨gb101, 1, none⟩ = some (.int .i64 a0_1) := (blk_cell BK101.out 1).trans rfl; have hfz165_0 := blk_frozen BK101.out 0; have hfz165_1 := blk_frozen BK101.out 1) | ((with_reducible refine gate_callee (f := 17) rfl ?_); refine goesL_ (some 31) rfl rfl Tryz.func17 (by kernel_rfl) rfl #[.agg #[.slice A0_0 l0_0.length c0_0, .int .i64 a0_1]] rfl (qva5_) ?_; (with_reducible refine (graph_Order.calls _ _ l0_0 a0_1 t117 t120 _ ?side1 ?side2 (hG.below (qva0_)) A12.out).mono ?_); (case side1 => exact qva13_); (case side2 => exact qva14_); rintro e w166 ⟨v118, rfl, ho0, hb⟩; refine ⟨_, rfl, ?_⟩; have n0_ := Aside0.mk (Kd.R_below (qva8_) hb); have n1_ := Aside0.mk (Kd.R_elder' (qva9_) (Kd.R_base ho0) hb); have n2_ := Aside0.mk (Kd.R_lower (Kd.R_new' ho0 (Kd.R_lt (qva9_))) (below_size (qva1_))); have n3_ := Aside0.mk (blk_below (g := gb101) (o := .cells #[.slice A0_0 l0_0.length c0_0, .int .i64 a0_1] 24 (0, 0)) (qva3_) hb); have n4_ := Aside0.mk (blk_below (g := gb111) (o := .cells #[.int .i64 t104, .string t105, .string t106, .slice Ao162 t107.length co162] 29 (0, 0)) (qva10_) hb); have n5_ := Aside0.mk (below_step (qva1_) hb); clear HO109; clear HO115; clear BK101; clear BK111; clear HB; have HO109 := n0_; have HO115 := n1_; have HO119 := n2_; have BK101 := n3_; have BK111 := n4_; have HB := n5_; clear n0_ n1_ n2_ n3_ n4_ n5_; (try clear hb); (try clear hk); (try clear ho0); have hcz167_0 : w166.cell? ⟨gb101, 0, none⟩ = some (.slice A0_0 l0_0.length c0_0) := (blk_cell BK101.out 0).trans rfl; have hcz167_1 : w166.cell? ⟨gb101, 1, none⟩ = some (.int .i64 a0_1) := (blk_cell BK101.out 1).trans rfl; have hfz167_0 := blk_frozen BK101.out 0; have hfz167_1 := blk_frozen BK101.out 1) | ((with_reducible refine gate_callee (f := 13) rfl ?_); refine goesL_ (some 36) rfl rfl Tryz.func13 (by kernel_rfl) rfl #[.agg #[.slice A0_0 l0_0.length c0_0, .int .i64 a0_1]] rfl (qva5_) ?_; (with_reducible refine (lay_Size.calls k _ _ l0_0 a0_1 t121 t122 _ ?side1 ?side2 (hG.below (qva0_)) A13.out).mono ?_); (case side1 => exact qva13_); (case side2 => exact qva14_); rintro e w168 ⟨rfl, hb⟩; refine ⟨_, rfl, ?_⟩; have n0_ := Aside0.mk (Kd.R_below (qva8_) hb); have n1_ := Aside0.mk (Kd.R_below (qva9_) hb); have n2_ := Aside0.mk (Kd.R_below (qva11_) hb); have n3_ := Aside0.mk (blk_below (g := gb101) (o := .cells #[.slice A0_0 l0_0.length c0_0, .int .i64 a0_1] 24 (0, 0)) (qva3_) hb); have n4_ := Aside0.mk (blk_below (g := gb111) (o := .cells #[.int .i64 t104, .string t105, .string t106, .slice Ao162 t107.length co162] 29 (0, 0)) (qva10_) hb); have n5_ := Aside0.mk (below_step (qva1_) hb); clear HO109; clear HO115; clear HO119; clear BK101; clear BK111; clear HB; have HO109 := n0_; have HO115 := n1_; have HO119 := n2_; have BK101 := n3_; have BK111 := n4_; have HB := n5_; clear n0_ n1_ n2_ n3_ n4_ n5_; (try clear hb); (try clear hk); have hcz169_0 : w168.cell? ⟨gb111, 0, none⟩ = some (.int .i64 t104) := (blk_cell BK111.out 0).trans rfl; have hcz169_1 : w168.cell? ⟨gb111, 1, none⟩ = some (.string t105) := (blk_cell BK111.out 1).trans rfl; have hcz169_2 : w168.cell? ⟨gb111, 2, none⟩ = some (.string t106) := (blk_cell BK111.out 2).trans rfl; have hcz169_3 : w168.cell? ⟨gb111, 3, none⟩ = some (.slice Ao162 t107.length co162) := (blk_cell BK111.out 3).trans rfl; have hfz169_0 := blk_frozen BK111.out 0; have hfz169_1 := blk_frozen BK111.out 1; have hfz169_2 := blk_frozen BK111.out 2; have hfz169_3 := blk_frozen BK111.out 3) | ((with_reducible refine gate_callee (f := 18) rfl ?_); refine goesL_ (some 41) rfl rfl Tryz.func18 (by kernel_rfl) rfl #[.agg #[.int .i64 t104, .string t105, .string t106, .slice Ao162 t107.length co162]] rfl (qva5_) ?_; (with_reducible refine (grommetlaw14_anchors.calls k t104 t105 t106 _ _ t107 t123 t124 _ ?side1 ?side2 (hG.below (qva0_)) A14.out).mono ?_); (case side1 => exact qva16_); (case side2 => exact qva17_); rintro e w170 ⟨rfl, hb⟩; refine ⟨_, rfl, ?_⟩; have n0_ := Aside0.mk (Kd.R_below (qva8_) hb); have n1_ := Aside0.mk (Kd.R_below (qva9_) hb); have n2_ := Aside0.mk (Kd.R_below (qva11_) hb); have n3_ := Aside0.mk (blk_below (g := gb101) (o := .cells #[.slice A0_0 l0_0.length c0_0, .int .i64 a0_1] 24 (0, 0)) (qva3_) hb); have n4_ := Aside0.mk (blk_below (g := gb111) (o := .cells #[.int .i64 t104, .string t105, .string t106, .slice Ao162 t107.length co162] 29 (0, 0)) (qva10_) hb); have n5_ := Aside0.mk (below_step (qva1_) hb); clear HO109; clear HO115; clear HO119; clear BK101; clear BK111; clear HB; have HO109 := n0_; have HO115 := n1_; have HO119 := n2_; have BK101 := n3_; have BK111 := n4_; have HB := n5_; clear n0_ n1_ n2_ n3_ n4_ n5_; (try clear hb); (try clear hk)))
  go_ret
  exact ⟨qva12_, qva1_⟩
 rw [if_pos c15] at H
 have c15b0 : (t116 == 0) = true := beq_iff_eq.mpr c15
 have c15b1 : (t116 != 0) = false := bne_eq_false_iff_eq.mpr c15
 clear c15
 by_cases c16 : t120 = 0
 rotate_left
 ·
  rw [if_neg c16] at H
  have c16b0 : (t120 == 0) = false := beq_eq_false_iff_ne.mpr c16
  have c16b1 : (t120 != 0) = true := bne_iff_ne.mpr c16
  obtain rfl := Option.some.inj H
  go_enter Tryz.func4, Tryz.ntmps4
  go_wp2_with (first | ((with_reducible refine gate_dst (N := 1) rfl ?_); (try (refine gate_guard (by rfl) ?_; dsimp only)); refine box_event ?hg (N := 1) ?hd (cs := #[.slice A0_0 l0_0.length c0_0, .int .i64 a0_1]) (t := 24) ?hr ?_; (case hd => rfl); (case hg => rfl); (case hr => first | (go_simp; done) | (go_simp; rfl)); intro gb101 hg w137 hbox hb; have n0_ := Aside0.mk (below_step (qva7_) hb); have n1_ := Aside0.mk (hbox); have n2_ := Aside0.mk ((by rw [hg]; exact (below_size (qva7_)) : w.heap.size ≤ gb101)); have n3_ := Aside0.mk ((by rw [hg]; exact (below_size (qva7_)) : w.heap.size ≤ gb101)); clear HB; have HB := n0_; have BK101 := n1_; have GW101 := n2_; have GE101 := n3_; clear n0_ n1_ n2_ n3_; clear hb hbox hg; have hcz138_0 : w137.cell? ⟨gb101, 0, none⟩ = some (.slice A0_0 l0_0.length c0_0) := (blk_cell BK101.out 0).trans rfl; have hcz138_1 : w137.cell? ⟨gb101, 1, none⟩ = some (.int .i64 a0_1) := (blk_cell BK101.out 1).trans rfl; have hfz138_0 := blk_frozen BK101.out 0; have hfz138_1 := blk_frozen BK101.out 1) | ((with_reducible refine gate_callee (f := 9) rfl ?_); refine goesL_ (some 14) rfl rfl Tryz.func9 (by kernel_rfl) rfl #[.agg #[.slice A0_0 l0_0.length c0_0, .int .i64 a0_1]] rfl (qva5_) ?_; (with_reducible refine (grommetlaw14_large.calls k _ _ l0_0 a0_1 false _ ?side1 ?side2 (hG.below (qva0_)) A2.out).mono ?_); (case side1 => exact qva13_); (case side2 => exact qva14_); rintro e w139 ⟨rfl, hb⟩; refine ⟨_, rfl, ?_⟩; have n0_ := Aside0.mk (blk_below (g := gb101) (o := .cells #[.slice A0_0 l0_0.length c0_0, .int .i64 a0_1] 24 (0, 0)) (qva3_) hb); have n1_ := Aside0.mk (below_step (qva2_) hb); clear BK101; clear HB; have BK101 := n0_; have HB := n1_; clear n0_ n1_; (try clear hb); (try clear hk); have hcz140_0 : w139.cell? ⟨gb101, 0, none⟩ = some (.slice A0_0 l0_0.length c0_0) := (blk_cell BK101.out 0).trans rfl; have hcz140_1 : w139.cell? ⟨gb101, 1, none⟩ = some (.int .i64 a0_1) := (blk_cell BK101.out 1).trans rfl; have hfz140_0 := blk_frozen BK101.out 0; have hfz140_1 := blk_frozen BK101.out 1) | ((with_reducible refine gate_callee (f := 11) rfl ?_); refine goesL_ (some 18) rfl rfl Tryz.func11 (by kernel_rfl) rfl #[.agg #[.slice A0_0 l0_0.length c0_0, .int .i64 a0_1]] rfl (qva5_) ?_; (with_reducible refine (lay_Tree.calls _ _ l0_0 a0_1 t104 t105 t106 t107 t110 _ ?side1 ?side2 (hG.below (qva0_)) A9.out).mono ?_); (case side1 => exact qva13_); (case side2 => exact qva14_); rintro e w141 ⟨v108, rfl, ho0, hb⟩; refine ⟨_, rfl, ?_⟩; have n0_ := Aside0.mk (Kd.R_lower ho0 (below_size (qva2_))); have n1_ := Aside0.mk (blk_below (g := gb101) (o := .cells #[.slice A0_0 l0_0.length c0_0, .int .i64 a0_1] 24 (0, 0)) (qva3_) hb); have n2_ := Aside0.mk (below_step (qva2_) hb); clear BK101; clear HB; have HO109 := n0_; have BK101 := n1_; have HB := n2_; clear n0_ n1_ n2_; (try clear hb); (try clear hk); (try clear ho0)) | ((with_reducible refine gate_dst (N := 3) rfl ?_); (try (refine gate_guard (by rfl) ?_; dsimp only)); refine box_event ?hg (N := 3) ?hd (cs := #[.int .i64 0, .string (⟨#[]⟩ : ByteArray), .string (⟨#[]⟩ : ByteArray), .slice none 0 0]) (t := 29) ?hr ?_; (case hd => rfl); (case hg => rfl); (case hr => first | (go_simp; done) | (go_simp; rfl)); intro gb111 hg w142 hbox hb; have n0_ := Aside0.mk (Kd.R_below (Kd.R_elderB (qva8_) gb111 (Nat.le_of_eq hg.symm)) hb); have n1_ := Aside0.mk (blk_below (g := gb101) (o := .cells #[.slice A0_0 l0_0.length c0_0, .int .i64 a0_1] 24 (0, 0)) (qva3_) hb); have n2_ := Aside0.mk (below_step (qva2_) hb); have n3_ := Aside0.mk (hbox); have n4_ := Aside0.mk ((by rw [hg]; exact (below_size (qva2_)) : w.heap.size ≤ gb111)); have n5_ := Aside0.mk ((by rw [hg]; exact (below_size (qva2_)) : w.heap.size ≤ gb111)); have n6_ := Aside0.mk ((by rw [hg]; exact Nat.ne_of_lt (blk_lt (g := gb101) (o := .cells #[.slice A0_0 l0_0.length c0_0, .int .i64 a0_1] 24 (0, 0)) (qva3_)) : gb101 ≠ gb111)); have n7_ := Aside0.mk ((by rw [hg]; exact Nat.ne_of_gt (blk_lt (g := gb101) (o := .cells #[.slice A0_0 l0_0.length c0_0, .int .i64 a0_1] 24 (0, 0)) (qva3_)) : gb111 ≠ gb101)); clear HO109; clear BK101; clear HB; have HO109 := n0_; have BK101 := n1_; have HB := n2_; have BK111 := n3_; have GW111 := n4_; have GE111 := n5_; have NB101_111 := n6_; have NB111_101 := n7_; clear n0_ n1_ n2_ n3_ n4_ n5_ n6_ n7_; clear hb hbox hg; have hnb143 := NB111_101.out; have hnc143 := NB101_111.out; have hcz144_0 : w142.cell? ⟨gb111, 0, none⟩ = some (.int .i64 0) := (blk_cell BK111.out 0).trans rfl; have hcz144_1 : w142.cell? ⟨gb111, 1, none⟩ = some (.string (⟨#[]⟩ : ByteArray)) := (blk_cell BK111.out 1).trans rfl; have hcz144_2 : w142.cell? ⟨gb111, 2, none⟩ = some (.string (⟨#[]⟩ : ByteArray)) := (blk_cell BK111.out 2).trans rfl; have hcz144_3 : w142.cell? ⟨gb111, 3, none⟩ = some (.slice none 0 0) := (blk_cell BK111.out 3).trans rfl; have hfz144_0 := blk_frozen BK111.out 0; have hfz144_1 := blk_frozen BK111.out 1; have hfz144_2 := blk_frozen BK111.out 2; have hfz144_3 := blk_frozen BK111.out 3; obtain ⟨Ao145, co145, eo145⟩ := Kd.R_slice HO109.out; subst eo145; have hcz146_0 : w142.cell? ⟨gb101, 0, none⟩ = some (.slice A0_0 l0_0.length c0_0) := (blk_cell BK101.out 0).trans rfl; have hcz146_1 : w142.cell? ⟨gb101, 1, none⟩ = some (.int .i64 a0_1) := (blk_cell BK101.out 1).trans rfl; have hfz146_0 := blk_frozen BK101.out 0; have hfz146_1 := blk_frozen BK101.out 1) | ((with_reducible refine gate_callee (f := 16) rfl ?_); refine goesL_ (some 26) rfl rfl Tryz.func16 (by kernel_rfl) rfl #[.agg #[.slice A0_0 l0_0.length c0_0, .int .i64 a0_1]] rfl (qva5_) ?_; (with_reducible refine (iso_Shared.calls _ _ l0_0 a0_1 t113 t116 _ ?side1 ?side2 (hG.below (qva0_)) A11.out).mono ?_); (case side1 => exact qva15_); (case side2 => exact qva14_); rintro e w147 ⟨v114, rfl, ho0, hb⟩; refine ⟨_, rfl, ?_⟩; have n0_ := Aside0.mk (Kd.R_below (by (with_reducible repeat (first | apply Kd.R_alloc | apply Kd.R_drewN | apply Kd.R_drew)); exact (Kd.R_mono (Kd.R_far (p := ⟨gb111, 3, none⟩) (Kd.R_far (p := ⟨gb111, 2, none⟩) (Kd.R_far (p := ⟨gb111, 1, none⟩) (Kd.R_far (p := ⟨gb111, 0, none⟩) (Kd.R_mono HO109.out (fun k_ hk => (⟨hk, hk.2⟩ : _ ∧ k_ ≠ gb111))) (fun _ hk => hk.2) (.int .i64 t104)) (fun _ hk => hk.2) (.string t105)) (fun _ hk => hk.2) (.string t106)) (fun _ hk => hk.2) (.slice Ao145 t107.length co145)) (fun _ h_ => h_.1))) hb); have n1_ := Aside0.mk (Kd.R_lower ho0 (below_size (qva1_))); have n2_ := Aside0.mk (blk_below (g := gb101) (o := .cells #[.slice A0_0 l0_0.length c0_0, .int .i64 a0_1] 24 (0, 0)) (qva6_) hb); have n3_ := Aside0.mk (blk_below (g := gb111) (o := .cells #[.int .i64 t104, .string t105, .string t106, .slice Ao145 t107.length co145] 29 (0, 0)) (qva4_) hb); have n4_ := Aside0.mk (below_step (qva1_) hb); clear HO109; clear BK101; clear BK111; clear HB; have HO109 := n0_; have HO115 := n1_; have BK101 := n2_; have BK111 := n3_; have HB := n4_; clear n0_ n1_ n2_ n3_ n4_; (try clear hb); (try clear hk); (try clear ho0); have hcz148_0 : w147.cell? ⟨gb101, 0, none⟩ = some (.slice A0_0 l0_0.length c0_0) := (blk_cell BK101.out 0).trans rfl; have hcz148_1 : w147.cell? ⟨gb101, 1, none⟩ = some (.int .i64 a0_1) := (blk_cell BK101.out 1).trans rfl; have hfz148_0 := blk_frozen BK101.out 0; have hfz148_1 := blk_frozen BK101.out 1) | ((with_reducible refine gate_callee (f := 17) rfl ?_); refine goesL_ (some 31) rfl rfl Tryz.func17 (by kernel_rfl) rfl #[.agg #[.slice A0_0 l0_0.length c0_0, .int .i64 a0_1]] rfl (qva5_) ?_; (with_reducible refine (graph_Order.calls _ _ l0_0 a0_1 t117 t120 _ ?side1 ?side2 (hG.below (qva0_)) A12.out).mono ?_); (case side1 => exact qva13_); (case side2 => exact qva14_); rintro e w149 ⟨v118, rfl, ho0, hb⟩; refine ⟨_, rfl, ?_⟩; have n0_ := Aside0.mk (Kd.R_below (qva8_) hb); have n1_ := Aside0.mk (Kd.R_elder' (qva9_) (Kd.R_base ho0) hb); have n2_ := Aside0.mk (Kd.R_lower (Kd.R_new' ho0 (Kd.R_lt (qva9_))) (below_size (qva1_))); have n3_ := Aside0.mk (blk_below (g := gb101) (o := .cells #[.slice A0_0 l0_0.length c0_0, .int .i64 a0_1] 24 (0, 0)) (qva3_) hb); have n4_ := Aside0.mk (blk_below (g := gb111) (o := .cells #[.int .i64 t104, .string t105, .string t106, .slice Ao145 t107.length co145] 29 (0, 0)) (qva10_) hb); have n5_ := Aside0.mk (below_step (qva1_) hb); clear HO109; clear HO115; clear BK101; clear BK111; clear HB; have HO109 := n0_; have HO115 := n1_; have HO119 := n2_; have BK101 := n3_; have BK111 := n4_; have HB := n5_; clear n0_ n1_ n2_ n3_ n4_ n5_; (try clear hb); (try clear hk); (try clear ho0); have hcz150_0 : w149.cell? ⟨gb101, 0, none⟩ = some (.slice A0_0 l0_0.length c0_0) := (blk_cell BK101.out 0).trans rfl; have hcz150_1 : w149.cell? ⟨gb101, 1, none⟩ = some (.int .i64 a0_1) := (blk_cell BK101.out 1).trans rfl; have hfz150_0 := blk_frozen BK101.out 0; have hfz150_1 := blk_frozen BK101.out 1) | ((with_reducible refine gate_callee (f := 13) rfl ?_); refine goesL_ (some 36) rfl rfl Tryz.func13 (by kernel_rfl) rfl #[.agg #[.slice A0_0 l0_0.length c0_0, .int .i64 a0_1]] rfl (qva5_) ?_; (with_reducible refine (lay_Size.calls k _ _ l0_0 a0_1 t121 t122 _ ?side1 ?side2 (hG.below (qva0_)) A13.out).mono ?_); (case side1 => exact qva13_); (case side2 => exact qva14_); rintro e w151 ⟨rfl, hb⟩; refine ⟨_, rfl, ?_⟩; have n0_ := Aside0.mk (Kd.R_below (qva8_) hb); have n1_ := Aside0.mk (Kd.R_below (qva9_) hb); have n2_ := Aside0.mk (Kd.R_below (qva11_) hb); have n3_ := Aside0.mk (blk_below (g := gb101) (o := .cells #[.slice A0_0 l0_0.length c0_0, .int .i64 a0_1] 24 (0, 0)) (qva3_) hb); have n4_ := Aside0.mk (blk_below (g := gb111) (o := .cells #[.int .i64 t104, .string t105, .string t106, .slice Ao145 t107.length co145] 29 (0, 0)) (qva10_) hb); have n5_ := Aside0.mk (below_step (qva1_) hb); clear HO109; clear HO115; clear HO119; clear BK101; clear BK111; clear HB; have HO109 := n0_; have HO115 := n1_; have HO119 := n2_; have BK101 := n3_; have BK111 := n4_; have HB := n5_; clear n0_ n1_ n2_ n3_ n4_ n5_; (try clear hb); (try clear hk); have hcz152_0 : w151.cell? ⟨gb111, 0, none⟩ = some (.int .i64 t104) := (blk_cell BK111.out 0).trans rfl; have hcz152_1 : w151.cell? ⟨gb111, 1, none⟩ = some (.string t105) := (blk_cell BK111.out 1).trans rfl; have hcz152_2 : w151.cell? ⟨gb111, 2, none⟩ = some (.string t106) := (blk_cell BK111.out 2).trans rfl; have hcz152_3 : w151.cell? ⟨gb111, 3, none⟩ = some (.slice Ao145 t107.length co145) := (blk_cell BK111.out 3).trans rfl; have hfz152_0 := blk_frozen BK111.out 0; have hfz152_1 := blk_frozen BK111.out 1; have hfz152_2 := blk_frozen BK111.out 2; have hfz152_3 := blk_frozen BK111.out 3) | ((with_reducible refine gate_callee (f := 18) rfl ?_); refine goesL_ (some 41) rfl rfl Tryz.func18 (by kernel_rfl) rfl #[.agg #[.int .i64 t104, .string t105, .string t106, .slice Ao145 t107.length co145]] rfl (qva5_) ?_; (with_reducible refine (grommetlaw14_anchors.calls k t104 t105 t106 _ _ t107 t123 t124 _ ?side1 ?side2 (hG.below (qva0_)) A14.out).mono ?_); (case side1 => exact qva16_); (case side2 => exact qva17_); rintro e w153 ⟨rfl, hb⟩; refine ⟨_, rfl, ?_⟩; have n0_ := Aside0.mk (Kd.R_below (qva8_) hb); have n1_ := Aside0.mk (Kd.R_below (qva9_) hb); have n2_ := Aside0.mk (Kd.R_below (qva11_) hb); have n3_ := Aside0.mk (blk_below (g := gb101) (o := .cells #[.slice A0_0 l0_0.length c0_0, .int .i64 a0_1] 24 (0, 0)) (qva3_) hb); have n4_ := Aside0.mk (blk_below (g := gb111) (o := .cells #[.int .i64 t104, .string t105, .string t106, .slice Ao145 t107.length co145] 29 (0, 0)) (qva10_) hb); have n5_ := Aside0.mk (below_step (qva1_) hb); clear HO109; clear HO115; clear HO119; clear BK101; clear BK111; clear HB; have HO109 := n0_; have HO115 := n1_; have HO119 := n2_; have BK101 := n3_; have BK111 := n4_; have HB := n5_; clear n0_ n1_ n2_ n3_ n4_ n5_; (try clear hb); (try clear hk)))
  go_ret
  exact ⟨qva12_, qva1_⟩
 rw [if_pos c16] at H
 have c16b0 : (t120 == 0) = true := beq_iff_eq.mpr c16
 have c16b1 : (t120 != 0) = false := bne_eq_false_iff_eq.mpr c16
 clear c16
 by_cases c17 : t122 = 0
 rotate_left
 ·
  rw [if_neg c17] at H
  have c17b0 : (t122 == 0) = false := beq_eq_false_iff_ne.mpr c17
  have c17b1 : (t122 != 0) = true := bne_iff_ne.mpr c17
  obtain rfl := Option.some.inj H
  go_enter Tryz.func4, Tryz.ntmps4
  go_wp2_with (first | ((with_reducible refine gate_dst (N := 1) rfl ?_); (try (refine gate_guard (by rfl) ?_; dsimp only)); refine box_event ?hg (N := 1) ?hd (cs := #[.slice A0_0 l0_0.length c0_0, .int .i64 a0_1]) (t := 24) ?hr ?_; (case hd => rfl); (case hg => rfl); (case hr => first | (go_simp; done) | (go_simp; rfl)); intro gb101 hg w120 hbox hb; have n0_ := Aside0.mk (below_step (qva7_) hb); have n1_ := Aside0.mk (hbox); have n2_ := Aside0.mk ((by rw [hg]; exact (below_size (qva7_)) : w.heap.size ≤ gb101)); have n3_ := Aside0.mk ((by rw [hg]; exact (below_size (qva7_)) : w.heap.size ≤ gb101)); clear HB; have HB := n0_; have BK101 := n1_; have GW101 := n2_; have GE101 := n3_; clear n0_ n1_ n2_ n3_; clear hb hbox hg; have hcz121_0 : w120.cell? ⟨gb101, 0, none⟩ = some (.slice A0_0 l0_0.length c0_0) := (blk_cell BK101.out 0).trans rfl; have hcz121_1 : w120.cell? ⟨gb101, 1, none⟩ = some (.int .i64 a0_1) := (blk_cell BK101.out 1).trans rfl; have hfz121_0 := blk_frozen BK101.out 0; have hfz121_1 := blk_frozen BK101.out 1) | ((with_reducible refine gate_callee (f := 9) rfl ?_); refine goesL_ (some 14) rfl rfl Tryz.func9 (by kernel_rfl) rfl #[.agg #[.slice A0_0 l0_0.length c0_0, .int .i64 a0_1]] rfl (qva5_) ?_; (with_reducible refine (grommetlaw14_large.calls k _ _ l0_0 a0_1 false _ ?side1 ?side2 (hG.below (qva0_)) A2.out).mono ?_); (case side1 => exact qva13_); (case side2 => exact qva14_); rintro e w122 ⟨rfl, hb⟩; refine ⟨_, rfl, ?_⟩; have n0_ := Aside0.mk (blk_below (g := gb101) (o := .cells #[.slice A0_0 l0_0.length c0_0, .int .i64 a0_1] 24 (0, 0)) (qva3_) hb); have n1_ := Aside0.mk (below_step (qva2_) hb); clear BK101; clear HB; have BK101 := n0_; have HB := n1_; clear n0_ n1_; (try clear hb); (try clear hk); have hcz123_0 : w122.cell? ⟨gb101, 0, none⟩ = some (.slice A0_0 l0_0.length c0_0) := (blk_cell BK101.out 0).trans rfl; have hcz123_1 : w122.cell? ⟨gb101, 1, none⟩ = some (.int .i64 a0_1) := (blk_cell BK101.out 1).trans rfl; have hfz123_0 := blk_frozen BK101.out 0; have hfz123_1 := blk_frozen BK101.out 1) | ((with_reducible refine gate_callee (f := 11) rfl ?_); refine goesL_ (some 18) rfl rfl Tryz.func11 (by kernel_rfl) rfl #[.agg #[.slice A0_0 l0_0.length c0_0, .int .i64 a0_1]] rfl (qva5_) ?_; (with_reducible refine (lay_Tree.calls _ _ l0_0 a0_1 t104 t105 t106 t107 t110 _ ?side1 ?side2 (hG.below (qva0_)) A9.out).mono ?_); (case side1 => exact qva13_); (case side2 => exact qva14_); rintro e w124 ⟨v108, rfl, ho0, hb⟩; refine ⟨_, rfl, ?_⟩; have n0_ := Aside0.mk (Kd.R_lower ho0 (below_size (qva2_))); have n1_ := Aside0.mk (blk_below (g := gb101) (o := .cells #[.slice A0_0 l0_0.length c0_0, .int .i64 a0_1] 24 (0, 0)) (qva3_) hb); have n2_ := Aside0.mk (below_step (qva2_) hb); clear BK101; clear HB; have HO109 := n0_; have BK101 := n1_; have HB := n2_; clear n0_ n1_ n2_; (try clear hb); (try clear hk); (try clear ho0)) | ((with_reducible refine gate_dst (N := 3) rfl ?_); (try (refine gate_guard (by rfl) ?_; dsimp only)); refine box_event ?hg (N := 3) ?hd (cs := #[.int .i64 0, .string (⟨#[]⟩ : ByteArray), .string (⟨#[]⟩ : ByteArray), .slice none 0 0]) (t := 29) ?hr ?_; (case hd => rfl); (case hg => rfl); (case hr => first | (go_simp; done) | (go_simp; rfl)); intro gb111 hg w125 hbox hb; have n0_ := Aside0.mk (Kd.R_below (Kd.R_elderB (qva8_) gb111 (Nat.le_of_eq hg.symm)) hb); have n1_ := Aside0.mk (blk_below (g := gb101) (o := .cells #[.slice A0_0 l0_0.length c0_0, .int .i64 a0_1] 24 (0, 0)) (qva3_) hb); have n2_ := Aside0.mk (below_step (qva2_) hb); have n3_ := Aside0.mk (hbox); have n4_ := Aside0.mk ((by rw [hg]; exact (below_size (qva2_)) : w.heap.size ≤ gb111)); have n5_ := Aside0.mk ((by rw [hg]; exact (below_size (qva2_)) : w.heap.size ≤ gb111)); have n6_ := Aside0.mk ((by rw [hg]; exact Nat.ne_of_lt (blk_lt (g := gb101) (o := .cells #[.slice A0_0 l0_0.length c0_0, .int .i64 a0_1] 24 (0, 0)) (qva3_)) : gb101 ≠ gb111)); have n7_ := Aside0.mk ((by rw [hg]; exact Nat.ne_of_gt (blk_lt (g := gb101) (o := .cells #[.slice A0_0 l0_0.length c0_0, .int .i64 a0_1] 24 (0, 0)) (qva3_)) : gb111 ≠ gb101)); clear HO109; clear BK101; clear HB; have HO109 := n0_; have BK101 := n1_; have HB := n2_; have BK111 := n3_; have GW111 := n4_; have GE111 := n5_; have NB101_111 := n6_; have NB111_101 := n7_; clear n0_ n1_ n2_ n3_ n4_ n5_ n6_ n7_; clear hb hbox hg; have hnb126 := NB111_101.out; have hnc126 := NB101_111.out; have hcz127_0 : w125.cell? ⟨gb111, 0, none⟩ = some (.int .i64 0) := (blk_cell BK111.out 0).trans rfl; have hcz127_1 : w125.cell? ⟨gb111, 1, none⟩ = some (.string (⟨#[]⟩ : ByteArray)) := (blk_cell BK111.out 1).trans rfl; have hcz127_2 : w125.cell? ⟨gb111, 2, none⟩ = some (.string (⟨#[]⟩ : ByteArray)) := (blk_cell BK111.out 2).trans rfl; have hcz127_3 : w125.cell? ⟨gb111, 3, none⟩ = some (.slice none 0 0) := (blk_cell BK111.out 3).trans rfl; have hfz127_0 := blk_frozen BK111.out 0; have hfz127_1 := blk_frozen BK111.out 1; have hfz127_2 := blk_frozen BK111.out 2; have hfz127_3 := blk_frozen BK111.out 3; obtain ⟨Ao128, co128, eo128⟩ := Kd.R_slice HO109.out; subst eo128; have hcz129_0 : w125.cell? ⟨gb101, 0, none⟩ = some (.slice A0_0 l0_0.length c0_0) := (blk_cell BK101.out 0).trans rfl; have hcz129_1 : w125.cell? ⟨gb101, 1, none⟩ = some (.int .i64 a0_1) := (blk_cell BK101.out 1).trans rfl; have hfz129_0 := blk_frozen BK101.out 0; have hfz129_1 := blk_frozen BK101.out 1) | ((with_reducible refine gate_callee (f := 16) rfl ?_); refine goesL_ (some 26) rfl rfl Tryz.func16 (by kernel_rfl) rfl #[.agg #[.slice A0_0 l0_0.length c0_0, .int .i64 a0_1]] rfl (qva5_) ?_; (with_reducible refine (iso_Shared.calls _ _ l0_0 a0_1 t113 t116 _ ?side1 ?side2 (hG.below (qva0_)) A11.out).mono ?_); (case side1 => exact qva15_); (case side2 => exact qva14_); rintro e w130 ⟨v114, rfl, ho0, hb⟩; refine ⟨_, rfl, ?_⟩; have n0_ := Aside0.mk (Kd.R_below (by (with_reducible repeat (first | apply Kd.R_alloc | apply Kd.R_drewN | apply Kd.R_drew)); exact (Kd.R_mono (Kd.R_far (p := ⟨gb111, 3, none⟩) (Kd.R_far (p := ⟨gb111, 2, none⟩) (Kd.R_far (p := ⟨gb111, 1, none⟩) (Kd.R_far (p := ⟨gb111, 0, none⟩) (Kd.R_mono HO109.out (fun k_ hk => (⟨hk, hk.2⟩ : _ ∧ k_ ≠ gb111))) (fun _ hk => hk.2) (.int .i64 t104)) (fun _ hk => hk.2) (.string t105)) (fun _ hk => hk.2) (.string t106)) (fun _ hk => hk.2) (.slice Ao128 t107.length co128)) (fun _ h_ => h_.1))) hb); have n1_ := Aside0.mk (Kd.R_lower ho0 (below_size (qva1_))); have n2_ := Aside0.mk (blk_below (g := gb101) (o := .cells #[.slice A0_0 l0_0.length c0_0, .int .i64 a0_1] 24 (0, 0)) (qva6_) hb); have n3_ := Aside0.mk (blk_below (g := gb111) (o := .cells #[.int .i64 t104, .string t105, .string t106, .slice Ao128 t107.length co128] 29 (0, 0)) (qva4_) hb); have n4_ := Aside0.mk (below_step (qva1_) hb); clear HO109; clear BK101; clear BK111; clear HB; have HO109 := n0_; have HO115 := n1_; have BK101 := n2_; have BK111 := n3_; have HB := n4_; clear n0_ n1_ n2_ n3_ n4_; (try clear hb); (try clear hk); (try clear ho0); have hcz131_0 : w130.cell? ⟨gb101, 0, none⟩ = some (.slice A0_0 l0_0.length c0_0) := (blk_cell BK101.out 0).trans rfl; have hcz131_1 : w130.cell? ⟨gb101, 1, none⟩ = some (.int .i64 a0_1) := (blk_cell BK101.out 1).trans rfl; have hfz131_0 := blk_frozen BK101.out 0; have hfz131_1 := blk_frozen BK101.out 1) | ((with_reducible refine gate_callee (f := 17) rfl ?_); refine goesL_ (some 31) rfl rfl Tryz.func17 (by kernel_rfl) rfl #[.agg #[.slice A0_0 l0_0.length c0_0, .int .i64 a0_1]] rfl (qva5_) ?_; (with_reducible refine (graph_Order.calls _ _ l0_0 a0_1 t117 t120 _ ?side1 ?side2 (hG.below (qva0_)) A12.out).mono ?_); (case side1 => exact qva13_); (case side2 => exact qva14_); rintro e w132 ⟨v118, rfl, ho0, hb⟩; refine ⟨_, rfl, ?_⟩; have n0_ := Aside0.mk (Kd.R_below (qva8_) hb); have n1_ := Aside0.mk (Kd.R_elder' (qva9_) (Kd.R_base ho0) hb); have n2_ := Aside0.mk (Kd.R_lower (Kd.R_new' ho0 (Kd.R_lt (qva9_))) (below_size (qva1_))); have n3_ := Aside0.mk (blk_below (g := gb101) (o := .cells #[.slice A0_0 l0_0.length c0_0, .int .i64 a0_1] 24 (0, 0)) (qva3_) hb); have n4_ := Aside0.mk (blk_below (g := gb111) (o := .cells #[.int .i64 t104, .string t105, .string t106, .slice Ao128 t107.length co128] 29 (0, 0)) (qva10_) hb); have n5_ := Aside0.mk (below_step (qva1_) hb); clear HO109; clear HO115; clear BK101; clear BK111; clear HB; have HO109 := n0_; have HO115 := n1_; have HO119 := n2_; have BK101 := n3_; have BK111 := n4_; have HB := n5_; clear n0_ n1_ n2_ n3_ n4_ n5_; (try clear hb); (try clear hk); (try clear ho0); have hcz133_0 : w132.cell? ⟨gb101, 0, none⟩ = some (.slice A0_0 l0_0.length c0_0) := (blk_cell BK101.out 0).trans rfl; have hcz133_1 : w132.cell? ⟨gb101, 1, none⟩ = some (.int .i64 a0_1) := (blk_cell BK101.out 1).trans rfl; have hfz133_0 := blk_frozen BK101.out 0; have hfz133_1 := blk_frozen BK101.out 1) | ((with_reducible refine gate_callee (f := 13) rfl ?_); refine goesL_ (some 36) rfl rfl Tryz.func13 (by kernel_rfl) rfl #[.agg #[.slice A0_0 l0_0.length c0_0, .int .i64 a0_1]] rfl (qva5_) ?_; (with_reducible refine (lay_Size.calls k _ _ l0_0 a0_1 t121 t122 _ ?side1 ?side2 (hG.below (qva0_)) A13.out).mono ?_); (case side1 => exact qva13_); (case side2 => exact qva14_); rintro e w134 ⟨rfl, hb⟩; refine ⟨_, rfl, ?_⟩; have n0_ := Aside0.mk (Kd.R_below (qva8_) hb); have n1_ := Aside0.mk (Kd.R_below (qva9_) hb); have n2_ := Aside0.mk (Kd.R_below (qva11_) hb); have n3_ := Aside0.mk (blk_below (g := gb101) (o := .cells #[.slice A0_0 l0_0.length c0_0, .int .i64 a0_1] 24 (0, 0)) (qva3_) hb); have n4_ := Aside0.mk (blk_below (g := gb111) (o := .cells #[.int .i64 t104, .string t105, .string t106, .slice Ao128 t107.length co128] 29 (0, 0)) (qva10_) hb); have n5_ := Aside0.mk (below_step (qva1_) hb); clear HO109; clear HO115; clear HO119; clear BK101; clear BK111; clear HB; have HO109 := n0_; have HO115 := n1_; have HO119 := n2_; have BK101 := n3_; have BK111 := n4_; have HB := n5_; clear n0_ n1_ n2_ n3_ n4_ n5_; (try clear hb); (try clear hk); have hcz135_0 : w134.cell? ⟨gb111, 0, none⟩ = some (.int .i64 t104) := (blk_cell BK111.out 0).trans rfl; have hcz135_1 : w134.cell? ⟨gb111, 1, none⟩ = some (.string t105) := (blk_cell BK111.out 1).trans rfl; have hcz135_2 : w134.cell? ⟨gb111, 2, none⟩ = some (.string t106) := (blk_cell BK111.out 2).trans rfl; have hcz135_3 : w134.cell? ⟨gb111, 3, none⟩ = some (.slice Ao128 t107.length co128) := (blk_cell BK111.out 3).trans rfl; have hfz135_0 := blk_frozen BK111.out 0; have hfz135_1 := blk_frozen BK111.out 1; have hfz135_2 := blk_frozen BK111.out 2; have hfz135_3 := blk_frozen BK111.out 3) | ((with_reducible refine gate_callee (f := 18) rfl ?_); refine goesL_ (some 41) rfl rfl Tryz.func18 (by kernel_rfl) rfl #[.agg #[.int .i64 t104, .string t105, .string t106, .slice Ao128 t107.length co128]] rfl (qva5_) ?_; (with_reducible refine (grommetlaw14_anchors.calls k t104 t105 t106 _ _ t107 t123 t124 _ ?side1 ?side2 (hG.below (qva0_)) A14.out).mono ?_); (case side1 => exact qva16_); (case side2 => exact qva17_); rintro e w136 ⟨rfl, hb⟩; refine ⟨_, rfl, ?_⟩; have n0_ := Aside0.mk (Kd.R_below (qva8_) hb); have n1_ := Aside0.mk (Kd.R_below (qva9_) hb); have n2_ := Aside0.mk (Kd.R_below (qva11_) hb); have n3_ := Aside0.mk (blk_below (g := gb101) (o := .cells #[.slice A0_0 l0_0.length c0_0, .int .i64 a0_1] 24 (0, 0)) (qva3_) hb); have n4_ := Aside0.mk (blk_below (g := gb111) (o := .cells #[.int .i64 t104, .string t105, .string t106, .slice Ao128 t107.length co128] 29 (0, 0)) (qva10_) hb); have n5_ := Aside0.mk (below_step (qva1_) hb); clear HO109; clear HO115; clear HO119; clear BK101; clear BK111; clear HB; have HO109 := n0_; have HO115 := n1_; have HO119 := n2_; have BK101 := n3_; have BK111 := n4_; have HB := n5_; clear n0_ n1_ n2_ n3_ n4_ n5_; (try clear hb); (try clear hk)))
  go_ret
  exact ⟨qva12_, qva1_⟩
 rw [if_pos c17] at H
 have c17b0 : (t122 == 0) = true := beq_iff_eq.mpr c17
 have c17b1 : (t122 != 0) = false := bne_eq_false_iff_eq.mpr c17
 clear c17
 by_cases c18 : t123 = (t113.length : Int)
 rotate_left
 ·
  rw [if_neg c18] at H
  have c18b0 : (t123 == (t113.length : Int)) = false := beq_eq_false_iff_ne.mpr c18
  have c18b1 : (t123 != (t113.length : Int)) = true := bne_iff_ne.mpr c18
  obtain rfl := Option.some.inj H
  go_enter Tryz.func4, Tryz.ntmps4
  go_wp2_with (first | ((with_reducible refine gate_dst (N := 1) rfl ?_); (try (refine gate_guard (by rfl) ?_; dsimp only)); refine box_event ?hg (N := 1) ?hd (cs := #[.slice A0_0 l0_0.length c0_0, .int .i64 a0_1]) (t := 24) ?hr ?_; (case hd => rfl); (case hg => rfl); (case hr => first | (go_simp; done) | (go_simp; rfl)); intro gb101 hg w102 hbox hb; have n0_ := Aside0.mk (below_step (qva7_) hb); have n1_ := Aside0.mk (hbox); have n2_ := Aside0.mk ((by rw [hg]; exact (below_size (qva7_)) : w.heap.size ≤ gb101)); have n3_ := Aside0.mk ((by rw [hg]; exact (below_size (qva7_)) : w.heap.size ≤ gb101)); clear HB; have HB := n0_; have BK101 := n1_; have GW101 := n2_; have GE101 := n3_; clear n0_ n1_ n2_ n3_; clear hb hbox hg; have hcz103_0 : w102.cell? ⟨gb101, 0, none⟩ = some (.slice A0_0 l0_0.length c0_0) := (blk_cell BK101.out 0).trans rfl; have hcz103_1 : w102.cell? ⟨gb101, 1, none⟩ = some (.int .i64 a0_1) := (blk_cell BK101.out 1).trans rfl; have hfz103_0 := blk_frozen BK101.out 0; have hfz103_1 := blk_frozen BK101.out 1) | ((with_reducible refine gate_callee (f := 9) rfl ?_); refine goesL_ (some 14) rfl rfl Tryz.func9 (by kernel_rfl) rfl #[.agg #[.slice A0_0 l0_0.length c0_0, .int .i64 a0_1]] rfl (qva5_) ?_; (with_reducible refine (grommetlaw14_large.calls k _ _ l0_0 a0_1 false _ ?side1 ?side2 (hG.below (qva0_)) A2.out).mono ?_); (case side1 => exact qva13_); (case side2 => exact qva14_); rintro e w104 ⟨rfl, hb⟩; refine ⟨_, rfl, ?_⟩; have n0_ := Aside0.mk (blk_below (g := gb101) (o := .cells #[.slice A0_0 l0_0.length c0_0, .int .i64 a0_1] 24 (0, 0)) (qva3_) hb); have n1_ := Aside0.mk (below_step (qva2_) hb); clear BK101; clear HB; have BK101 := n0_; have HB := n1_; clear n0_ n1_; (try clear hb); (try clear hk); have hcz105_0 : w104.cell? ⟨gb101, 0, none⟩ = some (.slice A0_0 l0_0.length c0_0) := (blk_cell BK101.out 0).trans rfl; have hcz105_1 : w104.cell? ⟨gb101, 1, none⟩ = some (.int .i64 a0_1) := (blk_cell BK101.out 1).trans rfl; have hfz105_0 := blk_frozen BK101.out 0; have hfz105_1 := blk_frozen BK101.out 1) | ((with_reducible refine gate_callee (f := 11) rfl ?_); refine goesL_ (some 18) rfl rfl Tryz.func11 (by kernel_rfl) rfl #[.agg #[.slice A0_0 l0_0.length c0_0, .int .i64 a0_1]] rfl (qva5_) ?_; (with_reducible refine (lay_Tree.calls _ _ l0_0 a0_1 t104 t105 t106 t107 t110 _ ?side1 ?side2 (hG.below (qva0_)) A9.out).mono ?_); (case side1 => exact qva13_); (case side2 => exact qva14_); rintro e w106 ⟨v108, rfl, ho0, hb⟩; refine ⟨_, rfl, ?_⟩; have n0_ := Aside0.mk (Kd.R_lower ho0 (below_size (qva2_))); have n1_ := Aside0.mk (blk_below (g := gb101) (o := .cells #[.slice A0_0 l0_0.length c0_0, .int .i64 a0_1] 24 (0, 0)) (qva3_) hb); have n2_ := Aside0.mk (below_step (qva2_) hb); clear BK101; clear HB; have HO109 := n0_; have BK101 := n1_; have HB := n2_; clear n0_ n1_ n2_; (try clear hb); (try clear hk); (try clear ho0)) | ((with_reducible refine gate_dst (N := 3) rfl ?_); (try (refine gate_guard (by rfl) ?_; dsimp only)); refine box_event ?hg (N := 3) ?hd (cs := #[.int .i64 0, .string (⟨#[]⟩ : ByteArray), .string (⟨#[]⟩ : ByteArray), .slice none 0 0]) (t := 29) ?hr ?_; (case hd => rfl); (case hg => rfl); (case hr => first | (go_simp; done) | (go_simp; rfl)); intro gb111 hg w107 hbox hb; have n0_ := Aside0.mk (Kd.R_below (Kd.R_elderB (qva8_) gb111 (Nat.le_of_eq hg.symm)) hb); have n1_ := Aside0.mk (blk_below (g := gb101) (o := .cells #[.slice A0_0 l0_0.length c0_0, .int .i64 a0_1] 24 (0, 0)) (qva3_) hb); have n2_ := Aside0.mk (below_step (qva2_) hb); have n3_ := Aside0.mk (hbox); have n4_ := Aside0.mk ((by rw [hg]; exact (below_size (qva2_)) : w.heap.size ≤ gb111)); have n5_ := Aside0.mk ((by rw [hg]; exact (below_size (qva2_)) : w.heap.size ≤ gb111)); have n6_ := Aside0.mk ((by rw [hg]; exact Nat.ne_of_lt (blk_lt (g := gb101) (o := .cells #[.slice A0_0 l0_0.length c0_0, .int .i64 a0_1] 24 (0, 0)) (qva3_)) : gb101 ≠ gb111)); have n7_ := Aside0.mk ((by rw [hg]; exact Nat.ne_of_gt (blk_lt (g := gb101) (o := .cells #[.slice A0_0 l0_0.length c0_0, .int .i64 a0_1] 24 (0, 0)) (qva3_)) : gb111 ≠ gb101)); clear HO109; clear BK101; clear HB; have HO109 := n0_; have BK101 := n1_; have HB := n2_; have BK111 := n3_; have GW111 := n4_; have GE111 := n5_; have NB101_111 := n6_; have NB111_101 := n7_; clear n0_ n1_ n2_ n3_ n4_ n5_ n6_ n7_; clear hb hbox hg; have hnb108 := NB111_101.out; have hnc108 := NB101_111.out; have hcz109_0 : w107.cell? ⟨gb111, 0, none⟩ = some (.int .i64 0) := (blk_cell BK111.out 0).trans rfl; have hcz109_1 : w107.cell? ⟨gb111, 1, none⟩ = some (.string (⟨#[]⟩ : ByteArray)) := (blk_cell BK111.out 1).trans rfl; have hcz109_2 : w107.cell? ⟨gb111, 2, none⟩ = some (.string (⟨#[]⟩ : ByteArray)) := (blk_cell BK111.out 2).trans rfl; have hcz109_3 : w107.cell? ⟨gb111, 3, none⟩ = some (.slice none 0 0) := (blk_cell BK111.out 3).trans rfl; have hfz109_0 := blk_frozen BK111.out 0; have hfz109_1 := blk_frozen BK111.out 1; have hfz109_2 := blk_frozen BK111.out 2; have hfz109_3 := blk_frozen BK111.out 3; obtain ⟨Ao110, co110, eo110⟩ := Kd.R_slice HO109.out; subst eo110; have hcz111_0 : w107.cell? ⟨gb101, 0, none⟩ = some (.slice A0_0 l0_0.length c0_0) := (blk_cell BK101.out 0).trans rfl; have hcz111_1 : w107.cell? ⟨gb101, 1, none⟩ = some (.int .i64 a0_1) := (blk_cell BK101.out 1).trans rfl; have hfz111_0 := blk_frozen BK101.out 0; have hfz111_1 := blk_frozen BK101.out 1) | ((with_reducible refine gate_callee (f := 16) rfl ?_); refine goesL_ (some 26) rfl rfl Tryz.func16 (by kernel_rfl) rfl #[.agg #[.slice A0_0 l0_0.length c0_0, .int .i64 a0_1]] rfl (qva5_) ?_; (with_reducible refine (iso_Shared.calls _ _ l0_0 a0_1 t113 t116 _ ?side1 ?side2 (hG.below (qva0_)) A11.out).mono ?_); (case side1 => exact qva15_); (case side2 => exact qva14_); rintro e w112 ⟨v114, rfl, ho0, hb⟩; refine ⟨_, rfl, ?_⟩; have n0_ := Aside0.mk (Kd.R_below (by (with_reducible repeat (first | apply Kd.R_alloc | apply Kd.R_drewN | apply Kd.R_drew)); exact (Kd.R_mono (Kd.R_far (p := ⟨gb111, 3, none⟩) (Kd.R_far (p := ⟨gb111, 2, none⟩) (Kd.R_far (p := ⟨gb111, 1, none⟩) (Kd.R_far (p := ⟨gb111, 0, none⟩) (Kd.R_mono HO109.out (fun k_ hk => (⟨hk, hk.2⟩ : _ ∧ k_ ≠ gb111))) (fun _ hk => hk.2) (.int .i64 t104)) (fun _ hk => hk.2) (.string t105)) (fun _ hk => hk.2) (.string t106)) (fun _ hk => hk.2) (.slice Ao110 t107.length co110)) (fun _ h_ => h_.1))) hb); have n1_ := Aside0.mk (Kd.R_lower ho0 (below_size (qva1_))); have n2_ := Aside0.mk (blk_below (g := gb101) (o := .cells #[.slice A0_0 l0_0.length c0_0, .int .i64 a0_1] 24 (0, 0)) (qva6_) hb); have n3_ := Aside0.mk (blk_below (g := gb111) (o := .cells #[.int .i64 t104, .string t105, .string t106, .slice Ao110 t107.length co110] 29 (0, 0)) (qva4_) hb); have n4_ := Aside0.mk (below_step (qva1_) hb); clear HO109; clear BK101; clear BK111; clear HB; have HO109 := n0_; have HO115 := n1_; have BK101 := n2_; have BK111 := n3_; have HB := n4_; clear n0_ n1_ n2_ n3_ n4_; (try clear hb); (try clear hk); (try clear ho0); have hcz113_0 : w112.cell? ⟨gb101, 0, none⟩ = some (.slice A0_0 l0_0.length c0_0) := (blk_cell BK101.out 0).trans rfl; have hcz113_1 : w112.cell? ⟨gb101, 1, none⟩ = some (.int .i64 a0_1) := (blk_cell BK101.out 1).trans rfl; have hfz113_0 := blk_frozen BK101.out 0; have hfz113_1 := blk_frozen BK101.out 1) | ((with_reducible refine gate_callee (f := 17) rfl ?_); refine goesL_ (some 31) rfl rfl Tryz.func17 (by kernel_rfl) rfl #[.agg #[.slice A0_0 l0_0.length c0_0, .int .i64 a0_1]] rfl (qva5_) ?_; (with_reducible refine (graph_Order.calls _ _ l0_0 a0_1 t117 t120 _ ?side1 ?side2 (hG.below (qva0_)) A12.out).mono ?_); (case side1 => exact qva13_); (case side2 => exact qva14_); rintro e w114 ⟨v118, rfl, ho0, hb⟩; refine ⟨_, rfl, ?_⟩; have n0_ := Aside0.mk (Kd.R_below (qva8_) hb); have n1_ := Aside0.mk (Kd.R_elder' (qva9_) (Kd.R_base ho0) hb); have n2_ := Aside0.mk (Kd.R_lower (Kd.R_new' ho0 (Kd.R_lt (qva9_))) (below_size (qva1_))); have n3_ := Aside0.mk (blk_below (g := gb101) (o := .cells #[.slice A0_0 l0_0.length c0_0, .int .i64 a0_1] 24 (0, 0)) (qva3_) hb); have n4_ := Aside0.mk (blk_below (g := gb111) (o := .cells #[.int .i64 t104, .string t105, .string t106, .slice Ao110 t107.length co110] 29 (0, 0)) (qva10_) hb); have n5_ := Aside0.mk (below_step (qva1_) hb); clear HO109; clear HO115; clear BK101; clear BK111; clear HB; have HO109 := n0_; have HO115 := n1_; have HO119 := n2_; have BK101 := n3_; have BK111 := n4_; have HB := n5_; clear n0_ n1_ n2_ n3_ n4_ n5_; (try clear hb); (try clear hk); (try clear ho0); have hcz115_0 : w114.cell? ⟨gb101, 0, none⟩ = some (.slice A0_0 l0_0.length c0_0) := (blk_cell BK101.out 0).trans rfl; have hcz115_1 : w114.cell? ⟨gb101, 1, none⟩ = some (.int .i64 a0_1) := (blk_cell BK101.out 1).trans rfl; have hfz115_0 := blk_frozen BK101.out 0; have hfz115_1 := blk_frozen BK101.out 1) | ((with_reducible refine gate_callee (f := 13) rfl ?_); refine goesL_ (some 36) rfl rfl Tryz.func13 (by kernel_rfl) rfl #[.agg #[.slice A0_0 l0_0.length c0_0, .int .i64 a0_1]] rfl (qva5_) ?_; (with_reducible refine (lay_Size.calls k _ _ l0_0 a0_1 t121 t122 _ ?side1 ?side2 (hG.below (qva0_)) A13.out).mono ?_); (case side1 => exact qva13_); (case side2 => exact qva14_); rintro e w116 ⟨rfl, hb⟩; refine ⟨_, rfl, ?_⟩; have n0_ := Aside0.mk (Kd.R_below (qva8_) hb); have n1_ := Aside0.mk (Kd.R_below (qva9_) hb); have n2_ := Aside0.mk (Kd.R_below (qva11_) hb); have n3_ := Aside0.mk (blk_below (g := gb101) (o := .cells #[.slice A0_0 l0_0.length c0_0, .int .i64 a0_1] 24 (0, 0)) (qva3_) hb); have n4_ := Aside0.mk (blk_below (g := gb111) (o := .cells #[.int .i64 t104, .string t105, .string t106, .slice Ao110 t107.length co110] 29 (0, 0)) (qva10_) hb); have n5_ := Aside0.mk (below_step (qva1_) hb); clear HO109; clear HO115; clear HO119; clear BK101; clear BK111; clear HB; have HO109 := n0_; have HO115 := n1_; have HO119 := n2_; have BK101 := n3_; have BK111 := n4_; have HB := n5_; clear n0_ n1_ n2_ n3_ n4_ n5_; (try clear hb); (try clear hk); have hcz117_0 : w116.cell? ⟨gb111, 0, none⟩ = some (.int .i64 t104) := (blk_cell BK111.out 0).trans rfl; have hcz117_1 : w116.cell? ⟨gb111, 1, none⟩ = some (.string t105) := (blk_cell BK111.out 1).trans rfl; have hcz117_2 : w116.cell? ⟨gb111, 2, none⟩ = some (.string t106) := (blk_cell BK111.out 2).trans rfl; have hcz117_3 : w116.cell? ⟨gb111, 3, none⟩ = some (.slice Ao110 t107.length co110) := (blk_cell BK111.out 3).trans rfl; have hfz117_0 := blk_frozen BK111.out 0; have hfz117_1 := blk_frozen BK111.out 1; have hfz117_2 := blk_frozen BK111.out 2; have hfz117_3 := blk_frozen BK111.out 3) | ((with_reducible refine gate_callee (f := 18) rfl ?_); refine goesL_ (some 41) rfl rfl Tryz.func18 (by kernel_rfl) rfl #[.agg #[.int .i64 t104, .string t105, .string t106, .slice Ao110 t107.length co110]] rfl (qva5_) ?_; (with_reducible refine (grommetlaw14_anchors.calls k t104 t105 t106 _ _ t107 t123 t124 _ ?side1 ?side2 (hG.below (qva0_)) A14.out).mono ?_); (case side1 => exact qva16_); (case side2 => exact qva17_); rintro e w118 ⟨rfl, hb⟩; refine ⟨_, rfl, ?_⟩; have n0_ := Aside0.mk (Kd.R_below (qva8_) hb); have n1_ := Aside0.mk (Kd.R_below (qva9_) hb); have n2_ := Aside0.mk (Kd.R_below (qva11_) hb); have n3_ := Aside0.mk (blk_below (g := gb101) (o := .cells #[.slice A0_0 l0_0.length c0_0, .int .i64 a0_1] 24 (0, 0)) (qva3_) hb); have n4_ := Aside0.mk (blk_below (g := gb111) (o := .cells #[.int .i64 t104, .string t105, .string t106, .slice Ao110 t107.length co110] 29 (0, 0)) (qva10_) hb); have n5_ := Aside0.mk (below_step (qva1_) hb); clear HO109; clear HO115; clear HO119; clear BK101; clear BK111; clear HB; have HO109 := n0_; have HO115 := n1_; have HO119 := n2_; have BK101 := n3_; have BK111 := n4_; have HB := n5_; clear n0_ n1_ n2_ n3_ n4_ n5_; (try clear hb); (try clear hk); obtain ⟨Ao119, co119, eo119⟩ := Kd.R_slice HO115.out; subst eo119))
  go_ret
  exact ⟨qva12_, qva1_⟩
 rw [if_pos c18] at H
 have c18b0 : (t123 == (t113.length : Int)) = true := beq_iff_eq.mpr c18
 have c18b1 : (t123 != (t113.length : Int)) = false := bne_eq_false_iff_eq.mpr c18
 clear c18
 by_cases c19 : t124 = (wrap64 (t121 - (t117.length : Int)))
 rotate_left
 ·
  rw [if_neg c19] at H
  have c19b0 : (t124 == (wrap64 (t121 - (t117.length : Int)))) = false := beq_eq_false_iff_ne.mpr c19
  have c19b1 : (t124 != (wrap64 (t121 - (t117.length : Int)))) = true := bne_iff_ne.mpr c19
  obtain rfl := Option.some.inj H
  go_enter Tryz.func4, Tryz.ntmps4
  go_wp2_with (first | ((with_reducible refine gate_dst (N := 1) rfl ?_); (try (refine gate_guard (by rfl) ?_; dsimp only)); refine box_event ?hg (N := 1) ?hd (cs := #[.slice A0_0 l0_0.length c0_0, .int .i64 a0_1]) (t := 24) ?hr ?_; (case hd => rfl); (case hg => rfl); (case hr => first | (go_simp; done) | (go_simp; rfl)); intro gb101 hg w83 hbox hb; have n0_ := Aside0.mk (below_step (qva7_) hb); have n1_ := Aside0.mk (hbox); have n2_ := Aside0.mk ((by rw [hg]; exact (below_size (qva7_)) : w.heap.size ≤ gb101)); have n3_ := Aside0.mk ((by rw [hg]; exact (below_size (qva7_)) : w.heap.size ≤ gb101)); clear HB; have HB := n0_; have BK101 := n1_; have GW101 := n2_; have GE101 := n3_; clear n0_ n1_ n2_ n3_; clear hb hbox hg; have hcz84_0 : w83.cell? ⟨gb101, 0, none⟩ = some (.slice A0_0 l0_0.length c0_0) := (blk_cell BK101.out 0).trans rfl; have hcz84_1 : w83.cell? ⟨gb101, 1, none⟩ = some (.int .i64 a0_1) := (blk_cell BK101.out 1).trans rfl; have hfz84_0 := blk_frozen BK101.out 0; have hfz84_1 := blk_frozen BK101.out 1) | ((with_reducible refine gate_callee (f := 9) rfl ?_); refine goesL_ (some 14) rfl rfl Tryz.func9 (by kernel_rfl) rfl #[.agg #[.slice A0_0 l0_0.length c0_0, .int .i64 a0_1]] rfl (qva5_) ?_; (with_reducible refine (grommetlaw14_large.calls k _ _ l0_0 a0_1 false _ ?side1 ?side2 (hG.below (qva0_)) A2.out).mono ?_); (case side1 => exact qva13_); (case side2 => exact qva14_); rintro e w85 ⟨rfl, hb⟩; refine ⟨_, rfl, ?_⟩; have n0_ := Aside0.mk (blk_below (g := gb101) (o := .cells #[.slice A0_0 l0_0.length c0_0, .int .i64 a0_1] 24 (0, 0)) (qva3_) hb); have n1_ := Aside0.mk (below_step (qva2_) hb); clear BK101; clear HB; have BK101 := n0_; have HB := n1_; clear n0_ n1_; (try clear hb); (try clear hk); have hcz86_0 : w85.cell? ⟨gb101, 0, none⟩ = some (.slice A0_0 l0_0.length c0_0) := (blk_cell BK101.out 0).trans rfl; have hcz86_1 : w85.cell? ⟨gb101, 1, none⟩ = some (.int .i64 a0_1) := (blk_cell BK101.out 1).trans rfl; have hfz86_0 := blk_frozen BK101.out 0; have hfz86_1 := blk_frozen BK101.out 1) | ((with_reducible refine gate_callee (f := 11) rfl ?_); refine goesL_ (some 18) rfl rfl Tryz.func11 (by kernel_rfl) rfl #[.agg #[.slice A0_0 l0_0.length c0_0, .int .i64 a0_1]] rfl (qva5_) ?_; (with_reducible refine (lay_Tree.calls _ _ l0_0 a0_1 t104 t105 t106 t107 t110 _ ?side1 ?side2 (hG.below (qva0_)) A9.out).mono ?_); (case side1 => exact qva13_); (case side2 => exact qva14_); rintro e w87 ⟨v108, rfl, ho0, hb⟩; refine ⟨_, rfl, ?_⟩; have n0_ := Aside0.mk (Kd.R_lower ho0 (below_size (qva2_))); have n1_ := Aside0.mk (blk_below (g := gb101) (o := .cells #[.slice A0_0 l0_0.length c0_0, .int .i64 a0_1] 24 (0, 0)) (qva3_) hb); have n2_ := Aside0.mk (below_step (qva2_) hb); clear BK101; clear HB; have HO109 := n0_; have BK101 := n1_; have HB := n2_; clear n0_ n1_ n2_; (try clear hb); (try clear hk); (try clear ho0)) | ((with_reducible refine gate_dst (N := 3) rfl ?_); (try (refine gate_guard (by rfl) ?_; dsimp only)); refine box_event ?hg (N := 3) ?hd (cs := #[.int .i64 0, .string (⟨#[]⟩ : ByteArray), .string (⟨#[]⟩ : ByteArray), .slice none 0 0]) (t := 29) ?hr ?_; (case hd => rfl); (case hg => rfl); (case hr => first | (go_simp; done) | (go_simp; rfl)); intro gb111 hg w88 hbox hb; have n0_ := Aside0.mk (Kd.R_below (Kd.R_elderB (qva8_) gb111 (Nat.le_of_eq hg.symm)) hb); have n1_ := Aside0.mk (blk_below (g := gb101) (o := .cells #[.slice A0_0 l0_0.length c0_0, .int .i64 a0_1] 24 (0, 0)) (qva3_) hb); have n2_ := Aside0.mk (below_step (qva2_) hb); have n3_ := Aside0.mk (hbox); have n4_ := Aside0.mk ((by rw [hg]; exact (below_size (qva2_)) : w.heap.size ≤ gb111)); have n5_ := Aside0.mk ((by rw [hg]; exact (below_size (qva2_)) : w.heap.size ≤ gb111)); have n6_ := Aside0.mk ((by rw [hg]; exact Nat.ne_of_lt (blk_lt (g := gb101) (o := .cells #[.slice A0_0 l0_0.length c0_0, .int .i64 a0_1] 24 (0, 0)) (qva3_)) : gb101 ≠ gb111)); have n7_ := Aside0.mk ((by rw [hg]; exact Nat.ne_of_gt (blk_lt (g := gb101) (o := .cells #[.slice A0_0 l0_0.length c0_0, .int .i64 a0_1] 24 (0, 0)) (qva3_)) : gb111 ≠ gb101)); clear HO109; clear BK101; clear HB; have HO109 := n0_; have BK101 := n1_; have HB := n2_; have BK111 := n3_; have GW111 := n4_; have GE111 := n5_; have NB101_111 := n6_; have NB111_101 := n7_; clear n0_ n1_ n2_ n3_ n4_ n5_ n6_ n7_; clear hb hbox hg; have hnb89 := NB111_101.out; have hnc89 := NB101_111.out; have hcz90_0 : w88.cell? ⟨gb111, 0, none⟩ = some (.int .i64 0) := (blk_cell BK111.out 0).trans rfl; have hcz90_1 : w88.cell? ⟨gb111, 1, none⟩ = some (.string (⟨#[]⟩ : ByteArray)) := (blk_cell BK111.out 1).trans rfl; have hcz90_2 : w88.cell? ⟨gb111, 2, none⟩ = some (.string (⟨#[]⟩ : ByteArray)) := (blk_cell BK111.out 2).trans rfl; have hcz90_3 : w88.cell? ⟨gb111, 3, none⟩ = some (.slice none 0 0) := (blk_cell BK111.out 3).trans rfl; have hfz90_0 := blk_frozen BK111.out 0; have hfz90_1 := blk_frozen BK111.out 1; have hfz90_2 := blk_frozen BK111.out 2; have hfz90_3 := blk_frozen BK111.out 3; obtain ⟨Ao91, co91, eo91⟩ := Kd.R_slice HO109.out; subst eo91; have hcz92_0 : w88.cell? ⟨gb101, 0, none⟩ = some (.slice A0_0 l0_0.length c0_0) := (blk_cell BK101.out 0).trans rfl; have hcz92_1 : w88.cell? ⟨gb101, 1, none⟩ = some (.int .i64 a0_1) := (blk_cell BK101.out 1).trans rfl; have hfz92_0 := blk_frozen BK101.out 0; have hfz92_1 := blk_frozen BK101.out 1) | ((with_reducible refine gate_callee (f := 16) rfl ?_); refine goesL_ (some 26) rfl rfl Tryz.func16 (by kernel_rfl) rfl #[.agg #[.slice A0_0 l0_0.length c0_0, .int .i64 a0_1]] rfl (qva5_) ?_; (with_reducible refine (iso_Shared.calls _ _ l0_0 a0_1 t113 t116 _ ?side1 ?side2 (hG.below (qva0_)) A11.out).mono ?_); (case side1 => exact qva15_); (case side2 => exact qva14_); rintro e w93 ⟨v114, rfl, ho0, hb⟩; refine ⟨_, rfl, ?_⟩; have n0_ := Aside0.mk (Kd.R_below (by (with_reducible repeat (first | apply Kd.R_alloc | apply Kd.R_drewN | apply Kd.R_drew)); exact (Kd.R_mono (Kd.R_far (p := ⟨gb111, 3, none⟩) (Kd.R_far (p := ⟨gb111, 2, none⟩) (Kd.R_far (p := ⟨gb111, 1, none⟩) (Kd.R_far (p := ⟨gb111, 0, none⟩) (Kd.R_mono HO109.out (fun k_ hk => (⟨hk, hk.2⟩ : _ ∧ k_ ≠ gb111))) (fun _ hk => hk.2) (.int .i64 t104)) (fun _ hk => hk.2) (.string t105)) (fun _ hk => hk.2) (.string t106)) (fun _ hk => hk.2) (.slice Ao91 t107.length co91)) (fun _ h_ => h_.1))) hb); have n1_ := Aside0.mk (Kd.R_lower ho0 (below_size (qva1_))); have n2_ := Aside0.mk (blk_below (g := gb101) (o := .cells #[.slice A0_0 l0_0.length c0_0, .int .i64 a0_1] 24 (0, 0)) (qva6_) hb); have n3_ := Aside0.mk (blk_below (g := gb111) (o := .cells #[.int .i64 t104, .string t105, .string t106, .slice Ao91 t107.length co91] 29 (0, 0)) (qva4_) hb); have n4_ := Aside0.mk (below_step (qva1_) hb); clear HO109; clear BK101; clear BK111; clear HB; have HO109 := n0_; have HO115 := n1_; have BK101 := n2_; have BK111 := n3_; have HB := n4_; clear n0_ n1_ n2_ n3_ n4_; (try clear hb); (try clear hk); (try clear ho0); have hcz94_0 : w93.cell? ⟨gb101, 0, none⟩ = some (.slice A0_0 l0_0.length c0_0) := (blk_cell BK101.out 0).trans rfl; have hcz94_1 : w93.cell? ⟨gb101, 1, none⟩ = some (.int .i64 a0_1) := (blk_cell BK101.out 1).trans rfl; have hfz94_0 := blk_frozen BK101.out 0; have hfz94_1 := blk_frozen BK101.out 1) | ((with_reducible refine gate_callee (f := 17) rfl ?_); refine goesL_ (some 31) rfl rfl Tryz.func17 (by kernel_rfl) rfl #[.agg #[.slice A0_0 l0_0.length c0_0, .int .i64 a0_1]] rfl (qva5_) ?_; (with_reducible refine (graph_Order.calls _ _ l0_0 a0_1 t117 t120 _ ?side1 ?side2 (hG.below (qva0_)) A12.out).mono ?_); (case side1 => exact qva13_); (case side2 => exact qva14_); rintro e w95 ⟨v118, rfl, ho0, hb⟩; refine ⟨_, rfl, ?_⟩; have n0_ := Aside0.mk (Kd.R_below (qva8_) hb); have n1_ := Aside0.mk (Kd.R_elder' (qva9_) (Kd.R_base ho0) hb); have n2_ := Aside0.mk (Kd.R_lower (Kd.R_new' ho0 (Kd.R_lt (qva9_))) (below_size (qva1_))); have n3_ := Aside0.mk (blk_below (g := gb101) (o := .cells #[.slice A0_0 l0_0.length c0_0, .int .i64 a0_1] 24 (0, 0)) (qva3_) hb); have n4_ := Aside0.mk (blk_below (g := gb111) (o := .cells #[.int .i64 t104, .string t105, .string t106, .slice Ao91 t107.length co91] 29 (0, 0)) (qva10_) hb); have n5_ := Aside0.mk (below_step (qva1_) hb); clear HO109; clear HO115; clear BK101; clear BK111; clear HB; have HO109 := n0_; have HO115 := n1_; have HO119 := n2_; have BK101 := n3_; have BK111 := n4_; have HB := n5_; clear n0_ n1_ n2_ n3_ n4_ n5_; (try clear hb); (try clear hk); (try clear ho0); have hcz96_0 : w95.cell? ⟨gb101, 0, none⟩ = some (.slice A0_0 l0_0.length c0_0) := (blk_cell BK101.out 0).trans rfl; have hcz96_1 : w95.cell? ⟨gb101, 1, none⟩ = some (.int .i64 a0_1) := (blk_cell BK101.out 1).trans rfl; have hfz96_0 := blk_frozen BK101.out 0; have hfz96_1 := blk_frozen BK101.out 1) | ((with_reducible refine gate_callee (f := 13) rfl ?_); refine goesL_ (some 36) rfl rfl Tryz.func13 (by kernel_rfl) rfl #[.agg #[.slice A0_0 l0_0.length c0_0, .int .i64 a0_1]] rfl (qva5_) ?_; (with_reducible refine (lay_Size.calls k _ _ l0_0 a0_1 t121 t122 _ ?side1 ?side2 (hG.below (qva0_)) A13.out).mono ?_); (case side1 => exact qva13_); (case side2 => exact qva14_); rintro e w97 ⟨rfl, hb⟩; refine ⟨_, rfl, ?_⟩; have n0_ := Aside0.mk (Kd.R_below (qva8_) hb); have n1_ := Aside0.mk (Kd.R_below (qva9_) hb); have n2_ := Aside0.mk (Kd.R_below (qva11_) hb); have n3_ := Aside0.mk (blk_below (g := gb101) (o := .cells #[.slice A0_0 l0_0.length c0_0, .int .i64 a0_1] 24 (0, 0)) (qva3_) hb); have n4_ := Aside0.mk (blk_below (g := gb111) (o := .cells #[.int .i64 t104, .string t105, .string t106, .slice Ao91 t107.length co91] 29 (0, 0)) (qva10_) hb); have n5_ := Aside0.mk (below_step (qva1_) hb); clear HO109; clear HO115; clear HO119; clear BK101; clear BK111; clear HB; have HO109 := n0_; have HO115 := n1_; have HO119 := n2_; have BK101 := n3_; have BK111 := n4_; have HB := n5_; clear n0_ n1_ n2_ n3_ n4_ n5_; (try clear hb); (try clear hk); have hcz98_0 : w97.cell? ⟨gb111, 0, none⟩ = some (.int .i64 t104) := (blk_cell BK111.out 0).trans rfl; have hcz98_1 : w97.cell? ⟨gb111, 1, none⟩ = some (.string t105) := (blk_cell BK111.out 1).trans rfl; have hcz98_2 : w97.cell? ⟨gb111, 2, none⟩ = some (.string t106) := (blk_cell BK111.out 2).trans rfl; have hcz98_3 : w97.cell? ⟨gb111, 3, none⟩ = some (.slice Ao91 t107.length co91) := (blk_cell BK111.out 3).trans rfl; have hfz98_0 := blk_frozen BK111.out 0; have hfz98_1 := blk_frozen BK111.out 1; have hfz98_2 := blk_frozen BK111.out 2; have hfz98_3 := blk_frozen BK111.out 3) | ((with_reducible refine gate_callee (f := 18) rfl ?_); refine goesL_ (some 41) rfl rfl Tryz.func18 (by kernel_rfl) rfl #[.agg #[.int .i64 t104, .string t105, .string t106, .slice Ao91 t107.length co91]] rfl (qva5_) ?_; (with_reducible refine (grommetlaw14_anchors.calls k t104 t105 t106 _ _ t107 t123 t124 _ ?side1 ?side2 (hG.below (qva0_)) A14.out).mono ?_); (case side1 => exact qva16_); (case side2 => exact qva17_); rintro e w99 ⟨rfl, hb⟩; refine ⟨_, rfl, ?_⟩; have n0_ := Aside0.mk (Kd.R_below (qva8_) hb); have n1_ := Aside0.mk (Kd.R_below (qva9_) hb); have n2_ := Aside0.mk (Kd.R_below (qva11_) hb); have n3_ := Aside0.mk (blk_below (g := gb101) (o := .cells #[.slice A0_0 l0_0.length c0_0, .int .i64 a0_1] 24 (0, 0)) (qva3_) hb); have n4_ := Aside0.mk (blk_below (g := gb111) (o := .cells #[.int .i64 t104, .string t105, .string t106, .slice Ao91 t107.length co91] 29 (0, 0)) (qva10_) hb); have n5_ := Aside0.mk (below_step (qva1_) hb); clear HO109; clear HO115; clear HO119; clear BK101; clear BK111; clear HB; have HO109 := n0_; have HO115 := n1_; have HO119 := n2_; have BK101 := n3_; have BK111 := n4_; have HB := n5_; clear n0_ n1_ n2_ n3_ n4_ n5_; (try clear hb); (try clear hk); obtain ⟨Ao100, co100, eo100⟩ := Kd.R_slice HO115.out; subst eo100; obtain ⟨Ao101, co101, eo101⟩ := Kd.R_slice HO119.out; subst eo101))
  go_ret
  exact ⟨qva12_, qva1_⟩
 rw [if_pos c19] at H
 have c19b0 : (t124 == (wrap64 (t121 - (t117.length : Int)))) = true := beq_iff_eq.mpr c19
 have c19b1 : (t124 != (wrap64 (t121 - (t117.length : Int)))) = false := bne_eq_false_iff_eq.mpr c19
 clear c19
 by_cases c20 : (t113.length : Int) > 0
 ·
  rw [if_pos c20] at H
  have c20b0 : decide (0 < (t113.length : Int)) = true := decide_eq_true c20
  have c20b1 : decide (0 < t113.length) = true := decide_eq_true (by omega)
  clear c20
  replace H := Option.bind_eq_some_iff.mp H
  obtain ⟨t125, A210, H⟩ := H
  replace H : (some t125) = some r := H
  have A21 := Aside0.mk A210
  clear A210
  obtain rfl := Option.some.inj H
  go_enter Tryz.func4, Tryz.ntmps4
  go_wp2_with (first | ((with_reducible refine gate_dst (N := 1) rfl ?_); (try (refine gate_guard (by rfl) ?_; dsimp only)); refine box_event ?hg (N := 1) ?hd (cs := #[.slice A0_0 l0_0.length c0_0, .int .i64 a0_1]) (t := 24) ?hr ?_; (case hd => rfl); (case hg => rfl); (case hr => first | (go_simp; done) | (go_simp; rfl)); intro gb101 hg w22 hbox hb; have n0_ := Aside0.mk (below_step (qva7_) hb); have n1_ := Aside0.mk (hbox); have n2_ := Aside0.mk ((by rw [hg]; exact (below_size (qva7_)) : w.heap.size ≤ gb101)); have n3_ := Aside0.mk ((by rw [hg]; exact (below_size (qva7_)) : w.heap.size ≤ gb101)); clear HB; have HB := n0_; have BK101 := n1_; have GW101 := n2_; have GE101 := n3_; clear n0_ n1_ n2_ n3_; clear hb hbox hg; have hcz23_0 : w22.cell? ⟨gb101, 0, none⟩ = some (.slice A0_0 l0_0.length c0_0) := (blk_cell BK101.out 0).trans rfl; have hcz23_1 : w22.cell? ⟨gb101, 1, none⟩ = some (.int .i64 a0_1) := (blk_cell BK101.out 1).trans rfl; have hfz23_0 := blk_frozen BK101.out 0; have hfz23_1 := blk_frozen BK101.out 1) | ((with_reducible refine gate_callee (f := 9) rfl ?_); refine goesL_ (some 14) rfl rfl Tryz.func9 (by kernel_rfl) rfl #[.agg #[.slice A0_0 l0_0.length c0_0, .int .i64 a0_1]] rfl (qva5_) ?_; (with_reducible refine (grommetlaw14_large.calls k _ _ l0_0 a0_1 false _ ?side1 ?side2 (hG.below (qva0_)) A2.out).mono ?_); (case side1 => exact qva13_); (case side2 => exact qva14_); rintro e w24 ⟨rfl, hb⟩; refine ⟨_, rfl, ?_⟩; have n0_ := Aside0.mk (blk_below (g := gb101) (o := .cells #[.slice A0_0 l0_0.length c0_0, .int .i64 a0_1] 24 (0, 0)) (qva3_) hb); have n1_ := Aside0.mk (below_step (qva2_) hb); clear BK101; clear HB; have BK101 := n0_; have HB := n1_; clear n0_ n1_; (try clear hb); (try clear hk); have hcz25_0 : w24.cell? ⟨gb101, 0, none⟩ = some (.slice A0_0 l0_0.length c0_0) := (blk_cell BK101.out 0).trans rfl; have hcz25_1 : w24.cell? ⟨gb101, 1, none⟩ = some (.int .i64 a0_1) := (blk_cell BK101.out 1).trans rfl; have hfz25_0 := blk_frozen BK101.out 0; have hfz25_1 := blk_frozen BK101.out 1) | ((with_reducible refine gate_callee (f := 11) rfl ?_); refine goesL_ (some 18) rfl rfl Tryz.func11 (by kernel_rfl) rfl #[.agg #[.slice A0_0 l0_0.length c0_0, .int .i64 a0_1]] rfl (qva5_) ?_; (with_reducible refine (lay_Tree.calls _ _ l0_0 a0_1 t104 t105 t106 t107 t110 _ ?side1 ?side2 (hG.below (qva0_)) A9.out).mono ?_); (case side1 => exact qva13_); (case side2 => exact qva14_); rintro e w26 ⟨v108, rfl, ho0, hb⟩; refine ⟨_, rfl, ?_⟩; have n0_ := Aside0.mk (Kd.R_lower ho0 (below_size (qva2_))); have n1_ := Aside0.mk (blk_below (g := gb101) (o := .cells #[.slice A0_0 l0_0.length c0_0, .int .i64 a0_1] 24 (0, 0)) (qva3_) hb); have n2_ := Aside0.mk (below_step (qva2_) hb); clear BK101; clear HB; have HO109 := n0_; have BK101 := n1_; have HB := n2_; clear n0_ n1_ n2_; (try clear hb); (try clear hk); (try clear ho0)) | ((with_reducible refine gate_dst (N := 3) rfl ?_); (try (refine gate_guard (by rfl) ?_; dsimp only)); refine box_event ?hg (N := 3) ?hd (cs := #[.int .i64 0, .string (⟨#[]⟩ : ByteArray), .string (⟨#[]⟩ : ByteArray), .slice none 0 0]) (t := 29) ?hr ?_; (case hd => rfl); (case hg => rfl); (case hr => first | (go_simp; done) | (go_simp; rfl)); intro gb111 hg w27 hbox hb; have n0_ := Aside0.mk (Kd.R_below (Kd.R_elderB (qva8_) gb111 (Nat.le_of_eq hg.symm)) hb); have n1_ := Aside0.mk (blk_below (g := gb101) (o := .cells #[.slice A0_0 l0_0.length c0_0, .int .i64 a0_1] 24 (0, 0)) (qva3_) hb); have n2_ := Aside0.mk (below_step (qva2_) hb); have n3_ := Aside0.mk (hbox); have n4_ := Aside0.mk ((by rw [hg]; exact (below_size (qva2_)) : w.heap.size ≤ gb111)); have n5_ := Aside0.mk ((by rw [hg]; exact (below_size (qva2_)) : w.heap.size ≤ gb111)); have n6_ := Aside0.mk ((by rw [hg]; exact Nat.ne_of_lt (blk_lt (g := gb101) (o := .cells #[.slice A0_0 l0_0.length c0_0, .int .i64 a0_1] 24 (0, 0)) (qva3_)) : gb101 ≠ gb111)); have n7_ := Aside0.mk ((by rw [hg]; exact Nat.ne_of_gt (blk_lt (g := gb101) (o := .cells #[.slice A0_0 l0_0.length c0_0, .int .i64 a0_1] 24 (0, 0)) (qva3_)) : gb111 ≠ gb101)); clear HO109; clear BK101; clear HB; have HO109 := n0_; have BK101 := n1_; have HB := n2_; have BK111 := n3_; have GW111 := n4_; have GE111 := n5_; have NB101_111 := n6_; have NB111_101 := n7_; clear n0_ n1_ n2_ n3_ n4_ n5_ n6_ n7_; clear hb hbox hg; have hnb28 := NB111_101.out; have hnc28 := NB101_111.out; have hcz29_0 : w27.cell? ⟨gb111, 0, none⟩ = some (.int .i64 0) := (blk_cell BK111.out 0).trans rfl; have hcz29_1 : w27.cell? ⟨gb111, 1, none⟩ = some (.string (⟨#[]⟩ : ByteArray)) := (blk_cell BK111.out 1).trans rfl; have hcz29_2 : w27.cell? ⟨gb111, 2, none⟩ = some (.string (⟨#[]⟩ : ByteArray)) := (blk_cell BK111.out 2).trans rfl; have hcz29_3 : w27.cell? ⟨gb111, 3, none⟩ = some (.slice none 0 0) := (blk_cell BK111.out 3).trans rfl; have hfz29_0 := blk_frozen BK111.out 0; have hfz29_1 := blk_frozen BK111.out 1; have hfz29_2 := blk_frozen BK111.out 2; have hfz29_3 := blk_frozen BK111.out 3; obtain ⟨Ao30, co30, eo30⟩ := Kd.R_slice HO109.out; subst eo30; have hcz31_0 : w27.cell? ⟨gb101, 0, none⟩ = some (.slice A0_0 l0_0.length c0_0) := (blk_cell BK101.out 0).trans rfl; have hcz31_1 : w27.cell? ⟨gb101, 1, none⟩ = some (.int .i64 a0_1) := (blk_cell BK101.out 1).trans rfl; have hfz31_0 := blk_frozen BK101.out 0; have hfz31_1 := blk_frozen BK101.out 1) | ((with_reducible refine gate_callee (f := 16) rfl ?_); refine goesL_ (some 26) rfl rfl Tryz.func16 (by kernel_rfl) rfl #[.agg #[.slice A0_0 l0_0.length c0_0, .int .i64 a0_1]] rfl (qva5_) ?_; (with_reducible refine (iso_Shared.calls _ _ l0_0 a0_1 t113 t116 _ ?side1 ?side2 (hG.below (qva0_)) A11.out).mono ?_); (case side1 => exact qva15_); (case side2 => exact qva14_); rintro e w32 ⟨v114, rfl, ho0, hb⟩; refine ⟨_, rfl, ?_⟩; have n0_ := Aside0.mk (Kd.R_below (by (with_reducible repeat (first | apply Kd.R_alloc | apply Kd.R_drewN | apply Kd.R_drew)); exact (Kd.R_mono (Kd.R_far (p := ⟨gb111, 3, none⟩) (Kd.R_far (p := ⟨gb111, 2, none⟩) (Kd.R_far (p := ⟨gb111, 1, none⟩) (Kd.R_far (p := ⟨gb111, 0, none⟩) (Kd.R_mono HO109.out (fun k_ hk => (⟨hk, hk.2⟩ : _ ∧ k_ ≠ gb111))) (fun _ hk => hk.2) (.int .i64 t104)) (fun _ hk => hk.2) (.string t105)) (fun _ hk => hk.2) (.string t106)) (fun _ hk => hk.2) (.slice Ao30 t107.length co30)) (fun _ h_ => h_.1))) hb); have n1_ := Aside0.mk (Kd.R_lower ho0 (below_size (qva1_))); have n2_ := Aside0.mk (blk_below (g := gb101) (o := .cells #[.slice A0_0 l0_0.length c0_0, .int .i64 a0_1] 24 (0, 0)) (qva6_) hb); have n3_ := Aside0.mk (blk_below (g := gb111) (o := .cells #[.int .i64 t104, .string t105, .string t106, .slice Ao30 t107.length co30] 29 (0, 0)) (qva4_) hb); have n4_ := Aside0.mk (below_step (qva1_) hb); clear HO109; clear BK101; clear BK111; clear HB; have HO109 := n0_; have HO115 := n1_; have BK101 := n2_; have BK111 := n3_; have HB := n4_; clear n0_ n1_ n2_ n3_ n4_; (try clear hb); (try clear hk); (try clear ho0); have hcz33_0 : w32.cell? ⟨gb101, 0, none⟩ = some (.slice A0_0 l0_0.length c0_0) := (blk_cell BK101.out 0).trans rfl; have hcz33_1 : w32.cell? ⟨gb101, 1, none⟩ = some (.int .i64 a0_1) := (blk_cell BK101.out 1).trans rfl; have hfz33_0 := blk_frozen BK101.out 0; have hfz33_1 := blk_frozen BK101.out 1) | ((with_reducible refine gate_callee (f := 17) rfl ?_); refine goesL_ (some 31) rfl rfl Tryz.func17 (by kernel_rfl) rfl #[.agg #[.slice A0_0 l0_0.length c0_0, .int .i64 a0_1]] rfl (qva5_) ?_; (with_reducible refine (graph_Order.calls _ _ l0_0 a0_1 t117 t120 _ ?side1 ?side2 (hG.below (qva0_)) A12.out).mono ?_); (case side1 => exact qva13_); (case side2 => exact qva14_); rintro e w34 ⟨v118, rfl, ho0, hb⟩; refine ⟨_, rfl, ?_⟩; have n0_ := Aside0.mk (Kd.R_below (qva8_) hb); have n1_ := Aside0.mk (Kd.R_elder' (qva9_) (Kd.R_base ho0) hb); have n2_ := Aside0.mk (Kd.R_lower (Kd.R_new' ho0 (Kd.R_lt (qva9_))) (below_size (qva1_))); have n3_ := Aside0.mk (blk_below (g := gb101) (o := .cells #[.slice A0_0 l0_0.length c0_0, .int .i64 a0_1] 24 (0, 0)) (qva3_) hb); have n4_ := Aside0.mk (blk_below (g := gb111) (o := .cells #[.int .i64 t104, .string t105, .string t106, .slice Ao30 t107.length co30] 29 (0, 0)) (qva10_) hb); have n5_ := Aside0.mk (below_step (qva1_) hb); clear HO109; clear HO115; clear BK101; clear BK111; clear HB; have HO109 := n0_; have HO115 := n1_; have HO119 := n2_; have BK101 := n3_; have BK111 := n4_; have HB := n5_; clear n0_ n1_ n2_ n3_ n4_ n5_; (try clear hb); (try clear hk); (try clear ho0); have hcz35_0 : w34.cell? ⟨gb101, 0, none⟩ = some (.slice A0_0 l0_0.length c0_0) := (blk_cell BK101.out 0).trans rfl; have hcz35_1 : w34.cell? ⟨gb101, 1, none⟩ = some (.int .i64 a0_1) := (blk_cell BK101.out 1).trans rfl; have hfz35_0 := blk_frozen BK101.out 0; have hfz35_1 := blk_frozen BK101.out 1) | ((with_reducible refine gate_callee (f := 13) rfl ?_); refine goesL_ (some 36) rfl rfl Tryz.func13 (by kernel_rfl) rfl #[.agg #[.slice A0_0 l0_0.length c0_0, .int .i64 a0_1]] rfl (qva5_) ?_; (with_reducible refine (lay_Size.calls k _ _ l0_0 a0_1 t121 t122 _ ?side1 ?side2 (hG.below (qva0_)) A13.out).mono ?_); (case side1 => exact qva13_); (case side2 => exact qva14_); rintro e w36 ⟨rfl, hb⟩; refine ⟨_, rfl, ?_⟩; have n0_ := Aside0.mk (Kd.R_below (qva8_) hb); have n1_ := Aside0.mk (Kd.R_below (qva9_) hb); have n2_ := Aside0.mk (Kd.R_below (qva11_) hb); have n3_ := Aside0.mk (blk_below (g := gb101) (o := .cells #[.slice A0_0 l0_0.length c0_0, .int .i64 a0_1] 24 (0, 0)) (qva3_) hb); have n4_ := Aside0.mk (blk_below (g := gb111) (o := .cells #[.int .i64 t104, .string t105, .string t106, .slice Ao30 t107.length co30] 29 (0, 0)) (qva10_) hb); have n5_ := Aside0.mk (below_step (qva1_) hb); clear HO109; clear HO115; clear HO119; clear BK101; clear BK111; clear HB; have HO109 := n0_; have HO115 := n1_; have HO119 := n2_; have BK101 := n3_; have BK111 := n4_; have HB := n5_; clear n0_ n1_ n2_ n3_ n4_ n5_; (try clear hb); (try clear hk); have hcz37_0 : w36.cell? ⟨gb111, 0, none⟩ = some (.int .i64 t104) := (blk_cell BK111.out 0).trans rfl; have hcz37_1 : w36.cell? ⟨gb111, 1, none⟩ = some (.string t105) := (blk_cell BK111.out 1).trans rfl; have hcz37_2 : w36.cell? ⟨gb111, 2, none⟩ = some (.string t106) := (blk_cell BK111.out 2).trans rfl; have hcz37_3 : w36.cell? ⟨gb111, 3, none⟩ = some (.slice Ao30 t107.length co30) := (blk_cell BK111.out 3).trans rfl; have hfz37_0 := blk_frozen BK111.out 0; have hfz37_1 := blk_frozen BK111.out 1; have hfz37_2 := blk_frozen BK111.out 2; have hfz37_3 := blk_frozen BK111.out 3) | ((with_reducible refine gate_callee (f := 18) rfl ?_); refine goesL_ (some 41) rfl rfl Tryz.func18 (by kernel_rfl) rfl #[.agg #[.int .i64 t104, .string t105, .string t106, .slice Ao30 t107.length co30]] rfl (qva5_) ?_; (with_reducible refine (grommetlaw14_anchors.calls k t104 t105 t106 _ _ t107 t123 t124 _ ?side1 ?side2 (hG.below (qva0_)) A14.out).mono ?_); (case side1 => exact qva16_); (case side2 => exact qva17_); rintro e w38 ⟨rfl, hb⟩; refine ⟨_, rfl, ?_⟩; have n0_ := Aside0.mk (Kd.R_below (qva8_) hb); have n1_ := Aside0.mk (Kd.R_below (qva9_) hb); have n2_ := Aside0.mk (Kd.R_below (qva11_) hb); have n3_ := Aside0.mk (blk_below (g := gb101) (o := .cells #[.slice A0_0 l0_0.length c0_0, .int .i64 a0_1] 24 (0, 0)) (qva3_) hb); have n4_ := Aside0.mk (blk_below (g := gb111) (o := .cells #[.int .i64 t104, .string t105, .string t106, .slice Ao30 t107.length co30] 29 (0, 0)) (qva10_) hb); have n5_ := Aside0.mk (below_step (qva1_) hb); clear HO109; clear HO115; clear HO119; clear BK101; clear BK111; clear HB; have HO109 := n0_; have HO115 := n1_; have HO119 := n2_; have BK101 := n3_; have BK111 := n4_; have HB := n5_; clear n0_ n1_ n2_ n3_ n4_ n5_; (try clear hb); (try clear hk); obtain ⟨Ao39, co39, eo39⟩ := Kd.R_slice HO115.out; subst eo39; obtain ⟨Ao40, co40, eo40⟩ := Kd.R_slice HO119.out; subst eo40) | (go_at_call 10; (with_reducible refine (grommetlaw14_alive.calls  t125 _ (hG.below (qva0_)) A21.out).mono ?_); rintro e w41 ⟨rfl, hb⟩; have n0_ := Aside0.mk (Kd.R_below (qva8_) hb); have n1_ := Aside0.mk (Kd.R_below (qva9_) hb); have n2_ := Aside0.mk (Kd.R_below (qva11_) hb); have n3_ := Aside0.mk (blk_below (g := gb101) (o := .cells #[.slice A0_0 l0_0.length c0_0, .int .i64 a0_1] 24 (0, 0)) (qva3_) hb); have n4_ := Aside0.mk (blk_below (g := gb111) (o := .cells #[.int .i64 t104, .string t105, .string t106, .slice Ao30 t107.length co30] 29 (0, 0)) (qva10_) hb); have n5_ := Aside0.mk (below_step (qva1_) hb); clear HO109; clear HO115; clear HO119; clear BK101; clear BK111; clear HB; have HO109 := n0_; have HO115 := n1_; have HO119 := n2_; have BK101 := n3_; have BK111 := n4_; have HB := n5_; clear n0_ n1_ n2_ n3_ n4_ n5_; (try clear hb); (try clear hk)))
  go_ret
  exact ⟨qva12_, qva1_⟩
 rw [if_neg c20] at H
 have c20b0 : decide (0 < (t113.length : Int)) = false := decide_eq_false c20
 have c20b1 : decide (0 < t113.length) = false := decide_eq_false (by omega)
 clear c20
 by_cases c42 : t124 = 0
 rotate_left
 ·
  rw [if_neg c42] at H
  have c42b0 : (t124 == 0) = false := beq_eq_false_iff_ne.mpr c42
  have c42b1 : (t124 != 0) = true := bne_iff_ne.mpr c42
  obtain rfl := Option.some.inj H
  go_enter Tryz.func4, Tryz.ntmps4
  go_wp2_with (first | ((with_reducible refine gate_dst (N := 1) rfl ?_); (try (refine gate_guard (by rfl) ?_; dsimp only)); refine box_event ?hg (N := 1) ?hd (cs := #[.slice A0_0 l0_0.length c0_0, .int .i64 a0_1]) (t := 24) ?hr ?_; (case hd => rfl); (case hg => rfl); (case hr => first | (go_simp; done) | (go_simp; rfl)); intro gb101 hg w64 hbox hb; have n0_ := Aside0.mk (below_step (qva7_) hb); have n1_ := Aside0.mk (hbox); have n2_ := Aside0.mk ((by rw [hg]; exact (below_size (qva7_)) : w.heap.size ≤ gb101)); have n3_ := Aside0.mk ((by rw [hg]; exact (below_size (qva7_)) : w.heap.size ≤ gb101)); clear HB; have HB := n0_; have BK101 := n1_; have GW101 := n2_; have GE101 := n3_; clear n0_ n1_ n2_ n3_; clear hb hbox hg; have hcz65_0 : w64.cell? ⟨gb101, 0, none⟩ = some (.slice A0_0 l0_0.length c0_0) := (blk_cell BK101.out 0).trans rfl; have hcz65_1 : w64.cell? ⟨gb101, 1, none⟩ = some (.int .i64 a0_1) := (blk_cell BK101.out 1).trans rfl; have hfz65_0 := blk_frozen BK101.out 0; have hfz65_1 := blk_frozen BK101.out 1) | ((with_reducible refine gate_callee (f := 9) rfl ?_); refine goesL_ (some 14) rfl rfl Tryz.func9 (by kernel_rfl) rfl #[.agg #[.slice A0_0 l0_0.length c0_0, .int .i64 a0_1]] rfl (qva5_) ?_; (with_reducible refine (grommetlaw14_large.calls k _ _ l0_0 a0_1 false _ ?side1 ?side2 (hG.below (qva0_)) A2.out).mono ?_); (case side1 => exact qva13_); (case side2 => exact qva14_); rintro e w66 ⟨rfl, hb⟩; refine ⟨_, rfl, ?_⟩; have n0_ := Aside0.mk (blk_below (g := gb101) (o := .cells #[.slice A0_0 l0_0.length c0_0, .int .i64 a0_1] 24 (0, 0)) (qva3_) hb); have n1_ := Aside0.mk (below_step (qva2_) hb); clear BK101; clear HB; have BK101 := n0_; have HB := n1_; clear n0_ n1_; (try clear hb); (try clear hk); have hcz67_0 : w66.cell? ⟨gb101, 0, none⟩ = some (.slice A0_0 l0_0.length c0_0) := (blk_cell BK101.out 0).trans rfl; have hcz67_1 : w66.cell? ⟨gb101, 1, none⟩ = some (.int .i64 a0_1) := (blk_cell BK101.out 1).trans rfl; have hfz67_0 := blk_frozen BK101.out 0; have hfz67_1 := blk_frozen BK101.out 1) | ((with_reducible refine gate_callee (f := 11) rfl ?_); refine goesL_ (some 18) rfl rfl Tryz.func11 (by kernel_rfl) rfl #[.agg #[.slice A0_0 l0_0.length c0_0, .int .i64 a0_1]] rfl (qva5_) ?_; (with_reducible refine (lay_Tree.calls _ _ l0_0 a0_1 t104 t105 t106 t107 t110 _ ?side1 ?side2 (hG.below (qva0_)) A9.out).mono ?_); (case side1 => exact qva13_); (case side2 => exact qva14_); rintro e w68 ⟨v108, rfl, ho0, hb⟩; refine ⟨_, rfl, ?_⟩; have n0_ := Aside0.mk (Kd.R_lower ho0 (below_size (qva2_))); have n1_ := Aside0.mk (blk_below (g := gb101) (o := .cells #[.slice A0_0 l0_0.length c0_0, .int .i64 a0_1] 24 (0, 0)) (qva3_) hb); have n2_ := Aside0.mk (below_step (qva2_) hb); clear BK101; clear HB; have HO109 := n0_; have BK101 := n1_; have HB := n2_; clear n0_ n1_ n2_; (try clear hb); (try clear hk); (try clear ho0)) | ((with_reducible refine gate_dst (N := 3) rfl ?_); (try (refine gate_guard (by rfl) ?_; dsimp only)); refine box_event ?hg (N := 3) ?hd (cs := #[.int .i64 0, .string (⟨#[]⟩ : ByteArray), .string (⟨#[]⟩ : ByteArray), .slice none 0 0]) (t := 29) ?hr ?_; (case hd => rfl); (case hg => rfl); (case hr => first | (go_simp; done) | (go_simp; rfl)); intro gb111 hg w69 hbox hb; have n0_ := Aside0.mk (Kd.R_below (Kd.R_elderB (qva8_) gb111 (Nat.le_of_eq hg.symm)) hb); have n1_ := Aside0.mk (blk_below (g := gb101) (o := .cells #[.slice A0_0 l0_0.length c0_0, .int .i64 a0_1] 24 (0, 0)) (qva3_) hb); have n2_ := Aside0.mk (below_step (qva2_) hb); have n3_ := Aside0.mk (hbox); have n4_ := Aside0.mk ((by rw [hg]; exact (below_size (qva2_)) : w.heap.size ≤ gb111)); have n5_ := Aside0.mk ((by rw [hg]; exact (below_size (qva2_)) : w.heap.size ≤ gb111)); have n6_ := Aside0.mk ((by rw [hg]; exact Nat.ne_of_lt (blk_lt (g := gb101) (o := .cells #[.slice A0_0 l0_0.length c0_0, .int .i64 a0_1] 24 (0, 0)) (qva3_)) : gb101 ≠ gb111)); have n7_ := Aside0.mk ((by rw [hg]; exact Nat.ne_of_gt (blk_lt (g := gb101) (o := .cells #[.slice A0_0 l0_0.length c0_0, .int .i64 a0_1] 24 (0, 0)) (qva3_)) : gb111 ≠ gb101)); clear HO109; clear BK101; clear HB; have HO109 := n0_; have BK101 := n1_; have HB := n2_; have BK111 := n3_; have GW111 := n4_; have GE111 := n5_; have NB101_111 := n6_; have NB111_101 := n7_; clear n0_ n1_ n2_ n3_ n4_ n5_ n6_ n7_; clear hb hbox hg; have hnb70 := NB111_101.out; have hnc70 := NB101_111.out; have hcz71_0 : w69.cell? ⟨gb111, 0, none⟩ = some (.int .i64 0) := (blk_cell BK111.out 0).trans rfl; have hcz71_1 : w69.cell? ⟨gb111, 1, none⟩ = some (.string (⟨#[]⟩ : ByteArray)) := (blk_cell BK111.out 1).trans rfl; have hcz71_2 : w69.cell? ⟨gb111, 2, none⟩ = some (.string (⟨#[]⟩ : ByteArray)) := (blk_cell BK111.out 2).trans rfl; have hcz71_3 : w69.cell? ⟨gb111, 3, none⟩ = some (.slice none 0 0) := (blk_cell BK111.out 3).trans rfl; have hfz71_0 := blk_frozen BK111.out 0; have hfz71_1 := blk_frozen BK111.out 1; have hfz71_2 := blk_frozen BK111.out 2; have hfz71_3 := blk_frozen BK111.out 3; obtain ⟨Ao72, co72, eo72⟩ := Kd.R_slice HO109.out; subst eo72; have hcz73_0 : w69.cell? ⟨gb101, 0, none⟩ = some (.slice A0_0 l0_0.length c0_0) := (blk_cell BK101.out 0).trans rfl; have hcz73_1 : w69.cell? ⟨gb101, 1, none⟩ = some (.int .i64 a0_1) := (blk_cell BK101.out 1).trans rfl; have hfz73_0 := blk_frozen BK101.out 0; have hfz73_1 := blk_frozen BK101.out 1) | ((with_reducible refine gate_callee (f := 16) rfl ?_); refine goesL_ (some 26) rfl rfl Tryz.func16 (by kernel_rfl) rfl #[.agg #[.slice A0_0 l0_0.length c0_0, .int .i64 a0_1]] rfl (qva5_) ?_; (with_reducible refine (iso_Shared.calls _ _ l0_0 a0_1 t113 t116 _ ?side1 ?side2 (hG.below (qva0_)) A11.out).mono ?_); (case side1 => exact qva15_); (case side2 => exact qva14_); rintro e w74 ⟨v114, rfl, ho0, hb⟩; refine ⟨_, rfl, ?_⟩; have n0_ := Aside0.mk (Kd.R_below (by (with_reducible repeat (first | apply Kd.R_alloc | apply Kd.R_drewN | apply Kd.R_drew)); exact (Kd.R_mono (Kd.R_far (p := ⟨gb111, 3, none⟩) (Kd.R_far (p := ⟨gb111, 2, none⟩) (Kd.R_far (p := ⟨gb111, 1, none⟩) (Kd.R_far (p := ⟨gb111, 0, none⟩) (Kd.R_mono HO109.out (fun k_ hk => (⟨hk, hk.2⟩ : _ ∧ k_ ≠ gb111))) (fun _ hk => hk.2) (.int .i64 t104)) (fun _ hk => hk.2) (.string t105)) (fun _ hk => hk.2) (.string t106)) (fun _ hk => hk.2) (.slice Ao72 t107.length co72)) (fun _ h_ => h_.1))) hb); have n1_ := Aside0.mk (Kd.R_lower ho0 (below_size (qva1_))); have n2_ := Aside0.mk (blk_below (g := gb101) (o := .cells #[.slice A0_0 l0_0.length c0_0, .int .i64 a0_1] 24 (0, 0)) (qva6_) hb); have n3_ := Aside0.mk (blk_below (g := gb111) (o := .cells #[.int .i64 t104, .string t105, .string t106, .slice Ao72 t107.length co72] 29 (0, 0)) (qva4_) hb); have n4_ := Aside0.mk (below_step (qva1_) hb); clear HO109; clear BK101; clear BK111; clear HB; have HO109 := n0_; have HO115 := n1_; have BK101 := n2_; have BK111 := n3_; have HB := n4_; clear n0_ n1_ n2_ n3_ n4_; (try clear hb); (try clear hk); (try clear ho0); have hcz75_0 : w74.cell? ⟨gb101, 0, none⟩ = some (.slice A0_0 l0_0.length c0_0) := (blk_cell BK101.out 0).trans rfl; have hcz75_1 : w74.cell? ⟨gb101, 1, none⟩ = some (.int .i64 a0_1) := (blk_cell BK101.out 1).trans rfl; have hfz75_0 := blk_frozen BK101.out 0; have hfz75_1 := blk_frozen BK101.out 1) | ((with_reducible refine gate_callee (f := 17) rfl ?_); refine goesL_ (some 31) rfl rfl Tryz.func17 (by kernel_rfl) rfl #[.agg #[.slice A0_0 l0_0.length c0_0, .int .i64 a0_1]] rfl (qva5_) ?_; (with_reducible refine (graph_Order.calls _ _ l0_0 a0_1 t117 t120 _ ?side1 ?side2 (hG.below (qva0_)) A12.out).mono ?_); (case side1 => exact qva13_); (case side2 => exact qva14_); rintro e w76 ⟨v118, rfl, ho0, hb⟩; refine ⟨_, rfl, ?_⟩; have n0_ := Aside0.mk (Kd.R_below (qva8_) hb); have n1_ := Aside0.mk (Kd.R_elder' (qva9_) (Kd.R_base ho0) hb); have n2_ := Aside0.mk (Kd.R_lower (Kd.R_new' ho0 (Kd.R_lt (qva9_))) (below_size (qva1_))); have n3_ := Aside0.mk (blk_below (g := gb101) (o := .cells #[.slice A0_0 l0_0.length c0_0, .int .i64 a0_1] 24 (0, 0)) (qva3_) hb); have n4_ := Aside0.mk (blk_below (g := gb111) (o := .cells #[.int .i64 t104, .string t105, .string t106, .slice Ao72 t107.length co72] 29 (0, 0)) (qva10_) hb); have n5_ := Aside0.mk (below_step (qva1_) hb); clear HO109; clear HO115; clear BK101; clear BK111; clear HB; have HO109 := n0_; have HO115 := n1_; have HO119 := n2_; have BK101 := n3_; have BK111 := n4_; have HB := n5_; clear n0_ n1_ n2_ n3_ n4_ n5_; (try clear hb); (try clear hk); (try clear ho0); have hcz77_0 : w76.cell? ⟨gb101, 0, none⟩ = some (.slice A0_0 l0_0.length c0_0) := (blk_cell BK101.out 0).trans rfl; have hcz77_1 : w76.cell? ⟨gb101, 1, none⟩ = some (.int .i64 a0_1) := (blk_cell BK101.out 1).trans rfl; have hfz77_0 := blk_frozen BK101.out 0; have hfz77_1 := blk_frozen BK101.out 1) | ((with_reducible refine gate_callee (f := 13) rfl ?_); refine goesL_ (some 36) rfl rfl Tryz.func13 (by kernel_rfl) rfl #[.agg #[.slice A0_0 l0_0.length c0_0, .int .i64 a0_1]] rfl (qva5_) ?_; (with_reducible refine (lay_Size.calls k _ _ l0_0 a0_1 t121 t122 _ ?side1 ?side2 (hG.below (qva0_)) A13.out).mono ?_); (case side1 => exact qva13_); (case side2 => exact qva14_); rintro e w78 ⟨rfl, hb⟩; refine ⟨_, rfl, ?_⟩; have n0_ := Aside0.mk (Kd.R_below (qva8_) hb); have n1_ := Aside0.mk (Kd.R_below (qva9_) hb); have n2_ := Aside0.mk (Kd.R_below (qva11_) hb); have n3_ := Aside0.mk (blk_below (g := gb101) (o := .cells #[.slice A0_0 l0_0.length c0_0, .int .i64 a0_1] 24 (0, 0)) (qva3_) hb); have n4_ := Aside0.mk (blk_below (g := gb111) (o := .cells #[.int .i64 t104, .string t105, .string t106, .slice Ao72 t107.length co72] 29 (0, 0)) (qva10_) hb); have n5_ := Aside0.mk (below_step (qva1_) hb); clear HO109; clear HO115; clear HO119; clear BK101; clear BK111; clear HB; have HO109 := n0_; have HO115 := n1_; have HO119 := n2_; have BK101 := n3_; have BK111 := n4_; have HB := n5_; clear n0_ n1_ n2_ n3_ n4_ n5_; (try clear hb); (try clear hk); have hcz79_0 : w78.cell? ⟨gb111, 0, none⟩ = some (.int .i64 t104) := (blk_cell BK111.out 0).trans rfl; have hcz79_1 : w78.cell? ⟨gb111, 1, none⟩ = some (.string t105) := (blk_cell BK111.out 1).trans rfl; have hcz79_2 : w78.cell? ⟨gb111, 2, none⟩ = some (.string t106) := (blk_cell BK111.out 2).trans rfl; have hcz79_3 : w78.cell? ⟨gb111, 3, none⟩ = some (.slice Ao72 t107.length co72) := (blk_cell BK111.out 3).trans rfl; have hfz79_0 := blk_frozen BK111.out 0; have hfz79_1 := blk_frozen BK111.out 1; have hfz79_2 := blk_frozen BK111.out 2; have hfz79_3 := blk_frozen BK111.out 3) | ((with_reducible refine gate_callee (f := 18) rfl ?_); refine goesL_ (some 41) rfl rfl Tryz.func18 (by kernel_rfl) rfl #[.agg #[.int .i64 t104, .string t105, .string t106, .slice Ao72 t107.length co72]] rfl (qva5_) ?_; (with_reducible refine (grommetlaw14_anchors.calls k t104 t105 t106 _ _ t107 t123 t124 _ ?side1 ?side2 (hG.below (qva0_)) A14.out).mono ?_); (case side1 => exact qva16_); (case side2 => exact qva17_); rintro e w80 ⟨rfl, hb⟩; refine ⟨_, rfl, ?_⟩; have n0_ := Aside0.mk (Kd.R_below (qva8_) hb); have n1_ := Aside0.mk (Kd.R_below (qva9_) hb); have n2_ := Aside0.mk (Kd.R_below (qva11_) hb); have n3_ := Aside0.mk (blk_below (g := gb101) (o := .cells #[.slice A0_0 l0_0.length c0_0, .int .i64 a0_1] 24 (0, 0)) (qva3_) hb); have n4_ := Aside0.mk (blk_below (g := gb111) (o := .cells #[.int .i64 t104, .string t105, .string t106, .slice Ao72 t107.length co72] 29 (0, 0)) (qva10_) hb); have n5_ := Aside0.mk (below_step (qva1_) hb); clear HO109; clear HO115; clear HO119; clear BK101; clear BK111; clear HB; have HO109 := n0_; have HO115 := n1_; have HO119 := n2_; have BK101 := n3_; have BK111 := n4_; have HB := n5_; clear n0_ n1_ n2_ n3_ n4_ n5_; (try clear hb); (try clear hk); obtain ⟨Ao81, co81, eo81⟩ := Kd.R_slice HO115.out; subst eo81; obtain ⟨Ao82, co82, eo82⟩ := Kd.R_slice HO119.out; subst eo82))
  go_ret
  exact ⟨qva12_, qva1_⟩
 rw [if_pos c42] at H
 have c42b0 : (t124 == 0) = true := beq_iff_eq.mpr c42
 have c42b1 : (t124 != 0) = false := bne_eq_false_iff_eq.mpr c42
 clear c42
 replace H := Option.bind_eq_some_iff.mp H
 obtain ⟨t126, A430, H⟩ := H
 replace H : (some t126) = some r := H
 have A43 := Aside0.mk A430
 clear A430
 obtain rfl := Option.some.inj H
 go_enter Tryz.func4, Tryz.ntmps4
 go_wp2_with (first | ((with_reducible refine gate_dst (N := 1) rfl ?_); (try (refine gate_guard (by rfl) ?_; dsimp only)); refine box_event ?hg (N := 1) ?hd (cs := #[.slice A0_0 l0_0.length c0_0, .int .i64 a0_1]) (t := 24) ?hr ?_; (case hd => rfl); (case hg => rfl); (case hr => first | (go_simp; done) | (go_simp; rfl)); intro gb101 hg w44 hbox hb; have n0_ := Aside0.mk (below_step (qva7_) hb); have n1_ := Aside0.mk (hbox); have n2_ := Aside0.mk ((by rw [hg]; exact (below_size (qva7_)) : w.heap.size ≤ gb101)); have n3_ := Aside0.mk ((by rw [hg]; exact (below_size (qva7_)) : w.heap.size ≤ gb101)); clear HB; have HB := n0_; have BK101 := n1_; have GW101 := n2_; have GE101 := n3_; clear n0_ n1_ n2_ n3_; clear hb hbox hg; have hcz45_0 : w44.cell? ⟨gb101, 0, none⟩ = some (.slice A0_0 l0_0.length c0_0) := (blk_cell BK101.out 0).trans rfl; have hcz45_1 : w44.cell? ⟨gb101, 1, none⟩ = some (.int .i64 a0_1) := (blk_cell BK101.out 1).trans rfl; have hfz45_0 := blk_frozen BK101.out 0; have hfz45_1 := blk_frozen BK101.out 1) | ((with_reducible refine gate_callee (f := 9) rfl ?_); refine goesL_ (some 14) rfl rfl Tryz.func9 (by kernel_rfl) rfl #[.agg #[.slice A0_0 l0_0.length c0_0, .int .i64 a0_1]] rfl (qva5_) ?_; (with_reducible refine (grommetlaw14_large.calls k _ _ l0_0 a0_1 false _ ?side1 ?side2 (hG.below (qva0_)) A2.out).mono ?_); (case side1 => exact qva13_); (case side2 => exact qva14_); rintro e w46 ⟨rfl, hb⟩; refine ⟨_, rfl, ?_⟩; have n0_ := Aside0.mk (blk_below (g := gb101) (o := .cells #[.slice A0_0 l0_0.length c0_0, .int .i64 a0_1] 24 (0, 0)) (qva3_) hb); have n1_ := Aside0.mk (below_step (qva2_) hb); clear BK101; clear HB; have BK101 := n0_; have HB := n1_; clear n0_ n1_; (try clear hb); (try clear hk); have hcz47_0 : w46.cell? ⟨gb101, 0, none⟩ = some (.slice A0_0 l0_0.length c0_0) := (blk_cell BK101.out 0).trans rfl; have hcz47_1 : w46.cell? ⟨gb101, 1, none⟩ = some (.int .i64 a0_1) := (blk_cell BK101.out 1).trans rfl; have hfz47_0 := blk_frozen BK101.out 0; have hfz47_1 := blk_frozen BK101.out 1) | ((with_reducible refine gate_callee (f := 11) rfl ?_); refine goesL_ (some 18) rfl rfl Tryz.func11 (by kernel_rfl) rfl #[.agg #[.slice A0_0 l0_0.length c0_0, .int .i64 a0_1]] rfl (qva5_) ?_; (with_reducible refine (lay_Tree.calls _ _ l0_0 a0_1 t104 t105 t106 t107 t110 _ ?side1 ?side2 (hG.below (qva0_)) A9.out).mono ?_); (case side1 => exact qva13_); (case side2 => exact qva14_); rintro e w48 ⟨v108, rfl, ho0, hb⟩; refine ⟨_, rfl, ?_⟩; have n0_ := Aside0.mk (Kd.R_lower ho0 (below_size (qva2_))); have n1_ := Aside0.mk (blk_below (g := gb101) (o := .cells #[.slice A0_0 l0_0.length c0_0, .int .i64 a0_1] 24 (0, 0)) (qva3_) hb); have n2_ := Aside0.mk (below_step (qva2_) hb); clear BK101; clear HB; have HO109 := n0_; have BK101 := n1_; have HB := n2_; clear n0_ n1_ n2_; (try clear hb); (try clear hk); (try clear ho0)) | ((with_reducible refine gate_dst (N := 3) rfl ?_); (try (refine gate_guard (by rfl) ?_; dsimp only)); refine box_event ?hg (N := 3) ?hd (cs := #[.int .i64 0, .string (⟨#[]⟩ : ByteArray), .string (⟨#[]⟩ : ByteArray), .slice none 0 0]) (t := 29) ?hr ?_; (case hd => rfl); (case hg => rfl); (case hr => first | (go_simp; done) | (go_simp; rfl)); intro gb111 hg w49 hbox hb; have n0_ := Aside0.mk (Kd.R_below (Kd.R_elderB (qva8_) gb111 (Nat.le_of_eq hg.symm)) hb); have n1_ := Aside0.mk (blk_below (g := gb101) (o := .cells #[.slice A0_0 l0_0.length c0_0, .int .i64 a0_1] 24 (0, 0)) (qva3_) hb); have n2_ := Aside0.mk (below_step (qva2_) hb); have n3_ := Aside0.mk (hbox); have n4_ := Aside0.mk ((by rw [hg]; exact (below_size (qva2_)) : w.heap.size ≤ gb111)); have n5_ := Aside0.mk ((by rw [hg]; exact (below_size (qva2_)) : w.heap.size ≤ gb111)); have n6_ := Aside0.mk ((by rw [hg]; exact Nat.ne_of_lt (blk_lt (g := gb101) (o := .cells #[.slice A0_0 l0_0.length c0_0, .int .i64 a0_1] 24 (0, 0)) (qva3_)) : gb101 ≠ gb111)); have n7_ := Aside0.mk ((by rw [hg]; exact Nat.ne_of_gt (blk_lt (g := gb101) (o := .cells #[.slice A0_0 l0_0.length c0_0, .int .i64 a0_1] 24 (0, 0)) (qva3_)) : gb111 ≠ gb101)); clear HO109; clear BK101; clear HB; have HO109 := n0_; have BK101 := n1_; have HB := n2_; have BK111 := n3_; have GW111 := n4_; have GE111 := n5_; have NB101_111 := n6_; have NB111_101 := n7_; clear n0_ n1_ n2_ n3_ n4_ n5_ n6_ n7_; clear hb hbox hg; have hnb50 := NB111_101.out; have hnc50 := NB101_111.out; have hcz51_0 : w49.cell? ⟨gb111, 0, none⟩ = some (.int .i64 0) := (blk_cell BK111.out 0).trans rfl; have hcz51_1 : w49.cell? ⟨gb111, 1, none⟩ = some (.string (⟨#[]⟩ : ByteArray)) := (blk_cell BK111.out 1).trans rfl; have hcz51_2 : w49.cell? ⟨gb111, 2, none⟩ = some (.string (⟨#[]⟩ : ByteArray)) := (blk_cell BK111.out 2).trans rfl; have hcz51_3 : w49.cell? ⟨gb111, 3, none⟩ = some (.slice none 0 0) := (blk_cell BK111.out 3).trans rfl; have hfz51_0 := blk_frozen BK111.out 0; have hfz51_1 := blk_frozen BK111.out 1; have hfz51_2 := blk_frozen BK111.out 2; have hfz51_3 := blk_frozen BK111.out 3; obtain ⟨Ao52, co52, eo52⟩ := Kd.R_slice HO109.out; subst eo52; have hcz53_0 : w49.cell? ⟨gb101, 0, none⟩ = some (.slice A0_0 l0_0.length c0_0) := (blk_cell BK101.out 0).trans rfl; have hcz53_1 : w49.cell? ⟨gb101, 1, none⟩ = some (.int .i64 a0_1) := (blk_cell BK101.out 1).trans rfl; have hfz53_0 := blk_frozen BK101.out 0; have hfz53_1 := blk_frozen BK101.out 1) | ((with_reducible refine gate_callee (f := 16) rfl ?_); refine goesL_ (some 26) rfl rfl Tryz.func16 (by kernel_rfl) rfl #[.agg #[.slice A0_0 l0_0.length c0_0, .int .i64 a0_1]] rfl (qva5_) ?_; (with_reducible refine (iso_Shared.calls _ _ l0_0 a0_1 t113 t116 _ ?side1 ?side2 (hG.below (qva0_)) A11.out).mono ?_); (case side1 => exact qva15_); (case side2 => exact qva14_); rintro e w54 ⟨v114, rfl, ho0, hb⟩; refine ⟨_, rfl, ?_⟩; have n0_ := Aside0.mk (Kd.R_below (by (with_reducible repeat (first | apply Kd.R_alloc | apply Kd.R_drewN | apply Kd.R_drew)); exact (Kd.R_mono (Kd.R_far (p := ⟨gb111, 3, none⟩) (Kd.R_far (p := ⟨gb111, 2, none⟩) (Kd.R_far (p := ⟨gb111, 1, none⟩) (Kd.R_far (p := ⟨gb111, 0, none⟩) (Kd.R_mono HO109.out (fun k_ hk => (⟨hk, hk.2⟩ : _ ∧ k_ ≠ gb111))) (fun _ hk => hk.2) (.int .i64 t104)) (fun _ hk => hk.2) (.string t105)) (fun _ hk => hk.2) (.string t106)) (fun _ hk => hk.2) (.slice Ao52 t107.length co52)) (fun _ h_ => h_.1))) hb); have n1_ := Aside0.mk (Kd.R_lower ho0 (below_size (qva1_))); have n2_ := Aside0.mk (blk_below (g := gb101) (o := .cells #[.slice A0_0 l0_0.length c0_0, .int .i64 a0_1] 24 (0, 0)) (qva6_) hb); have n3_ := Aside0.mk (blk_below (g := gb111) (o := .cells #[.int .i64 t104, .string t105, .string t106, .slice Ao52 t107.length co52] 29 (0, 0)) (qva4_) hb); have n4_ := Aside0.mk (below_step (qva1_) hb); clear HO109; clear BK101; clear BK111; clear HB; have HO109 := n0_; have HO115 := n1_; have BK101 := n2_; have BK111 := n3_; have HB := n4_; clear n0_ n1_ n2_ n3_ n4_; (try clear hb); (try clear hk); (try clear ho0); have hcz55_0 : w54.cell? ⟨gb101, 0, none⟩ = some (.slice A0_0 l0_0.length c0_0) := (blk_cell BK101.out 0).trans rfl; have hcz55_1 : w54.cell? ⟨gb101, 1, none⟩ = some (.int .i64 a0_1) := (blk_cell BK101.out 1).trans rfl; have hfz55_0 := blk_frozen BK101.out 0; have hfz55_1 := blk_frozen BK101.out 1) | ((with_reducible refine gate_callee (f := 17) rfl ?_); refine goesL_ (some 31) rfl rfl Tryz.func17 (by kernel_rfl) rfl #[.agg #[.slice A0_0 l0_0.length c0_0, .int .i64 a0_1]] rfl (qva5_) ?_; (with_reducible refine (graph_Order.calls _ _ l0_0 a0_1 t117 t120 _ ?side1 ?side2 (hG.below (qva0_)) A12.out).mono ?_); (case side1 => exact qva13_); (case side2 => exact qva14_); rintro e w56 ⟨v118, rfl, ho0, hb⟩; refine ⟨_, rfl, ?_⟩; have n0_ := Aside0.mk (Kd.R_below (qva8_) hb); have n1_ := Aside0.mk (Kd.R_elder' (qva9_) (Kd.R_base ho0) hb); have n2_ := Aside0.mk (Kd.R_lower (Kd.R_new' ho0 (Kd.R_lt (qva9_))) (below_size (qva1_))); have n3_ := Aside0.mk (blk_below (g := gb101) (o := .cells #[.slice A0_0 l0_0.length c0_0, .int .i64 a0_1] 24 (0, 0)) (qva3_) hb); have n4_ := Aside0.mk (blk_below (g := gb111) (o := .cells #[.int .i64 t104, .string t105, .string t106, .slice Ao52 t107.length co52] 29 (0, 0)) (qva10_) hb); have n5_ := Aside0.mk (below_step (qva1_) hb); clear HO109; clear HO115; clear BK101; clear BK111; clear HB; have HO109 := n0_; have HO115 := n1_; have HO119 := n2_; have BK101 := n3_; have BK111 := n4_; have HB := n5_; clear n0_ n1_ n2_ n3_ n4_ n5_; (try clear hb); (try clear hk); (try clear ho0); have hcz57_0 : w56.cell? ⟨gb101, 0, none⟩ = some (.slice A0_0 l0_0.length c0_0) := (blk_cell BK101.out 0).trans rfl; have hcz57_1 : w56.cell? ⟨gb101, 1, none⟩ = some (.int .i64 a0_1) := (blk_cell BK101.out 1).trans rfl; have hfz57_0 := blk_frozen BK101.out 0; have hfz57_1 := blk_frozen BK101.out 1) | ((with_reducible refine gate_callee (f := 13) rfl ?_); refine goesL_ (some 36) rfl rfl Tryz.func13 (by kernel_rfl) rfl #[.agg #[.slice A0_0 l0_0.length c0_0, .int .i64 a0_1]] rfl (qva5_) ?_; (with_reducible refine (lay_Size.calls k _ _ l0_0 a0_1 t121 t122 _ ?side1 ?side2 (hG.below (qva0_)) A13.out).mono ?_); (case side1 => exact qva13_); (case side2 => exact qva14_); rintro e w58 ⟨rfl, hb⟩; refine ⟨_, rfl, ?_⟩; have n0_ := Aside0.mk (Kd.R_below (qva8_) hb); have n1_ := Aside0.mk (Kd.R_below (qva9_) hb); have n2_ := Aside0.mk (Kd.R_below (qva11_) hb); have n3_ := Aside0.mk (blk_below (g := gb101) (o := .cells #[.slice A0_0 l0_0.length c0_0, .int .i64 a0_1] 24 (0, 0)) (qva3_) hb); have n4_ := Aside0.mk (blk_below (g := gb111) (o := .cells #[.int .i64 t104, .string t105, .string t106, .slice Ao52 t107.length co52] 29 (0, 0)) (qva10_) hb); have n5_ := Aside0.mk (below_step (qva1_) hb); clear HO109; clear HO115; clear HO119; clear BK101; clear BK111; clear HB; have HO109 := n0_; have HO115 := n1_; have HO119 := n2_; have BK101 := n3_; have BK111 := n4_; have HB := n5_; clear n0_ n1_ n2_ n3_ n4_ n5_; (try clear hb); (try clear hk); have hcz59_0 : w58.cell? ⟨gb111, 0, none⟩ = some (.int .i64 t104) := (blk_cell BK111.out 0).trans rfl; have hcz59_1 : w58.cell? ⟨gb111, 1, none⟩ = some (.string t105) := (blk_cell BK111.out 1).trans rfl; have hcz59_2 : w58.cell? ⟨gb111, 2, none⟩ = some (.string t106) := (blk_cell BK111.out 2).trans rfl; have hcz59_3 : w58.cell? ⟨gb111, 3, none⟩ = some (.slice Ao52 t107.length co52) := (blk_cell BK111.out 3).trans rfl; have hfz59_0 := blk_frozen BK111.out 0; have hfz59_1 := blk_frozen BK111.out 1; have hfz59_2 := blk_frozen BK111.out 2; have hfz59_3 := blk_frozen BK111.out 3) | ((with_reducible refine gate_callee (f := 18) rfl ?_); refine goesL_ (some 41) rfl rfl Tryz.func18 (by kernel_rfl) rfl #[.agg #[.int .i64 t104, .string t105, .string t106, .slice Ao52 t107.length co52]] rfl (qva5_) ?_; (with_reducible refine (grommetlaw14_anchors.calls k t104 t105 t106 _ _ t107 t123 t124 _ ?side1 ?side2 (hG.below (qva0_)) A14.out).mono ?_); (case side1 => exact qva16_); (case side2 => exact qva17_); rintro e w60 ⟨rfl, hb⟩; refine ⟨_, rfl, ?_⟩; have n0_ := Aside0.mk (Kd.R_below (qva8_) hb); have n1_ := Aside0.mk (Kd.R_below (qva9_) hb); have n2_ := Aside0.mk (Kd.R_below (qva11_) hb); have n3_ := Aside0.mk (blk_below (g := gb101) (o := .cells #[.slice A0_0 l0_0.length c0_0, .int .i64 a0_1] 24 (0, 0)) (qva3_) hb); have n4_ := Aside0.mk (blk_below (g := gb111) (o := .cells #[.int .i64 t104, .string t105, .string t106, .slice Ao52 t107.length co52] 29 (0, 0)) (qva10_) hb); have n5_ := Aside0.mk (below_step (qva1_) hb); clear HO109; clear HO115; clear HO119; clear BK101; clear BK111; clear HB; have HO109 := n0_; have HO115 := n1_; have HO119 := n2_; have BK101 := n3_; have BK111 := n4_; have HB := n5_; clear n0_ n1_ n2_ n3_ n4_ n5_; (try clear hb); (try clear hk); obtain ⟨Ao61, co61, eo61⟩ := Kd.R_slice HO115.out; subst eo61; obtain ⟨Ao62, co62, eo62⟩ := Kd.R_slice HO119.out; subst eo62) | (go_at_call 10; (with_reducible refine (grommetlaw14_alive.calls  t126 _ (hG.below (qva0_)) A43.out).mono ?_); rintro e w63 ⟨rfl, hb⟩; have n0_ := Aside0.mk (Kd.R_below (qva8_) hb); have n1_ := Aside0.mk (Kd.R_below (qva9_) hb); have n2_ := Aside0.mk (Kd.R_below (qva11_) hb); have n3_ := Aside0.mk (blk_below (g := gb101) (o := .cells #[.slice A0_0 l0_0.length c0_0, .int .i64 a0_1] 24 (0, 0)) (qva3_) hb); have n4_ := Aside0.mk (blk_below (g := gb111) (o := .cells #[.int .i64 t104, .string t105, .string t106, .slice Ao52 t107.length co52] 29 (0, 0)) (qva10_) hb); have n5_ := Aside0.mk (below_step (qva1_) hb); clear HO109; clear HO115; clear HO119; clear BK101; clear BK111; clear HB; have HO109 := n0_; have HO115 := n1_; have HO119 := n2_; have BK101 := n3_; have BK111 := n4_; have HB := n5_; clear n0_ n1_ n2_ n3_ n4_ n5_; (try clear hb); (try clear hk)))
 go_ret
 exact ⟨qva12_, qva1_⟩
end Go.Proofs.YtnjcpoojgmpmeaaGreatDoor.PX
namespace Go.Proofs.YtnjcpoojgmpmeaaGreatDoor.Pure
open RowKit YtnjcpoojgmpmeaaGreatDoor.PX YtnjcpoojgmpmeaaGreatDoor.Plug YtnjcpoojgmpmeaaGreatDoor.Graphs YtnjcpoojgmpmeaaGreatDoorW.PrintWords YtnjcpoojgmpmeaaGreatDoorW.PrintLast
set_option maxRecDepth 100000
theorem sizes14 (l : List S45) (h : Opened.bulkL Opened.bulkNode l ≤ 1048576) : sizesB l = true := by
 obtain ⟨h1, h2⟩ := Opened.nodes_bulk l
 refine List.all_eq_true.2 fun m hm => ?_
 have := h1 m hm
 rw [decide_eq_true (by omega), decide_eq_true (by omega)]; rfl
theorem large14_l0 (l : List Nd) (root : Int) (ns : List Nd) (hn : ns.length ≤ 200) : ∀ (d i K : Nat) (x3 : Int), ns.length = i + d → d + 1 ≤ K → ∃ b, grommetlaw14_large.l0 K x3 ns (ns.length : Int) (i : Int) l root = some b
 | 0, i, K, x3, hi, hK => by
  obtain ⟨K, rfl⟩ : ∃ k, K = k + 1 := ⟨K - 1, by omega⟩
  rw [grommetlaw14_large.l0, if_neg (by omega)]
  split
  ·
   split
   · exact ⟨_, rfl⟩
   · exact ⟨_, rfl⟩
  · exact ⟨_, rfl⟩
 | d + 1, i, K, x3, hi, hK => by
  obtain ⟨K, rfl⟩ : ∃ k, K = k + 1 := ⟨K - 1, by omega⟩
  have e2 : wrap64 ((i : Int) + 1) = ((i + 1 : Nat) : Int) := by unfold wrap64; omega
  rw [grommetlaw14_large.l0, if_pos (by omega), if_pos (by omega), if_pos (by omega), e2]
  exact large14_l0 l root ns hn d (i + 1) K _ (by omega) (by omega)
theorem large14 (l : List Nd) (root : Int) (K : Nat) (hK : 201 ≤ K) : ∃ b, grommetlaw14_large.f K l root = some b := by
 have h : (mn (l.length : Int) 200).toNat ≤ 200 ∧ 0 ≤ mn (l.length : Int) 200 ∧ mn (l.length : Int) 200 ≤ (l.length : Int) := by unfold mn; split <;> omega
 unfold grommetlaw14_large.f
 rw [if_pos h.2.1, if_pos h.2.2, Option.bind_some]
 have hl : (l.take (mn (l.length : Int) 200).toNat).length ≤ 200 := by rw [List.length_take]; omega
 rw [show (0 : Int) = ((0 : Nat) : Int) from rfl]
 exact large14_l0 l root _ hl _ 0 K _ (Nat.zero_add _).symm (by omega)
mutual
theorem anc_pos1 : ∀ t : Tr, 0 ≤ (ancT t).1
 | .mk k _ a l => by
  have := ancs_pos1 l
  rw [ancT]
  dsimp only
  split
  · omega
  · split <;> omega
theorem ancs_pos1 : ∀ l : List Tr, 0 ≤ (ancTs l).1
 | [] => by simp [ancTs]
 | t :: r => by
  have h1 := anc_pos1 t
  have h2 := ancs_pos1 r
  rw [ancTs]
  dsimp only
  omega
end
theorem list_nil {a : ByteArray} : a.toList = [] ↔ a = ⟨#[]⟩ := by
  refine ⟨fun h => ByteArray.ext (by rw [Lib.toList_data] at h; have := congrArg List.toArray h; simpa using this), fun h => by rw [h, Lib.toList_data]⟩
mutual
def okT : Tr → Bool
  | .mk _ _ _ l => decide (l.length ≤ 1099511627776) && okTs l
def okTs : List Tr → Bool
 | [] => true
 | t :: r => okT t && okTs r
end
theorem okT_leaf (k : Int) (t a : ByteArray) : okT ⟨k, t, a, []⟩ = true := by
  rw [okT, okTs, decide_eq_true (by simp)]; rfl
theorem okT_mk (k : Int) (t a : ByteArray) (l : List Tr) (h1 : l.length ≤ 1099511627776) (h2 : okTs l = true) : okT ⟨k, t, a, l⟩ = true := by
  rw [okT, h2, decide_eq_true h1]; rfl
theorem okTs_append : ∀ (a : List Tr) (t : Tr), okTs (a ++ [t]) = (okTs a && okT t)
 | [], t => by simp [okTs]
 | x :: r, t => by rw [List.cons_append, okTs, okTs_append r t, okTs, Bool.and_assoc]
theorem rd_kids (l : List Nd) (hz : ∀ n ∈ l, n.f2.length ≤ 1099511627776) (k : Int) : (rd_T45 l k).f2.length ≤ 1099511627776 := by
 unfold rd_T45
 rw [List.getD_eq_getElem?_getD]
 cases h : l[k.toNat]? with
 | none => exact Nat.zero_le _
 | some n => exact hz n (List.mem_of_getElem? h)
theorem tree_ok (l : List Nd) (an : Int → ByteArray) (hz : ∀ n ∈ l, n.f2.length ≤ 1099511627776) : ∀ (K : Nat) (at_ deep : Int) (s : LS) (x : Tr) (s' : LS), treeO l an K at_ deep s = some (x, s') → okT x = true
 | 0, at_, deep, s, x, s', h => by simp [treeO] at h
 | K + 1, at_, deep, s, x, s', h => by
  rw [treeO] at h
  split at h
  ·
   obtain ⟨e1, _⟩ := Prod.mk.inj (Option.some.inj h)
   rw [← e1]; exact okT_leaf _ _ _
  ·
   split at h
   · cases h
   ·
    dsimp only at h
    have hl := rd_kids l hz at_
    generalize rd_T45 l at_ = n at *
    generalize (if 5 ≤ n.f0 ∧ deep = 64 then (10 : Int) else s.2.1) = why at h
    split at h
    ·
     obtain ⟨e1, _⟩ := Prod.mk.inj (Option.some.inj h)
     rw [← e1]; exact okT_leaf _ _ _
    ·
     obtain ⟨p, hp1, hp2⟩ := Option.map_eq_some_iff.1 h
     obtain ⟨e1, _⟩ := Prod.mk.inj hp2
     have fold : ∀ (kids : List Int) (ts : List Tr) (s1 : LS) (p : List Tr × LS), kids.foldlM (fun (p : List Tr × LS) k => (treeO l an K k (deep + 1) p.2).map fun q => (p.1 ++ [q.1], q.2)) (ts, s1) = some p → okTs ts = true → okTs p.1 = true ∧ p.1.length = ts.length + kids.length := by
      intro kids
      induction kids with
      | nil =>
       intro ts s1 p h ho
       have := Option.some.inj h
       rw [← this]
       exact ⟨ho, rfl⟩
      | cons k r ih =>
       intro ts s1 p h ho
       rw [List.foldlM_cons] at h
       obtain ⟨p1, h1, h2⟩ := Option.bind_eq_some_iff.1 h
       obtain ⟨q, hq1, hq2⟩ := Option.map_eq_some_iff.1 h1
       obtain ⟨x2, s2⟩ := q
       subst hq2
       have h3 := tree_ok l an hz K k (deep + 1) s1 x2 s2 hq1
       have h4 := ih (ts ++ [x2]) s2 p h2 (by rw [okTs_append, ho, h3]; rfl)
       refine ⟨h4.1, ?_⟩
       rw [h4.2]
       simp only [List.length_append, List.length_cons, List.length_nil]
       omega
     have h5 := fold _ _ _ _ hp1 (by rw [okTs])
     rw [← e1]
     exact okT_mk _ _ _ _ (by rw [h5.2]; simpa using hl) h5.1
theorem wrapS (x : Int) (h0 : 0 ≤ x) (h1 : x ≤ 1099511627776) : wrap64 x = x := by unfold wrap64; omega
mutual
theorem anc_ev : ∀ t : Tr, okT t = true → (ancT t).1 ≤ 1099511627776 → (ancT t).2 ≤ 1099511627776 → ∃ K0, ∀ K, K0 ≤ K → grommetlaw14_anchors.f K t.f0 t.f1 t.f2 t.f3 = some (ancT t)
 | .mk k x a l, ho, h1, h2 => by
  have ho2 : l.length ≤ 1099511627776 ∧ okTs l = true := by
   rw [okT, Bool.and_eq_true, decide_eq_true_eq] at ho
   exact ho
  rw [ancT] at h1 h2
  dsimp only at h1 h2
  have p1 := ancs_pos1 l
  have p2 := ancs_pos l
  have ha : 0 ≤ (if k = 7 then (0 : Int) else if a = ⟨#[]⟩ then 0 else 1) ∧ (if k = 7 then (0 : Int) else if a = ⟨#[]⟩ then 0 else 1) ≤ 1 := by
   split
   · omega
   · split <;> omega
  have hb : 0 ≤ (if k = 7 then (1 : Int) else 0) ∧ (if k = 7 then (1 : Int) else 0) ≤ 1 := by split <;> omega
  obtain ⟨K0, hK0⟩ := ancs_ev l l 0 (if k = 7 then (0 : Int) else if a = ⟨#[]⟩ then 0 else 1) (if k = 7 then (1 : Int) else 0) rfl ho2.1 ho2.2 ha.1 hb.1 h1 h2
  refine ⟨K0 + 2, fun K hK => ?_⟩
  obtain ⟨K, rfl⟩ : ∃ m, K = m + 2 := ⟨K - 2, by omega⟩
  have h3 := hK0 K (by omega)
  rw [ancT]
  dsimp only
  rw [grommetlaw14_anchors.f]
  by_cases c : k = 7
  ·
   rw [if_pos c, grommetlaw14_anchors.j0]
   rw [if_pos c, if_pos c] at h3
   rw [if_pos c, if_pos c]
   exact h3
  rw [if_neg c]
  rw [if_neg c, if_neg c] at h3
  rw [if_neg c, if_neg c]
  by_cases e : a.toList = []
  ·
   rw [if_pos e, grommetlaw14_anchors.j0]
   rw [if_pos (list_nil.1 e)] at h3 ⊢
   exact h3
  rw [if_neg e, grommetlaw14_anchors.j0]
  rw [if_neg (fun z => e (list_nil.2 z))] at h3 ⊢
  exact h3
theorem ancs_ev : ∀ (l xs : List Tr) (i : Nat) (a b : Int), xs.drop i = l → xs.length ≤ 1099511627776 → okTs l = true → 0 ≤ a → 0 ≤ b → a + (ancTs l).1 ≤ 1099511627776 → b + (ancTs l).2 ≤ 1099511627776 → ∃ K0, ∀ K, K0 ≤ K → grommetlaw14_anchors.l0 K a b xs (xs.length : Int) (i : Int) = some (a + (ancTs l).1, b + (ancTs l).2)
 | [], xs, i, a, b, hx, hxl, ho, h1, h2, h3, h4 => by
  have hlen : xs.length ≤ i := List.drop_eq_nil_iff.1 hx
  refine ⟨1, fun K hK => ?_⟩
  obtain ⟨K, rfl⟩ : ∃ m, K = m + 1 := ⟨K - 1, by omega⟩
  rw [grommetlaw14_anchors.l0, if_neg (by omega)]
  simp [ancTs]
 | t :: r, xs, i, a, b, hx, hxl, ho, h1, h2, h3, h4 => by
  rw [okTs, Bool.and_eq_true] at ho
  have ho2 := ho
  have hlt : i < xs.length := by
   rcases Nat.lt_or_ge i xs.length with h | h
   · exact h
   · rw [List.drop_of_length_le h] at hx; cases hx
  rw [List.drop_eq_getElem_cons hlt] at hx
  obtain ⟨hx1, hx2⟩ := List.cons.inj hx
  rw [ancTs] at h3 h4
  dsimp only at h3 h4
  have q1 := anc_pos1 t
  have q2 := anc_pos t
  have q3 := ancs_pos1 r
  have q4 := ancs_pos r
  obtain ⟨K1, hK1⟩ := anc_ev t ho2.1 (by omega) (by omega)
  obtain ⟨K2, hK2⟩ := ancs_ev r xs (i + 1) (a + (ancT t).1) (b + (ancT t).2) hx2 hxl ho2.2 (by omega) (by omega) (by omega) (by omega)
  refine ⟨K1 + K2 + 1, fun K hK => ?_⟩
  obtain ⟨K, rfl⟩ : ∃ m, K = m + 1 := ⟨K - 1, by omega⟩
  have f0 : (i : Int) < (xs.length : Int) := Int.ofNat_lt.2 hlt
  have f1 : (0 : Int) ≤ (i : Int) := Int.natCast_nonneg i
  have f2 := hK1 K (by clear hK2 hK1 h3 h4 q1 q2 q3 q4 h1 h2; omega)
  have f3 := hK2 K (by clear f2 hK2 hK1 h3 h4 q1 q2 q3 q4 h1 h2; omega)
  have e1 : wrap64 (a + (ancT t).1) = a + (ancT t).1 := wrapS _ (by clear f2 f3; omega) (by clear f2 f3; omega)
  have e2 : wrap64 (b + (ancT t).2) = b + (ancT t).2 := wrapS _ (by clear e1 f2 f3; omega) (by clear e1 f2 f3; omega)
  have e3 : wrap64 ((i : Int) + 1) = ((i + 1 : Nat) : Int) := wrapS _ (by clear e1 e2 f2 f3; omega) (by clear e1 e2 f2 f3; omega)
  have f4 : rd_T29 xs (i : Int) = t := by rw [rdT_nth xs i hlt, hx1]
  have f5 : grommetlaw14_anchors.l0 (K + 1) a b xs (xs.length : Int) (i : Int) = grommetlaw14_anchors.l0 K (a + (ancT t).1) (b + (ancT t).2) xs (xs.length : Int) ((i + 1 : Nat) : Int) := by
   rw [grommetlaw14_anchors.l0, if_pos f0, if_pos f1, if_pos f0, f4, f2, Option.bind_some, e1, e2, e3]
  rw [f5, f3, ancTs]
  simp only [Int.add_assoc]
end
theorem LayShared (l : List S45) (root : Int) (_hg : Opened.goodGraph (l, root)) (hbk : Opened.bulkGraph (l, root) ≤ 1048576) : ∃ K, grommetlaw14_LayShared.f K l root = some true := by
 have hb : Opened.bulkGraph (l, root) = Opened.bulkL Opened.bulkNode l + 2 := rfl
 have hs := sizes14 l (by omega)
 have hz : ∀ n ∈ l, n.f2.length ≤ 1099511627776 := fun n hn => (sizes_iff hs n hn).2
 by_cases hr : rightB l root = true
 rotate_left
 ·
  have hr' : rightB l root = false := Bool.eq_false_iff.2 hr
  have hO : graph_Order.f l root = some ([], 1) := by unfold graph_Order.f; rw [if_pos hs, if_neg hr]
  have hS : iso_Shared.f l root = some ([], 1) := by unfold iso_Shared.f; rw [hO]; rfl
  have hlay : layF l root = some (noTr, 1) := by unfold layF; rw [hO, hS]; rfl
  refine ⟨201, ?_⟩
  obtain ⟨b, hlg⟩ := large14 l root 201 (by omega)
  unfold grommetlaw14_LayShared.f
  rw [hlg, Option.bind_some]
  cases b with
  | true => rw [if_pos rfl, alive14]; rfl
  | false =>
   rw [if_neg (by decide)]
   unfold lay_Tree.f
   rw [hlay, Option.map_some, Option.bind_some]
   dsimp only
   rw [if_neg (by decide), alive14]; rfl
 have hG := (right_iff l root hs).1 hr
 have hkin : Kin l := fun n hn => (hG.node hn).range
 obtain ⟨xs, sh, t, s, hO, hS, hT, hxl, hlaw⟩ := lay_right l root hs hG hkin (fun n hn => (hG.node hn).k6)
 have hlay : layF l root = some (if s.2.1 ≠ 0 then (noTr, s.2.1) else if 4096 < 1 + kidsL l xs then (noTr, 5) else (t, 0)) := by
  unfold layF
  rw [hO, hS]
  dsimp only
  rw [if_neg (by decide), hT]
 by_cases c1 : s.2.1 ≠ 0
 ·
  refine ⟨201, ?_⟩
  obtain ⟨b, hlg⟩ := large14 l root 201 (by omega)
  unfold grommetlaw14_LayShared.f
  rw [hlg, Option.bind_some]
  cases b with
  | true => rw [if_pos rfl, alive14]; rfl
  | false =>
   rw [if_neg (by decide)]
   unfold lay_Tree.f
   rw [hlay, if_pos c1, Option.map_some, Option.bind_some]
   dsimp only
   rw [if_neg c1, alive14]; rfl
 have c2 : s.2.1 = 0 := Decidable.not_not.1 c1
 rw [if_neg c1] at hlay
 by_cases c3 : 4096 < 1 + kidsL l xs
 ·
  rw [if_pos c3] at hlay
  refine ⟨201, ?_⟩
  obtain ⟨b, hlg⟩ := large14 l root 201 (by omega)
  unfold grommetlaw14_LayShared.f
  rw [hlg, Option.bind_some]
  cases b with
  | true => rw [if_pos rfl, alive14]; rfl
  | false =>
   rw [if_neg (by decide)]
   unfold lay_Tree.f
   rw [hlay, Option.map_some, Option.bind_some]
   dsimp only
   rw [if_neg (by decide), alive14]; rfl
 rw [if_neg c3] at hlay
 obtain ⟨a1, a2, a3⟩ := hlaw c2
 have hok := tree_ok l (anB sh) hz _ _ _ _ _ _ hT
 have hle := hG.le
 have hshl : sh.length ≤ 4096 := by
  have hS2 := hS
  unfold iso_Shared.f at hS2
  rw [hO] at hS2
  dsimp only at hS2
  rw [if_neg (by decide)] at hS2
  split at hS2
  ·
   have e := (Prod.mk.inj (Option.some.inj hS2)).1
   rw [← e]
   exact Nat.le_trans (List.length_filter_le _ _) (by omega)
  · cases hS2
 obtain ⟨K0, hK0⟩ := anc_ev t hok (by omega) (by omega)
 have hin : ∀ x ∈ xs, 0 ≤ x ∧ x < (l.length : Int) := by
  have hS2 := hS
  unfold iso_Shared.f at hS2
  rw [hO] at hS2
  dsimp only at hS2
  rw [if_neg (by decide)] at hS2
  split at hS2
  ·
   rename_i hcx
   exact fun x hx => by have := List.all_eq_true.1 hcx.2.2 x hx; simpa using this
  · cases hS2
 refine ⟨K0 + xs.length + 201, ?_⟩
 obtain ⟨b, hlg⟩ := large14 l root (K0 + xs.length + 201) (by omega)
 unfold grommetlaw14_LayShared.f
 rw [hlg, Option.bind_some]
 cases b with
 | true => rw [if_pos rfl, alive14]; rfl
 | false =>
  have hsz : lay_Size.f (K0 + xs.length + 201) l root = some (((1 + kidsL l xs : Nat) : Int), 0) := by
   unfold lay_Size.f
   rw [hO, Option.bind_some, if_pos rfl]
   have := size_l0 l root xs hin hz (by omega) xs.length 0 (K0 + xs.length + 201) 1 (by omega) (by omega) (by omega)
   rw [List.drop_zero] at this
   exact this
  have e4 : wrap64 (((1 + kidsL l xs : Nat) : Int) - (xs.length : Int)) = (ancT t).2 := by unfold wrap64; omega
  rw [if_neg (by decide)]
  unfold lay_Tree.f
  rw [hlay, Option.map_some, Option.bind_some]
  dsimp only
  rw [if_pos rfl, hS, Option.bind_some, hO, Option.bind_some, hsz, Option.bind_some, hK0 _ (by omega), Option.bind_some]
  dsimp only
  rw [if_pos rfl, if_pos rfl, if_pos rfl, if_pos a1, e4, if_pos rfl]
  by_cases c5 : (sh.length : Int) > 0
  · rw [if_pos c5, alive14]; rfl
  have c6 : sh = [] := List.length_eq_zero_iff.1 (by omega)
  rw [if_neg c5, if_pos (a3 c6), alive14]; rfl
end Go.Proofs.YtnjcpoojgmpmeaaGreatDoor.Pure
