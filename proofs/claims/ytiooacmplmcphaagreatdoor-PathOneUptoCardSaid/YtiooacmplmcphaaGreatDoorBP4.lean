/- Texts that stand behind one another, laid into one: what this claim needs of them. -/
import Derived.Test.YtiooacmplmcphaaGreatDoorBP3
import Derived.Outline
import Derived.Test.YtiooacmplmcphaaGreatDoorBP0
import Derived.Test.YtiooacmplmcphaaGreatDoorBP2
import Derived.Test.YtiooacmplmcphaaGreatDoorBP1
import Derived.Lib.AtoiAllCases
import Derived.Lib.ItoaLen
import Derived.KernelRfl
namespace Go.Proofs.YtiooacmplmcphaaGreatDoor.Plug
open RowKit YtiooacmplmcphaaGreatDoor YtiooacmplmcphaaGreatDoor.PX YtiooacmplmcphaaGreatDoor.Utf YtiooacmplmcphaaGreatDoor.Mapk YtiooacmplmcphaaGreatDoorW.PrintWords YtiooacmplmcphaaGreatDoorW.PrintLast YtiooacmplmcphaaGreatDoorW.PrintMore
theorem node_cells {w W : World} (hb : Below w.heap.size w W) {A : Option Addr} {l : List S45} (h : Kd.C k45 w A l.length l) (k : Nat) (hk : k < l.length) :
  ∃ ad A2 c2, A = some ad ∧ W.cell? (ad.add (k * 3)) = some (.int .i64 l[k].f0) ∧ W.cell? ⟨(ad.add (k * 3)).block, (ad.add (k * 3)).off + 1, none⟩ = some (.string l[k].f1) ∧ W.cell? ⟨(ad.add (k * 3)).block, (ad.add (k * 3)).off + 2, none⟩ = some (.slice A2 l[k].f2.length c2) ∧ l[k].f2.length ≤ c2 ∧ Kd.C (Kd.int .i64) w A2 l[k].f2.length l[k].f2 := by
 obtain ⟨ad, A2, c2, eA, h0, h1, h2, h3, h4⟩ := at_T45 h (k : Int) (by omega) (by omega)
 have e : rd_T45 l (k : Int) = l[k] := by unfold rd_T45; rw [Int.toNat_natCast, List.getD_eq_getElem?_getD, List.getElem?_eq_getElem hk]; rfl
 rw [e] at h0 h1 h2 h3 h4
 rw [Int.toNat_natCast] at h0 h1 h2
 exact ⟨ad, A2, c2, eA, (hb.cell (World.block_lt_of_cell? w _ h0)).trans h0, (hb.cell (World.block_lt_of_cell? w _ h1)).trans h1, (hb.cell (World.block_lt_of_cell? w _ h2)).trans h2, h3, h4⟩
def endB (l : List S45) (U : Option (List Int)) : Bool := match U with
 | none => false
 | some u => soleB u l
set_option maxHeartbeats 8000000 in
set_option maxRecDepth 100000 in
theorem graph_Right.calls (A0 : Option Addr) (c0 : Nat) (l : List S45) (root : Int) (r : Bool) (w : World) (hr0 : Kd.C k45 w A0 l.length l) (hc0 : l.length ≤ c0) (hG : Glob.G w) (h : graph_Right.f l root = some r) :
    Calls Tryz.prog 29 #[.agg #[.slice A0 l.length c0, .int .i64 root]] w fun e w' => e = .returned (.bool r) ∧ Below w.heap.size w w' := by
  unfold graph_Right.f at h
  by_cases hz : sizesB l = true
  · rw [if_pos hz] at h
    obtain hR := Option.some.inj h
    have HR := Lib.hid hr0
    have HZ := Lib.hid (show ∀ m ∈ l, m.f1.size ≤ 1099511627775 ∧ m.f2.length ≤ 1099511627776 from fun m hm => by
      have := List.all_eq_true.1 hz m hm
      simp at this
      exact this)
    clear h hz hr0
    by_cases k0 : l.length = 0
    · have HF : Hid (r = false) := Lib.hid (by rw [← hR]; unfold rightB; rw [if_pos k0])
      have q0 : ((l.length : Int) == 0) = true := beq_iff_eq.2 (by omega)
      clear hR
      go_enter Tryz.func29, Tryz.ntmps29
      go_wp2_with (first | ((with_reducible refine gate_dst (N := 1) rfl ?_); refine box_event ?hg (N := 1) ?hd (cs := #[.slice A0 l.length c0, .int .i64 root]) (t := 24) ?hr ?_; (case hd => rfl); (case hg => rfl); (case hr => first | (go_simp; done) | (go_simp; rfl)); intro gb hg w1 hgb hb1; have HG1 := Lib.hid hgb; have HB1 := Lib.hid hb1; clear hgb hb1 hg; have x0 := (blk_cell HG1.out 0).trans rfl; have x1 := (blk_cell HG1.out 1).trans rfl))
      go_ret
      exact ⟨by rw [HF.out]; first | done | rfl, HB1.out⟩
    · have q0 : ((l.length : Int) == 0) = false := beq_eq_false_iff_ne.2 (by omega)
      by_cases k1 : 4096 < l.length
      · have HF : Hid (r = false) := Lib.hid (by rw [← hR]; unfold rightB; rw [if_neg k0, if_pos k1])
        have q1 : decide (4096 < (l.length : Int)) = true := decide_eq_true (by omega)
        clear hR
        go_enter Tryz.func29, Tryz.ntmps29
        go_wp2_with (first | ((with_reducible refine gate_dst (N := 1) rfl ?_); refine box_event ?hg (N := 1) ?hd (cs := #[.slice A0 l.length c0, .int .i64 root]) (t := 24) ?hr ?_; (case hd => rfl); (case hg => rfl); (case hr => first | (go_simp; done) | (go_simp; rfl)); intro gb hg w1 hgb hb1; have HG1 := Lib.hid hgb; have HB1 := Lib.hid hb1; clear hgb hb1 hg; have x0 := (blk_cell HG1.out 0).trans rfl; have x1 := (blk_cell HG1.out 1).trans rfl))
        go_ret
        exact ⟨by rw [HF.out]; first | done | rfl, HB1.out⟩
      · have q1 : decide (4096 < (l.length : Int)) = false := decide_eq_false (by omega)
        by_cases k2 : root < 0
        · have HF : Hid (r = false) := Lib.hid (by rw [← hR]; unfold rightB; rw [if_neg k0, if_neg k1, if_pos k2])
          have q2 : decide (root < 0) = true := decide_eq_true k2
          clear hR
          go_enter Tryz.func29, Tryz.ntmps29
          go_wp2_with (first | ((with_reducible refine gate_dst (N := 1) rfl ?_); refine box_event ?hg (N := 1) ?hd (cs := #[.slice A0 l.length c0, .int .i64 root]) (t := 24) ?hr ?_; (case hd => rfl); (case hg => rfl); (case hr => first | (go_simp; done) | (go_simp; rfl)); intro gb hg w1 hgb hb1; have HG1 := Lib.hid hgb; have HB1 := Lib.hid hb1; clear hgb hb1 hg; have x0 := (blk_cell HG1.out 0).trans rfl; have x1 := (blk_cell HG1.out 1).trans rfl))
          go_ret
          exact ⟨by rw [HF.out]; first | done | rfl, HB1.out⟩
        · have q2 : decide (root < 0) = false := decide_eq_false k2
          by_cases k3 : (l.length : Int) ≤ root
          · have HF : Hid (r = false) := Lib.hid (by rw [← hR]; unfold rightB; rw [if_neg k0, if_neg k1, if_neg k2, if_pos k3])
            have q3 : decide ((l.length : Int) ≤ root) = true := decide_eq_true k3
            clear hR
            go_enter Tryz.func29, Tryz.ntmps29
            go_wp2_with (first | ((with_reducible refine gate_dst (N := 1) rfl ?_); refine box_event ?hg (N := 1) ?hd (cs := #[.slice A0 l.length c0, .int .i64 root]) (t := 24) ?hr ?_; (case hd => rfl); (case hg => rfl); (case hr => first | (go_simp; done) | (go_simp; rfl)); intro gb hg w1 hgb hb1; have HG1 := Lib.hid hgb; have HB1 := Lib.hid hb1; clear hgb hb1 hg; have x0 := (blk_cell HG1.out 0).trans rfl; have x1 := (blk_cell HG1.out 1).trans rfl))
            go_ret
            exact ⟨by rw [HF.out]; first | done | rfl, HB1.out⟩
          · have q3 : decide ((l.length : Int) ≤ root) = false := decide_eq_false k3
            obtain ⟨U, hU⟩ : ∃ U, usesB l l (bump (List.replicate l.length 0) root) = U := ⟨_, rfl⟩
            have HV := Lib.hid (show endB l U = r by rw [← hR, ← hU]; unfold rightB endB; rw [if_neg k0, if_neg k1, if_neg k2, if_neg k3]; first | done | rfl)
            obtain ⟨u0, hu0⟩ : ∃ u, u = List.replicate l.length (0 : Int) := ⟨_, rfl⟩
            rw [← hu0] at hU
            have hul : u0.length = l.length := by rw [hu0, List.length_replicate]
            have HU := Lib.hid hU
            have HU0 := Lib.hid hu0
            have r0 : 0 ≤ root := by omega
            have r1 : root < (l.length : Int) := by omega
            have p1 := eq_true r0
            have p2 := eq_true r1
            have HUA := Lib.hid hU
            have hll : l.length ≤ 4096 := by omega
            clear hR hU hu0 k2 k3
            go_enter Tryz.func29, Tryz.ntmps29
            go_wp2_with (first | ((with_reducible refine gate_dst (N := 1) rfl ?_); refine box_event ?hg (N := 1) ?hd (cs := #[.slice A0 l.length c0, .int .i64 root]) (t := 24) ?hr ?_; (case hd => rfl); (case hg => rfl); (case hr => first | (go_simp; done) | (go_simp; rfl)); intro gb hg w1 hgb hb1; have HG1 := Lib.hid hgb; have HB1 := Lib.hid hb1; clear hgb hb1 hg; have x0 := (blk_cell HG1.out 0).trans rfl; have x1 := (blk_cell HG1.out 1).trans rfl) | ((with_reducible refine gate_dst (N := 36) rfl ?_); refine Kd.R_make (Kd.int .i64) _ 3 rfl (N := 36) rfl 40 _ _ rfl (l.length : Int) rfl rfl Tryz.underlying40 (.int .i64 0) 8 info3 rfl (by decide) (by omega) 0 (ok := fun _ => True) (okp := fun _ => True) rfl (fun _ hk => hk) trivial (by omega) (by omega) (Below.refl _ _) (Nat.le_refl _) ?_; intro v w2 ho hb hg_ hnew_; clear hg_ hnew_; simp only [Int.toNat_natCast] at ho; rw [← HU0.out] at ho; obtain ⟨rb, cp, ev, _, hrb, _, _⟩ := Kd.R_form ho (by omega); subst ev; rw [hul] at ho; have hb2 : Below w2.heap.size w2 (w2.alloc (.cells #[.slice (some ⟨rb, 0, none⟩) l.length cp] 40 (0, 0))) := below_alloc (Below.refl _ _) _; have HUs := Lib.hid (Us.mk ((hb2.block gb (blk_lt ((hb.block gb (blk_lt HG1.out)).trans HG1.out))).trans ((hb.block gb (blk_lt HG1.out)).trans HG1.out)) hul (blk_new w2 _) (Kd.R_below (Kd.R_lower ho HB1.out.size) hb2)); have HB3 := Lib.hid ((HB1.out.trans (hb.mono HB1.out.size)).trans (hb2.mono (HB1.out.trans (hb.mono HB1.out.size)).size)); clear ho hb hb2 HG1 HB1 x0 x1; obtain ⟨y0, y1, y2⟩ := HUs.out.cells; obtain ⟨y3, y4⟩ := HUs.out.at_ root r0 r1; obtain ⟨hu3, hg3⟩ := HUs.out.put root (wrap64 (rd u0 root + 1)); rw [World.setCell_alloc_past _ _ _ _ hrb] at hu3 hg3; have HU3 := Lib.hid hu3; have HB4 := Lib.hid (HB3.out.trans (below_of_grown hg3 HUs.out.base HB3.out.size)); obtain ⟨z0, z1, z2⟩ := hu3.cells; clear hu3 hg3))
            generalize World.alloc _ _ = w5 at HU3 HB4 ⊢
            clear HUs HB3 y0 y1 y2 y3 y4 z0 z1 z2 q0 q1 q2 q3 k0 k1
            go_loopw [47] (fun v wr => ∃ (i : Nat) (u : List Int), v = .int .i64 i ∧ i ≤ l.length ∧ Hid (usesB l (l.drop i) u = U) ∧ Hid (Us w.heap.size gb w2.heap.size rb cp A0 l.length c0 root u wr) ∧ Hid (Below w.heap.size w wr)) (fun v _ => l.length - (intOf v).toNat)
            case atStart => exact ⟨0, _, rfl, by omega, HU, HU3, HB4⟩
            case round =>
              obtain ⟨i, u, rfl, hi, hst, HUR, HBR⟩ := hrel
              clear HU HU3 HB4
              obtain ⟨x0, x1, x2⟩ := HUR.out.cells
              by_cases hlt : i < l.length
              · have hc : decide ((i : Int) < (l.length : Int)) = true := decide_eq_true (by omega)
                have p3 : (0 ≤ (i : Int)) = True := eq_true (by omega)
                have p4 : ((i : Int) < (l.length : Int)) = True := eq_true (by omega)
                obtain ⟨bd, A2, c2, rfl, y0, y1, y2, hc2, hC⟩ := node_cells HBR.out HR.out i hlt
                obtain ⟨hz1, hz2⟩ := HZ.out l[i] (List.getElem_mem hlt)
                have hst2 := hst.out
                rw [List.drop_eq_getElem_cons hlt, usesB] at hst2
                generalize l[i] = n at *
                obtain ⟨kd, tt, kids⟩ := n
                dsimp only at y0 y1 y2 hc2 hC hz1 hz2 hst2
                have HC := Lib.hid hC
                have hb8 : Below wr.heap.size wr (wr.alloc (.cells #[.int .i64 kd, .string tt, .slice A2 kids.length c2] 45 (0, 0))) := below_alloc (Below.refl _ _) _
                have hk8 : (wr.alloc (.cells #[.int .i64 kd, .string tt, .slice A2 kids.length c2] 45 (0, 0))).heap[wr.heap.size]? = some (.cells #[.int .i64 kd, .string tt, .slice A2 kids.length c2] 45 (0, 0)) := blk_new wr _
                have HU8 := Lib.hid (HUR.out.below hb8)
                have HB8 := Lib.hid (HBR.out.trans (hb8.mono HBR.out.size))
                have HK8 := Lib.hid hk8
                obtain ⟨z0, z1, z2⟩ := HU8.out.cells
                clear hC hb8 hk8 HUR HBR
                cases hN : isN l ⟨kd, tt, kids⟩ with
                | false =>
                  have HN := Lib.hid (show nodeB l ⟨kd, tt, kids⟩ (textB kd tt) (keysB kd kids) = false from hN)
                  have HF : Hid (r = false) := Lib.hid (by rw [← HV.out]; rw [hN, if_neg Bool.false_ne_true] at hst2; rw [← hst2]; rfl)
                  clear hst hst2 hN
                  go_wp2_with (first | (go_at_call 57; refine (isNode_is 1 (kids.length + 2) _ c0 l root ⟨kd, tt, kids⟩ A2 c2 (textB kd tt) (keysB kd kids) _ (Kd.C_below HR.out HB8.out) hc0 (Kd.C_below HC.out HB8.out) hc2 (hG.below HB8.out) (fun _ _ => isText_of 0 kd tt hz1) (keys_of kd tt kids hz2 _ (by omega)) (fun m hm => Nat.le_trans (HZ.out m hm).1 (by omega)) (Nat.le_trans (keys_len kd kids) hz2) (keys_sub kd kids)).mono ?_; rw [HN.out]; rintro e w9 ⟨rfl, hb9⟩; have HU9 := Lib.hid (HU8.out.below hb9); have HK9 := Lib.hid ((hb9.block _ (blk_lt HK8.out)).trans HK8.out); have HB9 := Lib.hid (HB8.out.trans (hb9.mono HB8.out.size)); clear hb9 HU8 HK8 HB8; have q0 := (blk_cell HK9.out 0).trans rfl; have q1 := (blk_cell HK9.out 1).trans rfl; have q2 := (blk_cell HK9.out 2).trans rfl))
                  go_ret
                  exact ⟨by rw [HF.out]; first | done | rfl, HB9.out⟩
                | true =>
                  have HN := Lib.hid (show nodeB l ⟨kd, tt, kids⟩ (textB kd tt) (keysB kd kids) = true from hN)
                  have HST := Lib.hid (show usesB l (l.drop (i + 1)) (kids.foldl bump u) = U by rw [hN, if_pos rfl] at hst2; exact hst2)
                  have HRG := Lib.hid (isN_range hN)
                  have HLO := Lib.hid hlt
                  clear hst hst2 hN
                  go_wp2_with (first | (go_at_call 57; refine (isNode_is 1 (kids.length + 2) _ c0 l root ⟨kd, tt, kids⟩ A2 c2 (textB kd tt) (keysB kd kids) _ (Kd.C_below HR.out HB8.out) hc0 (Kd.C_below HC.out HB8.out) hc2 (hG.below HB8.out) (fun _ _ => isText_of 0 kd tt hz1) (keys_of kd tt kids hz2 _ (by omega)) (fun m hm => Nat.le_trans (HZ.out m hm).1 (by omega)) (Nat.le_trans (keys_len kd kids) hz2) (keys_sub kd kids)).mono ?_; rw [HN.out]; rintro e w9 ⟨rfl, hb9⟩; have HU9 := Lib.hid (HU8.out.below hb9); have HK9 := Lib.hid ((hb9.block _ (blk_lt HK8.out)).trans HK8.out); have HB9 := Lib.hid (HB8.out.trans (hb9.mono HB8.out.size)); clear hb9 HU8 HK8 HB8; have q0 := (blk_cell HK9.out 0).trans rfl; have q1 := (blk_cell HK9.out 1).trans rfl; have q2 := (blk_cell HK9.out 2).trans rfl))
                  clear x0 x1 x2 y0 y1 y2 z0 z1 z2 q0 q1 q2
                  go_loopw [58] (fun v wr => ∃ (j : Nat) (u2 : List Int), v = .int .i64 j ∧ j ≤ kids.length ∧ Hid ((kids.drop j).foldl bump u2 = kids.foldl bump u) ∧ Hid (Us w.heap.size gb w2.heap.size rb cp (some bd) l.length c0 root u2 wr) ∧ Hid (Below w.heap.size w wr)) (fun v _ => kids.length - (intOf v).toNat)
                  case atStart => exact ⟨0, u, rfl, by omega, Lib.hid rfl, HU9, HB9⟩
                  case round =>
                    obtain ⟨j, u2, rfl, hj, hst, HUR, HBR⟩ := hrel
                    clear HU9 HB9 HK9
                    obtain ⟨x0, x1, x2⟩ := HUR.out.cells
                    by_cases hlt2 : j < kids.length
                    · have hd : decide ((j : Int) < (kids.length : Int)) = true := decide_eq_true (by omega)
                      obtain ⟨cd, rfl, hx⟩ := Kd.at_int (Kd.C_below HC.out HBR.out) (j : Int) (by omega) (by omega)
                      rw [rd_at kids j hlt2, Int.toNat_natCast] at hx
                      obtain ⟨j0, j1⟩ := HRG.out kids[j] (List.getElem_mem hlt2)
                      have hst2 := hst.out
                      rw [List.drop_eq_getElem_cons hlt2, List.foldl_cons] at hst2
                      have HS := Lib.hid hst2
                      clear hst hst2
                      generalize kids[j] = k at *
                      obtain ⟨y3, y4⟩ := HUR.out.at_ k j0 j1
                      obtain ⟨hu3, hg3⟩ := HUR.out.put k (wrap64 (rd u2 k + 1))
                      have HU3 := Lib.hid hu3
                      have HB3 := Lib.hid (HBR.out.trans (below_of_grown hg3 HUR.out.base HBR.out.size))
                      have p5 : (0 ≤ k) = True := eq_true j0
                      have p6 : (k < (l.length : Int)) = True := eq_true j1
                      have p7 : (0 ≤ (j : Int)) = True := eq_true (by omega)
                      have p8 : ((j : Int) < (kids.length : Int)) = True := eq_true (by omega)
                      have HL := Lib.hid hlt2
                      clear hu3 hg3 HUR HBR
                      go_wp2
                      go_roundw
                      case rel => have := HL.out; exact ⟨j + 1, bump u2 k, by go_num, HL.out, HS, HU3, HB3⟩
                      case measure => have := HL.out; simp [intOf]; omega
                    · have hd : decide ((j : Int) < (kids.length : Int)) = false := decide_eq_false (by omega)
                      have hst2 := hst.out
                      rw [List.drop_of_length_le (by omega), List.foldl_nil] at hst2
                      subst hst2
                      clear hst
                      go_wp2
                      go_roundw
                      case rel => have := HLO.out; exact ⟨i + 1, _, by go_num, HLO.out, HST, HUR, HBR⟩
                      case measure => have := HLO.out; simp [intOf]; omega
              · have hc : decide ((i : Int) < (l.length : Int)) = false := decide_eq_false (by omega)
                have hst2 := hst.out
                rw [List.drop_of_length_le (by omega), usesB] at hst2
                subst hst2
                have HVS := Lib.hid (show soleB u l = r from HV.out)
                have HALL := Lib.hid (usesB_all l l _ _ HUA.out)
                clear hst
                go_wp2
                clear x0 x1 x2 hc
                go_loopw [73] (fun v wr => ∃ i : Nat, v = .int .i64 i ∧ i ≤ l.length ∧ Hid (soleB u (l.drop i) = r) ∧ Hid (Us w.heap.size gb w2.heap.size rb cp A0 l.length c0 root u wr) ∧ Hid (Below w.heap.size w wr)) (fun v _ => l.length - (intOf v).toNat)
                case atStart => exact ⟨0, rfl, by omega, HVS, HUR, HBR⟩
                case round =>
                  clear HUR HBR HVS hlt hi
                  obtain ⟨i, rfl, hi, hst, HUR, HBR⟩ := hrel
                  obtain ⟨x0, x1, x2⟩ := HUR.out.cells
                  by_cases hlt : i < l.length
                  · have hc : decide ((i : Int) < (l.length : Int)) = true := decide_eq_true (by omega)
                    have p3 : (0 ≤ (i : Int)) = True := eq_true (by omega)
                    have p4 : ((i : Int) < (l.length : Int)) = True := eq_true (by omega)
                    obtain ⟨bd, A2, c2, rfl, y0, y1, y2, hc2, hC⟩ := node_cells HBR.out HR.out i hlt
                    obtain ⟨hz1, hz2⟩ := HZ.out l[i] (List.getElem_mem hlt)
                    have hst2 := hst.out
                    rw [List.drop_eq_getElem_cons hlt, soleB] at hst2
                    have HNR := Lib.hid (HALL.out l[i] (List.getElem_mem hlt))
                    generalize l[i] = n at *
                    obtain ⟨kd, tt, kids⟩ := n
                    dsimp only at y0 y1 y2 hc2 hC hz1 hz2 hst2
                    have HC := Lib.hid hC
                    have hb8 : Below wr.heap.size wr (wr.alloc (.cells #[.int .i64 kd, .string tt, .slice A2 kids.length c2] 45 (0, 0))) := below_alloc (Below.refl _ _) _
                    have hk8 : (wr.alloc (.cells #[.int .i64 kd, .string tt, .slice A2 kids.length c2] 45 (0, 0))).heap[wr.heap.size]? = some (.cells #[.int .i64 kd, .string tt, .slice A2 kids.length c2] 45 (0, 0)) := blk_new wr _
                    have HU8 := Lib.hid (HUR.out.below hb8)
                    have HB8 := Lib.hid (HBR.out.trans (hb8.mono HBR.out.size))
                    have HK8 := Lib.hid hk8
                    obtain ⟨z0, z1, z2⟩ := HU8.out.cells
                    clear hC hb8 hk8 HUR HBR
                    have q0 := (blk_cell HK8.out 0).trans rfl
                    have q1 := (blk_cell HK8.out 1).trans rfl
                    have q2 := (blk_cell HK8.out 2).trans rfl
                    have HKR := Lib.hid (show ∀ x ∈ keysB kd kids, 0 ≤ x ∧ x < (l.length : Int) from fun x hx => isN_range HNR.out x (keys_sub kd kids x hx))
                    cases hN : soleN u ⟨kd, tt, kids⟩ with
                    | true =>
                      have HSO := Lib.hid (show (keysB kd kids).any (fun k => decide (rd u k > 1)) = true from hN)
                      have HF : Hid (r = false) := Lib.hid (by rw [hN, if_pos rfl] at hst2; exact hst2.symm)
                      clear hst hst2 hN
                      go_wp2_with (first | (go_at_call 59; refine (graph_keys.calls (kids.length + 2) kd tt A2 c2 kids _ _ (Kd.C_below HC.out HB8.out) hc2 (hG.below HB8.out) (keys_of kd tt kids hz2 _ (by omega))).mono ?_; rintro e w9 ⟨v, rfl, hv, hb9⟩; obtain ⟨Ak, ck, ek⟩ := Kd.R_slice hv; subst ek; have HU9 := Lib.hid (HU8.out.below hb9); have HB9 := Lib.hid (HB8.out.trans (hb9.mono HB8.out.size)); have HCK := Lib.hid (Kd.R_reads' hv).2.2; clear hv hb9 HU8 HB8) | (go_at_call 58; refine (contains_any 60 more_enters _ (fun k => decide (rd u k > 1)) Ak ck (keysB kd kids) _ HCK.out (fun x w' hx hb => more_is x _ gb _ rb cp _ l.length c0 root u w' (HU9.out.below hb) (HKR.out x hx).1 (HKR.out x hx).2)).mono ?_; rw [HSO.out]; rintro e w10 ⟨rfl, hb10⟩; have HU10 := Lib.hid (HU9.out.below hb10); have HB10 := Lib.hid (HB9.out.trans (hb10.mono HB9.out.size)); clear hb10 HU9 HB9))
                      go_ret
                      exact ⟨by rw [HF.out]; first | done | rfl, HB10.out⟩
                    | false =>
                      have HSO := Lib.hid (show (keysB kd kids).any (fun k => decide (rd u k > 1)) = false from hN)
                      have HST := Lib.hid (show soleB u (l.drop (i + 1)) = r by rw [hN, if_neg Bool.false_ne_true] at hst2; exact hst2)
                      have HL := Lib.hid hlt
                      clear hst hst2 hN
                      go_wp2_with (first | (go_at_call 59; refine (graph_keys.calls (kids.length + 2) kd tt A2 c2 kids _ _ (Kd.C_below HC.out HB8.out) hc2 (hG.below HB8.out) (keys_of kd tt kids hz2 _ (by omega))).mono ?_; rintro e w9 ⟨v, rfl, hv, hb9⟩; obtain ⟨Ak, ck, ek⟩ := Kd.R_slice hv; subst ek; have HU9 := Lib.hid (HU8.out.below hb9); have HB9 := Lib.hid (HB8.out.trans (hb9.mono HB8.out.size)); have HCK := Lib.hid (Kd.R_reads' hv).2.2; clear hv hb9 HU8 HB8) | (go_at_call 58; refine (contains_any 60 more_enters _ (fun k => decide (rd u k > 1)) Ak ck (keysB kd kids) _ HCK.out (fun x w' hx hb => more_is x _ gb _ rb cp _ l.length c0 root u w' (HU9.out.below hb) (HKR.out x hx).1 (HKR.out x hx).2)).mono ?_; rw [HSO.out]; rintro e w10 ⟨rfl, hb10⟩; have HU10 := Lib.hid (HU9.out.below hb10); have HB10 := Lib.hid (HB9.out.trans (hb10.mono HB9.out.size)); clear hb10 HU9 HB9))
                      go_roundw
                      case rel => have := HL.out; exact ⟨i + 1, by go_num, HL.out, HST, HU10, HB10⟩
                      case measure => have := HL.out; simp [intOf]; omega
                  · have hc : decide ((i : Int) < (l.length : Int)) = false := decide_eq_false (by omega)
                    have hst2 := hst.out
                    rw [List.drop_of_length_le (by omega), soleB] at hst2
                    have HF : Hid (r = true) := Lib.hid hst2.symm
                    clear hst hst2
                    go_wp2
                    go_ret
                    exact ⟨by rw [HF.out]; first | done | rfl, HBR.out⟩
  · rw [if_neg hz] at h; cases h
def pairV (x : Int × Int) : Value := .agg #[.int .i64 x.1, .int .i64 x.2]
def entF (l : List S45) : List Int → (Int × ByteArray → Option (Int × Int)) → (Int × ByteArray → Option (Int × Int))
 | a :: b :: r, F => entF l r (fun y => if y = keyIs l a then some (a, b) else F y)
 | _, F => F
theorem valF_put_ (F : Int × ByteArray → Option (Int × Int)) (x : Int × ByteArray) (p : Int × Int) (y : Int × ByteArray) : (if y = x then some (pairV p) else (F y).map pairV) = (if y = x then some p else F y).map pairV := by
 by_cases e : y = x
 rotate_left
 · rw [if_neg e, if_neg e]
 rw [if_pos e, if_pos e]; rfl
def valF (F : Int × ByteArray → Option (Int × Int)) (y : Int × ByteArray) : Option Value := (F y).map pairV
theorem valF_put (F : Int × ByteArray → Option (Int × Int)) (x : Int × ByteArray) (p : Int × Int) : (fun y => if y = x then some (pairV p) else valF F y) = valF (fun y => if y = x then some p else F y) := funext fun y => valF_put_ F x p y
set_option maxHeartbeats 8000000 in
set_option maxRecDepth 100000 in
theorem entries_is (A0 : Option Addr) (c0 : Nat) (l : List S45) (root kd : Int) (tt : ByteArray) (kids : List Int) (A2 : Option Addr) (c2 : Nat) (w : World)
  (hr : Kd.C k45 w A0 l.length l) (h2 : Kd.C (Kd.int .i64) w A2 kids.length kids) (hin : ∀ k ∈ kids, 0 ≤ k ∧ k < (l.length : Int)) (hgk : ∀ m ∈ l, goodK (m.f0, m.f1)) (hlen : kids.length ≤ 1099511627776) :
  Calls Tryz.prog 75 #[.agg #[.slice A0 l.length c0, .int .i64 root], .agg #[.int .i64 kd, .string tt, .slice A2 kids.length c2]] w fun e w' =>
   ∃ b, e = .returned (.map (some b)) ∧ MapIs Tryz.prog 147 kv w' b (kids.length + 1) (valF (entF l kids (fun _ => none))) ∧ Below w.heap.size w w' := by
 have HR := Lib.hid hr
 have H2 := Lib.hid h2
 have HIN := Lib.hid hin
 have HGK := Lib.hid hgk
 clear hr h2 hin hgk
 obtain ⟨E, hE⟩ : ∃ E, entF l kids (fun _ => none) = E := ⟨_, rfl⟩
 rw [hE]
 have HE := Lib.hid hE
 clear hE
 have hmm := @run_makeMap Tryz.prog
 go_enter Tryz.func75, Tryz.ntmps75
 go_wp2_with (first | ((with_reducible refine gate_dst (N := 2) rfl ?_); refine box_event ?hg (N := 2) ?hd (cs := #[.slice A0 l.length c0, .int .i64 root]) (t := 24) ?hr ?_; (case hd => rfl); (case hg => rfl); (case hr => first | (go_simp; done) | (go_simp; rfl)); intro gb hg w1 hgb hb1; have HG1 := Lib.hid hgb; have HB1 := Lib.hid hb1; clear hgb hb1 hg) | ((with_reducible refine gate_dst (N := 3) rfl ?_); refine box_event ?hg (N := 3) ?hd (cs := #[.int .i64 kd, .string tt, .slice A2 kids.length c2]) (t := 45) ?hr ?_; (case hd => rfl); (case hg => rfl); (case hr => first | (go_simp; done) | (go_simp; rfl)); intro nb hn w2 hnb hb2; have HX := Lib.hid (Bx.mk ((hb2.block gb (blk_lt HG1.out)).trans HG1.out) hnb); have HB2 := Lib.hid (HB1.out.trans (hb2.mono HB1.out.size)); clear hnb hb2 hn HG1 HB1))
 have hb3 : Below w2.heap.size w2 (w2.alloc (.map #[] 0)) := below_alloc (Below.refl _ _) _
 have HX3 := Lib.hid (HX.out.below hb3)
 have HB3 := Lib.hid (HB2.out.trans (hb3.mono HB2.out.size))
 have HM3 := Lib.hid (made w2 Tryz.prog 147 (fun a b => kv_inj.1))
 have HGN := Lib.hid (And.intro (blk_lt HX.out.g) (And.intro (blk_lt HX.out.n) HB2.out.size))
 clear hb3 HX HB2
 generalize World.alloc _ _ = w3 at HX3 HB3 HM3 ⊢
 generalize w2.heap.size = bm at HM3 HGN ⊢
 clear hmm
 go_loopw [6] (fun v wr => ∃ (i : Nat) (F : Int × ByteArray → Option (Int × Int)), v = .int .i64 i ∧ i ≤ kids.length ∧ Hid (entF l (kids.drop i) F = E) ∧ Hid (MapIs Tryz.prog 147 kv wr bm i (valF F)) ∧ Hid (Below w.heap.size w wr) ∧ Hid (Bx gb nb A0 l.length c0 root kd tt A2 kids.length c2 wr)) (fun v _ => kids.length - (intOf v).toNat)
 case atStart => exact ⟨0, fun _ => none, rfl, by omega, HE, HM3, HB3, HX3⟩
 case round =>
  obtain ⟨i, F, rfl, hi, hst, HMR, HBR, HXR⟩ := hrel
  clear HM3 HB3 HX3 HE
  obtain ⟨x0, x1, x2, x3, x4⟩ := HXR.out.cells
  by_cases hlt : i + 1 < kids.length
  rotate_left
  ·
   have hc : decide ((i : Int) + 1 < (kids.length : Int)) = false := decide_eq_false (by omega)
   have hst2 := hst.out
   have hE : F = E := by
    have h1 : (kids.drop i).length ≤ 1 := by rw [List.length_drop]; omega
    match hd : kids.drop i, h1 with
    | [], _ => rw [hd] at hst2; exact hst2
    | [_], _ => rw [hd] at hst2; exact hst2
   have HE := Lib.hid hE
   clear hst hst2 hE
   go_wp2
   go_ret
   exact ⟨bm, rfl, by rw [← HE.out]; exact HMR.out.mono (by omega), HBR.out⟩
  have hc : decide ((i : Int) + 1 < (kids.length : Int)) = true := decide_eq_true (by omega)
  have hdr : kids.drop i = kids[i] :: kids[i + 1] :: kids.drop (i + 2) := by rw [List.drop_eq_getElem_cons (by omega), List.drop_eq_getElem_cons (by omega)]
  obtain ⟨cd, eA, hx0⟩ := Kd.at_int (Kd.C_below H2.out HBR.out) (i : Int) (by omega) (by omega)
  obtain ⟨cd2, eA2, hx1⟩ := Kd.at_int (Kd.C_below H2.out HBR.out) (((i + 1 : Nat) : Int)) (by omega) (by omega)
  subst eA
  cases eA2
  rw [rd_at kids i (by omega), Int.toNat_natCast] at hx0
  rw [rd_at kids (i + 1) hlt, Int.toNat_natCast] at hx1
  obtain ⟨j0, j1⟩ := HIN.out kids[i] (List.getElem_mem _)
  have hst2 := hst.out
  rw [hdr, entF] at hst2
  have HL := Lib.hid hlt
  clear hdr hst
  generalize kids[i] = k0 at *
  generalize kids[i + 1] = k1 at *
  obtain ⟨bd, A3, c3, eB, y0, y1, y2, _, _⟩ := at_T45 (Kd.C_below HR.out HBR.out) k0 j0 j1
  subst eB
  have hgd := HGK.out _ (rd_mem l k0 j0 j1)
  have hki : keyIs l k0 = ((rd_T45 l k0).f0, (rd_T45 l k0).f1) := rfl
  rw [hki] at hst2
  clear hki
  generalize (rd_T45 l k0).f0 = a at *
  generalize (rd_T45 l k0).f1 = s at *
  generalize (rd_T45 l k0).f2 = f at *
  have HGD := Lib.hid hgd
  have HS := Lib.hid hst2
  have p1 : (0 ≤ (i : Int)) = True := eq_true (by omega)
  have p2 : ((i : Int) < (kids.length : Int)) = True := eq_true (by omega)
  have p3 : (0 ≤ k0) = True := eq_true j0
  have p4 : (k0 < (l.length : Int)) = True := eq_true j1
  clear hgd hst2
  go_wp2_with (fail)
  have hal : Below wr.heap.size wr (wr.alloc (.cells #[.int .i64 0, .string ⟨#[]⟩, .slice none 0 0] 45 (0, 0))) := below_alloc (Below.refl _ _) _
  obtain ⟨u0, u1, u2, u3, u4⟩ := (HXR.out.below hal).cells
  have v0 := (hal.cell (World.block_lt_of_cell? wr _ y0)).trans y0
  have v1 := (hal.cell (World.block_lt_of_cell? wr _ y1)).trans y1
  have v2 := (hal.cell (World.block_lt_of_cell? wr _ y2)).trans y2
  have v3 := (hal.cell (World.block_lt_of_cell? wr _ hx0)).trans hx0
  clear hal
  go_region
  have hb8 : Below wr.heap.size wr (World.drew (wr.alloc (.cells #[.int .i64 a, .string s, .slice A3 f.length c3] 45 (0, 0)))) := below_drew1 (below_alloc (Below.refl _ _) _)
  have hk8 : (World.drew (wr.alloc (.cells #[.int .i64 a, .string s, .slice A3 f.length c3] 45 (0, 0)))).heap[wr.heap.size]? = some (.cells #[.int .i64 a, .string s, .slice A3 f.length c3] 45 (0, 0)) := blk_new wr _
  generalize World.drew _ = w8 at hb8 hk8 ⊢
  have HB8 := Lib.hid (HBR.out.trans (hb8.mono HBR.out.size))
  have HM8 := HMR.out.of_below hb8
  have HX8 := Lib.hid (HXR.out.below hb8)
  have h80 := (blk_cell hk8 0).trans rfl
  have h81 := (blk_cell hk8 1).trans rfl
  replace hx0 := (hb8.cell (World.block_lt_of_cell? wr _ hx0)).trans hx0
  replace hx1 := (hb8.cell (World.block_lt_of_cell? wr _ hx1)).trans hx1
  clear hb8 hk8 HBR HMR HXR x0 x1 x2 x3 x4 y0 y1 y2 u0 u1 u2 u3 u4 v0 v1 v2 v3
  obtain ⟨x0, x1, x2, x3, x4⟩ := HX8.out.cells
  obtain ⟨kl, hkl⟩ := ik_key (a, s) HGD.out
  obtain ⟨w9, hrun, hm9, hg9⟩ := (HM8.of_block (w' := w8.drew) rfl).put ik_law Tryz.underlying144 (by unfold maxLen; omega) hkl (pairV (k0, k1))
  rw [valF_put] at hm9
  have hg : w8.grownBy w9 (some bm) := ⟨hg9.os, hg9.tape, hg9.output, hg9.size, hg9.block⟩
  have HM9 := Lib.hid (hm9.mono (n' := i + 2) (by omega))
  have HB9 := Lib.hid (HB8.out.trans (below_of_grown hg HGN.out.2.2 HB8.out.size))
  have HX9 := Lib.hid (HX8.out.grown hg (Nat.ne_of_lt HGN.out.1) (Nat.ne_of_lt HGN.out.2.1))
  change (Instr.mapUpdate 144 (.map (some bm)) (.agg #[.int .i64 a, .string s]) (.agg #[.int .i64 k0, .int .i64 k1])).run Tryz.prog w8.drew = .ok () w9 at hrun
  have hx2 : w8.cell? ⟨cd.block, cd.off + (i + 1), none⟩ = some (.int .i64 k1) := hx1
  have p5 : (0 ≤ (i : Int) + 1) = True := eq_true (by omega)
  have p6 : ((i : Int) + 1 < (kids.length : Int)) = True := eq_true (by omega)
  have p7 : ((i : Int) + 1).toNat = i + 1 := by omega
  clear hm9 hg hg9 HM8 HB8 HX8 hkl
  go_wp2_with (fail)
  go_region
  go_wp2
  go_roundw
  case rel => have := HL.out; exact ⟨i + 2, _, by go_num, by omega, HS, HM9, HB9, HX9⟩
  case measure => have := HL.out; simp [intOf]; omega
def findB (l : List S45) (root at_ kind : Int) (text : ByteArray) : Int × Bool :=
 if rightB l root = false then (0, false) else if at_ < 0 then (0, false) else if (l.length : Int) ≤ at_ then (0, false) else if (rd_T45 l at_).f0 ≠ 6 then (0, false)
 else match entF l (rd_T45 l at_).f2 (fun _ => none) (kind, text) with
 | some p => (p.2, true)
 | none => (0, false)
def iso_Find.f (l : List S45) (root at_ kind : Int) (text : ByteArray) : Option (Int × Bool) :=
  if sizesB l = true ∧ (-9223372036854775808 ≤ kind ∧ kind ≤ 9223372036854775807) ∧ text.size ≤ 1099511627776 then some (findB l root at_ kind text) else none
theorem usesB_none (l : List S45) (root : Int) (h : rightB l root = true) : ∀ n ∈ l, isN l n = true := by
 unfold rightB at h
 split at h; · cases h
 split at h; · cases h
 split at h; · cases h
 split at h; · cases h
 split at h
 · cases h
 ·
  rename_i u hu
  exact usesB_all l l _ u hu
theorem isN_kind {l : List S45} {n : S45} (h : isN l n = true) : 1 ≤ n.f0 ∧ n.f0 ≤ 6 := by
 unfold isN nodeB at h
 split at h; · cases h
 split at h; · cases h
 omega
theorem cell_al {w : World} {o : Obj} {a : Addr} {v : Value} (h : w.cell? a = some v) : (w.alloc o).cell? a = some v := ((below_alloc (Below.refl _ _) o).cell (World.block_lt_of_cell? w _ h)).trans h
theorem cell_st {w : World} {b : Nat} {a : Addr} {u v0 v1 : Value} (h : w.cell? a = some u) (hne : a.block ≠ b) : ((w.setCell ⟨b, 0, none⟩ v0).setCell ⟨b, 1, none⟩ v1).cell? a = some u := by
 have e1 := Below.heap_setCell w ⟨b, 0, none⟩ v0 a.block hne
 have e2 := Below.heap_setCell (w.setCell ⟨b, 0, none⟩ v0) ⟨b, 1, none⟩ v1 a.block hne
 exact (World.cell?_of_block (e2.trans e1)).trans h
theorem zero_pair (w : World) : (zeroValue 142).run Tryz.prog w = .ok (.agg #[.int .i64 0, .int .i64 0]) w := by kernel_rfl
set_option maxHeartbeats 8000000 in
set_option maxRecDepth 100000 in
theorem iso_Find.calls (A0 : Option Addr) (c0 : Nat) (l : List S45) (root at_ kind : Int) (text : ByteArray) (r1 : Int) (r2 : Bool) (w : World) (hr0 : Kd.C k45 w A0 l.length l) (hc0 : l.length ≤ c0) (hG : Glob.G w) (h : iso_Find.f l root at_ kind text = some (r1, r2)) :
    Calls Tryz.prog 48 #[.agg #[.slice A0 l.length c0, .int .i64 root], .int .i64 at_, .int .i64 kind, .string text] w fun e w' => e = .returned (.tuple #[.int .i64 r1, .bool r2]) ∧ Below w.heap.size w w' := by
  unfold iso_Find.f at h
  by_cases hz : sizesB l = true ∧ (-9223372036854775808 ≤ kind ∧ kind ≤ 9223372036854775807) ∧ text.size ≤ 1099511627776
  · rw [if_pos hz] at h
    have hR := Option.some.inj h
    obtain ⟨hz1, hzk, hzt⟩ := hz
    have HR := Lib.hid hr0
    obtain ⟨rt, hrt⟩ : ∃ b, rightB l root = b := ⟨_, rfl⟩
    have HRT := Lib.hid (show graph_Right.f l root = some rt by unfold graph_Right.f; rw [if_pos hz1, hrt])
    have HZ := Lib.hid (show ∀ m ∈ l, m.f1.size ≤ 1099511627775 ∧ m.f2.length ≤ 1099511627776 from fun m hm => by
      have := List.all_eq_true.1 hz1 m hm
      simp at this
      exact this)
    have HQ := Lib.hid (show goodK (kind, text) from ⟨hzk, by unfold maxLen; dsimp only; omega⟩)
    clear h hr0 hz1 hzk hzt
    cases rt with
    | false =>
      have HF : Hid (r1 = 0 ∧ r2 = false) := Lib.hid (by unfold findB at hR; rw [if_pos hrt] at hR; exact ⟨(Prod.mk.inj hR).1.symm, (Prod.mk.inj hR).2.symm⟩)
      clear hR hrt
      go_enter Tryz.func48, Tryz.ntmps48
      go_wp2_with (first | ((with_reducible refine gate_dst (N := 4) rfl ?_); refine box_event ?hg (N := 4) ?hd (cs := #[.slice A0 l.length c0, .int .i64 root]) (t := 24) ?hr ?_; (case hd => rfl); (case hg => rfl); (case hr => first | (go_simp; done) | (go_simp; rfl)); intro gb hg w1 hgb hb1; have HG1 := Lib.hid hgb; have HB1 := Lib.hid hb1; clear hgb hb1 hg; have x0 := (blk_cell HG1.out 0).trans rfl; have x1 := (blk_cell HG1.out 1).trans rfl) | (go_at_call 29; refine (graph_Right.calls _ _ _ _ _ _ (Kd.C_below HR.out HB1.out) hc0 (hG.below HB1.out) HRT.out).mono ?_; rintro e w2 ⟨rfl, hb2⟩; have HG2 := Lib.hid ((hb2.block _ (blk_lt HG1.out)).trans HG1.out); have HB2 := Lib.hid (HB1.out.trans (hb2.mono HB1.out.size)); clear hb2 HG1 HB1 x0 x1; have x0 := (blk_cell HG2.out 0).trans rfl; have x1 := (blk_cell HG2.out 1).trans rfl))
      go_ret2
      exact ⟨by rw [HF.out.1, HF.out.2]; first | done | rfl, HB2.out⟩
    | true =>
      have HN := Lib.hid (usesB_none l root hrt)
      have hfb : findB l root at_ kind text = (if at_ < 0 then (0, false) else if (l.length : Int) ≤ at_ then (0, false) else if (rd_T45 l at_).f0 ≠ 6 then (0, false)
          else match entF l (rd_T45 l at_).f2 (fun _ => none) (kind, text) with
          | some p => (p.2, true)
          | none => (0, false)) := by unfold findB; rw [hrt, if_neg (by simp)]
      rw [hfb] at hR
      clear hfb hrt
      by_cases k1 : at_ < 0
      · have HF : Hid (r1 = 0 ∧ r2 = false) := Lib.hid (by rw [if_pos k1] at hR; exact ⟨(Prod.mk.inj hR).1.symm, (Prod.mk.inj hR).2.symm⟩)
        have q1 : decide (at_ < 0) = true := decide_eq_true k1
        clear hR
        go_enter Tryz.func48, Tryz.ntmps48
        go_wp2_with (first | ((with_reducible refine gate_dst (N := 4) rfl ?_); refine box_event ?hg (N := 4) ?hd (cs := #[.slice A0 l.length c0, .int .i64 root]) (t := 24) ?hr ?_; (case hd => rfl); (case hg => rfl); (case hr => first | (go_simp; done) | (go_simp; rfl)); intro gb hg w1 hgb hb1; have HG1 := Lib.hid hgb; have HB1 := Lib.hid hb1; clear hgb hb1 hg; have x0 := (blk_cell HG1.out 0).trans rfl; have x1 := (blk_cell HG1.out 1).trans rfl) | (go_at_call 29; refine (graph_Right.calls _ _ _ _ _ _ (Kd.C_below HR.out HB1.out) hc0 (hG.below HB1.out) HRT.out).mono ?_; rintro e w2 ⟨rfl, hb2⟩; have HG2 := Lib.hid ((hb2.block _ (blk_lt HG1.out)).trans HG1.out); have HB2 := Lib.hid (HB1.out.trans (hb2.mono HB1.out.size)); clear hb2 HG1 HB1 x0 x1; have x0 := (blk_cell HG2.out 0).trans rfl; have x1 := (blk_cell HG2.out 1).trans rfl))
        go_ret2
        exact ⟨by rw [HF.out.1, HF.out.2]; first | done | rfl, HB2.out⟩
      · have q1 : decide (at_ < 0) = false := decide_eq_false k1
        rw [if_neg k1] at hR
        by_cases k2 : (l.length : Int) ≤ at_
        · have HF : Hid (r1 = 0 ∧ r2 = false) := Lib.hid (by rw [if_pos k2] at hR; exact ⟨(Prod.mk.inj hR).1.symm, (Prod.mk.inj hR).2.symm⟩)
          have q2 : decide ((l.length : Int) ≤ at_) = true := decide_eq_true k2
          clear hR
          go_enter Tryz.func48, Tryz.ntmps48
          go_wp2_with (first | ((with_reducible refine gate_dst (N := 4) rfl ?_); refine box_event ?hg (N := 4) ?hd (cs := #[.slice A0 l.length c0, .int .i64 root]) (t := 24) ?hr ?_; (case hd => rfl); (case hg => rfl); (case hr => first | (go_simp; done) | (go_simp; rfl)); intro gb hg w1 hgb hb1; have HG1 := Lib.hid hgb; have HB1 := Lib.hid hb1; clear hgb hb1 hg; have x0 := (blk_cell HG1.out 0).trans rfl; have x1 := (blk_cell HG1.out 1).trans rfl) | (go_at_call 29; refine (graph_Right.calls _ _ _ _ _ _ (Kd.C_below HR.out HB1.out) hc0 (hG.below HB1.out) HRT.out).mono ?_; rintro e w2 ⟨rfl, hb2⟩; have HG2 := Lib.hid ((hb2.block _ (blk_lt HG1.out)).trans HG1.out); have HB2 := Lib.hid (HB1.out.trans (hb2.mono HB1.out.size)); clear hb2 HG1 HB1 x0 x1; have x0 := (blk_cell HG2.out 0).trans rfl; have x1 := (blk_cell HG2.out 1).trans rfl))
          go_ret2
          exact ⟨by rw [HF.out.1, HF.out.2]; first | done | rfl, HB2.out⟩
        · have q2 : decide ((l.length : Int) ≤ at_) = false := decide_eq_false k2
          rw [if_neg k2] at hR
          have j0 : 0 ≤ at_ := by omega
          have j1 : at_ < (l.length : Int) := by omega
          have p1 := eq_true j0
          have p2 := eq_true j1
          have hnr := HN.out _ (rd_mem l at_ j0 j1)
          have hzz := HZ.out _ (rd_mem l at_ j0 j1)
          obtain ⟨bd, A2, c2, eA, y0, y1, y2, hc2, hC⟩ := at_T45 HR.out at_ j0 j1
          subst eA
          generalize rd_T45 l at_ = n at *
          obtain ⟨kd, tt, kids⟩ := n
          dsimp only at y0 y1 y2 hc2 hC hzz hR
          have HC := Lib.hid hC
          have HNR := Lib.hid hnr
          have HZZ := Lib.hid hzz
          clear k1 k2 hC hnr hzz
          by_cases k3 : kd ≠ 6
          · have HF : Hid (r1 = 0 ∧ r2 = false) := Lib.hid (by rw [if_pos k3] at hR; exact ⟨(Prod.mk.inj hR).1.symm, (Prod.mk.inj hR).2.symm⟩)
            have q3 : (kd != 6) = true := bne_iff_ne.2 k3
            have q4 : (kd == 6) = false := beq_eq_false_iff_ne.2 k3
            clear hR k3
            go_enter Tryz.func48, Tryz.ntmps48
            go_wp2_with (first | ((with_reducible refine gate_dst (N := 4) rfl ?_); refine box_event ?hg (N := 4) ?hd (cs := #[.slice (some bd) l.length c0, .int .i64 root]) (t := 24) ?hr ?_; (case hd => rfl); (case hg => rfl); (case hr => first | (go_simp; done) | (go_simp; rfl)); intro gb hg w1 hgb hb1; have HG1 := Lib.hid hgb; have HB1 := Lib.hid hb1; clear hgb hb1 hg; have x0 := (blk_cell HG1.out 0).trans rfl; have x1 := (blk_cell HG1.out 1).trans rfl) | (go_at_call 29; refine (graph_Right.calls _ _ _ _ _ _ (Kd.C_below HR.out HB1.out) hc0 (hG.below HB1.out) HRT.out).mono ?_; rintro e w2 ⟨rfl, hb2⟩; have HG2 := Lib.hid ((hb2.block _ (blk_lt HG1.out)).trans HG1.out); have HB2 := Lib.hid (HB1.out.trans (hb2.mono HB1.out.size)); clear hb2 HG1 HB1 x0 x1; have x0 := (blk_cell HG2.out 0).trans rfl; have x1 := (blk_cell HG2.out 1).trans rfl; replace y0 := (HB2.out.cell (World.block_lt_of_cell? w _ y0)).trans y0))
            go_ret2
            exact ⟨by rw [HF.out.1, HF.out.2]; first | done | rfl, HB2.out⟩
          · have q3 : (kd != 6) = false := by have := Decidable.not_not.1 k3; rw [this]; rfl
            have q4 : (kd == 6) = true := by have := Decidable.not_not.1 k3; rw [this]; rfl
            rw [if_neg k3] at hR
            have HV := Lib.hid hR
            clear hR k3
            go_enter Tryz.func48, Tryz.ntmps48
            go_wp2_with (first | ((with_reducible refine gate_dst (N := 4) rfl ?_); refine box_event ?hg (N := 4) ?hd (cs := #[.slice (some bd) l.length c0, .int .i64 root]) (t := 24) ?hr ?_; (case hd => rfl); (case hg => rfl); (case hr => first | (go_simp; done) | (go_simp; rfl)); intro gb hg w1 hgb hb1; have HG1 := Lib.hid hgb; have HB1 := Lib.hid hb1; clear hgb hb1 hg; have x0 := (blk_cell HG1.out 0).trans rfl; have x1 := (blk_cell HG1.out 1).trans rfl) | (go_at_call 29; refine (graph_Right.calls _ _ _ _ _ _ (Kd.C_below HR.out HB1.out) hc0 (hG.below HB1.out) HRT.out).mono ?_; rintro e w2 ⟨rfl, hb2⟩; have HG2 := Lib.hid ((hb2.block _ (blk_lt HG1.out)).trans HG1.out); have HB2 := Lib.hid (HB1.out.trans (hb2.mono HB1.out.size)); clear hb2 HG1 HB1 x0 x1; have x0 := (blk_cell HG2.out 0).trans rfl; have x1 := (blk_cell HG2.out 1).trans rfl; replace y0 := (HB2.out.cell (World.block_lt_of_cell? w _ y0)).trans y0))
            have HGK := Lib.hid (show ∀ m ∈ l, goodK (m.f0, m.f1) from fun m hm => ⟨⟨by have := isN_kind (HN.out m hm); dsimp only; omega, by have := isN_kind (HN.out m hm); dsimp only; omega⟩, by have := (HZ.out m hm).1; unfold maxLen; dsimp only; omega⟩)
            obtain ⟨kl, hkl⟩ := ik_key (kind, text) HQ.out
            have HKL := Lib.hid hkl
            clear hkl
            have ha1 := (HB2.out.cell (World.block_lt_of_cell? w _ y1)).trans y1
            have ha2 := (HB2.out.cell (World.block_lt_of_cell? w _ y2)).trans y2
            clear y1 y2
            have N0 := Lib.hid (Nat.ne_of_lt (blk_lt HG2.out))
            have N1 := Lib.hid (Nat.ne_of_lt (World.block_lt_of_cell? w2 _ y0))
            cases hv : entF l kids (fun _ => none) (kind, text) with
            | none =>
              have HF : Hid (r1 = 0 ∧ r2 = false) := Lib.hid (by have h := HV.out; rw [hv] at h; exact ⟨(Prod.mk.inj h).1.symm, (Prod.mk.inj h).2.symm⟩)
              have HEV : Hid (valF (entF l kids (fun _ => none)) (kind, text) = none) := Lib.hid (by unfold valF; rw [hv]; rfl)
              clear hv HV
              go_region_held3 (fun W' => W'.cell? ⟨gb, 0, none⟩ = some (.slice (some bd) l.length c0) ∧ W'.cell? ⟨gb, 1, none⟩ = some (.int .i64 root) ∧ W'.cell? (bd.add (at_.toNat * 3)) = some (.int .i64 kd) ∧ W'.cell? ⟨(bd.add (at_.toNat * 3)).block, (bd.add (at_.toNat * 3)).off + 1, none⟩ = some (.string tt) ∧ W'.cell? ⟨(bd.add (at_.toNat * 3)).block, (bd.add (at_.toNat * 3)).off + 2, none⟩ = some (.slice A2 kids.length c2))
                (first | exact ⟨x0, x1, y0, ha1, ha2⟩ | exact ⟨cell_al x0, cell_al x1, cell_al y0, cell_al ha1, cell_al ha2⟩ | exact ⟨f0, f1, f2, f3, f4⟩ | exact ⟨cell_st f0 N0.out, cell_st f1 N0.out, cell_st f2 N1.out, cell_st f3 N1.out, cell_st f4 N1.out⟩ | exact ⟨cell_al f0, cell_al f1, cell_al f2, cell_al f3, cell_al f4⟩)
                (first | (go_at_call 75; refine (entries_is _ c0 l root kd tt kids A2 c2 _ (Kd.C_below HR.out (below_drew1 HB2.out)) (Kd.C_below HC.out (below_drew1 HB2.out)) (fun k hk => isN_range HNR.out k hk) HGK.out HZZ.out.2).mono ?_; rintro e w9 ⟨b, rfl, hm9, hb9⟩; have hrun := (hm9.alloc (.cells #[.int .i64 0, .int .i64 0] 142 (0, 0))).look_ok ik_law Tryz.underlying144 (zero_pair _) HKL.out; have hrun0 := hm9.look_ok ik_law Tryz.underlying144 (zero_pair _) HKL.out; rw [HEV.out] at hrun hrun0; have f0 := (hb9.cell (World.block_lt_of_cell? w2 _ x0)).trans x0; have f1 := (hb9.cell (World.block_lt_of_cell? w2 _ x1)).trans x1; have f2 := (hb9.cell (World.block_lt_of_cell? w2 _ y0)).trans y0; have f3 := (hb9.cell (World.block_lt_of_cell? w2 _ ha1)).trans ha1; have f4 := (hb9.cell (World.block_lt_of_cell? w2 _ ha2)).trans ha2; have HB9 := Lib.hid ((below_drew1 HB2.out).trans (hb9.mono HB2.out.size)); change (Instr.lookup 144 (.map (some b)) (.agg #[.int .i64 kind, .string text]) true).run Tryz.prog w9 = .ok (.tuple #[.agg #[.int .i64 0, .int .i64 0], .bool false]) w9 at hrun0; change (Instr.lookup 144 (.map (some b)) (.agg #[.int .i64 kind, .string text]) true).run Tryz.prog (w9.alloc (.cells #[.int .i64 0, .int .i64 0] 142 (0, 0))) = .ok (.tuple #[.agg #[.int .i64 0, .int .i64 0], .bool false]) (w9.alloc (.cells #[.int .i64 0, .int .i64 0] 142 (0, 0))) at hrun) | (go_at_call 75; refine (entries_is _ c0 l root kd tt kids A2 c2 _ (Kd.C_below HR.out (below_drew1 (below_alloc HB2.out (.cells #[.int .i64 0, .int .i64 0] 142 (0, 0))))) (Kd.C_below HC.out (below_drew1 (below_alloc HB2.out (.cells #[.int .i64 0, .int .i64 0] 142 (0, 0))))) (fun k hk => isN_range HNR.out k hk) HGK.out HZZ.out.2).mono ?_; rintro e w9 ⟨b, rfl, hm9, hb9⟩; have hk9 : w9.heap[w2.heap.size]? = some (.cells #[.int .i64 0, .int .i64 0] 142 (0, 0)) := (hb9.block _ (blk_lt (blk_new w2 _))).trans (blk_new w2 _); have g0 := (blk_cell hk9 0).trans rfl; have g1 := (blk_cell hk9 1).trans rfl; have e0 := blk_frozen hk9 0; have e1 := blk_frozen hk9 1; have hrun := (hm9.alloc (.cells #[.int .i64 0, .int .i64 0] 142 (0, 0))).look_ok ik_law Tryz.underlying144 (zero_pair _) HKL.out; have hrun0 := hm9.look_ok ik_law Tryz.underlying144 (zero_pair _) HKL.out; rw [HEV.out] at hrun hrun0; have f0 := (hb9.cell (World.block_lt_of_cell? _ _ (cell_al x0))).trans (cell_al x0); have f1 := (hb9.cell (World.block_lt_of_cell? _ _ (cell_al x1))).trans (cell_al x1); have f2 := (hb9.cell (World.block_lt_of_cell? _ _ (cell_al y0))).trans (cell_al y0); have f3 := (hb9.cell (World.block_lt_of_cell? _ _ (cell_al ha1))).trans (cell_al ha1); have f4 := (hb9.cell (World.block_lt_of_cell? _ _ (cell_al ha2))).trans (cell_al ha2); have HB9 := Lib.hid ((below_drew1 (below_alloc HB2.out (.cells #[.int .i64 0, .int .i64 0] 142 (0, 0)))).trans (hb9.mono (below_alloc HB2.out _).size)); change (Instr.lookup 144 (.map (some b)) (.agg #[.int .i64 kind, .string text]) true).run Tryz.prog w9 = .ok (.tuple #[.agg #[.int .i64 0, .int .i64 0], .bool false]) w9 at hrun0; change (Instr.lookup 144 (.map (some b)) (.agg #[.int .i64 kind, .string text]) true).run Tryz.prog (w9.alloc (.cells #[.int .i64 0, .int .i64 0] 142 (0, 0))) = .ok (.tuple #[.agg #[.int .i64 0, .int .i64 0], .bool false]) (w9.alloc (.cells #[.int .i64 0, .int .i64 0] 142 (0, 0))) at hrun))
              all_goals
                clear x0 x1 y0 ha1 ha2
                go_wp2
                go_ret2
                first
                  | exact ⟨by rw [HF.out.1, HF.out.2]; first | done | rfl, below_alloc HB9.out _⟩
                  | exact ⟨by rw [HF.out.1, HF.out.2]; first | done | rfl, (HB9.out.setCell (p := ⟨w2.heap.size, 0, none⟩) HB2.out.size _).setCell (p := ⟨w2.heap.size, 1, none⟩) HB2.out.size _⟩
                  | exact ⟨by rw [HF.out.1, HF.out.2]; first | done | rfl, below_alloc (below_drew1 HB9.out) _⟩
            | some p =>
              obtain ⟨pa, pb⟩ := p
              have HF : Hid (r1 = pb ∧ r2 = true) := Lib.hid (by have h := HV.out; rw [hv] at h; exact ⟨(Prod.mk.inj h).1.symm, (Prod.mk.inj h).2.symm⟩)
              have HEV : Hid (valF (entF l kids (fun _ => none)) (kind, text) = some (pairV (pa, pb))) := Lib.hid (by unfold valF; rw [hv]; rfl)
              clear hv HV
              go_region_held3 (fun W' => W'.cell? ⟨gb, 0, none⟩ = some (.slice (some bd) l.length c0) ∧ W'.cell? ⟨gb, 1, none⟩ = some (.int .i64 root) ∧ W'.cell? (bd.add (at_.toNat * 3)) = some (.int .i64 kd) ∧ W'.cell? ⟨(bd.add (at_.toNat * 3)).block, (bd.add (at_.toNat * 3)).off + 1, none⟩ = some (.string tt) ∧ W'.cell? ⟨(bd.add (at_.toNat * 3)).block, (bd.add (at_.toNat * 3)).off + 2, none⟩ = some (.slice A2 kids.length c2))
                (first | exact ⟨x0, x1, y0, ha1, ha2⟩ | exact ⟨cell_al x0, cell_al x1, cell_al y0, cell_al ha1, cell_al ha2⟩ | exact ⟨f0, f1, f2, f3, f4⟩ | exact ⟨cell_st f0 N0.out, cell_st f1 N0.out, cell_st f2 N1.out, cell_st f3 N1.out, cell_st f4 N1.out⟩ | exact ⟨cell_al f0, cell_al f1, cell_al f2, cell_al f3, cell_al f4⟩)
                (first | (go_at_call 75; refine (entries_is _ c0 l root kd tt kids A2 c2 _ (Kd.C_below HR.out (below_drew1 HB2.out)) (Kd.C_below HC.out (below_drew1 HB2.out)) (fun k hk => isN_range HNR.out k hk) HGK.out HZZ.out.2).mono ?_; rintro e w9 ⟨b, rfl, hm9, hb9⟩; have hrun := (hm9.alloc (.cells #[.int .i64 0, .int .i64 0] 142 (0, 0))).look_ok ik_law Tryz.underlying144 (zero_pair _) HKL.out; have hrun0 := hm9.look_ok ik_law Tryz.underlying144 (zero_pair _) HKL.out; rw [HEV.out] at hrun hrun0; have f0 := (hb9.cell (World.block_lt_of_cell? w2 _ x0)).trans x0; have f1 := (hb9.cell (World.block_lt_of_cell? w2 _ x1)).trans x1; have f2 := (hb9.cell (World.block_lt_of_cell? w2 _ y0)).trans y0; have f3 := (hb9.cell (World.block_lt_of_cell? w2 _ ha1)).trans ha1; have f4 := (hb9.cell (World.block_lt_of_cell? w2 _ ha2)).trans ha2; have HB9 := Lib.hid ((below_drew1 HB2.out).trans (hb9.mono HB2.out.size)); change (Instr.lookup 144 (.map (some b)) (.agg #[.int .i64 kind, .string text]) true).run Tryz.prog w9 = .ok (.tuple #[.agg #[.int .i64 pa, .int .i64 pb], .bool true]) w9 at hrun0; change (Instr.lookup 144 (.map (some b)) (.agg #[.int .i64 kind, .string text]) true).run Tryz.prog (w9.alloc (.cells #[.int .i64 0, .int .i64 0] 142 (0, 0))) = .ok (.tuple #[.agg #[.int .i64 pa, .int .i64 pb], .bool true]) (w9.alloc (.cells #[.int .i64 0, .int .i64 0] 142 (0, 0))) at hrun) | (go_at_call 75; refine (entries_is _ c0 l root kd tt kids A2 c2 _ (Kd.C_below HR.out (below_drew1 (below_alloc HB2.out (.cells #[.int .i64 0, .int .i64 0] 142 (0, 0))))) (Kd.C_below HC.out (below_drew1 (below_alloc HB2.out (.cells #[.int .i64 0, .int .i64 0] 142 (0, 0))))) (fun k hk => isN_range HNR.out k hk) HGK.out HZZ.out.2).mono ?_; rintro e w9 ⟨b, rfl, hm9, hb9⟩; have hk9 : w9.heap[w2.heap.size]? = some (.cells #[.int .i64 0, .int .i64 0] 142 (0, 0)) := (hb9.block _ (blk_lt (blk_new w2 _))).trans (blk_new w2 _); have g0 := (blk_cell hk9 0).trans rfl; have g1 := (blk_cell hk9 1).trans rfl; have e0 := blk_frozen hk9 0; have e1 := blk_frozen hk9 1; have hrun := (hm9.alloc (.cells #[.int .i64 0, .int .i64 0] 142 (0, 0))).look_ok ik_law Tryz.underlying144 (zero_pair _) HKL.out; have hrun0 := hm9.look_ok ik_law Tryz.underlying144 (zero_pair _) HKL.out; rw [HEV.out] at hrun hrun0; have f0 := (hb9.cell (World.block_lt_of_cell? _ _ (cell_al x0))).trans (cell_al x0); have f1 := (hb9.cell (World.block_lt_of_cell? _ _ (cell_al x1))).trans (cell_al x1); have f2 := (hb9.cell (World.block_lt_of_cell? _ _ (cell_al y0))).trans (cell_al y0); have f3 := (hb9.cell (World.block_lt_of_cell? _ _ (cell_al ha1))).trans (cell_al ha1); have f4 := (hb9.cell (World.block_lt_of_cell? _ _ (cell_al ha2))).trans (cell_al ha2); have HB9 := Lib.hid ((below_drew1 (below_alloc HB2.out (.cells #[.int .i64 0, .int .i64 0] 142 (0, 0)))).trans (hb9.mono (below_alloc HB2.out _).size)); change (Instr.lookup 144 (.map (some b)) (.agg #[.int .i64 kind, .string text]) true).run Tryz.prog w9 = .ok (.tuple #[.agg #[.int .i64 pa, .int .i64 pb], .bool true]) w9 at hrun0; change (Instr.lookup 144 (.map (some b)) (.agg #[.int .i64 kind, .string text]) true).run Tryz.prog (w9.alloc (.cells #[.int .i64 0, .int .i64 0] 142 (0, 0))) = .ok (.tuple #[.agg #[.int .i64 pa, .int .i64 pb], .bool true]) (w9.alloc (.cells #[.int .i64 0, .int .i64 0] 142 (0, 0))) at hrun))
              all_goals
                clear x0 x1 y0 ha1 ha2
                go_wp2
                go_ret2
                first
                  | exact ⟨by rw [HF.out.1, HF.out.2]; first | done | rfl, below_alloc HB9.out _⟩
                  | exact ⟨by rw [HF.out.1, HF.out.2]; first | done | rfl, (HB9.out.setCell (p := ⟨w2.heap.size, 0, none⟩) HB2.out.size _).setCell (p := ⟨w2.heap.size, 1, none⟩) HB2.out.size _⟩
                  | exact ⟨by rw [HF.out.1, HF.out.2]; first | done | rfl, below_alloc (below_drew1 HB9.out) _⟩
  · rw [if_neg hz] at h; cases h
end Go.Proofs.YtiooacmplmcphaaGreatDoor.Plug
namespace Go.Proofs.YtiooacmplmcphaaGreatDoor.PX
open RowKit YtiooacmplmcphaaGreatDoorW.PrintWords YtiooacmplmcphaaGreatDoorW.PrintLast YtiooacmplmcphaaGreatDoorW.PrintMore YtiooacmplmcphaaGreatDoor YtiooacmplmcphaaGreatDoor.Plug
attribute [local go_sem] max2_int min2_int max_two min_two max_three min_three max_four min_four   -- for this text's walks alone
set_option linter.unusedVariables false
set_option linter.unusedSimpArgs false
mutual
def path_Get.j0 : Nat → List (S98) → Bool → List (S45) → Int → Option (Int × Int)
  | 0, _, _, _, _ => none
  | k + 1, x1, x24, x102000, x102001 => if x24 = true then (some (0, 1)) else (path_Get.l0 k x102001 x1 (x1.length : Int) 0 x102000 x102001)
def path_Get.l0 : Nat → Int → List (S98) → Int → Int → List (S45) → Int → Option (Int × Int)
  | 0, _, _, _, _, _, _ => none
  | k + 1, x8, x27, x28, x29, x102000, x102001 => if x29 < x28 then (if 0 ≤ x29 then (if x29 < (x27.length : Int) then (if 0 ≤ x8 then (if x8 < (x102000.length : Int) then (if (rd_T98 x27 x29).f2 = true then (path_Get.j2 k x8 x27 x28 x29 (((rd_T45 x102000 x8).f0) == 5) x102000 x102001 ((rd_T98 x27 x29).f0) ((rd_T98 x27 x29).f1) ((rd_T98 x27 x29).f2) ((rd_T45 x102000 x8).f0) ((rd_T45 x102000 x8).f1) ((rd_T45 x102000 x8).f2)) else (path_Get.j2 k x8 x27 x28 x29 false x102000 x102001 ((rd_T98 x27 x29).f0) ((rd_T98 x27 x29).f1) ((rd_T98 x27 x29).f2) ((rd_T45 x102000 x8).f0) ((rd_T45 x102000 x8).f1) ((rd_T45 x102000 x8).f2))) else (none)) else (none)) else (none)) else (none)) else (some (x8, 0))
def path_Get.j2 : Nat → Int → List (S98) → Int → Int → Bool → List (S45) → Int → ByteArray → Int → Bool → Int → ByteArray → List Int → Option (Int × Int)
  | 0, _, _, _, _, _, _, _, _, _, _, _, _, _ => none
  | k + 1, x8, x27, x28, x29, x38, x102000, x102001, x107000, x107001, x107002, x109000, x109001, x109002 => if x38 = true then (if x107001 < (x109002.length : Int) then (if 0 ≤ x107001 then (if (x107001 < (x109002.length : Int)) then (path_Get.l0 k (rd x109002 x107001) x27 x28 (wrap64 (x29 + 1)) x102000 x102001) else (some (0, 6))) else (none)) else (if (x107001 < (x109002.length : Int)) then (path_Get.l0 k x8 x27 x28 (wrap64 (x29 + 1)) x102000 x102001) else (some (0, 6)))) else (if x107002 = true then (path_Get.j3 k x8 x27 x28 x29 false x102000 x102001 x107000 x107001 x107002) else (path_Get.j3 k x8 x27 x28 x29 (x109000 == 6) x102000 x102001 x107000 x107001 x107002))
def path_Get.j3 : Nat → Int → List (S98) → Int → Int → Bool → List (S45) → Int → ByteArray → Int → Bool → Option (Int × Int)
  | 0, _, _, _, _, _, _, _, _, _, _ => none
  | k + 1, x8, x27, x28, x29, x59, x102000, x102001, x107000, x107001, x107002 => if x59 = true then ((iso_Find.f x102000 x102001 x8 4 x107000).bind fun bt110 => (if bt110.2 = true then (path_Get.l0 k bt110.1 x27 x28 (wrap64 (x29 + 1)) x102000 x102001) else (some (0, 6)))) else (some (0, 17))
end
def path_Get.f (k : Nat) (l0_0 : List (S45)) (a0_1 : Int) (l1 : List (S98)) : Option (Int × Int) := (path_Format.f l1).bind fun bt102 => (if bt102.2 = 0 then ((graph_Right.f l0_0 a0_1).bind fun t104 => (path_Get.j0 k l1 (!t104) l0_0 a0_1)) else (path_Get.j0 k l1 true l0_0 a0_1))
theorem qwa0_ {P : Prop} (h_ : P := by repeat (first | (with_reducible first | exact HB.out | apply below_alloc | apply pw_below_drewN | apply below_drew1 | refine below_set ?_ GE101.out | refine below_set ?_ GE106.out | refine below_set ?_ GE108.out) | exact HB.out)) : P := h_
theorem qwa1_ {P : Prop} (h_ : P := by (with_reducible repeat (first | refine blk_drewN ?_ _ | refine blk_drew ?_ | refine blk_alloc ?_ _)); exact BK101.out) : P := h_
theorem qwa2_ {P : Prop} (h_ : P := by (with_reducible repeat (first | refine blk_drewN ?_ _ | refine blk_drew ?_ | refine blk_alloc ?_ _)); refine blk_put (cs := #[.string ((rd_T98 l1 x29_2).f0), .int .i64 ((rd_T98 l1 x29_2).f1), .bool false]) ?_ 2 _ rfl; (with_reducible repeat (first | refine blk_drewN ?_ _ | refine blk_drew ?_ | refine blk_alloc ?_ _)); refine blk_put (cs := #[.string ((rd_T98 l1 x29_2).f0), .int .i64 0, .bool false]) ?_ 1 _ rfl; (with_reducible repeat (first | refine blk_drewN ?_ _ | refine blk_drew ?_ | refine blk_alloc ?_ _)); refine blk_put (cs := #[.string (⟨#[]⟩ : ByteArray), .int .i64 0, .bool false]) ?_ 0 _ rfl; (with_reducible repeat (first | refine blk_drewN ?_ _ | refine blk_drew ?_ | refine blk_alloc ?_ _)); exact BK106.out) : P := h_
theorem qwa3_ {P : Prop} (h_ : P := by repeat (first | (with_reducible first | exact HB.out | apply below_alloc | apply pw_below_drewN | apply below_drew1 | refine below_set ?_ GE101.out) | exact HB.out)) : P := h_
theorem qwa4_ {P : Prop} (h_ : P := by (with_reducible repeat (first | refine blk_drewN ?_ _ | refine blk_drew ?_ | refine blk_alloc ?_ _)); refine blk_far ?_ NB101_106.out _; (with_reducible repeat (first | refine blk_drewN ?_ _ | refine blk_drew ?_ | refine blk_alloc ?_ _)); refine blk_far ?_ NB101_106.out _; (with_reducible repeat (first | refine blk_drewN ?_ _ | refine blk_drew ?_ | refine blk_alloc ?_ _)); refine blk_far ?_ NB101_106.out _; (with_reducible repeat (first | refine blk_drewN ?_ _ | refine blk_drew ?_ | refine blk_alloc ?_ _)); exact BK101.out) : P := h_
theorem qwa5_ {P : Prop} (h_ : P := by first | ((repeat (first | (with_reducible first | exact HB.out | apply below_alloc | apply pw_below_drewN | apply below_drew1 | (refine Glob.below_set ?_ (by assumption) _ _ _)) | exact HB.out)); done) | (refine Drawn0.below ?_; repeat (first | exact Drawn0.refl _ | assumption | apply Drawn0.step))) : P := h_
theorem qwa6_ {P : Prop} (h_ : P := by (with_reducible repeat (first | refine blk_drewN ?_ _ | refine blk_drew ?_ | refine blk_alloc ?_ _)); refine blk_put (cs := #[.int .i64 ((rd_T45 l0_0 x8_2).f0), .string ((rd_T45 l0_0 x8_2).f1), .slice none 0 0]) ?_ 2 _ rfl; (with_reducible repeat (first | refine blk_drewN ?_ _ | refine blk_drew ?_ | refine blk_alloc ?_ _)); refine blk_put (cs := #[.int .i64 ((rd_T45 l0_0 x8_2).f0), .string (⟨#[]⟩ : ByteArray), .slice none 0 0]) ?_ 1 _ rfl; (with_reducible repeat (first | refine blk_drewN ?_ _ | refine blk_drew ?_ | refine blk_alloc ?_ _)); refine blk_put (cs := #[.int .i64 0, .string (⟨#[]⟩ : ByteArray), .slice none 0 0]) ?_ 0 _ rfl; (with_reducible repeat (first | refine blk_drewN ?_ _ | refine blk_drew ?_ | refine blk_alloc ?_ _)); exact BK108.out) : P := h_
theorem qwa7_ {P : Prop} (h_ : P := by (with_reducible repeat (first | refine blk_drewN ?_ _ | refine blk_drew ?_ | refine blk_alloc ?_ _)); refine blk_far ?_ NB106_108.out _; (with_reducible repeat (first | refine blk_drewN ?_ _ | refine blk_drew ?_ | refine blk_alloc ?_ _)); refine blk_far ?_ NB106_108.out _; (with_reducible repeat (first | refine blk_drewN ?_ _ | refine blk_drew ?_ | refine blk_alloc ?_ _)); refine blk_far ?_ NB106_108.out _; (with_reducible repeat (first | refine blk_drewN ?_ _ | refine blk_drew ?_ | refine blk_alloc ?_ _)); exact BK106.out) : P := h_
theorem qwa8_ {P : Prop} (h_ : P := by (with_reducible repeat (first | refine blk_drewN ?_ _ | refine blk_drew ?_ | refine blk_alloc ?_ _)); refine blk_far ?_ NB101_108.out _; (with_reducible repeat (first | refine blk_drewN ?_ _ | refine blk_drew ?_ | refine blk_alloc ?_ _)); refine blk_far ?_ NB101_108.out _; (with_reducible repeat (first | refine blk_drewN ?_ _ | refine blk_drew ?_ | refine blk_alloc ?_ _)); refine blk_far ?_ NB101_108.out _; (with_reducible repeat (first | refine blk_drewN ?_ _ | refine blk_drew ?_ | refine blk_alloc ?_ _)); exact BK101.out) : P := h_
theorem qwa9_ {P : Prop} (h_ : P := by first | rfl | (simp; done) | (simp [*]; done)) : P := h_
theorem qwa10_ {P : Prop} (h_ : P := by repeat (first | (with_reducible first | exact HB.out | apply below_alloc | apply pw_below_drewN | apply below_drew1 | refine below_set ?_ GE101.out | refine below_set ?_ GE106.out) | exact HB.out)) : P := h_
theorem qwa11_ {P : Prop} (h_ : P := by first | rfl | (simp [errW_none, errW_some] <;> rfl) | (simp [*, errW_none, errW_some] <;> rfl)) : P := h_
theorem qwa12_ {P : Prop} (h_ : P := by (with_reducible repeat (first | refine blk_drewN ?_ _ | refine blk_drew ?_ | refine blk_alloc ?_ _)); exact BK108.out) : P := h_
theorem qwa13_ {P : Prop} (h_ : P := by (with_reducible repeat (first | refine blk_drewN ?_ _ | refine blk_drew ?_ | refine blk_alloc ?_ _)); exact BK106.out) : P := h_
theorem qwa14_ {P : Prop} (h_ : P := by first | exact H' | (rw [← Nbq27.out]; exact H')) : P := h_
theorem qwa15_ {P : Prop} (h_ : P := by (try simp only [List.map_toArray, List.map_cons, List.map_nil]); first | done | rfl | (simp only [List.length_drop, List.length_take]; rfl)) : P := h_
theorem qwa16_ {P : Prop} (h_ : P := by repeat (first | (with_reducible first | exact HB.out | apply below_alloc | apply pw_below_drewN | apply below_drew1) | exact HB.out)) : P := h_
theorem qwa17_ {P : Prop} (h_ : P := by first | (rw [add_block]; exact hn107_2) | (show (Addr.add _ _).block ≠ _; rw [add_block]; exact hn107_2) | exact hn107_2) : P := h_
theorem qwa18_ {P : Prop} (h_ : P := by first | (rw [add_block]; exact hn107_1) | (show (Addr.add _ _).block ≠ _; rw [add_block]; exact hn107_1) | exact hn107_1) : P := h_
theorem qwa19_ {P : Prop} (h_ : P := by first | (rw [add_block]; exact hn107_0) | (show (Addr.add _ _).block ≠ _; rw [add_block]; exact hn107_0) | exact hn107_0) : P := h_
theorem qwa20_ {P : Prop} (h_ : P := by first | (with_reducible assumption) | assumption) : P := h_
theorem qwa21_ {P : Prop} (h_ : P := by have := World.block_lt_of_cell? _ _ hx107_0; first | rwa [add_block] at this | exact this) : P := h_
theorem qwa22_ {P : Prop} (h_ : P := by repeat (first | exact (Kd.C_below HR0_0.out HB.out) | (with_reducible refine Kd.C_alloc ?_ _) | (with_reducible refine Kd.C_drewN ?_ _) | (with_reducible refine Kd.C_drew ?_))) : P := h_
set_option maxHeartbeats 8000000 in
set_option maxRecDepth 100000 in
theorem path_Get.calls (k : Nat) (A0_0 : Option Addr) (c0_0 : Nat) (l0_0 : List (S45)) (a0_1 : Int) (A1 : Option Addr) (c1 : Nat) (l1 : List (S98)) (r1 : Int) (r2 : Int) (w : World) (hr0_0 : Kd.C k45 w A0_0 l0_0.length l0_0) (hc0_0 : l0_0.length ≤ c0_0) (hr1 : Kd.C k98 w A1 l1.length l1) (hc1 : l1.length ≤ c1) (hG : Glob.G w) (h : path_Get.f k l0_0 a0_1 l1 = some (r1, r2)) :
  Calls Tryz.prog 25 #[.agg #[.slice A0_0 l0_0.length c0_0, .int .i64 a0_1], .slice A1 l1.length c1] w fun e w' => e = .returned (.tuple #[.int .i64 r1, .int .i64 r2]) ∧ Below w.heap.size w w' := by
 have hu24 := Tryz.underlying24
 have hu98 := Tryz.underlying98
 have hu45 := Tryz.underlying45
 have HR0_0 := Aside0.mk hr0_0
 have HC0_0 := Aside0.mk hc0_0
 clear hr0_0 hc0_0
 have HR1 := Aside0.mk hr1
 have HC1 := Aside0.mk hc1
 clear hr1 hc1
 have HB := Aside0.mk (Below.refl w.heap.size w)
 have H : ((path_Format.f l1).bind fun bt102 => (if bt102.2 = 0 then ((graph_Right.f l0_0 a0_1).bind fun t104 => (path_Get.j0 k l1 (!t104) l0_0 a0_1)) else (path_Get.j0 k l1 true l0_0 a0_1))) = some (r1, r2) := h
 clear h
 replace H := Option.bind_eq_some_iff.mp H
 obtain ⟨⟨t102, t103⟩, A30, H⟩ := H
 replace H : (if t103 = 0 then ((graph_Right.f l0_0 a0_1).bind fun t104 => (path_Get.j0 k l1 (!t104) l0_0 a0_1)) else (path_Get.j0 k l1 true l0_0 a0_1)) = some (r1, r2) := H
 have A3 := Aside0.mk A30
 clear A30
 have HC4 := Aside0.mk H
 clear H
 go_enter Tryz.func25, Tryz.ntmps25
 go_upto_region 2 with (first | ((with_reducible refine gate_dst (N := 2) rfl ?_); refine box_event ?hg (N := 2) ?hd (cs := #[.slice A0_0 l0_0.length c0_0, .int .i64 a0_1]) (t := 24) ?hr ?_; (case hd => rfl); (case hg => rfl); (case hr => first | (go_simp; done) | (go_simp; rfl)); intro gb101 hg w5 hbox hb; have n0_ := Aside0.mk (below_step (qwa16_) hb); have n1_ := Aside0.mk (hbox); have n2_ := Aside0.mk ((by rw [hg]; exact (below_size (qwa16_)) : w.heap.size ≤ gb101)); have n3_ := Aside0.mk ((by rw [hg]; exact (below_size (qwa16_)) : w.heap.size ≤ gb101)); clear HB; have HB := n0_; have BK101 := n1_; have GW101 := n2_; have GE101 := n3_; clear n0_ n1_ n2_ n3_; clear hb hbox hg) | ((with_reducible refine gate_callee (f := 28) rfl ?_); refine goesL_ (some 15) rfl rfl Tryz.func28 (by kernel_rfl) rfl #[.slice A1 l1.length c1] rfl (qwa15_) ?_; (with_reducible refine (path_Format.calls _ _ l1 t102 t103 _ ?side1 ?side2 (hG.below (qwa5_)) A3.out).mono ?_); (case side1 => repeat (first | exact (Kd.C_below HR1.out HB.out) | (with_reducible refine Kd.C_alloc ?_ _) | (with_reducible refine Kd.C_drewN ?_ _) | (with_reducible refine Kd.C_drew ?_))); (case side2 => exact HC1.out); rintro e w6 ⟨rfl, hb⟩; refine ⟨_, rfl, ?_⟩; have n0_ := Aside0.mk (blk_below (g := gb101) (o := .cells #[.slice A0_0 l0_0.length c0_0, .int .i64 a0_1] 24 (0, 0)) (qwa1_) hb); have n1_ := Aside0.mk (below_step (qwa3_) hb); clear BK101; clear HB; have BK101 := n0_; have HB := n1_; clear n0_ n1_; (try clear hb)))
 (try simp only [Act.put, List.setIfInBounds_toArray, List.set_cons_zero, List.set_cons_succ])
 go_cut [24] (fun v24 wc => ∃ (kq : Nat) (x24_3 : Bool), v24 = .bool x24_3 ∧ Aside0 (path_Get.j0 kq l1 x24_3 l0_0 a0_1 = some (r1, r2)) ∧ Aside0 (kq ≤ k) ∧ Aside0 (wc.heap[gb101]? = some (.cells #[(.slice A0_0 l0_0.length c0_0), .int .i64 a0_1] 24 (0, 0))) ∧ Aside0 (Below w.heap.size w wc))
 case first =>
  have H := HC4.out
  clear HC4
  by_cases c7 : t103 = 0
  rotate_left
  ·
   rw [if_neg c7] at H
   have c7b0 : (t103 == 0) = false := beq_eq_false_iff_ne.mpr c7
   have c7b1 : (t103 != 0) = true := bne_iff_ne.mpr c7
   (first | rw [c7b0] | (simp only [i64_w, i32_w]; rw [c7b0]) | skip)
   have H' := Aside0.mk H
   clear H
   go_wp2
   go_meet
   case rel => exact ⟨_, (true), (qwa9_), (qwa14_), ⟨by first | omega | exact Nat.le_refl _⟩, ⟨qwa1_⟩, ⟨qwa3_⟩⟩
  rw [if_pos c7] at H
  have c7b0 : (t103 == 0) = true := beq_iff_eq.mpr c7
  have c7b1 : (t103 != 0) = false := bne_eq_false_iff_eq.mpr c7
  clear c7
  (first | rw [c7b0] | (simp only [i64_w, i32_w]; rw [c7b0]) | skip)
  replace H := Option.bind_eq_some_iff.mp H
  obtain ⟨t104, A80, H⟩ := H
  replace H : (path_Get.j0 k l1 (!t104) l0_0 a0_1) = some (r1, r2) := H
  have A8 := Aside0.mk A80
  clear A80
  have H' := Aside0.mk H
  clear H
  have hcz9_0 : w6.cell? ⟨gb101, 0, none⟩ = some (.slice A0_0 l0_0.length c0_0) := (blk_cell BK101.out 0).trans rfl
  have hcz9_1 : w6.cell? ⟨gb101, 1, none⟩ = some (.int .i64 a0_1) := (blk_cell BK101.out 1).trans rfl
  have hfz9_0 := blk_frozen BK101.out 0
  have hfz9_1 := blk_frozen BK101.out 1
  go_wp2_with (first | (go_at_call 29; (with_reducible refine (graph_Right.calls _ _ l0_0 a0_1 t104 _ ?side1 ?side2 (hG.below (qwa5_)) A8.out).mono ?_); (case side1 => exact qwa22_); (case side2 => exact HC0_0.out); rintro e w10 ⟨rfl, hb⟩; have n0_ := Aside0.mk (blk_below (g := gb101) (o := .cells #[.slice A0_0 l0_0.length c0_0, .int .i64 a0_1] 24 (0, 0)) (qwa1_) hb); have n1_ := Aside0.mk (below_step (qwa3_) hb); clear BK101; clear HB; have BK101 := n0_; have HB := n1_; clear n0_ n1_; (try clear hb)))
  go_meet
  case rel => exact ⟨_, (!t104), (qwa9_), (qwa14_), ⟨by first | omega | exact Nat.le_refl _⟩, ⟨qwa1_⟩, ⟨qwa3_⟩⟩
 case rest =>
  clear HC4
  try clear c1
  try clear c2
  try clear p2
  try clear c7
  try clear c7b0
  try clear c7b1
  try clear hcz9_0
  try clear hcz9_1
  try clear hfz9_0
  try clear hfz9_1
  obtain ⟨kq, x24_3, rfl, HA, HJ3, BK101, HB⟩ := hcut
  cases kq with
  | zero => exact absurd HA.out (by simp [path_Get.j0])
  | succ kj3 =>
   have H := HA.out
   clear HA
   simp only [path_Get.j0] at H
   by_cases c11 : x24_3 = true
   ·
    subst c11
    have H1 : (some (0, 1)) = some (r1, r2) := by rw [if_pos rfl] at H; exact H
    clear H
    have H := H1
    clear H1
    simp only [Option.some.injEq, Prod.mk.injEq] at H
    obtain ⟨rfl, rfl⟩ := H
    go_wp2
    go_ret2
    exact ⟨qwa11_, qwa3_⟩
   replace c11 := Bool.eq_false_iff.mpr c11
   subst c11
   have H1 : (path_Get.l0 kj3 a0_1 l1 (l1.length : Int) 0 l0_0 a0_1) = some (r1, r2) := by rw [if_neg (show ¬ (false = true) by decide)] at H; exact H
   clear H
   have H := H1
   clear H1
   have H' := Aside0.mk H
   clear H
   have hcz12_0 : wc.cell? ⟨gb101, 0, none⟩ = some (.slice A0_0 l0_0.length c0_0) := (blk_cell BK101.out 0).trans rfl
   have hcz12_1 : wc.cell? ⟨gb101, 1, none⟩ = some (.int .i64 a0_1) := (blk_cell BK101.out 1).trans rfl
   have hfz12_0 := blk_frozen BK101.out 0
   have hfz12_1 := blk_frozen BK101.out 1
   go_wp2
   go_loopg [8, 29] kj3 (fun kq v8 v29 w' => ∃ (x8_2 : Int) (x29_2 : Int), v8 = .int .i64 x8_2 ∧ v29 = .int .i64 x29_2 ∧ Aside0 (path_Get.l0 kq x8_2 l1 (l1.length : Int) x29_2 l0_0 a0_1 = some (r1, r2)) ∧ Aside0 (kq ≤ kj3) ∧ Aside0 (w'.heap[gb101]? = some (.cells #[(.slice A0_0 l0_0.length c0_0), .int .i64 a0_1] 24 (0, 0))) ∧ Aside0 (Below w.heap.size w w'))
   case atStart => exact ⟨(a0_1), (0), (qwa9_), (qwa9_), H', ⟨Nat.le_refl _⟩, ⟨qwa1_⟩, ⟨qwa3_⟩⟩
   case round =>
    clear H'
    try clear c1
    try clear c2
    try clear p2
    try clear c7
    try clear c7b0
    try clear c7b1
    try clear c11
    try clear hcz12_0
    try clear hcz12_1
    try clear hcz9_0
    try clear hcz9_1
    try clear hfz12_0
    try clear hfz12_1
    try clear hfz9_0
    try clear hfz9_1
    try clear p2
    obtain ⟨x8_2, x29_2, rfl, rfl, HA, HK2, BK101, HB⟩ := hrel
    cases gk with
    | zero => exact absurd HA.out (by simp [path_Get.l0])
    | succ k2 =>
     have H := HA.out
     clear HA
     simp only [path_Get.l0] at H
     by_cases c13 : x29_2 < (l1.length : Int)
     rotate_left
     ·
      rw [if_neg c13] at H
      have c13b0 : decide (x29_2 < (l1.length : Int)) = false := decide_eq_false c13
      clear c13
      simp only [Option.some.injEq, Prod.mk.injEq] at H
      obtain ⟨rfl, rfl⟩ := H
      go_wp2
      go_ret2
      exact ⟨qwa11_, qwa3_⟩
     rw [if_pos c13] at H
     have c13b0 : decide (x29_2 < (l1.length : Int)) = true := decide_eq_true c13
     clear c13
     by_cases c14 : 0 ≤ x29_2
     rotate_left
     ·
      rw [if_neg c14] at H
      exact absurd H (by simp)
     rw [if_pos c14] at H
     have c14b0 : decide (0 ≤ x29_2) = true := decide_eq_true c14
     clear c14
     by_cases c15 : x29_2 < (l1.length : Int)
     rotate_left
     · exact absurd (of_decide_eq_true c13b0) c15
     rw [if_pos c15] at H
     have c15b0 : decide (x29_2 < (l1.length : Int)) = true := decide_eq_true c15
     clear c15
     by_cases c16 : 0 ≤ x8_2
     rotate_left
     ·
      rw [if_neg c16] at H
      exact absurd H (by simp)
     rw [if_pos c16] at H
     have c16b0 : decide (0 ≤ x8_2) = true := decide_eq_true c16
     clear c16
     by_cases c17 : x8_2 < (l0_0.length : Int)
     rotate_left
     ·
      rw [if_neg c17] at H
      exact absurd H (by simp)
     rw [if_pos c17] at H
     have c17b0 : decide (x8_2 < (l0_0.length : Int)) = true := decide_eq_true c17
     clear c17
     have HC18 := Aside0.mk H
     clear H
     have p105 : 0 ≤ (x29_2 : Int) := of_decide_eq_true (qwa20_)
     have q105 : x29_2 < (l1.length : Int) := of_decide_eq_true (qwa20_)
     obtain ⟨ad105, e105, hx105_0, hx105_1, hx105_2⟩ := at_T98 HR1.out x29_2 p105 q105
     cases e105
     replace hx105_0 := (HB.out.cell (World.block_lt_of_cell? w _ hx105_0)).trans hx105_0
     replace hx105_1 := (HB.out.cell (World.block_lt_of_cell? w _ hx105_1)).trans hx105_1
     replace hx105_2 := (HB.out.cell (World.block_lt_of_cell? w _ hx105_2)).trans hx105_2
     replace p105 := eq_true p105
     replace q105 := eq_true q105
     go_upto_region 10 with (first | ((with_reducible refine gate_dst (N := 10) rfl ?_); refine box_event ?hg (N := 10) ?hd (cs := #[.string (⟨#[]⟩ : ByteArray), .int .i64 0, .bool false]) (t := 98) ?hr ?_; (case hd => rfl); (case hg => rfl); (case hr => first | (go_simp; done) | (go_simp; rfl)); intro gb106 hg w19 hbox hb; have n0_ := Aside0.mk (blk_below (g := gb101) (o := .cells #[.slice A0_0 l0_0.length c0_0, .int .i64 a0_1] 24 (0, 0)) (qwa1_) hb); have n1_ := Aside0.mk (below_step (qwa3_) hb); have n2_ := Aside0.mk (hbox); have n3_ := Aside0.mk ((by rw [hg]; exact (below_size (qwa3_)) : w.heap.size ≤ gb106)); have n4_ := Aside0.mk ((by rw [hg]; exact (below_size (qwa3_)) : w.heap.size ≤ gb106)); have n5_ := Aside0.mk ((by rw [hg]; exact Nat.ne_of_lt (blk_lt (g := gb101) (o := .cells #[.slice A0_0 l0_0.length c0_0, .int .i64 a0_1] 24 (0, 0)) (qwa1_)) : gb101 ≠ gb106)); have n6_ := Aside0.mk ((by rw [hg]; exact Nat.ne_of_gt (blk_lt (g := gb101) (o := .cells #[.slice A0_0 l0_0.length c0_0, .int .i64 a0_1] 24 (0, 0)) (qwa1_)) : gb106 ≠ gb101)); clear BK101; clear HB; have BK101 := n0_; have HB := n1_; have BK106 := n2_; have GW106 := n3_; have GE106 := n4_; have NB101_106 := n5_; have NB106_101 := n6_; clear n0_ n1_ n2_ n3_ n4_ n5_ n6_; clear hb hbox hg; have hnb20 := NB106_101.out; have hnc20 := NB101_106.out; have hcz21_0 : w19.cell? ⟨gb106, 0, none⟩ = some (.string (⟨#[]⟩ : ByteArray)) := (blk_cell BK106.out 0).trans rfl; have hcz21_1 : w19.cell? ⟨gb106, 1, none⟩ = some (.int .i64 0) := (blk_cell BK106.out 1).trans rfl; have hcz21_2 : w19.cell? ⟨gb106, 2, none⟩ = some (.bool false) := (blk_cell BK106.out 2).trans rfl; have hfz21_0 := blk_frozen BK106.out 0; have hfz21_1 := blk_frozen BK106.out 1; have hfz21_2 := blk_frozen BK106.out 2; have hcz22_0 : w19.cell? ⟨gb101, 0, none⟩ = some (.slice A0_0 l0_0.length c0_0) := (blk_cell BK101.out 0).trans rfl; have hcz22_1 : w19.cell? ⟨gb101, 1, none⟩ = some (.int .i64 a0_1) := (blk_cell BK101.out 1).trans rfl; have hfz22_0 := blk_frozen BK101.out 0; have hfz22_1 := blk_frozen BK101.out 1; have p107 : 0 ≤ (x8_2 : Int) := of_decide_eq_true (qwa20_); have q107 : x8_2 < (l0_0.length : Int) := of_decide_eq_true (qwa20_); obtain ⟨ad107, A107_2, c107_2, e107, hx107_0, hx107_1, hx107_2, hl107_2, hi107_2⟩ := at_T45 HR0_0.out x8_2 p107 q107; cases e107; have hn107_0 : ad107.block ≠ gb106 := Nat.ne_of_lt (Nat.lt_of_lt_of_le (qwa21_) GW106.out); have hn107_1 : ad107.block ≠ gb106 := Nat.ne_of_lt (Nat.lt_of_lt_of_le (qwa21_) GW106.out); have hn107_2 : ad107.block ≠ gb106 := Nat.ne_of_lt (Nat.lt_of_lt_of_le (qwa21_) GW106.out); replace hx107_0 := (HB.out.cell (World.block_lt_of_cell? w _ hx107_0)).trans hx107_0; replace hx107_1 := (HB.out.cell (World.block_lt_of_cell? w _ hx107_1)).trans hx107_1; replace hx107_2 := (HB.out.cell (World.block_lt_of_cell? w _ hx107_2)).trans hx107_2; have HR107_2 := Aside0.mk hi107_2; have HC107_2 := Aside0.mk hl107_2; clear hi107_2 hl107_2; replace hx107_0 := (cell_far (p := ⟨gb106, 0, none⟩) (qwa19_) (.string ((rd_T98 l1 x29_2).f0))).trans hx107_0; replace hx107_1 := (cell_far (p := ⟨gb106, 0, none⟩) (qwa19_) (.string ((rd_T98 l1 x29_2).f0))).trans hx107_1; replace hx107_2 := (cell_far (p := ⟨gb106, 0, none⟩) (qwa19_) (.string ((rd_T98 l1 x29_2).f0))).trans hx107_2; replace hx107_0 := (cell_far (p := ⟨gb106, 1, none⟩) (qwa18_) (.int .i64 ((rd_T98 l1 x29_2).f1))).trans hx107_0; replace hx107_1 := (cell_far (p := ⟨gb106, 1, none⟩) (qwa18_) (.int .i64 ((rd_T98 l1 x29_2).f1))).trans hx107_1; replace hx107_2 := (cell_far (p := ⟨gb106, 1, none⟩) (qwa18_) (.int .i64 ((rd_T98 l1 x29_2).f1))).trans hx107_2; replace hx107_0 := (cell_far (p := ⟨gb106, 2, none⟩) (qwa17_) (.bool ((rd_T98 l1 x29_2).f2))).trans hx107_0; replace hx107_1 := (cell_far (p := ⟨gb106, 2, none⟩) (qwa17_) (.bool ((rd_T98 l1 x29_2).f2))).trans hx107_1; replace hx107_2 := (cell_far (p := ⟨gb106, 2, none⟩) (qwa17_) (.bool ((rd_T98 l1 x29_2).f2))).trans hx107_2; clear hn107_0; clear hn107_1; clear hn107_2; replace p107 := eq_true p107; replace q107 := eq_true q107) | ((with_reducible refine gate_dst (N := 11) rfl ?_); refine box_event ?hg (N := 11) ?hd (cs := #[.int .i64 0, .string (⟨#[]⟩ : ByteArray), .slice none 0 0]) (t := 45) ?hr ?_; (case hd => rfl); (case hg => rfl); (case hr => first | (go_simp; done) | (go_simp; rfl)); intro gb108 hg w23 hbox hb; have n0_ := Aside0.mk (blk_below (g := gb101) (o := .cells #[.slice (some ad107) l0_0.length c0_0, .int .i64 a0_1] 24 (0, 0)) (qwa4_) hb); have n1_ := Aside0.mk (blk_below (g := gb106) (o := .cells #[.string ((rd_T98 l1 x29_2).f0), .int .i64 ((rd_T98 l1 x29_2).f1), .bool ((rd_T98 l1 x29_2).f2)] 98 (0, 0)) (qwa2_) hb); have n2_ := Aside0.mk (below_step (qwa10_) hb); have n3_ := Aside0.mk (hbox); have n4_ := Aside0.mk ((by rw [hg]; exact (below_size (qwa10_)) : w.heap.size ≤ gb108)); have n5_ := Aside0.mk ((by rw [hg]; exact (below_size (qwa10_)) : w.heap.size ≤ gb108)); have n6_ := Aside0.mk ((by rw [hg]; exact Nat.ne_of_lt (blk_lt (g := gb101) (o := .cells #[.slice (some ad107) l0_0.length c0_0, .int .i64 a0_1] 24 (0, 0)) (qwa4_)) : gb101 ≠ gb108)); have n7_ := Aside0.mk ((by rw [hg]; exact Nat.ne_of_gt (blk_lt (g := gb101) (o := .cells #[.slice (some ad107) l0_0.length c0_0, .int .i64 a0_1] 24 (0, 0)) (qwa4_)) : gb108 ≠ gb101)); have n8_ := Aside0.mk ((by rw [hg]; exact Nat.ne_of_lt (blk_lt (g := gb106) (o := .cells #[.string ((rd_T98 l1 x29_2).f0), .int .i64 ((rd_T98 l1 x29_2).f1), .bool ((rd_T98 l1 x29_2).f2)] 98 (0, 0)) (qwa2_)) : gb106 ≠ gb108)); have n9_ := Aside0.mk ((by rw [hg]; exact Nat.ne_of_gt (blk_lt (g := gb106) (o := .cells #[.string ((rd_T98 l1 x29_2).f0), .int .i64 ((rd_T98 l1 x29_2).f1), .bool ((rd_T98 l1 x29_2).f2)] 98 (0, 0)) (qwa2_)) : gb108 ≠ gb106)); clear BK101; clear BK106; clear HB; have BK101 := n0_; have BK106 := n1_; have HB := n2_; have BK108 := n3_; have GW108 := n4_; have GE108 := n5_; have NB101_108 := n6_; have NB108_101 := n7_; have NB106_108 := n8_; have NB108_106 := n9_; clear n0_ n1_ n2_ n3_ n4_ n5_ n6_ n7_ n8_ n9_; clear hb hbox hg; have hnb24 := NB108_101.out; have hnc24 := NB101_108.out; have hnb25 := NB108_106.out; have hnc25 := NB106_108.out; have hcz26_0 : w23.cell? ⟨gb108, 0, none⟩ = some (.int .i64 0) := (blk_cell BK108.out 0).trans rfl; have hcz26_1 : w23.cell? ⟨gb108, 1, none⟩ = some (.string (⟨#[]⟩ : ByteArray)) := (blk_cell BK108.out 1).trans rfl; have hcz26_2 : w23.cell? ⟨gb108, 2, none⟩ = some (.slice none 0 0) := (blk_cell BK108.out 2).trans rfl; have hfz26_0 := blk_frozen BK108.out 0; have hfz26_1 := blk_frozen BK108.out 1; have hfz26_2 := blk_frozen BK108.out 2))
     (try simp only [Act.put, List.setIfInBounds_toArray, List.set_cons_zero, List.set_cons_succ])
     go_cut [38] (fun v38 wc => ∃ (kq : Nat) (x38_17 : Bool), v38 = .bool x38_17 ∧ Aside0 (path_Get.j2 kq x8_2 l1 (l1.length : Int) x29_2 x38_17 l0_0 a0_1 ((rd_T98 l1 x29_2).f0) ((rd_T98 l1 x29_2).f1) ((rd_T98 l1 x29_2).f2) ((rd_T45 l0_0 x8_2).f0) ((rd_T45 l0_0 x8_2).f1) ((rd_T45 l0_0 x8_2).f2) = some (r1, r2)) ∧ Aside0 (kq ≤ k2) ∧ Aside0 (wc.heap[gb101]? = some (.cells #[(.slice (some ad107) l0_0.length c0_0), .int .i64 a0_1] 24 (0, 0))) ∧ Aside0 (wc.heap[gb106]? = some (.cells #[.string ((rd_T98 l1 x29_2).f0), .int .i64 ((rd_T98 l1 x29_2).f1), .bool ((rd_T98 l1 x29_2).f2)] 98 (0, 0))) ∧ Aside0 (wc.heap[gb108]? = some (.cells #[.int .i64 ((rd_T45 l0_0 x8_2).f0), .string ((rd_T45 l0_0 x8_2).f1), (.slice A107_2 ((rd_T45 l0_0 x8_2).f2).length c107_2)] 45 (0, 0))) ∧ Aside0 (Below w.heap.size w wc))
     case first =>
      have H := HC18.out
      clear HC18
      obtain ⟨bq27, hbq27⟩ : ∃ b_ : Bool, b_ = ((rd_T98 l1 x29_2).f2) := ⟨_, rfl⟩
      replace H : (if bq27 = true then (path_Get.j2 k2 x8_2 l1 (l1.length : Int) x29_2 (((rd_T45 l0_0 x8_2).f0) == 5) l0_0 a0_1 ((rd_T98 l1 x29_2).f0) ((rd_T98 l1 x29_2).f1) bq27 ((rd_T45 l0_0 x8_2).f0) ((rd_T45 l0_0 x8_2).f1) ((rd_T45 l0_0 x8_2).f2)) else (path_Get.j2 k2 x8_2 l1 (l1.length : Int) x29_2 false l0_0 a0_1 ((rd_T98 l1 x29_2).f0) ((rd_T98 l1 x29_2).f1) bq27 ((rd_T45 l0_0 x8_2).f0) ((rd_T45 l0_0 x8_2).f1) ((rd_T45 l0_0 x8_2).f2))) = some (r1, r2) := by rw [← hbq27] at H; exact H
      have Nbq27 := Aside0.mk hbq27
      clear hbq27
      (try rw [← Nbq27.out])
      by_cases c28 : bq27 = true
      rotate_left
      ·
       replace c28 := Bool.eq_false_iff.mpr c28
       subst c28
       have H1 : (path_Get.j2 k2 x8_2 l1 (l1.length : Int) x29_2 false l0_0 a0_1 ((rd_T98 l1 x29_2).f0) ((rd_T98 l1 x29_2).f1) false ((rd_T45 l0_0 x8_2).f0) ((rd_T45 l0_0 x8_2).f1) ((rd_T45 l0_0 x8_2).f2)) = some (r1, r2) := by rw [if_neg (show ¬ (false = true) by decide)] at H; exact H
       clear H
       have H := H1
       clear H1
       have H' := Aside0.mk H
       clear H
       have hnb34 := NB106_101.out
       have hnc34 := NB101_106.out
       have hnb35 := NB106_108.out
       have hnc35 := NB108_106.out
       have hcz36_0 : w23.cell? ⟨gb106, 0, none⟩ = some (.string ((rd_T98 l1 x29_2).f0)) := (blk_cell BK106.out 0).trans rfl
       have hcz36_1 : w23.cell? ⟨gb106, 1, none⟩ = some (.int .i64 ((rd_T98 l1 x29_2).f1)) := (blk_cell BK106.out 1).trans rfl
       have hcz36_2 : w23.cell? ⟨gb106, 2, none⟩ = some (.bool false) := (blk_cell BK106.out 2).trans (by first | rfl | (rw [← Nbq27.out]; rfl))
       have hfz36_0 := blk_frozen BK106.out 0
       have hfz36_1 := blk_frozen BK106.out 1
       have hfz36_2 := blk_frozen BK106.out 2
       go_wp2
       go_meet
       case rel => exact ⟨_, (false), (qwa9_), (qwa14_), ⟨by have := HJ3.out; have := HK2.out; first | omega | exact Nat.le_refl _⟩, ⟨qwa8_⟩, ⟨qwa7_⟩, ⟨qwa6_⟩, ⟨qwa0_⟩⟩
      subst c28
      have H1 : (path_Get.j2 k2 x8_2 l1 (l1.length : Int) x29_2 (((rd_T45 l0_0 x8_2).f0) == 5) l0_0 a0_1 ((rd_T98 l1 x29_2).f0) ((rd_T98 l1 x29_2).f1) true ((rd_T45 l0_0 x8_2).f0) ((rd_T45 l0_0 x8_2).f1) ((rd_T45 l0_0 x8_2).f2)) = some (r1, r2) := by rw [if_pos rfl] at H; exact H
      clear H
      have H := H1
      clear H1
      have H' := Aside0.mk H
      clear H
      have hnb29 := NB106_101.out
      have hnc29 := NB101_106.out
      have hnb30 := NB106_108.out
      have hnc30 := NB108_106.out
      have hcz31_0 : w23.cell? ⟨gb106, 0, none⟩ = some (.string ((rd_T98 l1 x29_2).f0)) := (blk_cell BK106.out 0).trans rfl
      have hcz31_1 : w23.cell? ⟨gb106, 1, none⟩ = some (.int .i64 ((rd_T98 l1 x29_2).f1)) := (blk_cell BK106.out 1).trans rfl
      have hcz31_2 : w23.cell? ⟨gb106, 2, none⟩ = some (.bool true) := (blk_cell BK106.out 2).trans (by first | rfl | (rw [← Nbq27.out]; rfl))
      have hfz31_0 := blk_frozen BK106.out 0
      have hfz31_1 := blk_frozen BK106.out 1
      have hfz31_2 := blk_frozen BK106.out 2
      have hnb32 := NB108_101.out
      have hnc32 := NB101_108.out
      have hcz33_0 : w23.cell? ⟨gb108, 0, none⟩ = some (.int .i64 0) := (blk_cell BK108.out 0).trans rfl
      have hcz33_1 : w23.cell? ⟨gb108, 1, none⟩ = some (.string (⟨#[]⟩ : ByteArray)) := (blk_cell BK108.out 1).trans rfl
      have hcz33_2 : w23.cell? ⟨gb108, 2, none⟩ = some (.slice none 0 0) := (blk_cell BK108.out 2).trans rfl
      have hfz33_0 := blk_frozen BK108.out 0
      have hfz33_1 := blk_frozen BK108.out 1
      have hfz33_2 := blk_frozen BK108.out 2
      go_wp2
      go_meet
      case rel => exact ⟨_, ((((rd_T45 l0_0 x8_2).f0) == 5)), (qwa9_), (qwa14_), ⟨by have := HJ3.out; have := HK2.out; first | omega | exact Nat.le_refl _⟩, ⟨qwa8_⟩, ⟨qwa7_⟩, ⟨qwa6_⟩, ⟨qwa0_⟩⟩
     case rest =>
      clear HC18
      try clear c1
      try clear p1
      try clear q1
      try clear hx1
      try clear c2
      try clear p2
      try clear q2
      try clear c3
      try clear c7
      try clear c7b0
      try clear c7b1
      try clear c10
      try clear p10
      try clear q10
      try clear hx10
      try clear c11
      try clear c13
      try clear c13b0
      try clear c14
      try clear c14b0
      try clear c15
      try clear c15b0
      try clear c16
      try clear c16b0
      try clear c17
      try clear c17b0
      try clear c20
      try clear c24
      try clear c25
      try clear q27
      try clear c28
      try clear c29
      try clear c30
      try clear c32
      try clear c34
      try clear c35
      try clear hcz12_0
      try clear hcz12_1
      try clear hcz21_0
      try clear hcz21_1
      try clear hcz21_2
      try clear hcz22_0
      try clear hcz22_1
      try clear hcz26_0
      try clear hcz26_1
      try clear hcz26_2
      try clear hcz31_0
      try clear hcz31_1
      try clear hcz31_2
      try clear hcz33_0
      try clear hcz33_1
      try clear hcz33_2
      try clear hcz36_0
      try clear hcz36_1
      try clear hcz36_2
      try clear hcz9_0
      try clear hcz9_1
      try clear hfz12_0
      try clear hfz12_1
      try clear hfz21_0
      try clear hfz21_1
      try clear hfz21_2
      try clear hfz22_0
      try clear hfz22_1
      try clear hfz26_0
      try clear hfz26_1
      try clear hfz26_2
      try clear hfz31_0
      try clear hfz31_1
      try clear hfz31_2
      try clear hfz33_0
      try clear hfz33_1
      try clear hfz33_2
      try clear hfz36_0
      try clear hfz36_1
      try clear hfz36_2
      try clear hfz9_0
      try clear hfz9_1
      try clear hx105_0
      try clear hx105_1
      try clear hx105_2
      try clear hx107_0
      try clear hx107_1
      try clear hx107_2
      try clear p105
      try clear p107
      try clear p2
      try clear q105
      try clear q107
      obtain ⟨kq, x38_17, rfl, HA, HJ17, BK101, BK106, BK108, HB⟩ := hcut
      cases kq with
      | zero => exact absurd HA.out (by simp [path_Get.j2])
      | succ kj17 =>
       have H := HA.out
       clear HA
       simp only [path_Get.j2] at H
       by_cases c37 : x38_17 = true
       ·
        subst c37
        have H1 : (if ((rd_T98 l1 x29_2).f1) < (((rd_T45 l0_0 x8_2).f2).length : Int) then (if 0 ≤ ((rd_T98 l1 x29_2).f1) then (if (((rd_T98 l1 x29_2).f1) < (((rd_T45 l0_0 x8_2).f2).length : Int)) then (path_Get.l0 kj17 (rd ((rd_T45 l0_0 x8_2).f2) ((rd_T98 l1 x29_2).f1)) l1 (l1.length : Int) (wrap64 (x29_2 + 1)) l0_0 a0_1) else (some (0, 6))) else (none)) else (if (((rd_T98 l1 x29_2).f1) < (((rd_T45 l0_0 x8_2).f2).length : Int)) then (path_Get.l0 kj17 x8_2 l1 (l1.length : Int) (wrap64 (x29_2 + 1)) l0_0 a0_1) else (some (0, 6)))) = some (r1, r2) := by rw [if_pos rfl] at H; exact H
        clear H
        have H := H1
        clear H1
        by_cases c38 : ((rd_T98 l1 x29_2).f1) < (((rd_T45 l0_0 x8_2).f2).length : Int)
        rotate_left
        ·
         rw [if_neg c38] at H
         have c38b0 : decide (((rd_T98 l1 x29_2).f1) < (((rd_T45 l0_0 x8_2).f2).length : Int)) = false := decide_eq_false c38
         clear c38
         by_cases c51 : (((rd_T98 l1 x29_2).f1) < (((rd_T45 l0_0 x8_2).f2).length : Int))
         · exact absurd c51 (of_decide_eq_false c38b0)
         rw [if_neg c51] at H
         have c51b0 : decide (((rd_T98 l1 x29_2).f1) < (((rd_T45 l0_0 x8_2).f2).length : Int)) = false := decide_eq_false c51
         clear c51
         simp only [Option.some.injEq, Prod.mk.injEq] at H
         obtain ⟨rfl, rfl⟩ := H
         have hnb57 := NB106_101.out
         have hnc57 := NB101_106.out
         have hnb58 := NB106_108.out
         have hnc58 := NB108_106.out
         have hcz59_0 : wc.cell? ⟨gb106, 0, none⟩ = some (.string ((rd_T98 l1 x29_2).f0)) := (blk_cell BK106.out 0).trans rfl
         have hcz59_1 : wc.cell? ⟨gb106, 1, none⟩ = some (.int .i64 ((rd_T98 l1 x29_2).f1)) := (blk_cell BK106.out 1).trans rfl
         have hcz59_2 : wc.cell? ⟨gb106, 2, none⟩ = some (.bool ((rd_T98 l1 x29_2).f2)) := (blk_cell BK106.out 2).trans rfl
         have hfz59_0 := blk_frozen BK106.out 0
         have hfz59_1 := blk_frozen BK106.out 1
         have hfz59_2 := blk_frozen BK106.out 2
         have hnb60 := NB108_101.out
         have hnc60 := NB101_108.out
         have hcz61_0 : wc.cell? ⟨gb108, 0, none⟩ = some (.int .i64 ((rd_T45 l0_0 x8_2).f0)) := (blk_cell BK108.out 0).trans rfl
         have hcz61_1 : wc.cell? ⟨gb108, 1, none⟩ = some (.string ((rd_T45 l0_0 x8_2).f1)) := (blk_cell BK108.out 1).trans rfl
         have hcz61_2 : wc.cell? ⟨gb108, 2, none⟩ = some (.slice A107_2 ((rd_T45 l0_0 x8_2).f2).length c107_2) := (blk_cell BK108.out 2).trans rfl
         have hfz61_0 := blk_frozen BK108.out 0
         have hfz61_1 := blk_frozen BK108.out 1
         have hfz61_2 := blk_frozen BK108.out 2
         go_wp2
         go_ret2
         exact ⟨qwa11_, qwa0_⟩
        rw [if_pos c38] at H
        have c38b0 : decide (((rd_T98 l1 x29_2).f1) < (((rd_T45 l0_0 x8_2).f2).length : Int)) = true := decide_eq_true c38
        clear c38
        by_cases c39 : 0 ≤ ((rd_T98 l1 x29_2).f1)
        rotate_left
        ·
         rw [if_neg c39] at H
         exact absurd H (by simp)
        rw [if_pos c39] at H
        have c39b0 : decide (0 ≤ ((rd_T98 l1 x29_2).f1)) = true := decide_eq_true c39
        clear c39
        by_cases c40 : (((rd_T98 l1 x29_2).f1) < (((rd_T45 l0_0 x8_2).f2).length : Int))
        rotate_left
        · exact absurd (of_decide_eq_true c38b0) c40
        rw [if_pos c40] at H
        have c40b0 : decide (((rd_T98 l1 x29_2).f1) < (((rd_T45 l0_0 x8_2).f2).length : Int)) = true := decide_eq_true c40
        clear c40
        have H' := Aside0.mk H
        clear H
        have hnb41 := NB106_101.out
        have hnc41 := NB101_106.out
        have hnb42 := NB106_108.out
        have hnc42 := NB108_106.out
        have hcz43_0 : wc.cell? ⟨gb106, 0, none⟩ = some (.string ((rd_T98 l1 x29_2).f0)) := (blk_cell BK106.out 0).trans rfl
        have hcz43_1 : wc.cell? ⟨gb106, 1, none⟩ = some (.int .i64 ((rd_T98 l1 x29_2).f1)) := (blk_cell BK106.out 1).trans rfl
        have hcz43_2 : wc.cell? ⟨gb106, 2, none⟩ = some (.bool ((rd_T98 l1 x29_2).f2)) := (blk_cell BK106.out 2).trans rfl
        have hfz43_0 := blk_frozen BK106.out 0
        have hfz43_1 := blk_frozen BK106.out 1
        have hfz43_2 := blk_frozen BK106.out 2
        have hnb44 := NB108_101.out
        have hnc44 := NB101_108.out
        have hcz45_0 : wc.cell? ⟨gb108, 0, none⟩ = some (.int .i64 ((rd_T45 l0_0 x8_2).f0)) := (blk_cell BK108.out 0).trans rfl
        have hcz45_1 : wc.cell? ⟨gb108, 1, none⟩ = some (.string ((rd_T45 l0_0 x8_2).f1)) := (blk_cell BK108.out 1).trans rfl
        have hcz45_2 : wc.cell? ⟨gb108, 2, none⟩ = some (.slice A107_2 ((rd_T45 l0_0 x8_2).f2).length c107_2) := (blk_cell BK108.out 2).trans rfl
        have hfz45_0 := blk_frozen BK108.out 0
        have hfz45_1 := blk_frozen BK108.out 1
        have hfz45_2 := blk_frozen BK108.out 2
        have p109 : 0 ≤ (((rd_T98 l1 x29_2).f1) : Int) := of_decide_eq_true (qwa20_)
        have q109 : ((rd_T98 l1 x29_2).f1) < (((rd_T45 l0_0 x8_2).f2).length : Int) := of_decide_eq_true (qwa20_)
        obtain ⟨ad109, e109, hx109_0⟩ := Kd.at_int HR107_2.out ((rd_T98 l1 x29_2).f1) p109 q109
        cases e109
        replace hx109_0 := (HB.out.cell (World.block_lt_of_cell? w _ hx109_0)).trans hx109_0
        replace p109 := eq_true p109
        replace q109 := eq_true q109
        go_wp2
        go_roundg kj17
        case measure => have := HJ3.out; have := HK2.out; have := HJ17.out; omega
        case rel => exact ⟨(rd ((rd_T45 l0_0 x8_2).f2) ((rd_T98 l1 x29_2).f1)), (wrap64 (x29_2 + 1)), (qwa9_), (qwa9_), (qwa14_), ⟨by have := HJ3.out; have := HK2.out; have := HJ17.out; omega⟩, ⟨qwa1_⟩, ⟨qwa0_⟩⟩
       replace c37 := Bool.eq_false_iff.mpr c37
       subst c37
       have H1 : (if ((rd_T98 l1 x29_2).f2) = true then (path_Get.j3 kj17 x8_2 l1 (l1.length : Int) x29_2 false l0_0 a0_1 ((rd_T98 l1 x29_2).f0) ((rd_T98 l1 x29_2).f1) ((rd_T98 l1 x29_2).f2)) else (path_Get.j3 kj17 x8_2 l1 (l1.length : Int) x29_2 (((rd_T45 l0_0 x8_2).f0) == 6) l0_0 a0_1 ((rd_T98 l1 x29_2).f0) ((rd_T98 l1 x29_2).f1) ((rd_T98 l1 x29_2).f2))) = some (r1, r2) := by rw [if_neg (show ¬ (false = true) by decide)] at H; exact H
       clear H
       have H := H1
       clear H1
       have HC62 := Aside0.mk H
       clear H
       go_upto_region 14 with (fail)
       go_cut [59] (fun v59 wc => ∃ (kq : Nat) (x59_61 : Bool), v59 = .bool x59_61 ∧ Aside0 (path_Get.j3 kq x8_2 l1 (l1.length : Int) x29_2 x59_61 l0_0 a0_1 ((rd_T98 l1 x29_2).f0) ((rd_T98 l1 x29_2).f1) ((rd_T98 l1 x29_2).f2) = some (r1, r2)) ∧ Aside0 (kq ≤ kj17) ∧ Aside0 (wc.heap[gb101]? = some (.cells #[(.slice (some ad107) l0_0.length c0_0), .int .i64 a0_1] 24 (0, 0))) ∧ Aside0 (wc.heap[gb106]? = some (.cells #[.string ((rd_T98 l1 x29_2).f0), .int .i64 ((rd_T98 l1 x29_2).f1), .bool ((rd_T98 l1 x29_2).f2)] 98 (0, 0))) ∧ Aside0 (wc.heap[gb108]? = some (.cells #[.int .i64 ((rd_T45 l0_0 x8_2).f0), .string ((rd_T45 l0_0 x8_2).f1), (.slice A107_2 ((rd_T45 l0_0 x8_2).f2).length c107_2)] 45 (0, 0))) ∧ Aside0 (Below w.heap.size w wc))
       case first =>
        have H := HC62.out
        clear HC62
        by_cases c63 : ((rd_T98 l1 x29_2).f2) = true
        ·
         rw [if_pos c63] at H
         have c63b0 : ((rd_T98 l1 x29_2).f2) = true := c63
         clear c63
         (first | rw [c63b0] | (simp only [i64_w, i32_w]; rw [c63b0]) | skip)
         have H' := Aside0.mk H
         clear H
         have hnb64 := NB106_101.out
         have hnc64 := NB101_106.out
         have hnb65 := NB106_108.out
         have hnc65 := NB108_106.out
         have hcz66_0 : wc.cell? ⟨gb106, 0, none⟩ = some (.string ((rd_T98 l1 x29_2).f0)) := (blk_cell BK106.out 0).trans rfl
         have hcz66_1 : wc.cell? ⟨gb106, 1, none⟩ = some (.int .i64 ((rd_T98 l1 x29_2).f1)) := (blk_cell BK106.out 1).trans rfl
         have hcz66_2 : wc.cell? ⟨gb106, 2, none⟩ = some (.bool ((rd_T98 l1 x29_2).f2)) := (blk_cell BK106.out 2).trans rfl
         have hfz66_0 := blk_frozen BK106.out 0
         have hfz66_1 := blk_frozen BK106.out 1
         have hfz66_2 := blk_frozen BK106.out 2
         go_wp2
         go_meet
         case rel => exact ⟨_, (false), (qwa9_), (qwa14_), ⟨by have := HJ3.out; have := HK2.out; have := HJ17.out; first | omega | exact Nat.le_refl _⟩, ⟨qwa1_⟩, ⟨qwa13_⟩, ⟨qwa12_⟩, ⟨qwa0_⟩⟩
        rw [if_neg c63] at H
        have c63b0 : ((rd_T98 l1 x29_2).f2) = false := by simpa using c63
        clear c63
        (first | rw [c63b0] | (simp only [i64_w, i32_w]; rw [c63b0]) | skip)
        have H' := Aside0.mk H
        clear H
        have hnb67 := NB106_101.out
        have hnc67 := NB101_106.out
        have hnb68 := NB106_108.out
        have hnc68 := NB108_106.out
        have hcz69_0 : wc.cell? ⟨gb106, 0, none⟩ = some (.string ((rd_T98 l1 x29_2).f0)) := (blk_cell BK106.out 0).trans rfl
        have hcz69_1 : wc.cell? ⟨gb106, 1, none⟩ = some (.int .i64 ((rd_T98 l1 x29_2).f1)) := (blk_cell BK106.out 1).trans rfl
        have hcz69_2 : wc.cell? ⟨gb106, 2, none⟩ = some (.bool ((rd_T98 l1 x29_2).f2)) := (blk_cell BK106.out 2).trans rfl
        have hfz69_0 := blk_frozen BK106.out 0
        have hfz69_1 := blk_frozen BK106.out 1
        have hfz69_2 := blk_frozen BK106.out 2
        have hnb70 := NB108_101.out
        have hnc70 := NB101_108.out
        have hcz71_0 : wc.cell? ⟨gb108, 0, none⟩ = some (.int .i64 ((rd_T45 l0_0 x8_2).f0)) := (blk_cell BK108.out 0).trans rfl
        have hcz71_1 : wc.cell? ⟨gb108, 1, none⟩ = some (.string ((rd_T45 l0_0 x8_2).f1)) := (blk_cell BK108.out 1).trans rfl
        have hcz71_2 : wc.cell? ⟨gb108, 2, none⟩ = some (.slice A107_2 ((rd_T45 l0_0 x8_2).f2).length c107_2) := (blk_cell BK108.out 2).trans rfl
        have hfz71_0 := blk_frozen BK108.out 0
        have hfz71_1 := blk_frozen BK108.out 1
        have hfz71_2 := blk_frozen BK108.out 2
        go_wp2
        go_meet
        case rel => exact ⟨_, ((((rd_T45 l0_0 x8_2).f0) == 6)), (qwa9_), (qwa14_), ⟨by have := HJ3.out; have := HK2.out; have := HJ17.out; first | omega | exact Nat.le_refl _⟩, ⟨qwa1_⟩, ⟨qwa13_⟩, ⟨qwa12_⟩, ⟨qwa0_⟩⟩
       case rest =>
        clear HC62
        try clear c1
        try clear p1
        try clear q1
        try clear hx1
        try clear c2
        try clear p2
        try clear q2
        try clear c3
        try clear c4
        try clear c5
        try clear c6
        try clear p6
        try clear c7
        try clear c7b0
        try clear c7b1
        try clear c10
        try clear p10
        try clear q10
        try clear hx10
        try clear c11
        try clear c13
        try clear c13b0
        try clear c14
        try clear c14b0
        try clear c15
        try clear c15b0
        try clear c16
        try clear c16b0
        try clear c17
        try clear c17b0
        try clear c20
        try clear c24
        try clear c25
        try clear q27
        try clear c28
        try clear c29
        try clear c30
        try clear c32
        try clear c34
        try clear c35
        try clear c37
        try clear c38
        try clear c38b0
        try clear c39
        try clear c39b0
        try clear c40
        try clear c40b0
        try clear c41
        try clear c42
        try clear c44
        try clear c46
        try clear c47
        try clear c49
        try clear c51
        try clear c51b0
        try clear c52
        try clear c53
        try clear c55
        try clear c57
        try clear c58
        try clear c60
        try clear c63
        try clear c63b0
        try clear c64
        try clear p64
        try clear c65
        try clear c67
        try clear c68
        try clear c70
        try clear hcz12_0
        try clear hcz12_1
        try clear hcz21_0
        try clear hcz21_1
        try clear hcz21_2
        try clear hcz22_0
        try clear hcz22_1
        try clear hcz26_0
        try clear hcz26_1
        try clear hcz26_2
        try clear hcz31_0
        try clear hcz31_1
        try clear hcz31_2
        try clear hcz33_0
        try clear hcz33_1
        try clear hcz33_2
        try clear hcz36_0
        try clear hcz36_1
        try clear hcz36_2
        try clear hcz43_0
        try clear hcz43_1
        try clear hcz43_2
        try clear hcz45_0
        try clear hcz45_1
        try clear hcz45_2
        try clear hcz48_0
        try clear hcz48_1
        try clear hcz48_2
        try clear hcz50_0
        try clear hcz50_1
        try clear hcz50_2
        try clear hcz54_0
        try clear hcz54_1
        try clear hcz54_2
        try clear hcz56_0
        try clear hcz56_1
        try clear hcz56_2
        try clear hcz59_0
        try clear hcz59_1
        try clear hcz59_2
        try clear hcz61_0
        try clear hcz61_1
        try clear hcz61_2
        try clear hcz66_0
        try clear hcz66_1
        try clear hcz66_2
        try clear hcz69_0
        try clear hcz69_1
        try clear hcz69_2
        try clear hcz71_0
        try clear hcz71_1
        try clear hcz71_2
        try clear hcz9_0
        try clear hcz9_1
        try clear hfz12_0
        try clear hfz12_1
        try clear hfz21_0
        try clear hfz21_1
        try clear hfz21_2
        try clear hfz22_0
        try clear hfz22_1
        try clear hfz26_0
        try clear hfz26_1
        try clear hfz26_2
        try clear hfz31_0
        try clear hfz31_1
        try clear hfz31_2
        try clear hfz33_0
        try clear hfz33_1
        try clear hfz33_2
        try clear hfz36_0
        try clear hfz36_1
        try clear hfz36_2
        try clear hfz43_0
        try clear hfz43_1
        try clear hfz43_2
        try clear hfz45_0
        try clear hfz45_1
        try clear hfz45_2
        try clear hfz48_0
        try clear hfz48_1
        try clear hfz48_2
        try clear hfz50_0
        try clear hfz50_1
        try clear hfz50_2
        try clear hfz54_0
        try clear hfz54_1
        try clear hfz54_2
        try clear hfz56_0
        try clear hfz56_1
        try clear hfz56_2
        try clear hfz59_0
        try clear hfz59_1
        try clear hfz59_2
        try clear hfz61_0
        try clear hfz61_1
        try clear hfz61_2
        try clear hfz66_0
        try clear hfz66_1
        try clear hfz66_2
        try clear hfz69_0
        try clear hfz69_1
        try clear hfz69_2
        try clear hfz71_0
        try clear hfz71_1
        try clear hfz71_2
        try clear hfz9_0
        try clear hfz9_1
        try clear hx105_0
        try clear hx105_1
        try clear hx105_2
        try clear hx107_0
        try clear hx107_1
        try clear hx107_2
        try clear hx109_0
        try clear p1
        try clear p10
        try clear p105
        try clear p107
        try clear p109
        try clear p2
        try clear q1
        try clear q10
        try clear q105
        try clear q107
        try clear q109
        try clear q2
        try clear q27
        obtain ⟨kq, x59_61, rfl, HA, HJ61, BK101, BK106, BK108, HB⟩ := hcut
        cases kq with
        | zero => exact absurd HA.out (by simp [path_Get.j3])
        | succ kj61 =>
         have H := HA.out
         clear HA
         simp only [path_Get.j3] at H
         by_cases c72 : x59_61 = true
         rotate_left
         ·
          replace c72 := Bool.eq_false_iff.mpr c72
          subst c72
          have H1 : (some (0, 17)) = some (r1, r2) := by rw [if_neg (show ¬ (false = true) by decide)] at H; exact H
          clear H
          have H := H1
          clear H1
          simp only [Option.some.injEq, Prod.mk.injEq] at H
          obtain ⟨rfl, rfl⟩ := H
          go_wp2
          go_ret2
          exact ⟨qwa11_, qwa0_⟩
         subst c72
         have H1 : ((iso_Find.f l0_0 a0_1 x8_2 4 ((rd_T98 l1 x29_2).f0)).bind fun bt110 => (if bt110.2 = true then (path_Get.l0 kj61 bt110.1 l1 (l1.length : Int) (wrap64 (x29_2 + 1)) l0_0 a0_1) else (some (0, 6)))) = some (r1, r2) := by rw [if_pos rfl] at H; exact H
         clear H
         have H := H1
         clear H1
         replace H := Option.bind_eq_some_iff.mp H
         obtain ⟨⟨t110, t111⟩, A730, H⟩ := H
         replace H : (if t111 = true then (path_Get.l0 kj61 t110 l1 (l1.length : Int) (wrap64 (x29_2 + 1)) l0_0 a0_1) else (some (0, 6))) = some (r1, r2) := H
         have A73 := Aside0.mk A730
         clear A730
         by_cases c74 : t111 = true
         rotate_left
         ·
          replace c74 := Bool.eq_false_iff.mpr c74
          subst c74
          have H1 : (some (0, 6)) = some (r1, r2) := by rw [if_neg (show ¬ (false = true) by decide)] at H; exact H
          clear H
          have H := H1
          clear H1
          simp only [Option.some.injEq, Prod.mk.injEq] at H
          obtain ⟨rfl, rfl⟩ := H
          have hnb81 := NB101_106.out
          have hnc81 := NB106_101.out
          have hnb82 := NB101_108.out
          have hnc82 := NB108_101.out
          have hcz83_0 : wc.cell? ⟨gb101, 0, none⟩ = some (.slice (some ad107) l0_0.length c0_0) := (blk_cell BK101.out 0).trans rfl
          have hcz83_1 : wc.cell? ⟨gb101, 1, none⟩ = some (.int .i64 a0_1) := (blk_cell BK101.out 1).trans rfl
          have hfz83_0 := blk_frozen BK101.out 0
          have hfz83_1 := blk_frozen BK101.out 1
          have hnb84 := NB106_108.out
          have hnc84 := NB108_106.out
          have hcz85_0 : wc.cell? ⟨gb106, 0, none⟩ = some (.string ((rd_T98 l1 x29_2).f0)) := (blk_cell BK106.out 0).trans rfl
          have hcz85_1 : wc.cell? ⟨gb106, 1, none⟩ = some (.int .i64 ((rd_T98 l1 x29_2).f1)) := (blk_cell BK106.out 1).trans rfl
          have hcz85_2 : wc.cell? ⟨gb106, 2, none⟩ = some (.bool ((rd_T98 l1 x29_2).f2)) := (blk_cell BK106.out 2).trans rfl
          have hfz85_0 := blk_frozen BK106.out 0
          have hfz85_1 := blk_frozen BK106.out 1
          have hfz85_2 := blk_frozen BK106.out 2
          go_wp2_with (first | ((with_reducible refine gate_callee (f := 48) rfl ?_); refine goesL_ (some 73) rfl rfl Tryz.func48 (by kernel_rfl) rfl #[.agg #[.slice (some ad107) l0_0.length c0_0, .int .i64 a0_1], .int .i64 x8_2, .int .i64 4, .string ((rd_T98 l1 x29_2).f0)] rfl (qwa15_) ?_; (with_reducible refine (iso_Find.calls _ _ l0_0 a0_1 x8_2 4 ((rd_T98 l1 x29_2).f0) t110 false _ ?side1 ?side2 (hG.below (qwa5_)) A73.out).mono ?_); (case side1 => exact qwa22_); (case side2 => exact HC0_0.out); rintro e w86 ⟨rfl, hb⟩; refine ⟨_, rfl, ?_⟩; have n0_ := Aside0.mk (blk_below (g := gb101) (o := .cells #[.slice (some ad107) l0_0.length c0_0, .int .i64 a0_1] 24 (0, 0)) (qwa1_) hb); have n1_ := Aside0.mk (blk_below (g := gb106) (o := .cells #[.string ((rd_T98 l1 x29_2).f0), .int .i64 ((rd_T98 l1 x29_2).f1), .bool ((rd_T98 l1 x29_2).f2)] 98 (0, 0)) (qwa13_) hb); have n2_ := Aside0.mk (blk_below (g := gb108) (o := .cells #[.int .i64 ((rd_T45 l0_0 x8_2).f0), .string ((rd_T45 l0_0 x8_2).f1), .slice A107_2 ((rd_T45 l0_0 x8_2).f2).length c107_2] 45 (0, 0)) (qwa12_) hb); have n3_ := Aside0.mk (below_step (qwa0_) hb); clear BK101; clear BK106; clear BK108; clear HB; have BK101 := n0_; have BK106 := n1_; have BK108 := n2_; have HB := n3_; clear n0_ n1_ n2_ n3_; (try clear hb)))
          go_ret2
          exact ⟨qwa11_, qwa0_⟩
         subst c74
         have H1 : (path_Get.l0 kj61 t110 l1 (l1.length : Int) (wrap64 (x29_2 + 1)) l0_0 a0_1) = some (r1, r2) := by rw [if_pos rfl] at H; exact H
         clear H
         have H := H1
         clear H1
         have H' := Aside0.mk H
         clear H
         have hnb75 := NB101_106.out
         have hnc75 := NB106_101.out
         have hnb76 := NB101_108.out
         have hnc76 := NB108_101.out
         have hcz77_0 : wc.cell? ⟨gb101, 0, none⟩ = some (.slice (some ad107) l0_0.length c0_0) := (blk_cell BK101.out 0).trans rfl
         have hcz77_1 : wc.cell? ⟨gb101, 1, none⟩ = some (.int .i64 a0_1) := (blk_cell BK101.out 1).trans rfl
         have hfz77_0 := blk_frozen BK101.out 0
         have hfz77_1 := blk_frozen BK101.out 1
         have hnb78 := NB106_108.out
         have hnc78 := NB108_106.out
         have hcz79_0 : wc.cell? ⟨gb106, 0, none⟩ = some (.string ((rd_T98 l1 x29_2).f0)) := (blk_cell BK106.out 0).trans rfl
         have hcz79_1 : wc.cell? ⟨gb106, 1, none⟩ = some (.int .i64 ((rd_T98 l1 x29_2).f1)) := (blk_cell BK106.out 1).trans rfl
         have hcz79_2 : wc.cell? ⟨gb106, 2, none⟩ = some (.bool ((rd_T98 l1 x29_2).f2)) := (blk_cell BK106.out 2).trans rfl
         have hfz79_0 := blk_frozen BK106.out 0
         have hfz79_1 := blk_frozen BK106.out 1
         have hfz79_2 := blk_frozen BK106.out 2
         go_wp2_with (first | ((with_reducible refine gate_callee (f := 48) rfl ?_); refine goesL_ (some 73) rfl rfl Tryz.func48 (by kernel_rfl) rfl #[.agg #[.slice (some ad107) l0_0.length c0_0, .int .i64 a0_1], .int .i64 x8_2, .int .i64 4, .string ((rd_T98 l1 x29_2).f0)] rfl (qwa15_) ?_; (with_reducible refine (iso_Find.calls _ _ l0_0 a0_1 x8_2 4 ((rd_T98 l1 x29_2).f0) t110 true _ ?side1 ?side2 (hG.below (qwa5_)) A73.out).mono ?_); (case side1 => exact qwa22_); (case side2 => exact HC0_0.out); rintro e w80 ⟨rfl, hb⟩; refine ⟨_, rfl, ?_⟩; have n0_ := Aside0.mk (blk_below (g := gb101) (o := .cells #[.slice (some ad107) l0_0.length c0_0, .int .i64 a0_1] 24 (0, 0)) (qwa1_) hb); have n1_ := Aside0.mk (blk_below (g := gb106) (o := .cells #[.string ((rd_T98 l1 x29_2).f0), .int .i64 ((rd_T98 l1 x29_2).f1), .bool ((rd_T98 l1 x29_2).f2)] 98 (0, 0)) (qwa13_) hb); have n2_ := Aside0.mk (blk_below (g := gb108) (o := .cells #[.int .i64 ((rd_T45 l0_0 x8_2).f0), .string ((rd_T45 l0_0 x8_2).f1), .slice A107_2 ((rd_T45 l0_0 x8_2).f2).length c107_2] 45 (0, 0)) (qwa12_) hb); have n3_ := Aside0.mk (below_step (qwa0_) hb); clear BK101; clear BK106; clear BK108; clear HB; have BK101 := n0_; have BK106 := n1_; have BK108 := n2_; have HB := n3_; clear n0_ n1_ n2_ n3_; (try clear hb)))
         go_roundg kj61
         case measure => have := HJ3.out; have := HK2.out; have := HJ17.out; have := HJ61.out; omega
         case rel => exact ⟨(t110), (wrap64 (x29_2 + 1)), (qwa9_), (qwa9_), (qwa14_), ⟨by have := HJ3.out; have := HK2.out; have := HJ17.out; have := HJ61.out; omega⟩, ⟨qwa1_⟩, ⟨qwa0_⟩⟩
end Go.Proofs.YtiooacmplmcphaaGreatDoor.PX
namespace Go.Proofs.YtiooacmplmcphaaGreatDoor.PX
open RowKit YtiooacmplmcphaaGreatDoorW.PrintWords YtiooacmplmcphaaGreatDoorW.PrintLast YtiooacmplmcphaaGreatDoorW.PrintMore YtiooacmplmcphaaGreatDoor
attribute [local go_sem] max2_int min2_int max_two min_two max_three min_three max_four min_four   -- for this text's walks alone
set_option linter.unusedVariables false
set_option linter.unusedSimpArgs false
def grommetlaw16_theirs.l0 : Nat → List (S98) → List (S58) → Int → Int → Option ((List (S98)))
  | 0, _, _, _, _ => none
  | k + 1, x3, x6, x7, x8 => if x8 < x7 then (if 0 ≤ x8 then (if x8 < (x6.length : Int) then (if x3.length < 4398046511104 then (grommetlaw16_theirs.l0 k (x3 ++ [(⟨(rd_T58 x6 x8).f0, (rd_T58 x6 x8).f1, (rd_T58 x6 x8).f2⟩ : S98)]) x6 x7 (wrap64 (x8 + 1))) else (none)) else (none)) else (none)) else (some x3)
def grommetlaw16_theirs.f (k : Nat) (l0 : List (S58)) : Option ((List (S98))) := grommetlaw16_theirs.l0 k ([] : List (S98)) l0 (l0.length : Int) 0
theorem qab0_ {P : Prop} (h_ : P := by repeat (first | (with_reducible first | exact HB.out | apply below_alloc | apply pw_below_drewN | apply below_drew1) | exact HB.out)) : P := h_
theorem qab1_ {P : Prop} (h_ : P := by repeat (first | (with_reducible first | exact HB.out | apply below_alloc | apply pw_below_drewN | apply below_drew1 | refine below_set ?_ GE102.out) | exact HB.out)) : P := h_
set_option maxHeartbeats 8000000 in
set_option maxRecDepth 100000 in
theorem grommetlaw16_theirs.calls (k : Nat) (A0 : Option Addr) (c0 : Nat) (l0 : List (S58)) (r : List (S98)) (w : World) (hr0 : Kd.C k58 w A0 l0.length l0) (hc0 : l0.length ≤ c0) (hG : Glob.G w) (h : grommetlaw16_theirs.f k l0 = some r) :
  Calls Tryz.prog 26 #[.slice A0 l0.length c0] w fun e w' => ∃ v0_ : Value, e = .returned (v0_) ∧ Kd.R k98 98 w' w.heap.size (fun _ => True) v0_ r ∧ Below w.heap.size w w' := by
 have hu58 := Tryz.underlying58
 have hu98 := Tryz.underlying98
 have HR0 := Aside0.mk hr0
 have HC0 := Aside0.mk hc0
 clear hr0 hc0
 have HB := Aside0.mk (Below.refl w.heap.size w)
 have H : (grommetlaw16_theirs.l0 k ([] : List (S98)) l0 (l0.length : Int) 0) = some r := h
 clear h
 have H' := Aside0.mk H
 clear H
 go_enter Tryz.func26, Tryz.ntmps26
 go_wp2
 go_loopg [3, 8] k (fun kq v3 v8 w' => ∃ (x3_1 : List (S98)) (x8_1 : Int), v8 = .int .i64 x8_1 ∧ Aside0 (grommetlaw16_theirs.l0 kq x3_1 l0 (l0.length : Int) x8_1 = some r) ∧ Aside0 (kq ≤ k) ∧ Aside0 (Kd.R k98 98 w' w.heap.size (fun _ => True) v3 x3_1) ∧ Aside0 (Below w.heap.size w w'))
 case atStart => exact ⟨(([] : List (S98))), (0), (by first | rfl | (simp; done) | (simp [*]; done)), H', ⟨Nat.le_refl _⟩, ⟨by first | exact Kd.R_nil _ _ _ _ _ | exact Kd.N_nil _ _ _ _ _ | exact Kd.V_nil _ _ _ _ _ | exact Kd.Q_nil _ _ _ _ _ | exact Kd.S_nil _ _ _ _ _⟩, ⟨qab0_⟩⟩
 case round =>
  clear H'
  obtain ⟨x3_1, x8_1, rfl, HA, HK1, HO_3, HB⟩ := hrel
  cases gk with
  | zero => exact absurd HA.out (by simp [grommetlaw16_theirs.l0])
  | succ k1 =>
   have H := HA.out
   clear HA
   simp only [grommetlaw16_theirs.l0] at H
   by_cases c2 : x8_1 < (l0.length : Int)
   rotate_left
   ·
    rw [if_neg c2] at H
    have c2b0 : decide (x8_1 < (l0.length : Int)) = false := decide_eq_false c2
    clear c2
    obtain rfl := Option.some.inj H
    go_wp2
    go_ret
    exact ⟨_, by first | rfl | (simp [errW_none, errW_some] <;> rfl) | (simp [*, errW_none, errW_some] <;> rfl), by (with_reducible repeat (first | apply Kd.R_alloc | apply Kd.R_drewN | apply Kd.R_drew)); exact HO_3.out, qab0_⟩
   rw [if_pos c2] at H
   have c2b0 : decide (x8_1 < (l0.length : Int)) = true := decide_eq_true c2
   clear c2
   by_cases c3 : 0 ≤ x8_1
   rotate_left
   ·
    rw [if_neg c3] at H
    exact absurd H (by simp)
   rw [if_pos c3] at H
   have c3b0 : decide (0 ≤ x8_1) = true := decide_eq_true c3
   clear c3
   by_cases c4 : x8_1 < (l0.length : Int)
   rotate_left
   · exact absurd (of_decide_eq_true c2b0) c4
   rw [if_pos c4] at H
   have c4b0 : decide (x8_1 < (l0.length : Int)) = true := decide_eq_true c4
   clear c4
   by_cases c5 : x3_1.length < 4398046511104
   rotate_left
   ·
    rw [if_neg c5] at H
    exact absurd H (by simp)
   rw [if_pos c5] at H
   have LMc5 := Aside0.mk c5
   clear c5
   obtain ⟨y103, hy103⟩ : ∃ y_ : List (S98), y_ = (x3_1 ++ [(⟨(rd_T58 l0 x8_1).f0, (rd_T58 l0 x8_1).f1, (rd_T58 l0 x8_1).f2⟩ : S98)]) := ⟨_, rfl⟩
   replace H : (grommetlaw16_theirs.l0 k1 y103 l0 (l0.length : Int) (wrap64 (x8_1 + 1))) = some r := by first | (rw [hy103]; with_reducible exact H) | (have H2_ := (Option.bind_some _ _).symm.trans H; rw [hy103]; with_reducible exact H2_) | (have H2_ := (Option.bind_some _ _).symm.trans H; with_reducible exact H2_) | with_reducible exact H | (rw [hy103]; exact H) | exact H
   have Ny103 := Aside0.mk hy103
   clear hy103
   have H' := Aside0.mk H
   clear H
   have p101 : 0 ≤ (x8_1 : Int) := of_decide_eq_true (by first | (with_reducible assumption) | assumption)
   have q101 : x8_1 < (l0.length : Int) := of_decide_eq_true (by first | (with_reducible assumption) | assumption)
   obtain ⟨ad101, e101, hx101_0, hx101_1, hx101_2⟩ := at_T58 HR0.out x8_1 p101 q101
   cases e101
   replace hx101_0 := (HB.out.cell (World.block_lt_of_cell? w _ hx101_0)).trans hx101_0
   replace hx101_1 := (HB.out.cell (World.block_lt_of_cell? w _ hx101_1)).trans hx101_1
   replace hx101_2 := (HB.out.cell (World.block_lt_of_cell? w _ hx101_2)).trans hx101_2
   replace p101 := eq_true p101
   replace q101 := eq_true q101
   go_wp2_with (first | ((with_reducible refine gate_dst (N := 5) rfl ?_); refine box_event ?hg (N := 5) ?hd (cs := #[.string (⟨#[]⟩ : ByteArray), .int .i64 0, .bool false]) (t := 58) ?hr ?_; (case hd => rfl); (case hg => rfl); (case hr => first | (go_simp; done) | (go_simp; rfl)); intro gb102 hg w6 hbox hb; have n0_ := Aside0.mk (Kd.R_below (by (with_reducible repeat (first | apply Kd.R_alloc | apply Kd.R_drewN | apply Kd.R_drew)); exact HO_3.out) hb); have n1_ := Aside0.mk (below_step (qab0_) hb); have n2_ := Aside0.mk (hbox); have n3_ := Aside0.mk ((by rw [hg]; exact (below_size (qab0_)) : w.heap.size ≤ gb102)); have n4_ := Aside0.mk ((by rw [hg]; exact (below_size (qab0_)) : w.heap.size ≤ gb102)); clear HO_3; clear HB; have HO_3 := n0_; have HB := n1_; have BK102 := n2_; have GW102 := n3_; have GE102 := n4_; clear n0_ n1_ n2_ n3_ n4_; clear hb hbox hg; have hcz7_0 : w6.cell? ⟨gb102, 0, none⟩ = some (.string (⟨#[]⟩ : ByteArray)) := (blk_cell BK102.out 0).trans rfl; have hcz7_1 : w6.cell? ⟨gb102, 1, none⟩ = some (.int .i64 0) := (blk_cell BK102.out 1).trans rfl; have hcz7_2 : w6.cell? ⟨gb102, 2, none⟩ = some (.bool false) := (blk_cell BK102.out 2).trans rfl; have hfz7_0 := blk_frozen BK102.out 0; have hfz7_1 := blk_frozen BK102.out 1; have hfz7_2 := blk_frozen BK102.out 2) | ((with_reducible refine gate_builtin (b := .append) (xs := #[.tmp 12, .tmp 20]) rfl ?_); at_builtin; refine Kd.R_append k98 (w0 := w) w.heap.size rfl (.tmp 12) (.tmp 20) 50 98 (.agg #[(.string ⟨#[]⟩), (.int .i64 0), (.bool false)]) 32 rfl Tryz.underlying50 info98 rfl (by decide) (by omega) u3 x3_1 (⟨(rd_T58 l0 x8_1).f0, (rd_T58 l0 x8_1).f1, (rd_T58 l0 x8_1).f2⟩ : S98) [.string ((rd_T58 l0 x8_1).f0), .int .i64 ((rd_T58 l0 x8_1).f1), .bool ((rd_T58 l0 x8_1).f2)] (fun _ => True) (fun _ => False) rfl (by first | (go_simp; done) | (go_simp; rfl)) ?aP (fun _ hk => hk.elim) ?aF ?aO ?aB ?aS ?aL ?_; (case aP => exact k98_mkM _ _ _ (⟨(rd_T58 l0 x8_1).f0, (rd_T58 l0 x8_1).f1, (rd_T58 l0 x8_1).f2⟩ : S98)); (case aB => exact (qab1_)); (case aF => exact (fun _ _ => trivial)); (case aO => exact (by (with_reducible repeat (first | apply Kd.R_alloc | apply Kd.R_drewN | apply Kd.R_drew)); exact Kd.R_mono (Kd.R_far (p := ⟨gb102, 2, none⟩) (Kd.R_far (p := ⟨gb102, 1, none⟩) (Kd.R_far (p := ⟨gb102, 0, none⟩) (Kd.R_types HO_3.out BK102.out (by decide)) (fun _ hk => hk.2) (.string ((rd_T58 l0 x8_1).f0))) (fun _ hk => hk.2) (.int .i64 ((rd_T58 l0 x8_1).f1))) (fun _ hk => hk.2) (.bool ((rd_T58 l0 x8_1).f2))) (fun _ hk => trivial))); (case aS => exact (below_size (qab1_))); (case aL => have := LMc5.out; omega); intro v104 w8 ho hb hg hat; rw [← Ny103.out] at ho; have n0_ := Aside0.mk (blk_grown (g := gb102) (o := .cells #[.string ((rd_T58 l0 x8_1).f0), .int .i64 ((rd_T58 l0 x8_1).f1), .bool ((rd_T58 l0 x8_1).f2)] 58 (0, 0)) (by (with_reducible repeat (first | refine blk_drewN ?_ _ | refine blk_drew ?_ | refine blk_alloc ?_ _)); refine blk_put (cs := #[.string ((rd_T58 l0 x8_1).f0), .int .i64 ((rd_T58 l0 x8_1).f1), .bool false]) ?_ 2 _ rfl; (with_reducible repeat (first | refine blk_drewN ?_ _ | refine blk_drew ?_ | refine blk_alloc ?_ _)); refine blk_put (cs := #[.string ((rd_T58 l0 x8_1).f0), .int .i64 0, .bool false]) ?_ 1 _ rfl; (with_reducible repeat (first | refine blk_drewN ?_ _ | refine blk_drew ?_ | refine blk_alloc ?_ _)); refine blk_put (cs := #[.string (⟨#[]⟩ : ByteArray), .int .i64 0, .bool false]) ?_ 0 _ rfl; (with_reducible repeat (first | refine blk_drewN ?_ _ | refine blk_drew ?_ | refine blk_alloc ?_ _)); exact BK102.out) hg (Kd.R_ne HO_3.out BK102.out (by decide))); have n1_ := Aside0.mk (hb); have n2_ := Aside0.mk (ho); clear BK102; clear HB; clear HO_3; have BK102 := n0_; have HB := n1_; have HO105 := n2_; clear n0_ n1_ n2_; clear ho hb hg hat))
   go_roundg k1
   case measure => have := HK1.out; omega
   case rel => exact ⟨(y103), (wrap64 (x8_1 + 1)), (by first | rfl | (simp; done) | (simp [*]; done)), H', ⟨by have := HK1.out; omega⟩, ⟨by (with_reducible repeat (first | apply Kd.R_alloc | apply Kd.R_drewN | apply Kd.R_drew)); exact HO105.out⟩, ⟨qab1_⟩⟩
end Go.Proofs.YtiooacmplmcphaaGreatDoor.PX
namespace Go.Proofs.YtiooacmplmcphaaGreatDoor.Paths
open RowKit YtiooacmplmcphaaGreatDoor.PX YtiooacmplmcphaaGreatDoor.Plug YtiooacmplmcphaaGreatDoor.Utf YtiooacmplmcphaaGreatDoor.Nums YtiooacmplmcphaaGreatDoorW.PrintWords YtiooacmplmcphaaGreatDoorW.PrintLast
abbrev St := S98
def keyOk (x : St) : Prop := x.f2 = false → (keyT x.f0.data.toList).2 = 0
def stepT (f : Bool) (x : St) : List UInt8 := if x.f2 = true then 91 :: (Lib.itoa x.f1 ++ [93]) else (if f then [] else [46]) ++ (keyT x.f0.data.toList).1
def rend : Bool → List St → List UInt8
 | _, [] => []
 | f, x :: xs => stepT f x ++ rend false xs
theorem fmtF_iff : ∀ (l : List St) (f : Bool) (acc : List UInt8), (fmtF f l acc).2 = 0 → (∀ x ∈ l, keyOk x) ∧ fmtF f l acc = (acc ++ rend f l, 0)
 | [], f, acc, _ => ⟨by simp, by simp [fmtF, rend]⟩
 | x :: l, f, acc, h => by
  rw [fmtF] at h ⊢
  by_cases c : x.f2 = true
  ·
   rw [if_pos c] at h ⊢
   obtain ⟨h1, h2⟩ := fmtF_iff l false _ h
   refine ⟨fun y hy => ?_, by rw [h2, rend, stepT, if_pos c, List.append_assoc]⟩
   rcases List.mem_cons.1 hy with rfl | hy
   · intro e; rw [e] at c; cases c
   · exact h1 y hy
  rw [if_neg c] at h ⊢
  by_cases k : (keyT x.f0.data.toList).2 ≠ 0
  · rw [if_pos k] at h; exact absurd h k
  rw [if_neg k] at h ⊢
  obtain ⟨h1, h2⟩ := fmtF_iff l false _ h
  refine ⟨fun y hy => ?_, by rw [h2, rend, stepT, if_neg c, List.append_assoc]⟩
  rcases List.mem_cons.1 hy with rfl | hy
  · intro _; exact Classical.not_not.1 k
  · exact h1 y hy
theorem fmtF_of : ∀ (l : List St) (f : Bool) (acc : List UInt8), (∀ x ∈ l, keyOk x) → fmtF f l acc = (acc ++ rend f l, 0)
 | [], f, acc, _ => by simp [fmtF, rend]
 | x :: l, f, acc, h => by
  have h1 := fmtF_of l false
  have h2 := h x (by simp)
  rw [fmtF]
  by_cases c : x.f2 = true
  · rw [if_pos c, h1 _ (fun y hy => h y (by simp [hy])), rend, stepT, if_pos c, List.append_assoc]
  rw [if_neg c, if_neg (fun e => e (h2 (Bool.eq_false_iff.2 c))), h1 _ (fun y hy => h y (by simp [hy])), rend, stepT, if_neg c, List.append_assoc]
theorem fmtB_ok (l : List St) (h : (fmtB l).2 = 0) : l.length ≤ 64 ∧ (∀ x ∈ l, okStep x = true) ∧ (∀ x ∈ l, keyOk x) ∧ fmtB l = (rend true l, 0) := by
 unfold fmtB at h ⊢
 by_cases a : 64 < l.length
 · rw [if_pos a] at h; cases h
 rw [if_neg a] at h ⊢
 by_cases b : l.all okStep = true
 rotate_left
 · rw [if_neg b] at h; cases h
 rw [if_pos b] at h ⊢
 obtain ⟨h1, h2⟩ := fmtF_iff _ _ _ h
 exact ⟨by omega, List.all_eq_true.1 b, h1, h2⟩
theorem fmtB_of (l : List St) (h0 : l.length ≤ 64) (h1 : ∀ x ∈ l, okStep x = true) (h2 : ∀ x ∈ l, keyOk x) : fmtB l = (rend true l, 0) := by
 unfold fmtB
 rw [if_neg (by omega), if_pos (List.all_eq_true.2 h1), fmtF_of _ _ _ h2]; rfl
theorem dec_len : ∀ (k u : Nat), u < 10 ^ (k + 1) → (Lib.decDigits u).length ≤ k + 1
 | 0, u, h => by rw [Lib.decDigits, dif_pos (by simpa using h)]; simp
 | k + 1, u, h => by
  rw [Lib.decDigits]
  by_cases c : u < 10
  · rw [dif_pos c]; simp
  rw [dif_neg c, List.length_append, List.length_singleton]
  have := dec_len k (u / 10) (by rw [Nat.div_lt_iff_lt_mul (by decide), ← Nat.pow_succ]; exact h)
  omega
end Go.Proofs.YtiooacmplmcphaaGreatDoor.Paths
namespace Go.Proofs.YtiooacmplmcphaaGreatDoor.Graphs
open RowKit YtiooacmplmcphaaGreatDoor YtiooacmplmcphaaGreatDoor.PX YtiooacmplmcphaaGreatDoor.Plug YtiooacmplmcphaaGreatDoor.Mapk YtiooacmplmcphaaGreatDoor.Paths YtiooacmplmcphaaGreatDoorW.PrintWords YtiooacmplmcphaaGreatDoorW.PrintLast
abbrev Nd := S45
theorem rd_set_ (u : List Int) (k j v : Int) (hk0 : 0 ≤ k) (hk1 : k < (u.length : Int)) (hj : 0 ≤ j) : rd (u.set k.toNat v) j = if j = k then v else rd u j := by
 unfold rd
 rw [List.getD_eq_getElem?_getD, List.getD_eq_getElem?_getD, List.getElem?_set]
 by_cases h : j = k
 rotate_left
 · rw [if_neg (by omega), if_neg h]
 subst h; rw [if_pos rfl, if_pos rfl, if_pos (by omega)]; rfl
theorem bumps_rd : ∀ (ks : List Int) (u : List Int) (j : Int), (∀ k ∈ ks, 0 ≤ k ∧ k < (u.length : Int)) → 0 ≤ j → 0 ≤ rd u j → rd u j + ks.length < 4611686018427387904 → rd (ks.foldl bump u) j = rd u j + (ks.count j : Nat)
 | [], u, j, _, _, _, _ => by simp
 | k :: ks, u, j, hk, hj, h0, h1 => by
  obtain ⟨k0, k1⟩ := hk k List.mem_cons_self
  simp only [List.length_cons] at h1
  have e : rd (bump u k) j = if j = k then rd u j + 1 else rd u j := by
   unfold bump
   rw [rd_set_ u k j _ k0 k1 hj]
   split
   · rename_i e; subst e; unfold wrap64; omega
   · rfl
  rw [List.foldl_cons, bumps_rd ks (bump u k) j (fun x hx => by rw [bump_len]; exact hk x (List.mem_cons_of_mem _ hx)) hj (by rw [e]; split <;> omega) (by rw [e]; split <;> omega), e, List.count_cons]
  by_cases h : j = k
  · subst h; simp; omega
  have : (k == j) = false := beq_eq_false_iff_ne.2 (fun q => h q.symm)
  simp [h, this]
def cntL (r : List Nd) (j : Int) : Nat := (r.map fun n => n.f2.count j).sum
def allL (r : List Nd) : Nat := (r.map fun n => n.f2.length).sum
theorem usesB_rd (l : List Nd) : ∀ (r : List Nd) (u v : List Int) (j : Int), usesB l r u = some v → u.length = l.length → 0 ≤ j → 0 ≤ rd u j → rd u j + allL r < 4611686018427387904 → rd v j = rd u j + (cntL r j : Nat)
 | [], u, v, j, h, _, _, _, _ => by rw [usesB] at h; cases h; simp [cntL]
 | n :: r, u, v, j, h, hu, hj, h0, h1 => by
  rw [usesB] at h
  by_cases c : isN l n = true
  rotate_left
  · rw [if_neg c] at h; cases h
  rw [if_pos c] at h
  have ha : allL (n :: r) = n.f2.length + allL r := by simp [allL]
  have hc : cntL (n :: r) j = n.f2.count j + cntL r j := by simp [cntL]
  have hcl : n.f2.count j ≤ n.f2.length := List.count_le_length
  have e := bumps_rd n.f2 u j (fun k hk => by rw [hu]; exact isN_range c k hk) hj h0 (by omega)
  rw [usesB_rd l r _ v j h (by rw [bumps_len]; exact hu) hj (by omega) (by omega), e, hc]
  omega
theorem usesB_some (l : List Nd) : ∀ (r : List Nd) (u : List Int), (∀ n ∈ r, isN l n = true) → ∃ v, usesB l r u = some v
 | [], u, _ => ⟨u, rfl⟩
 | n :: r, u, h => by
  rw [usesB, if_pos (h n List.mem_cons_self)]
  exact usesB_some l r _ (fun m hm => h m (List.mem_cons_of_mem _ hm))
theorem soleB_iff (u : List Int) : ∀ r : List Nd, soleB u r = true ↔ ∀ n ∈ r, ∀ k ∈ keysB n.f0 n.f2, rd u k ≤ 1
 | [] => by simp [soleB]
 | n :: r => by
  rw [soleB]
  by_cases c : soleN u n = true
  ·
   rw [if_pos c]
   refine ⟨fun h => (by cases h), fun h => ?_⟩
   unfold soleN at c
   obtain ⟨k, hk, hd⟩ := List.any_eq_true.1 c
   have := h n List.mem_cons_self k hk
   have := of_decide_eq_true hd
   omega
  rw [if_neg c, soleB_iff u r]
  have c2 := List.any_eq_false.1 (Bool.eq_false_iff.2 c)
  refine ⟨fun h m hm => ?_, fun h m hm => h m (List.mem_cons_of_mem _ hm)⟩
  rcases List.mem_cons.1 hm with e | e
  ·
   subst e
   intro k hk
   have := c2 k hk
   simp at this
   omega
  · exact h m e
theorem all_le (l : List Nd) (N : Nat) (h : ∀ m ∈ l, m.f2.length ≤ N) : allL l ≤ l.length * N := by
 induction l with
 | nil => simp [allL]
 | cons n r ih =>
  have := ih (fun m hm => h m (List.mem_cons_of_mem _ hm))
  have := h n List.mem_cons_self
  simp only [allL, List.map_cons, List.sum_cons, List.length_cons] at *
  rw [Nat.add_mul]; omega
structure RightG (l : List Nd) (root : Int) : Prop where
 ne : l.length ≠ 0
 le : l.length ≤ 4096
 r0 : 0 ≤ root
 r1 : root < (l.length : Int)
 is : ∀ n ∈ l, isN l n = true
 sole : ∀ n ∈ l, ∀ k ∈ keysB n.f0 n.f2, cntL l k + (if k = root then 1 else 0) ≤ 1
theorem sizes_iff {l : List Nd} (hs : sizesB l = true) : ∀ m ∈ l, m.f1.size ≤ 1099511627775 ∧ m.f2.length ≤ 1099511627776 := fun m hm => by
 have := List.all_eq_true.1 hs m hm
 simp at this
 exact this
theorem right_iff (l : List Nd) (root : Int) (hs : sizesB l = true) : rightB l root = true ↔ RightG l root := by
 unfold rightB
 by_cases k0 : l.length = 0
 · rw [if_pos k0]; exact ⟨fun h => (by cases h), fun h => absurd k0 h.ne⟩
 rw [if_neg k0]
 by_cases k1 : 4096 < l.length
 · rw [if_pos k1]; exact ⟨fun h => (by cases h), fun h => absurd h.le (by omega)⟩
 rw [if_neg k1]
 by_cases k2 : root < 0
 · rw [if_pos k2]; exact ⟨fun h => (by cases h), fun h => absurd h.r0 (by omega)⟩
 rw [if_neg k2]
 by_cases k3 : (l.length : Int) ≤ root
 · rw [if_pos k3]; exact ⟨fun h => (by cases h), fun h => absurd h.r1 (by omega)⟩
 rw [if_neg k3]
 have hal : allL l ≤ 4096 * 1099511627776 := Nat.le_trans (all_le l _ (fun m hm => (sizes_iff hs m hm).2)) (Nat.mul_le_mul_right _ (by omega))
 have e0 : ∀ j : Int, 0 ≤ j → rd (bump (List.replicate l.length 0) root) j = if j = root then 1 else 0 := fun j hj => by
  have := bumps_rd [root] (List.replicate l.length 0) j (fun k hk => by rw [List.mem_singleton.1 hk, List.length_replicate]; omega) hj (by unfold rd; simp [List.getD_eq_getElem?_getD, List.getElem?_replicate]; split <;> simp) (by unfold rd; simp [List.getD_eq_getElem?_getD, List.getElem?_replicate]; split <;> simp)
  rw [List.foldl_cons, List.foldl_nil] at this
  rw [this]
  have z : rd (List.replicate l.length 0) j = 0 := by unfold rd; simp [List.getD_eq_getElem?_getD, List.getElem?_replicate]; split <;> simp
  rw [z]
  by_cases e : j = root
  · subst e; simp
  have : (root == j) = false := beq_eq_false_iff_ne.2 (fun q => e q.symm)
  simp [e, List.count_cons, this]
 have e1 : ∀ v, usesB l l (bump (List.replicate l.length 0) root) = some v → ∀ j : Int, 0 ≤ j → rd v j = (if j = root then 1 else 0) + (cntL l j : Nat) := fun v hv j hj => by
  have := usesB_rd l l _ v j hv (by rw [bump_len, List.length_replicate]) hj (by rw [e0 j hj]; split <;> omega) (by rw [e0 j hj]; split <;> omega)
  rw [this, e0 j hj]
 constructor
 ·
  intro h
  split at h
  · cases h
  ·
   rename_i u hu
   refine ⟨k0, by omega, by omega, by omega, usesB_all l l _ u hu, fun n hn k hk => ?_⟩
   have h1 := (soleB_iff u l).1 h n hn k hk
   have h2 := isN_range (usesB_all l l _ u hu n hn) k (keys_sub _ _ k hk)
   rw [e1 u hu k h2.1] at h1
   split at h1 <;> rename_i h3
   · rw [if_pos h3]; omega
   · rw [if_neg h3]; omega
 ·
  intro h
  obtain ⟨u, hu⟩ := usesB_some l l (bump (List.replicate l.length 0) root) h.is
  rw [hu]
  refine (soleB_iff u l).2 fun n hn k hk => ?_
  have h1 := h.sole n hn k hk
  have h2 := isN_range (h.is n hn) k (keys_sub _ _ k hk)
  rw [e1 u hu k h2.1]
  split at h1 <;> rename_i h3
  · rw [if_pos h3]; omega
  · rw [if_neg h3]; omega
def odds : List Int → List Int
 | _ :: b :: r => b :: odds r
 | _ => []
def valsB (kd : Int) (kids : List Int) : List Int := if kd = 6 then odds kids else kids
theorem evens_odds (k : Int) : ∀ l : List Int, l.length % 2 = 0 → l.count k = (evens l).count k + (odds l).count k
 | [], _ => rfl
 | [_], h => by simp at h
 | a :: b :: r, h => by
  have := evens_odds k r (by simp only [List.length_cons] at h; omega)
  simp only [evens, odds, List.count_cons, this]
  omega
theorem metB_keys (l : List Nd) : ∀ (ks : List Int) (met : List (Int × ByteArray)), metB l ks met = true → (ks.map (keyIs l)).Nodup ∧ ∀ k ∈ ks, scB (rd_T45 l k).f0 = true ∧ keyIs l k ∉ met
 | [], _, _ => ⟨List.nodup_nil, fun k h => by simp at h⟩
 | k :: ks, met, h => by
  rw [metB] at h
  by_cases h1 : scB (rd_T45 l k).f0 = true
  rotate_left
  · rw [if_neg h1] at h; cases h
  rw [if_pos h1] at h
  by_cases h2 : met.any (fun y => decide (y = keyIs l k)) = true
  · rw [if_pos h2] at h; cases h
  rw [if_neg h2] at h
  obtain ⟨a, b⟩ := metB_keys l ks _ h
  have h3 : keyIs l k ∉ met := fun hm => h2 (List.any_eq_true.2 ⟨_, hm, decide_eq_true rfl⟩)
  refine ⟨?_, fun x hx => ?_⟩
  ·
   rw [List.map_cons, List.nodup_cons]
   refine ⟨fun hm => ?_, a⟩
   obtain ⟨y, hy, e⟩ := List.mem_map.1 hm
   exact (b y hy).2 (e ▸ List.mem_cons_self)
  ·
   rcases List.mem_cons.1 hx with e | e
   · subst e; exact ⟨h1, h3⟩
   · exact ⟨(b x e).1, fun hm => (b x e).2 (List.mem_cons_of_mem _ hm)⟩
structure NodeG (l : List Nd) (n : Nd) : Prop where
 k1 : 1 ≤ n.f0
 k6 : n.f0 ≤ 6
 text : textB n.f0 n.f1 = true
 scal : n.f0 ≤ 4 → n.f2 = []
 even : n.f0 = 6 → n.f2.length % 2 = 0
 range : ∀ k ∈ n.f2, 0 ≤ k ∧ k < (l.length : Int)
 nodup : ((keysB n.f0 n.f2).map (keyIs l)).Nodup
 keys : ∀ k ∈ keysB n.f0 n.f2, 1 ≤ (rd_T45 l k).f0 ∧ (rd_T45 l k).f0 ≤ 4
theorem isN_node {l : List Nd} {n : Nd} (h : isN l n = true) : NodeG l n := by
 have hr := isN_range h
 unfold isN nodeB at h
 split at h; · cases h
 split at h; · cases h
 split at h; · cases h
 split at h; · cases h
 split at h; · cases h
 rename_i h1 h2 h3 h4 h5
 obtain ⟨a, b⟩ := metB_keys l _ _ h
 have h4' := Bool.eq_false_iff.2 h4
 rw [Bool.or_eq_false_iff] at h4'
 refine ⟨by omega, by omega, by simpa using h3, fun h => ?_, fun h => ?_, hr, a, fun k hk => ?_⟩
 ·
  have h6 := h4'.1
  have : scB n.f0 = true := by unfold scB; rw [decide_eq_true (by omega : 1 ≤ n.f0), decide_eq_true h]; rfl
  rw [this, Bool.true_and, decide_eq_false_iff_not] at h6
  exact List.eq_nil_of_length_eq_zero (by omega)
 ·
  have h6 := h4'.2
  rw [h] at h6
  simp at h6
  exact h6
 ·
  have := (b k hk).1
  unfold scB at this
  rw [Bool.and_eq_true, decide_eq_true_eq, decide_eq_true_eq] at this
  exact this
def firstF (l : List Nd) : List Int → Int × ByteArray → Option (Int × Int)
 | a :: b :: r, x => if keyIs l a = x then some (a, b) else firstF l r x
 | _, _ => none
theorem firstF_none (l : List Nd) : ∀ (ks : List Int) (x : Int × ByteArray), x ∉ (evens ks).map (keyIs l) → firstF l ks x = none
 | [], x, _ => rfl
 | [_], x, _ => rfl
 | a :: b :: r, x, h => by
  rw [evens, List.map_cons, List.mem_cons] at h
  rw [firstF, if_neg (fun e => h (.inl e.symm))]
  exact firstF_none l r x (fun hm => h (.inr hm))
theorem entF_first (l : List Nd) : ∀ (ks : List Int) (F : Int × ByteArray → Option (Int × Int)) (x : Int × ByteArray), ((evens ks).map (keyIs l)).Nodup →
  entF l ks F x = match firstF l ks x with | some p => some p | none => F x
 | [], F, x, _ => rfl
 | [_], F, x, _ => rfl
 | a :: b :: r, F, x, h => by
  rw [evens, List.map_cons, List.nodup_cons] at h
  rw [entF, entF_first l r _ x h.2, firstF]
  by_cases e : keyIs l a = x
  rotate_left
  · rw [if_neg e, if_neg (fun q => e q.symm)]
  rw [if_pos e]
  subst e
  rw [firstF_none l r _ h.1]
  simp
theorem firstF_mem (l : List Nd) : ∀ (ks : List Int) (x : Int × ByteArray) (p : Int × Int), firstF l ks x = some p → p.1 ∈ evens ks ∧ p.2 ∈ odds ks ∧ keyIs l p.1 = x
 | [], x, p, h => by cases h
 | [_], x, p, h => by cases h
 | a :: b :: r, x, p, h => by
  rw [firstF] at h
  by_cases e : keyIs l a = x
  · rw [if_pos e] at h; cases h; exact ⟨by simp [evens], by simp [odds], e⟩
  rw [if_neg e] at h
  obtain ⟨h1, h2, h3⟩ := firstF_mem l r x p h
  exact ⟨by rw [evens]; exact List.mem_cons_of_mem _ h1, by rw [odds]; exact List.mem_cons_of_mem _ h2, h3⟩
theorem odds_mem : ∀ (l : List Int) (k : Int), k ∈ odds l → k ∈ l
 | [], k, h => by simp [odds] at h
 | [_], k, h => by simp [odds] at h
 | a :: b :: r, k, h => by
  rw [odds, List.mem_cons] at h
  rcases h with h | h
  · exact h ▸ List.mem_cons_of_mem _ List.mem_cons_self
  · exact List.mem_cons_of_mem _ (List.mem_cons_of_mem _ (odds_mem r k h))
theorem vals_sub (kd : Int) (kids : List Int) : ∀ k ∈ valsB kd kids, k ∈ kids := by
 unfold valsB
 split
 · exact odds_mem kids
 · exact fun k h => h
theorem sum_mem {f : Nd → Nat} : ∀ (r : List Nd) (n : Nd), n ∈ r → f n ≤ (r.map f).sum
 | [], n, h => by simp at h
 | m :: r, n, h => by
  rw [List.map_cons, List.sum_cons]
  rcases List.mem_cons.1 h with e | e
  · subst e; omega
  · have := sum_mem (f := f) r n e; omega
theorem cnt_split (r : List Nd) (k : Int) (h : ∀ n ∈ r, n.f0 = 6 → n.f2.length % 2 = 0) : cntL r k = (r.map fun n => (keysB n.f0 n.f2).count k).sum + (r.map fun n => (valsB n.f0 n.f2).count k).sum := by
 induction r with
 | nil => rfl
 | cons n r ih =>
  have h1 := ih (fun m hm => h m (List.mem_cons_of_mem _ hm))
  have h2 : n.f2.count k = (keysB n.f0 n.f2).count k + (valsB n.f0 n.f2).count k := by
   unfold keysB valsB
   by_cases e : n.f0 = 6
   rotate_left
   · rw [if_neg e, if_neg e]; simp
   rw [if_pos e, if_pos e]; exact evens_odds k _ (h n List.mem_cons_self e)
  simp only [cntL, List.map_cons, List.sum_cons] at *
  omega
theorem RightG.node {l : List Nd} {root : Int} (h : RightG l root) {n : Nd} (hn : n ∈ l) : NodeG l n := isN_node (h.is n hn)
theorem RightG.go {l : List Nd} {root at_ : Int} (h : RightG l root) {n : Nd} (hn : n ∈ l) (hv : at_ ∈ valsB n.f0 n.f2) : RightG l at_ := by
 have hr := (h.node hn).range at_ (vals_sub _ _ _ hv)
 refine ⟨h.ne, h.le, hr.1, hr.2, h.is, fun m hm k hk => ?_⟩
 have h1 := h.sole m hm k hk
 by_cases e : k = at_
 rotate_left
 · rw [if_neg e]; split at h1 <;> omega
 subst e
 have hs := cnt_split l k (fun n hn => (h.node hn).even)
 have a1 := sum_mem (f := fun n => (keysB n.f0 n.f2).count k) l m hm
 have a2 := sum_mem (f := fun n => (valsB n.f0 n.f2).count k) l n hn
 have b1 := List.count_pos_iff.2 hk
 have b2 := List.count_pos_iff.2 hv
 omega
def stepG (l : List Nd) (at_ : Int) (x : St) : Int × Int :=
 if x.f2 = true then (if (rd_T45 l at_).f0 = 5 then (if x.f1 < ((rd_T45 l at_).f2.length : Int) then (rd (rd_T45 l at_).f2 x.f1, 0) else (0, 6)) else (0, 17))
 else if (rd_T45 l at_).f0 = 6 then (match firstF l (rd_T45 l at_).f2 (4, x.f0) with | some p => (p.2, 0) | none => (0, 6)) else (0, 17)
def walkG (l : List Nd) : List St → Int → Int × Int
 | [], at_ => (at_, 0)
 | x :: r, at_ => if (stepG l at_ x).2 = 0 then walkG l r (stepG l at_ x).1 else (0, (stepG l at_ x).2)
theorem walkG_append (l : List Nd) : ∀ (a b : List St) (at_ : Int), walkG l (a ++ b) at_ = if (walkG l a at_).2 = 0 then walkG l b (walkG l a at_).1 else (0, (walkG l a at_).2)
 | [], b, at_ => by simp [walkG]
 | x :: a, b, at_ => by
  rw [List.cons_append, walkG, walkG]
  by_cases h : (stepG l at_ x).2 = 0
  rotate_left
  · rw [if_neg h, if_neg h, if_neg h]
  rw [if_pos h, if_pos h]; exact walkG_append l a b _
theorem stepG_right {l : List Nd} {at_ : Int} (h : RightG l at_) (x : St) (hx : x.f2 = true → 0 ≤ x.f1) (h0 : (stepG l at_ x).2 = 0) : RightG l (stepG l at_ x).1 := by
 have hm := rd_mem l at_ h.r0 h.r1
 refine h.go hm ?_
 unfold stepG at *
 by_cases c : x.f2 = true
 rotate_left
 ·
  rw [if_neg c] at h0 ⊢
  by_cases d : (rd_T45 l at_).f0 = 6
  rotate_left
  · rw [if_neg d] at h0; cases h0
  rw [if_pos d] at h0 ⊢
  unfold valsB
  rw [if_pos d]
  split at h0
  ·
   rename_i p hp
   exact (firstF_mem l _ _ p hp).2.1
  · cases h0
 rw [if_pos c] at h0 ⊢
 by_cases d : (rd_T45 l at_).f0 = 5
 rotate_left
 · rw [if_neg d] at h0; cases h0
 rw [if_pos d] at h0 ⊢
 by_cases e : x.f1 < ((rd_T45 l at_).f2.length : Int)
 rotate_left
 · rw [if_neg e] at h0; cases h0
 rw [if_pos e]
 unfold valsB
 rw [if_neg (by omega)]
 have := hx c
 show rd _ _ ∈ _
 unfold rd
 rw [List.getD_eq_getElem?_getD, List.getElem?_eq_getElem (by omega : x.f1.toNat < (rd_T45 l at_).f2.length)]
 exact List.getElem_mem _
theorem walkG_right {l : List Nd} : ∀ (k : List St) (at_ : Int), RightG l at_ → (∀ x ∈ k, x.f2 = true → 0 ≤ x.f1) → (walkG l k at_).2 = 0 → RightG l (walkG l k at_).1
 | [], at_, h, _, _ => h
 | x :: k, at_, h, hx, h0 => by
  rw [walkG] at h0 ⊢
  by_cases c : (stepG l at_ x).2 = 0
  rotate_left
  · rw [if_neg c] at h0; exact absurd h0 c
  rw [if_pos c] at h0 ⊢
  exact walkG_right k _ (stepG_right h x (hx x List.mem_cons_self) c) (fun y hy => hx y (List.mem_cons_of_mem _ hy)) h0
end Go.Proofs.YtiooacmplmcphaaGreatDoor.Graphs
namespace Go.Proofs.YtiooacmplmcphaaGreatDoor.Plain
open RowKit YtiooacmplmcphaaGreatDoor.Nums YtiooacmplmcphaaGreatDoor.PX YtiooacmplmcphaaGreatDoor.Utf YtiooacmplmcphaaGreatDoor.Plug YtiooacmplmcphaaGreatDoorW.PrintWords YtiooacmplmcphaaGreatDoorW.PrintLast
def digN (c : Nat) : Bool := decide (48 ≤ c) && decide (c ≤ 57)
end Go.Proofs.YtiooacmplmcphaaGreatDoor.Plain
namespace Go.Proofs.YtiooacmplmcphaaGreatDoor.Graphs
open RowKit YtiooacmplmcphaaGreatDoor YtiooacmplmcphaaGreatDoor.PX YtiooacmplmcphaaGreatDoor.Plug YtiooacmplmcphaaGreatDoor.Mapk YtiooacmplmcphaaGreatDoor.Paths YtiooacmplmcphaaGreatDoorW.PrintWords YtiooacmplmcphaaGreatDoorW.PrintLast YtiooacmplmcphaaGreatDoorW.PrintMore
theorem w1 (a : Nat) (h : a ≤ 2199023255552) : wrap64 ((a : Int) + 1) = ((a + 1 : Nat) : Int) := by unfold wrap64; omega
theorem rdOf_set (d : Bool) (u : List Bool) (k : Int) (j : Int) (v : Bool) (hk0 : 0 ≤ k) (hk1 : k < (u.length : Int)) (hj : 0 ≤ j) : rdOf d (u.set k.toNat v) j = if j = k then v else rdOf d u j := by
 unfold rdOf
 rw [List.getD_eq_getElem?_getD, List.getD_eq_getElem?_getD, List.getElem?_set]
 by_cases h : j = k
 rotate_left
 · rw [if_neg (by omega), if_neg h]
 subst h; rw [if_pos rfl, if_pos rfl, if_pos (by omega)]; rfl
structure Cnt (n : Nat) (u : List Int) (f : List Bool) (c : Int → Nat) (m : Int → Bool) (T : Nat) : Prop where
 lu : u.length = n
 lf : f.length = n
 u : ∀ j : Int, 0 ≤ j → j < (n : Int) → rd u j = (c j : Nat)
 f : ∀ j : Int, 0 ≤ j → j < (n : Int) → rdOf false f j = m j
 c : ∀ j : Int, c j ≤ T
theorem Cnt.key {n : Nat} {u : List Int} {f : List Bool} {c : Int → Nat} {m : Int → Bool} {T : Nat} (h : Cnt n u f c m T) (k : Int) (k0 : 0 ≤ k) (k1 : k < (n : Int)) :
  Cnt n u (f.set k.toNat true) c (fun j => m j || decide (j = k)) T := by
 refine ⟨h.lu, by rw [List.length_set]; exact h.lf, h.u, fun j j0 j1 => ?_, h.c⟩
 rw [rdOf_set false f k j true k0 (by rw [h.lf]; exact k1) j0, h.f j j0 j1]
 by_cases e : j = k
 · rw [if_pos e, decide_eq_true e, Bool.or_true]
 rw [if_neg e, decide_eq_false e, Bool.or_false]
theorem bytes_eq {a b : ByteArray} : a.toList = b.toList ↔ a = b := by
  refine ⟨fun h => ByteArray.ext (by rw [Lib.toList_data, Lib.toList_data] at h; have := congrArg List.toArray h; simpa using this), fun h => by rw [h]⟩
def findG (l : List Nd) (at_ : Int) (x : Int × ByteArray) : Int × Bool := if (rd_T45 l at_).f0 = 6 then (match firstF l (rd_T45 l at_).f2 x with | some p => (p.2, true) | none => (0, false)) else (0, false)
theorem findB_eq (l : List Nd) (root at_ : Int) (x : Int × ByteArray) (h : RightG l at_) (hr : rightB l root = true) : findB l root at_ x.1 x.2 = findG l at_ x := by
 have hm := rd_mem l at_ h.r0 h.r1
 have h1 := h.r1
 have h0 := h.r0
 unfold findB findG
 rw [if_neg (by rw [hr]; simp), if_neg (by omega), if_neg (by omega)]
 by_cases c : (rd_T45 l at_).f0 = 6
 rotate_left
 · rw [if_pos c, if_neg c]
 rw [if_neg (by omega), if_pos c, entF_first l _ _ _ (by have := (h.node hm).nodup; unfold keysB at this; rwa [if_pos c] at this)]
 split <;> rename_i p hp <;> split at hp
 · rename_i q hq; cases hp; rw [hq]
 · cases hp
 · cases hp
 · rename_i hq; rw [hq]
theorem prog_find (l : List Nd) (root at_ : Int) (x : Int × ByteArray) (hs : sizesB l = true) (h : RightG l at_) (hr : rightB l root = true) (hx : (-9223372036854775808 ≤ x.1 ∧ x.1 ≤ 9223372036854775807) ∧ x.2.size ≤ 1099511627776) : iso_Find.f l root at_ x.1 x.2 = some (findG l at_ x) := by
 unfold iso_Find.f
 rw [if_pos ⟨hs, hx.1, hx.2⟩, findB_eq l root at_ x h hr]
def getG (l : List Nd) (root : Int) (k : List St) : Int × Int := if (fmtB k).2 = 0 then (if rightB l root = true then walkG l k root else (0, 1)) else (0, 1)
theorem stepG_key (l : List Nd) (at_ : Int) (x : St) (h : x.f2 = false) : stepG l at_ x = if (rd_T45 l at_).f0 = 6 then (if (findG l at_ (4, x.f0)).2 = true then ((findG l at_ (4, x.f0)).1, 0) else (0, 6)) else (0, 17) := by
 unfold stepG findG
 rw [if_neg (by rw [h]; simp)]
 by_cases c : (rd_T45 l at_).f0 = 6
 rotate_left
 · rw [if_neg c, if_neg c]
 rw [if_pos c, if_pos c, if_pos c]
 cases firstF l (rd_T45 l at_).f2 (4, x.f0) <;> rfl
theorem stepG_idx (l : List Nd) (at_ : Int) (x : St) (h : x.f2 = true) : stepG l at_ x = if (rd_T45 l at_).f0 = 5 then (if x.f1 < ((rd_T45 l at_).f2.length : Int) then (rd (rd_T45 l at_).f2 x.f1, 0) else (0, 6)) else (0, 17) := by
 unfold stepG
 rw [if_pos h]
end Go.Proofs.YtiooacmplmcphaaGreatDoor.Graphs
namespace Go.Proofs.YtiooacmplmcphaaGreatDoor.Paths
open RowKit YtiooacmplmcphaaGreatDoor.PX YtiooacmplmcphaaGreatDoor.Plug YtiooacmplmcphaaGreatDoor.Utf YtiooacmplmcphaaGreatDoorW.PrintWords YtiooacmplmcphaaGreatDoorW.PrintLast
set_option maxRecDepth 100000 in
theorem alive16 : grommetlaw16_alive.f = some true := by kernel_rfl
abbrev Sr := S58
def conv (x : Sr) : St := ⟨x.f0, x.f1, x.f2⟩
theorem rd_ref (l : List Sr) (i : Nat) (h : i < l.length) : rd_T58 l (i : Int) = l[i] := by
  unfold rd_T58; rw [Int.toNat_natCast, List.getD_eq_getElem?_getD, List.getElem?_eq_getElem h]; rfl
theorem theirs_l0 (l : List Sr) (hl : l.length ≤ 1099511627775) : ∀ (d i K : Nat), l.length = i + d → d + 1 ≤ K →
  grommetlaw16_theirs.l0 K ((l.take i).map conv) l (l.length : Int) (i : Int) = some (l.map conv)
 | 0, i, K, hd, hK => by
  obtain ⟨K, rfl⟩ : ∃ m, K = m + 1 := ⟨K - 1, by omega⟩
  rw [grommetlaw16_theirs.l0, if_neg (by omega), List.take_of_length_le (by omega)]
 | d + 1, i, K, hd, hK => by
  obtain ⟨K, rfl⟩ : ∃ m, K = m + 1 := ⟨K - 1, by omega⟩
  have h1 : i < l.length := by omega
  have hw : wrap64 ((i : Int) + 1) = ((i + 1 : Nat) : Int) := by unfold wrap64; omega
  rw [grommetlaw16_theirs.l0, if_pos (by omega), if_pos (by omega), if_pos (by omega), if_pos (by rw [List.length_map, List.length_take]; omega), rd_ref l i h1, hw]
  have : (l.take i).map conv ++ [(⟨l[i].f0, l[i].f1, l[i].f2⟩ : St)] = (l.take (i + 1)).map conv := by
   rw [List.take_succ_eq_append_getElem h1, List.map_append]; rfl
  rw [this]
  exact theirs_l0 l hl d (i + 1) K (by omega) (by omega)
theorem theirs_of (l : List Sr) (hl : l.length ≤ 1099511627775) (K : Nat) (hK : l.length + 1 ≤ K) : grommetlaw16_theirs.f K l = some (l.map conv) := by
 unfold grommetlaw16_theirs.f
 exact theirs_l0 l hl l.length 0 K (by omega) hK
theorem long_l0 (x0 m : List Sr) (hm : m.length ≤ 1099511627775) : ∀ (d i K : Nat) (x3 : Int), m.length = i + d → d + 1 ≤ K → ∃ b, grommetlaw16_long.l0 K x0 x3 m (m.length : Int) (i : Int) = some b ∧ (b = false → x0.length ≤ 100)
 | 0, i, K, x3, hd, hK => by
  obtain ⟨K, rfl⟩ : ∃ m, K = m + 1 := ⟨K - 1, by omega⟩
  rw [grommetlaw16_long.l0, if_neg (by omega)]
  by_cases c : (x0.length : Int) > 100
  rotate_left
  · rw [if_neg c]; exact ⟨_, rfl, fun _ => by omega⟩
  rw [if_pos c]; exact ⟨true, rfl, fun e => by cases e⟩
 | d + 1, i, K, x3, hd, hK => by
  obtain ⟨K, rfl⟩ : ∃ m, K = m + 1 := ⟨K - 1, by omega⟩
  have hw : wrap64 ((i : Int) + 1) = ((i + 1 : Nat) : Int) := by unfold wrap64; omega
  rw [grommetlaw16_long.l0, if_pos (by omega), if_pos (by omega), if_pos (by omega), hw]
  exact long_l0 x0 m hm d (i + 1) K _ (by omega) (by omega)
theorem long_of (l : List Sr) (hl : l.length ≤ 1099511627775) (K : Nat) (hK : 102 ≤ K) : ∃ b, grommetlaw16_long.f K l = some b ∧ (b = false → l.length ≤ 100) := by
 unfold grommetlaw16_long.f
 have h0 : 0 ≤ mn (l.length : Int) 100 := by unfold mn; split <;> omega
 have h1 : mn (l.length : Int) 100 ≤ (l.length : Int) := by unfold mn; split <;> omega
 have h2 : mn (l.length : Int) 100 ≤ 100 := by unfold mn; split <;> omega
 rw [if_pos h0, if_pos h1, Option.bind_some]
 exact long_l0 l _ (by rw [List.length_take]; omega) (l.take (mn (l.length : Int) 100).toNat).length 0 K 0 (by omega) (by rw [List.length_take]; omega)
end Go.Proofs.YtiooacmplmcphaaGreatDoor.Paths
namespace Go.Proofs.YtiooacmplmcphaaGreatDoor.Graphs
open RowKit YtiooacmplmcphaaGreatDoor YtiooacmplmcphaaGreatDoor.PX YtiooacmplmcphaaGreatDoor.Plug YtiooacmplmcphaaGreatDoor.Mapk YtiooacmplmcphaaGreatDoor.Paths YtiooacmplmcphaaGreatDoorW.PrintWords YtiooacmplmcphaaGreatDoorW.PrintLast YtiooacmplmcphaaGreatDoorW.PrintMore
theorem rd_ste (l : List St) (i : Nat) (h : i < l.length) : rd_T98 l (i : Int) = l[i] := by
  unfold rd_T98; rw [Int.toNat_natCast, List.getD_eq_getElem?_getD, List.getElem?_eq_getElem h]; rfl
theorem walkG_cons (l : List Nd) (x : St) (r : List St) (at_ : Int) : walkG l (x :: r) at_ = if (stepG l at_ x).2 = 0 then walkG l r (stepG l at_ x).1 else (0, (stepG l at_ x).2) := rfl
theorem prog_get_l0 (l : List Nd) (root : Int) (hs : sizesB l = true) (hr : rightB l root = true) (k : List St) (hk : k.length ≤ 64) (hok : ∀ x ∈ k, okStep x = true) :
  ∀ (d i K : Nat) (at_ : Int), k.length = i + d → RightG l at_ → 3 * d + 1 ≤ K → path_Get.l0 K at_ k (k.length : Int) (i : Int) l root = some (walkG l (k.drop i) at_)
 | 0, i, K, at_, hi, h, hK => by
  obtain ⟨K, rfl⟩ : ∃ k, K = k + 1 := ⟨K - 1, by omega⟩
  rw [path_Get.l0, if_neg (by omega), List.drop_of_length_le (by omega)]; rfl
 | d + 1, i, K, at_, hi, h, hK => by
  obtain ⟨K, rfl⟩ : ∃ k, K = k + 1 + 1 + 1 := ⟨K - 3, by omega⟩
  have hlt : i < k.length := by omega
  have ho := hok k[i] (List.getElem_mem hlt)
  have ih := prog_get_l0 l root hs hr k hk hok d (i + 1)
  have hst : (stepG l at_ k[i]).2 = 0 → RightG l (stepG l at_ k[i]).1 := fun h0 => stepG_right h k[i] (fun hx => by unfold okStep at ho; rw [hx] at ho; simp at ho; exact ho.1) h0
  rw [path_Get.l0, if_pos (by omega), if_pos (by omega), if_pos (by omega), if_pos h.r0, if_pos h.r1, rd_ste k i hlt, List.drop_eq_getElem_cons hlt, walkG_cons]
  generalize k[i] = x at *
  have hj3 : ∀ K b, path_Get.j3 (K + 1) at_ k (k.length : Int) (i : Int) b l root x.f0 x.f1 x.f2 = if b = true then ((iso_Find.f l root at_ 4 x.f0).bind fun bt110 => (if bt110.2 = true then (path_Get.l0 K bt110.1 k (k.length : Int) (wrap64 ((i : Int) + 1)) l root) else (some (0, 6)))) else (some (0, 17)) := fun K b => rfl
  by_cases c : x.f2 = true
  ·
   rw [if_pos c, c, stepG_idx l at_ x c]
   rw [stepG_idx l at_ x c] at hst
   unfold okStep at ho
   rw [c] at ho
   simp at ho
   by_cases k5 : (rd_T45 l at_).f0 = 5
   rotate_left
   ·
    rw [show ((rd_T45 l at_).f0 == 5) = false from beq_eq_false_iff_ne.2 k5, if_neg k5]
    rw [path_Get.j2, if_neg Bool.false_ne_true, if_pos rfl]; rfl
   rw [show ((rd_T45 l at_).f0 == 5) = true from beq_iff_eq.2 k5, if_pos k5]
   rw [if_pos k5] at hst
   rw [path_Get.j2, if_pos rfl]
   by_cases hx : x.f1 < ((rd_T45 l at_).f2.length : Int)
   rotate_left
   · rw [if_neg hx, if_neg hx, if_neg hx]; rfl
   rw [if_pos hx] at hst
   rw [if_pos hx, if_pos ho.1, if_pos hx, w1 i (by omega), ih (K + 1) _ (by omega) (hst rfl) (by omega), if_pos hx, if_pos rfl]
  have c' := Bool.eq_false_iff.2 c
  rw [stepG_key l at_ x c'] at hst ⊢
  unfold okStep at ho
  rw [c'] at ho
  simp at ho
  have hf := prog_find l root at_ (4, x.f0) hs h hr ⟨⟨by dsimp only; omega, by dsimp only; omega⟩, by dsimp only; omega⟩
  rw [if_neg c, path_Get.j2, if_neg Bool.false_ne_true, if_neg c]
  by_cases k6 : (rd_T45 l at_).f0 = 6
  rotate_left
  ·
   rw [show ((rd_T45 l at_).f0 == 6) = false from beq_eq_false_iff_ne.2 k6, if_neg k6]
   rw [hj3, if_neg Bool.false_ne_true]; rfl
  rw [show ((rd_T45 l at_).f0 == 6) = true from beq_iff_eq.2 k6, if_pos k6]
  rw [if_pos k6] at hst
  rw [hj3, if_pos rfl, hf, Option.bind_some]
  by_cases hx : (findG l at_ (4, x.f0)).2 = true
  rotate_left
  · rw [if_neg hx, if_neg hx]; rfl
  rw [if_pos hx] at hst
  rw [if_pos hx, if_pos hx, w1 i (by omega), ih K _ (by omega) (hst rfl) (by omega), if_pos rfl]
theorem prog_get (l : List Nd) (root : Int) (k : List St) (hs : sizesB l = true) (K : Nat) (hK : 300 ≤ K) : path_Get.f K l root k = some (getG l root k) := by
 obtain ⟨K, rfl⟩ : ∃ k, K = k + 1 := ⟨K - 1, by omega⟩
 have hF : path_Format.f k = some (⟨(fmtB k).1.toArray⟩, (fmtB k).2) := rfl
 have hR : graph_Right.f l root = some (rightB l root) := by unfold graph_Right.f; rw [if_pos hs]
 have hj : path_Get.j0 (K + 1) k true l root = some (0, 1) := by rw [path_Get.j0, if_pos rfl]
 unfold path_Get.f getG
 rw [hF, Option.bind_some, hR, Option.bind_some]
 by_cases h : (fmtB k).2 = 0
 rotate_left
 · rw [if_neg h, if_neg h, hj]
 obtain ⟨h1, h2, _⟩ := fmtB_ok k h
 rw [if_pos h, if_pos h]
 cases hr : rightB l root with
 | true => rw [if_pos rfl, Bool.not_true, path_Get.j0, if_neg Bool.false_ne_true, show (0 : Int) = ((0 : Nat) : Int) from rfl, prog_get_l0 l root hs hr k h1 h2 k.length 0 K root (by omega) ((right_iff l root hs).1 hr) (by omega), List.drop_zero]
 | false => rw [if_neg Bool.false_ne_true, Bool.not_false, hj]
theorem large_l0 (l : List Nd) (root : Int) (ns : List Nd) (hn : ns.length ≤ 200) : ∀ (d i K : Nat) (x3 : Int), ns.length = i + d → d + 1 ≤ K → ∃ b, grommetlaw16_large.l0 K x3 ns (ns.length : Int) (i : Int) l root = some b
 | 0, i, K, x3, hi, hK => by
  obtain ⟨K, rfl⟩ : ∃ k, K = k + 1 := ⟨K - 1, by omega⟩
  rw [grommetlaw16_large.l0, if_neg (by omega)]
  split
  ·
   split
   · exact ⟨_, rfl⟩
   · exact ⟨_, rfl⟩
  · exact ⟨_, rfl⟩
 | d + 1, i, K, x3, hi, hK => by
  obtain ⟨K, rfl⟩ : ∃ k, K = k + 1 := ⟨K - 1, by omega⟩
  rw [grommetlaw16_large.l0, if_pos (by omega), if_pos (by omega), if_pos (by omega), w1 i (by omega)]
  exact large_l0 l root ns hn d (i + 1) K _ (by omega) (by omega)
theorem large_of (l : List Nd) (root : Int) (K : Nat) (hK : 201 ≤ K) : ∃ b, grommetlaw16_large.f K l root = some b := by
 have h : (mn (l.length : Int) 200).toNat ≤ 200 ∧ 0 ≤ mn (l.length : Int) 200 ∧ mn (l.length : Int) 200 ≤ (l.length : Int) := by unfold mn; split <;> omega
 unfold grommetlaw16_large.f
 rw [if_pos h.2.1, if_pos h.2.2, Option.bind_some]
 have hl : (l.take (mn (l.length : Int) 200).toNat).length ≤ 200 := by rw [List.length_take]; omega
 rw [show (0 : Int) = ((0 : Nat) : Int) from rfl]
 exact large_l0 l root _ hl _ 0 K _ (Nat.zero_add _).symm (by omega)
end Go.Proofs.YtiooacmplmcphaaGreatDoor.Graphs
namespace Go.Proofs.YtiooacmplmcphaaGreatDoor.Pure
open RowKit YtiooacmplmcphaaGreatDoor.PX YtiooacmplmcphaaGreatDoor.Plug YtiooacmplmcphaaGreatDoor.Graphs YtiooacmplmcphaaGreatDoor.Paths YtiooacmplmcphaaGreatDoorW.PrintWords YtiooacmplmcphaaGreatDoorW.PrintLast
theorem sizes_of (l : List S45) (h : Opened.bulkL Opened.bulkNode l ≤ 1048576) : sizesB l = true ∧ allL l + l.length ≤ 1048576 := by
 obtain ⟨h1, h2⟩ := Opened.nodes_bulk l
 refine ⟨List.all_eq_true.2 fun m hm => ?_, by show (l.map fun n => n.f2.length).sum + l.length ≤ 1048576; omega⟩
 have := h1 m hm
 rw [decide_eq_true (by omega), decide_eq_true (by omega)]; rfl
end Go.Proofs.YtiooacmplmcphaaGreatDoor.Pure
