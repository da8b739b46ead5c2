/- Texts that stand behind one another, laid into one: what this claim needs of them. -/
import Derived.Test.YtnjcpoojgmpmeaaGreatDoorBZ2
import Derived.Outline
import Derived.Test.YtnjcpoojgmpmeaaGreatDoorBZ1
namespace Go.Proofs.YtnjcpoojgmpmeaaGreatDoor.Plug
open Go.Maps RowKit YtnjcpoojgmpmeaaGreatDoor YtnjcpoojgmpmeaaGreatDoor.PX YtnjcpoojgmpmeaaGreatDoor.Utf YtnjcpoojgmpmeaaGreatDoor.Mapk YtnjcpoojgmpmeaaGreatDoor.Graphs YtnjcpoojgmpmeaaGreatDoorW.PrintWords YtnjcpoojgmpmeaaGreatDoorW.PrintLast YtnjcpoojgmpmeaaGreatDoorW.PrintMore
structure Lk (w0 W : World) (lb am mm na : Nat) (A0 : Option Addr) (n c0 : Nat) (F : Int → Option ByteArray) (s : LS) (cs : Array Value) (tb K : Nat) (c1 c2 c3 u u2 : Value) (ts : List Tr) (Z : World) : Prop where
 lv : Lv w0 W lb am mm na A0 n c0 F s cs Z
 t : Z.heap[tb]? = some (.cells #[c1, c2, c3, u] 29)
 row : Kd.R k29 29 Z W.heap.size (fun k => k ≠ tb ∧ k ≠ W.heap.size) u2 ts
 gt : W.heap.size < tb
section
variable {w0 W Z Z' : World} {lb am mm na n c0 tb K : Nat} {A0 : Option Addr} {F : Int → Option ByteArray} {s s' : LS} {cs : Array Value} {c1 c2 c3 u u2 v1 : Value} {ts ts' : List Tr}
theorem Lk.below (h : Lk w0 W lb am mm na A0 n c0 F s cs tb K c1 c2 c3 u u2 ts Z) (hb : Below Z.heap.size Z Z') : Lk w0 W lb am mm na A0 n c0 F s cs tb K c1 c2 c3 u u2 ts Z' :=
  ⟨h.lv.below hb, (hb.block tb (blk_lt h.t)).trans h.t, Kd.R_below h.row hb, h.gt⟩
theorem Lk.call (h : Lk w0 W lb am mm na A0 n c0 F s cs tb K c1 c2 c3 u u2 ts Z) (hl : Lw w0 lb am mm na A0 n c0 F s' Z') (hk : KeepBut Z Z' lb (some mm)) : Lk w0 W lb am mm na A0 n c0 F s' cs tb K c1 c2 c3 u u2 ts Z' := by
 obtain ⟨l1, l2, l3, l4⟩ := h.lv.lt
 have hgt := h.gt
 refine ⟨⟨hl, h.lv.kb.trans hk (.inl rfl), (hk.2 _ (blk_lt h.lv.rb) (by omega) (fun e => by have := Option.some.inj e; omega)).trans h.lv.rb, h.lv.lt⟩, (hk.2 _ (blk_lt h.t) (by omega) (fun e => by have := Option.some.inj e; omega)).trans h.t, ?_, h.gt⟩
 exact Kd.R_mono (Kd.R_step (Kd.R_bound h.row) (fun k hk' hlt => hk.2 k hlt (by have := hk'.2.1; omega) (fun e => by have := hk'.2.1; have := Option.some.inj e; omega))) (fun _ hk' => hk'.1)
theorem Lk.grow (h : Lk w0 W lb am mm na A0 n c0 F s cs tb K c1 c2 c3 u u2 ts Z) (hg : Z.grownBy Z' u2.ownBlock) (hr : Kd.R k29 29 Z' W.heap.size (fun k => k ≠ tb ∧ k ≠ W.heap.size) v1 ts') : Lk w0 W lb am mm na A0 n c0 F s cs tb K c1 c2 c3 u v1 ts' Z' := by
 obtain ⟨l1, l2, l3, l4⟩ := h.lv.lt
 have hgt := h.gt
 have hO : ∀ k, u2.ownBlock = some k → (k ≠ tb ∧ k ≠ W.heap.size) ∧ W.heap.size ≤ k := fun k e => ⟨((Kd.R_bound h.row).1 k e).1, ((Kd.R_bound h.row).1 k e).2.1⟩
 have hB : ∀ k, k < Z.heap.size → (k < W.heap.size ∨ k = tb ∨ k = W.heap.size) → Z'.heap[k]? = Z.heap[k]? := fun k hk hc => hg.block k hk (fun e => by have := hO k e.symm; omega)
 have hw := h.lv.lw
 refine ⟨⟨⟨(hB lb (blk_lt hw.l) (.inl l1)).trans hw.l, hw.a.of_block (hB am hw.a.lt (.inl l2)), hw.m.of_block (hB mm hw.m.lt (.inl l3)), hw.bel.trans ⟨hg.os, hg.tape, hg.output, hg.size, fun k hk => hB k (Nat.lt_of_lt_of_le hk hw.bel.size) (.inl (by omega))⟩, hw.lts⟩, ?_, (hB _ (blk_lt h.lv.rb) (.inr (.inr rfl))).trans h.lv.rb, h.lv.lt⟩, (hB _ (blk_lt h.t) (.inr (.inl rfl))).trans h.t, hr, h.gt⟩
 exact ⟨Nat.le_trans h.lv.kb.1 hg.size, fun k hk a b => (hB k (Nat.lt_of_lt_of_le hk h.lv.kb.1) (.inl hk)).trans (h.lv.kb.2 k hk a b)⟩
theorem Lk.store (h : Lk w0 W lb am mm na A0 n c0 F s cs tb K c1 c2 c3 u u2 ts Z) : Lk w0 W lb am mm na A0 n c0 F s cs tb K c1 c2 c3 u2 u2 ts (Z.setCell ⟨tb, 3, none⟩ u2) := by
 have hgt := h.gt
 exact ⟨h.lv.set hgt 3 u2, by simpa using blk_set h.t 3 u2, Kd.R_far h.row (fun k hk => hk.1) u2, h.gt⟩
theorem Lk.cells (h : Lk w0 W lb am mm na A0 n c0 F s cs tb K c1 c2 c3 u u2 ts Z) : Z.cell? ⟨tb, 3, none⟩ = some u ∧ Z.frozen? ⟨tb, 3, none⟩ = false ∧ Z.cell? ⟨tb, 0, none⟩ = some c1 ∧ Z.cell? ⟨tb, 1, none⟩ = some c2 ∧ Z.cell? ⟨tb, 2, none⟩ = some c3 :=
  ⟨(blk_cell h.t 3).trans rfl, blk_frozen h.t 3, (blk_cell h.t 0).trans rfl, (blk_cell h.t 1).trans rfl, (blk_cell h.t 2).trans rfl⟩
end
end Go.Proofs.YtnjcpoojgmpmeaaGreatDoor.Plug
namespace Go.Proofs.YtnjcpoojgmpmeaaGreatDoor.Plug
open Go.Maps RowKit YtnjcpoojgmpmeaaGreatDoor YtnjcpoojgmpmeaaGreatDoor.PX YtnjcpoojgmpmeaaGreatDoor.Utf YtnjcpoojgmpmeaaGreatDoor.Mapk YtnjcpoojgmpmeaaGreatDoor.Graphs YtnjcpoojgmpmeaaGreatDoorW.PrintWords YtnjcpoojgmpmeaaGreatDoorW.PrintLast YtnjcpoojgmpmeaaGreatDoorW.PrintMore
set_option linter.unusedVariables false
set_option linter.unusedSimpArgs false
theorem merge_ {G X : Prop} (hb : Hid X → G) (hx : X) : G := hb (Lib.hid hx)
set_option maxHeartbeats 8000000 in
set_option maxRecDepth 100000 in
theorem tree_is (w0 : World) (lb am mm na : Nat) (A0 : Option Addr) (c0 : Nat) (l : List Nd) (F : Int → Option ByteArray) (hr : Kd.C k45 w0 A0 l.length l) (hl : l.length ≤ 4096) (hz : ∀ n ∈ l, n.f2.length ≤ 1099511627776) (hk : ∀ n ∈ l, ∀ k ∈ n.f2, 0 ≤ k ∧ k < (l.length : Int)) :
    ∀ (K : Nat) (at_ deep : Int) (s s' : LS) (t : Tr) (W : World), Lw w0 lb am mm na A0 l.length c0 F s W → treeO l (fun k => (F k).getD ⟨#[]⟩) K at_ deep s = some (t, s') → 0 ≤ at_ → at_ < (l.length : Int) → 0 ≤ deep → deep + K ≤ 1099511627776 →
      Calls Tryz.prog 29 #[.pointer (some ⟨lb, 0, none⟩), .int .i64 at_, .int .i64 deep] W fun e W' => ∃ v, e = .returned (.agg #[.int .i64 t.f0, .string t.f1, .string t.f2, v]) ∧ Kd.M k29 W' W.heap.size (fun _ => True) t [.int .i64 t.f0, .string t.f1, .string t.f2, v] ∧ Lw w0 lb am mm na A0 l.length c0 F s' W' ∧ KeepBut W W' lb (some mm) := by
  intro K
  induction K with
  | zero => intro at_ deep s s' t W _ h; simp [treeO] at h
  | succ K ih =>
    intro at_ deep s s' t W hW h h0 h1 hd0 hd1
    have HR := Lib.hid hr
    have IH := Lib.hid ih
    have hW1 := hW.keep (below_alloc (Below.refl _ _) (.cells #[.int .i64 0, .string ⟨#[]⟩, .string ⟨#[]⟩, .slice none 0 0] 29))
    have hW2 := hW.keep (below_alloc (Below.refl _ _) (.cells #[.int .i64 7, .string ⟨#[]⟩, .string ((F at_).getD ⟨#[]⟩), .slice none 0 0] 29))
    obtain ⟨x0, x1, x2, x3, x4⟩ := hW1.cells
    obtain ⟨m1, m2⟩ := hW1.look at_ (by omega)
    have HW := Lib.hid hW
    have HW1 := Lib.hid hW1
    have HW2 := Lib.hid hW2
    have hlt := blk_lt hW.l
    clear ih hr hW hW1 hW2
    rw [treeO] at h
    cases hm : s.1 at_ with
    | true =>
      rw [hm] at m1
      rw [if_pos hm] at h
      obtain ⟨e1, e2⟩ := Prod.mk.inj (Option.some.inj h)
      subst e2
      have HT := Lib.hid e1.symm
      clear h e1 hm
      go_enter Tryz.func29, Tryz.ntmps29
      go_wp2_with (fail)
      have z0 : (W.alloc (.cells #[.int .i64 7, .string ⟨#[]⟩, .string ((F at_).getD ⟨#[]⟩), .slice none 0 0] 29)).heap[W.heap.size]? = some (.cells #[.int .i64 7, .string ⟨#[]⟩, .string ((F at_).getD ⟨#[]⟩), .slice none 0 0] 29) := blk_new W _
      refine bodyPost_ret (results_cell_row rfl _ _ W.heap.size 29 #[.int .i64 7, .string ⟨#[]⟩, .string ((F at_).getD ⟨#[]⟩), .slice none 0 0] (0, 0) _ rfl z0 Tryz.underlying29 rfl (by kernel_rfl)) rfl ?_
      rw [HT.out]
      exact ⟨.slice none 0 0, rfl, k29_mkM _ _ _ ⟨7, ⟨#[]⟩, _, []⟩ (Kd.R_nil _ _ _ _ _), HW2.out, KeepBut.of_below (below_alloc (Below.refl _ _) _) lb (some mm)⟩
    | false =>
      rw [hm] at m1
      rw [if_neg (by rw [hm]; exact Bool.false_ne_true)] at h
      by_cases hcn : 1099511627776 < s.2.2
      · rw [if_pos hcn] at h; cases h
      · rw [if_neg hcn] at h
        obtain ⟨w3, hrun, hL3, hg3⟩ := HW1.out.put at_ (by omega) (by omega)
        obtain ⟨bd, A2, c2, eA, y0, y1, y2, hc2, hC⟩ := at_T45 HR.out at_ h0 h1
        subst eA
        have y0 := (hL3.bel.cell (World.block_lt_of_cell? w0 _ y0)).trans y0
        have y1 := (hL3.bel.cell (World.block_lt_of_cell? w0 _ y1)).trans y1
        have y2 := (hL3.bel.cell (World.block_lt_of_cell? w0 _ y2)).trans y2
        have hzz := hz _ (rd_mem l at_ h0 h1)
        have hkk := hk _ (rd_mem l at_ h0 h1)
        dsimp only at h
        generalize rd_T45 l at_ = n at *
        obtain ⟨kd, tx, kids⟩ := n
        dsimp only at y0 y1 y2 hc2 hC hzz hkk h
        obtain ⟨u0, _, _, _, _⟩ := hL3.cells
        have hL4 := hL3.keep (below_alloc (Below.refl _ _) (.cells #[.int .i64 kd, .string tx, .slice A2 kids.length c2] 45))
        obtain ⟨v0, v1, v2, v3, v4⟩ := hL4.cells
        obtain ⟨_, m4⟩ := hL4.look at_ (by omega)
        have hg : s.2.1 = s.2.1 := rfl
        obtain ⟨smet, why, cnt⟩ := s
        dsimp only at v3 h hm hcn
        have hlts := HW.out.lts
        have hLV3 : Lv w0 W lb am mm na (some bd) l.length c0 F (seen smet at_, why, cnt + 1) #[.int .i64 0, .string ⟨#[]⟩, .string ⟨#[]⟩, .slice none 0 0] w3 :=
          ⟨hL3, (KeepBut.of_below (below_alloc (Below.refl _ _) _) lb (some mm)).trans (KeepBut.of_grown hg3 lb) (.inl rfl), (hg3.block W.heap.size (by simp) (fun e => by have := HW.out.m.lt; have := Option.some.inj e; omega)).trans (blk_new W _), hlt, HW.out.a.lt, HW.out.m.lt, HW.out.bel.size⟩
        have hLV4 := hLV3.below (below_alloc (Below.refl _ _) (.cells #[.int .i64 kd, .string tx, .slice A2 kids.length c2] 45))
        have HV3 := Lib.hid hLV3
        have HV4 := Lib.hid hLV4
        have HC := Lib.hid hC
        have HKK := Lib.hid hkk
        have p3 : (0 ≤ at_) = True := eq_true h0
        have p4 : (at_ < (l.length : Int)) = True := eq_true h1
        clear hL3 hL4 hg3 hC hkk hg m2 hm hLV3 hLV4 hlts
        by_cases hbig : 5 ≤ kd ∧ deep = 64
        · have q1 : decide (kd ≥ 5) = true := decide_eq_true hbig.1
          have q2 : (deep == 64) = true := beq_iff_eq.2 hbig.2
          rw [if_pos hbig, if_pos (by decide)] at h
          obtain ⟨e1, e2⟩ := Prod.mk.inj (Option.some.inj h)
          subst e2
          have HT := Lib.hid e1.symm
          clear h e1
          have HV5 := Lib.hid (HV4.out.why 10)
          obtain ⟨⟨r0, r1, r2, r3⟩, r4, r5, r6, r7⟩ := HV5.out.res
          have HV6 := Lib.hid ((HV3.out.why 10).below (below_alloc (Below.refl _ _) (.cells #[.int .i64 kd, .string tx, .slice A2 kids.length c2] 45)))
          obtain ⟨⟨t0, t1, t2, t3⟩, t4, t5, t6, t7⟩ := HV6.out.res
          go_enter Tryz.func29, Tryz.ntmps29
          go_wp2_with (fail)
          have HV7 := Lib.hid (HV5.out.put4 (.int .i64 0) (.string ⟨#[]⟩) (.string ⟨#[]⟩) (.slice none 0 0))
          refine bodyPost_ret (results_cell_row rfl _ _ W.heap.size 29 #[.int .i64 0, .string ⟨#[]⟩, .string ⟨#[]⟩, .slice none 0 0] (0, 0) _ rfl HV7.out.rb Tryz.underlying29 rfl (by kernel_rfl)) rfl ?_
          rw [HT.out]
          exact ⟨.slice none 0 0, rfl, k29_mkM _ _ _ noTr (Kd.R_nil _ _ _ _ _), HV7.out.lw, HV7.out.kb⟩
        · rw [if_neg hbig] at h
          have hq : decide (kd ≥ 5) = false ∨ (decide (kd ≥ 5) = true ∧ (deep == 64) = false) := by
            by_cases h5 : 5 ≤ kd
            · exact .inr ⟨decide_eq_true h5, beq_eq_false_iff_ne.2 (fun e => hbig ⟨h5, e⟩)⟩
            · exact .inl (decide_eq_false h5)
          clear hbig
          by_cases hw : why ≠ 0
          · have q3 : (why != 0) = true := bne_iff_ne.2 hw
            rw [if_pos hw] at h
            obtain ⟨e1, e2⟩ := Prod.mk.inj (Option.some.inj h)
            subst e2
            have HT := Lib.hid e1.symm
            clear h e1
            obtain ⟨⟨r0, r1, r2, r3⟩, r4, r5, r6, r7⟩ := HV4.out.res
            rcases hq with q1 | ⟨q1, q2⟩
            all_goals
              go_enter Tryz.func29, Tryz.ntmps29
              go_wp2_with (fail)
              have HV7 := Lib.hid (HV4.out.put4 (.int .i64 0) (.string ⟨#[]⟩) (.string ⟨#[]⟩) (.slice none 0 0))
              refine bodyPost_ret (results_cell_row rfl _ _ W.heap.size 29 #[.int .i64 0, .string ⟨#[]⟩, .string ⟨#[]⟩, .slice none 0 0] (0, 0) _ rfl HV7.out.rb Tryz.underlying29 rfl (by kernel_rfl)) rfl ?_
              rw [HT.out]
              exact ⟨.slice none 0 0, rfl, k29_mkM _ _ _ noTr (Kd.R_nil _ _ _ _ _), HV7.out.lw, HV7.out.kb⟩
          · have hw0 : why = 0 := Decidable.not_not.1 hw
            rw [if_neg hw] at h
            subst hw0
            obtain ⟨p, hp1, hp2⟩ := Option.map_eq_some_iff.1 h
            have HP := Lib.hid hp1
            have HF := Lib.hid hp2
            clear h hp1 hp2 hw
            have hV5 := HV4.out.below (below_alloc (Below.refl _ _) (.cells #[.int .i64 0, .string ⟨#[]⟩, .string ⟨#[]⟩, .slice none 0 0] 29))
            obtain ⟨z0, z1, z2, z3, z4⟩ := hV5.lw.cells
            obtain ⟨_, m5⟩ := hV5.lw.look at_ (by omega)
            obtain ⟨_, m6⟩ := (hV5.below (below_drew1 (Below.refl _ _))).lw.look at_ (by omega)
            obtain ⟨_, m7⟩ := (HV4.out.below (below_drew1 (Below.refl _ _))).lw.look at_ (by omega)
            have n4 : (w3.alloc (.cells #[.int .i64 kd, .string tx, .slice A2 kids.length c2] 45)).heap[w3.heap.size]? = some (.cells #[.int .i64 kd, .string tx, .slice A2 kids.length c2] 45) := blk_new w3 _
            have n5 := (below_alloc (Below.refl _ _) (.cells #[.int .i64 0, .string ⟨#[]⟩, .string ⟨#[]⟩, .slice none 0 0] 29)).block w3.heap.size (blk_lt n4) |>.trans n4
            have n40 := (blk_cell n4 0).trans rfl
            have n41 := (blk_cell n4 1).trans rfl
            have n42 := (blk_cell n4 2).trans rfl
            have n50 := (blk_cell n5 0).trans rfl
            have n51 := (blk_cell n5 1).trans rfl
            have HN4 := Lib.hid n4
            clear n4 n5 hV5
            rcases hq with q1 | ⟨q1, q2⟩
            all_goals
              go_enter Tryz.func29, Tryz.ntmps29
              go_wp2_with (fail)
              apply merge_
              · intro hXm
                go_region
                all_goals
                  have HL5 := Lib.hid (show Lk w0 W lb am mm na (some bd) l.length c0 F (seen smet at_, 0, cnt + 1) #[.int .i64 0, .string ⟨#[]⟩, .string ⟨#[]⟩, .slice none 0 0] (w3.heap.size + 1) K (.int .i64 kd) (.string tx) (.string ((F at_).getD ⟨#[]⟩)) (.slice none 0 0) (.slice none 0 0) []
                      ((w3.alloc (.cells #[.int .i64 kd, .string tx, .slice A2 kids.length c2] 45)).alloc (.cells #[.int .i64 kd, .string tx, .string ((F at_).getD ⟨#[]⟩), .slice none 0 0] 29)).drew from by
                    have e1 : (w3.alloc (.cells #[.int .i64 kd, .string tx, .slice A2 kids.length c2] 45)).heap.size = w3.heap.size + 1 := by simp
                    have e2 := blk_new (w3.alloc (.cells #[.int .i64 kd, .string tx, .slice A2 kids.length c2] 45)) (.cells #[.int .i64 kd, .string tx, .string ((F at_).getD ⟨#[]⟩), .slice none 0 0] 29)
                    rw [e1] at e2
                    exact ⟨HV4.out.below (below_drew1 (below_alloc (Below.refl _ _) _)), e2, Kd.R_nil _ _ _ _ _, by have := blk_lt HV3.out.rb; omega⟩)
                  have n6 := ((below_drew1 (below_alloc (Below.refl _ _) (.cells #[.int .i64 kd, .string tx, .string ((F at_).getD ⟨#[]⟩), .slice none 0 0] 29))).block w3.heap.size (blk_lt HN4.out)).trans HN4.out
                  have n62 := (blk_cell n6 2).trans rfl
                  go_wp2_with (fail)
                  generalize World.drew _ = w5 at HL5 ⊢
                  clear n6 n62
                  rename_i Kx hKx
                  revert w5
                  revert Kx
                  exact hXm.out
              · intro Kx hKx w5 HL5
                clear n40 n41 n42 n50 n51 m4 m5 m6 m7 z0 z1 z2 z3 z4 v0 v1 v2 v3 v4 u0 y0 y1 y2 x0 x1 x2 x3 x4 m1 hrun
                have hn3 := Nat.lt_of_lt_of_le (blk_lt HV3.out.rb) (Nat.le_refl _)
                clear HV3 HV4 HN4 HW1 HW2
                generalize w3.heap.size + 1 = tb at HL5 ⊢
                go_loopw [66] (fun v wr => ∃ (j : Nat) (ts : List Tr) (s2 : LS) (u : Value), v = .int .i64 j ∧ j ≤ kids.length ∧ Hid (ts.length = j) ∧ Hid ((kids.drop j).foldlM (fun (p : List Tr × LS) k => (treeO l (fun k => (F k).getD ⟨#[]⟩) K k (deep + 1) p.2).map fun q => (p.1 ++ [q.1], q.2)) (ts, s2) = some p) ∧ Hid (Lk w0 W lb am mm na (some bd) l.length c0 F s2 #[.int .i64 0, .string ⟨#[]⟩, .string ⟨#[]⟩, .slice none 0 0] tb K (.int .i64 kd) (.string tx) (.string ((F at_).getD ⟨#[]⟩)) u u ts wr)) (fun v _ => kids.length - (intOf v).toNat)
                case atStart => exact ⟨0, [], _, _, rfl, by omega, Lib.hid rfl, HP, HL5⟩
                case round =>
                  clear HL5 HP
                  obtain ⟨j, ts, s2, u, rfl, hj, htl, HPR, HLR⟩ := hrel
                  by_cases hlj : j < kids.length
                  · have hc : decide ((j : Int) < (kids.length : Int)) = true := decide_eq_true (by omega)
                    obtain ⟨cd, eA, hx0⟩ := Kd.at_int (Kd.C_below HC.out HLR.out.lv.lw.bel) (j : Int) (by omega) (by omega)
                    subst eA
                    rw [rd_at kids j hlj, Int.toNat_natCast] at hx0
                    obtain ⟨k0, k1⟩ := HKK.out kids[j] (List.getElem_mem _)
                    have hst := HPR.out
                    rw [List.drop_eq_getElem_cons hlj, List.foldlM_cons] at hst
                    obtain ⟨p1, hp1, hp2⟩ := Option.bind_eq_some_iff.1 hst
                    obtain ⟨q, hq1, hq2⟩ := Option.map_eq_some_iff.1 hp1
                    subst hq2
                    obtain ⟨t2, s3⟩ := q
                    have HPN := Lib.hid hp2
                    have HQ := Lib.hid hq1
                    have HLJ := Lib.hid hlj
                    have p5 : (0 ≤ (j : Int)) = True := eq_true (by omega)
                    have p6 : ((j : Int) < (kids.length : Int)) = True := eq_true (by omega)
                    clear hst hp1 hp2 hq1 HPR
                    generalize kids[j] = k at *
                    obtain ⟨A7, c7, ev⟩ := Kd.R_slice HLR.out.row
                    subst ev
                    obtain ⟨i3, i4, _, _, _⟩ := HLR.out.cells
                    go_wp2_with (fail)
                    have hwd : wrap64 (deep + 1) = deep + 1 := by unfold wrap64; omega
                    refine start_ (n := 11) (S := fun w' => w'.cell? ⟨tb, 3, none⟩ = some (.slice A7 ts.length c7)) (ds := [10]) #[false, false, false, false, false, false, false, false, false, false, false] (by kernel_rfl) rfl rfl (i3) (fun hHeld => ?_)
                    refine pure_ (i := 0) (N := some 70) (v := ?_) (a' := ?_) #[true, false, false, false, false, false, false, false, false, false, false] rfl rfl (by kernel_rfl) (fun _ _ _ h => h) (Or.inl ⟨by rfl, ?_⟩) ?_ ?_
                    rotate_left
                    · intro w'
                      go_simp
                      with_reducible rfl
                    rotate_left
                    · simp only [Act.put, List.setIfInBounds_toArray, List.set_cons_zero, List.set_cons_succ, i64_w, i32_w]
                      rfl
                    refine pure_ (i := 2) (N := some 72) (v := ?_) (a' := ?_) #[true, false, true, false, false, false, false, false, false, false, false] rfl rfl (by kernel_rfl) (fun _ _ _ h => h) (Or.inl ⟨by rfl, ?_⟩) ?_ ?_
                    rotate_left
                    · intro w'
                      go_simp
                      with_reducible rfl
                    rotate_left
                    · simp only [Act.put, List.setIfInBounds_toArray, List.set_cons_zero, List.set_cons_succ, i64_w, i32_w]
                      rfl
                    refine pure_ (i := 3) (N := some 73) (v := ?_) (a' := ?_) #[true, false, true, true, false, false, false, false, false, false, false] rfl rfl (by kernel_rfl) (fun _ _ _ h => h) (Or.inl ⟨by rfl, ?_⟩) ?_ ?_
                    rotate_left
                    · intro w'
                      go_simp
                      with_reducible rfl
                    rotate_left
                    · simp only [Act.put, List.setIfInBounds_toArray, List.set_cons_zero, List.set_cons_succ, i64_w, i32_w]
                      rfl
                    refine pure_ (i := 4) (N := some 74) (v := ?_) (a' := ?_) #[true, false, true, true, true, false, false, false, false, false, false] rfl rfl (by kernel_rfl) (fun _ _ _ h => h) (Or.inl ⟨by rfl, ?_⟩) ?_ ?_
                    rotate_left
                    · intro w'
                      go_simp
                      with_reducible rfl
                    rotate_left
                    · simp only [Act.put, List.setIfInBounds_toArray, List.set_cons_zero, List.set_cons_succ, i64_w, i32_w]
                      rfl
                    refine pure_ (i := 5) (N := some 75) (v := ?_) (a' := ?_) #[true, false, true, true, true, true, false, false, false, false, false] rfl rfl (by kernel_rfl) (fun _ _ _ h => h) (Or.inl ⟨by rfl, ?_⟩) ?_ ?_
                    rotate_left
                    · intro w'
                      go_simp
                      with_reducible rfl
                    rotate_left
                    · simp only [Act.put, List.setIfInBounds_toArray, List.set_cons_zero, List.set_cons_succ, i64_w, i32_w]
                      rfl
                    refine take_ (i := 1) (N := some 71) (v := ?_) (a' := ?_) #[true, true, true, true, true, true, false, false, false, false, false] rfl rfl (by kernel_rfl) (fun _ _ _ h => h) (Or.inl ⟨by rfl, ?_⟩) hHeld ?_ ?_
                    rotate_left
                    · intro w' s0
                      go_simp
                      with_reducible rfl
                    rotate_left
                    · simp only [Act.put, List.setIfInBounds_toArray, List.set_cons_zero, List.set_cons_succ, i64_w, i32_w]
                      rfl
                    refine one_ (i := 6) (N := some 76) #[true, true, true, true, true, true, true, false, false, false, false] rfl rfl (by kernel_rfl) (by decide) (fun K hK => ?_)
                    refine goes_ Tryz.func29 (by kernel_rfl) rfl #[.pointer (some ⟨lb, 0, none⟩), .int .i64 k, .int .i64 (wrap64 (deep + 1))] (by rfl) rfl rfl (by simp only [List.map_toArray, List.map_cons, List.map_nil]; rfl) ?_
                    rw [hwd]
                    with_reducible refine (IH.out k (deep + 1) s2 s3 t2 _ (HLR.out.below (below_drew1 (Below.refl _ _))).lv.lw HQ.out k0 k1 (by omega) (by omega)).mono ?_
                    rintro e w9 ⟨v9, rfl, hM, hL9, hK9⟩
                    refine ⟨_, rfl, ?_⟩
                    have HM := Lib.hid hM
                    have HL9 := Lib.hid ((HLR.out.below (below_drew1 (Below.refl _ _))).call hL9 hK9)
                    have HS9 := Lib.hid hK9.1
                    have HP9 := Lib.hid (Kd.M_mono k29 (ok' := fun k => wr.heap.size ≤ k) (fun k hk => hk.2.1) (Kd.M_lower k29 HLR.out.lv.kb.1 (Kd.M_bound k29 HM.out)))
                    have hs9 : wr.heap.size ≤ w9.heap.size := HS9.out
                    have ht9 := blk_lt HLR.out.t
                    have hg9 := HLR.out.gt
                    have HOK : Hid (∀ k, wr.heap.size ≤ k → (k ≠ tb ∧ k ≠ W.heap.size) ∧ some k ≠ (Value.slice A7 ts.length c7).ownBlock) := Lib.hid (fun k hk => ⟨⟨by omega, by omega⟩, fun e => by have := ((Kd.R_bound HLR.out.row).1 k e.symm).2.2.1; omega⟩)
                    have HFR : Hid (∀ k, w9.heap.size ≤ k → k ≠ tb ∧ k ≠ W.heap.size) := Lib.hid (fun k hk => ⟨by omega, by omega⟩)
                    have HB9 : Hid (W.heap.size ≤ w9.heap.size) := Lib.hid (by omega)
                    have HLEN : Hid ((ts.length + 1) * 64 ≤ 140737488355328) := Lib.hid (by have := htl.out; omega)
                    clear hs9 ht9 hg9
                    have c93 := HL9.out.cells.1
                    clear hM hL9 hK9
                    refine hK.out _ _ (c93) (fun hHeld => ?_)
                    clear hK K
                    refine norm_ (a' := ?_) ?_ ?_
                    rotate_left
                    · show Act.put _ (some 76) _ = _
                      simp only [Act.put, List.setIfInBounds_toArray, List.set_cons_zero, List.set_cons_succ, i64_w, i32_w]
                      rfl
                    refine one_ (i := 7) (N := some 77) #[true, true, true, true, true, true, true, true, false, false, false] rfl rfl (by kernel_rfl) (by decide) (fun K hK => ?_)
                    refine value_ (w1 := ?_) (v := ?_) (by rfl) rfl ?_ ?_
                    rotate_left 2
                    · go_simp
                      constructor
                      · rfl
                      · rfl
                    refine hK.out _ _ (cell_al c93) (fun hHeld => ?_)
                    clear hK K
                    refine norm_ (a' := ?_) ?_ ?_
                    rotate_left
                    · show Act.put _ (some 77) _ = _
                      simp only [Act.put, List.setIfInBounds_toArray, List.set_cons_zero, List.set_cons_succ, i64_w, i32_w]
                      rfl
                    refine one_ (i := 8) (N := some 78) #[true, true, true, true, true, true, true, true, true, false, false] rfl rfl (by kernel_rfl) (by decide) (fun K hK => ?_)
                    refine Kd.R_append_step k29 (w0 := w9) W.heap.size (by rfl) (.tmp 71) (.tmp 77) 27 29 (.agg #[.int .i64 0, .string ⟨#[]⟩, .string ⟨#[]⟩, .slice none 0 0]) 64 rfl Tryz.underlying27 info_tree rfl (by decide) (by omega) _ ts t2 [.int .i64 t2.f0, .string t2.f1, .string t2.f2, v9] (fun k => k ≠ tb ∧ k ≠ W.heap.size) (fun k => wr.heap.size ≤ k) rfl rfl HP9.out HOK.out HFR.out HL9.out.row (Below.refl _ _) HB9.out HLEN.out ?_
                    intro v1 w10 hR10 _ hg10 _
                    have HL10 := Lib.hid (HL9.out.grow hg10 hR10)
                    obtain ⟨A8, c8, ev⟩ := Kd.R_slice HL10.out.row
                    obtain ⟨n8, hn8⟩ : ∃ n, (ts ++ [t2]).length = n := ⟨_, rfl⟩
                    rw [hn8] at ev
                    subst ev
                    clear hn8
                    have c103 := HL10.out.cells.1
                    have f103 := HL10.out.cells.2.1
                    clear hR10 hg10
                    refine hK.out _ _ (c103) (fun hHeld => ?_)
                    clear hK K
                    refine norm_ (a' := ?_) ?_ ?_
                    rotate_left
                    · show Act.put _ (some 78) _ = _
                      simp only [Act.put, List.setIfInBounds_toArray, List.set_cons_zero, List.set_cons_succ, i64_w, i32_w]
                      rfl
                    refine pure_ (i := 9) (N := some 79) (v := ?_) (a' := ?_) #[true, true, true, true, true, true, true, true, true, true, false] rfl rfl (by kernel_rfl) (fun _ _ _ h => h) (Or.inl ⟨by rfl, ?_⟩) ?_ ?_
                    rotate_left
                    · intro w'
                      go_simp
                      with_reducible rfl
                    rotate_left
                    · simp only [Act.put, List.setIfInBounds_toArray, List.set_cons_zero, List.set_cons_succ, i64_w, i32_w]
                      rfl
                    refine last_ (i := 10) (N := none) #[true, true, true, true, true, true, true, true, true, true, true] rfl rfl (by kernel_rfl) (by decide) (fun K hK => ?_)
                    refine skip_ (w1 := ?_) (by rfl) rfl ?_ ?_
                    rotate_left
                    · go_simp
                      rfl
                    refine hK.out _ _ ?_
                    clear hK K
                    refine done_ (by kernel_rfl) ?_
                    go_wp2_with (fail)
                    go_roundw
                    case rel =>
                      have h1 := HLJ.out
                      have h2 := htl.out
                      exact ⟨j + 1, ts ++ [t2], s3, _, by go_num, by omega, Lib.hid (by rw [List.length_append, List.length_singleton]; omega), HPN, Lib.hid HL10.out.store⟩
                    case measure => have := HLJ.out; simp [intOf]; omega
                  · have hc : decide ((j : Int) < (kids.length : Int)) = false := decide_eq_false (by omega)
                    have hje : j = kids.length := by omega
                    have hpe : (ts, s2) = p := by have h := HPR.out; rw [hje, List.drop_length] at h; exact Option.some.inj h
                    subst hpe
                    obtain ⟨e1, e2⟩ := Prod.mk.inj HF.out
                    dsimp only at e1 e2
                    subst e2
                    have HT := Lib.hid e1.symm
                    clear e1 HPR
                    obtain ⟨A7, c7, ev⟩ := Kd.R_slice HLR.out.row
                    subst ev
                    obtain ⟨i3, _, i0, i1, i2⟩ := HLR.out.cells
                    obtain ⟨⟨r0, r1, r2, r3⟩, r4, r5, r6, r7⟩ := HLR.out.lv.res
                    have HV7 := Lib.hid (HLR.out.lv.put4 (.int .i64 kd) (.string tx) (.string ((F at_).getD ⟨#[]⟩)) (.slice A7 ts.length c7))
                    have HR7 := Lib.hid (Kd.R_far (Kd.R_far (Kd.R_far (Kd.R_far HLR.out.row (p := ⟨W.heap.size, 0, none⟩) (fun k hk => hk.2) (.int .i64 kd)) (p := ⟨W.heap.size, 1, none⟩) (fun k hk => hk.2) (.string tx)) (p := ⟨W.heap.size, 2, none⟩) (fun k hk => hk.2) (.string ((F at_).getD ⟨#[]⟩))) (p := ⟨W.heap.size, 3, none⟩) (fun k hk => hk.2) (.slice A7 ts.length c7))
                    go_wp2_with (fail)
                    refine bodyPost_ret (results_cell_row rfl _ _ W.heap.size 29 #[.int .i64 kd, .string tx, .string ((F at_).getD ⟨#[]⟩), .slice A7 ts.length c7] (0, 0) _ rfl HV7.out.rb Tryz.underlying29 rfl (by kernel_rfl)) rfl ?_
                    rw [HT.out]
                    exact ⟨.slice A7 ts.length c7, rfl, k29_mkM _ _ _ ⟨kd, tx, _, ts⟩ (Kd.R_mono HR7.out (fun _ _ => trivial)), HV7.out.lw, HV7.out.kb⟩
theorem rd_nat (l : List Nd) (i : Nat) (h : i < l.length) : rd_T45 l (i : Int) = l[i] := by
 unfold rd_T45
 rw [Int.toNat_natCast, List.getD_eq_getElem?_getD, List.getElem?_eq_getElem h]; rfl
theorem rdOf_put (d : Bool) (u : List Bool) (k : Int) (j : Int) (v : Bool) (hk0 : 0 ≤ k) (hk1 : k < (u.length : Int)) (hj : 0 ≤ j) : rdOf d (u.set k.toNat v) j = if j = k then v else rdOf d u j := by
 unfold rdOf
 rw [List.getD_eq_getElem?_getD, List.getD_eq_getElem?_getD, List.getElem?_set]
 by_cases h : j = k
 rotate_left
 · rw [if_neg (by omega), if_neg h]
 subst h; rw [if_pos rfl, if_pos rfl, if_pos (by omega)]; rfl
theorem nodup_le : ∀ (n : Nat) (L : List Int), L.Nodup → (∀ k ∈ L, 0 ≤ k ∧ k < (n : Int)) → L.length ≤ n
  | 0, L, _, hr => by
    cases L with
    | nil => simp
    | cons a r => have := hr a (by simp); omega
  | n + 1, L, hn, hr => by
    by_cases h : (n : Int) ∈ L
    · have h1 := nodup_le n (L.erase (n : Int)) (hn.erase _) (fun k hk => by
        have h2 := (List.Nodup.mem_erase_iff hn).1 hk
        have h3 := hr k h2.2
        have h4 := h2.1
        omega)
      have h5 := List.length_erase_of_mem h
      omega
    · have h1 := nodup_le n L hn (fun k hk => by
        have h3 := hr k hk
        have : k ≠ (n : Int) := fun e => h (e ▸ hk)
        omega)
      omega
structure GoS (n : Nat) (s : WS) : Prop where
 len : s.1.length = n
 met : ∀ k, 0 ≤ k → k < (n : Int) → (rdOf false s.1 k = true ↔ k ∈ s.2.1)
 nd : s.2.1.Nodup
 rng : ∀ k ∈ s.2.1, 0 ≤ k ∧ k < (n : Int)
theorem GoS.le {n : Nat} {s : WS} (h : GoS n s) : s.2.1.length ≤ n := nodup_le n _ h.nd h.rng
theorem GoS.add {n : Nat} {s : WS} (h : GoS n s) (k d : Int) (k0 : 0 ≤ k) (k1 : k < (n : Int)) (hm : ¬ rdOf false s.1 k = true) : GoS n (s.1.set k.toNat true, s.2.1 ++ [k], d) := by
 refine ⟨by simp [h.len], fun j j0 j1 => ?_, ?_, fun j hj => ?_⟩
 ·
  dsimp only
  rw [rdOf_put _ _ _ _ _ k0 (by rw [h.len]; exact k1) j0]
  by_cases e : j = k
  · simp [e]
  rw [if_neg e, h.met j j0 j1]; simp [e]
 ·
  dsimp only
  refine List.nodup_append.2 ⟨h.nd, by simp, fun a ha b hb e => ?_⟩
  have hb2 : b = k := by simpa using hb
  exact hm ((h.met k k0 k1).2 (hb2 ▸ e ▸ ha))
 ·
  rcases List.mem_append.1 hj with h1 | h1
  · exact h.rng j h1
  ·
   have : j = k := by simpa using h1
   subst this; exact ⟨k0, k1⟩
def Kin (l : List Nd) : Prop := ∀ n ∈ l, ∀ k ∈ n.f2, 0 ≤ k ∧ k < (l.length : Int)
theorem go_some (l : List Nd) (hk : Kin l) : ∀ (K : Nat) (at_ deep : Int) (s : WS), GoS l.length s → l.length < K + s.2.1.length → 0 ≤ at_ → at_ < (l.length : Int) →
  ∃ s' ext, goO l K at_ deep s = some s' ∧ GoS l.length s' ∧ s'.2.1 = s.2.1 ++ ext ∧ at_ ∈ s'.2.1 ∧ (∀ a ∈ ext, ∀ k ∈ (rd_T45 l a).f2, k ∈ s'.2.1)
 | 0, at_, deep, s, hs, hK, _, _ => absurd hs.le (by omega)
 | K + 1, at_, deep, s, hs, hK, h0, h1 => by
  rw [goO]
  by_cases hm : rdOf false s.1 at_ = true
  ·
   rw [if_pos hm]
   exact ⟨s, [], rfl, hs, by simp, (hs.met at_ h0 h1).1 hm, fun a ha => by simp at ha⟩
  rw [if_neg hm]
  have hs1 := hs.add at_ (if s.2.2 < deep then deep else s.2.2) h0 h1 hm
  have hkid := hk _ (rd_mem l at_ h0 h1)
  have fold : ∀ (kids : List Int) (s1 : WS), GoS l.length s1 → l.length < K + s1.2.1.length → (∀ k ∈ kids, 0 ≤ k ∧ k < (l.length : Int)) →
    ∃ s' ext, kids.foldlM (fun s x => goO l K x (deep + 1) s) s1 = some s' ∧ GoS l.length s' ∧ s'.2.1 = s1.2.1 ++ ext ∧ (∀ k ∈ kids, k ∈ s'.2.1) ∧ (∀ a ∈ ext, ∀ k ∈ (rd_T45 l a).f2, k ∈ s'.2.1) := by
   intro kids
   induction kids with
   | nil => intro s1 h _ _; exact ⟨s1, [], rfl, h, by simp, fun k hk => by simp at hk, fun a ha => by simp at ha⟩
   | cons k r ih =>
    intro s1 h hl hr
    obtain ⟨s2, e2, g1, g2, g3, g4, g5⟩ := go_some l hk K k (deep + 1) s1 h hl (hr k (by simp)).1 (hr k (by simp)).2
    obtain ⟨s3, e3, f1, f2, f3, f4, f5⟩ := ih s2 g2 (by rw [g3, List.length_append]; omega) (fun x hx => hr x (by simp [hx]))
    refine ⟨s3, e2 ++ e3, ?_, f2, by rw [f3, g3, List.append_assoc], ?_, ?_⟩
    · rw [List.foldlM_cons, g1]; exact f1
    ·
     intro x hx
     rcases List.mem_cons.1 hx with e | e
     · subst e; rw [f3]; exact List.mem_append_left _ g4
     · exact f4 x e
    ·
     intro a ha x hx
     rcases List.mem_append.1 ha with e | e
     · rw [f3]; exact List.mem_append_left _ (g5 a e x hx)
     · exact f5 a e x hx
  obtain ⟨s', ext, g1, g2, g3, g4, g5⟩ := fold _ _ hs1 (by simp; omega) hkid
  refine ⟨s', at_ :: ext, g1, g2, by rw [g3]; simp, by rw [g3]; simp, ?_⟩
  intro a ha x hx
  rcases List.mem_cons.1 ha with e | e
  · subst e; exact g4 x hx
  · exact g5 a e x hx
structure LaS (n : Nat) (L : List Int) (t : LS) : Prop where
 met : ∀ k, t.1 k = true ↔ k ∈ L
 nd : L.Nodup
 rng : ∀ k ∈ L, 0 ≤ k ∧ k < (n : Int)
 cnt : t.2.2 = L.length
theorem LaS.le {n : Nat} {L : List Int} {t : LS} (h : LaS n L t) : L.length ≤ n := nodup_le n _ h.nd h.rng
theorem LaS.add {n : Nat} {L : List Int} {t : LS} (h : LaS n L t) (k w : Int) (k0 : 0 ≤ k) (k1 : k < (n : Int)) (hm : ¬ t.1 k = true) : LaS n (L ++ [k]) (seen t.1 k, w, t.2.2 + 1) := by
 refine ⟨fun j => ?_, ?_, fun j hj => ?_, by simp [h.cnt]⟩
 ·
  dsimp only [seen]
  by_cases e : j = k
  · simp [e]
  rw [if_neg e, h.met j]; simp [e]
 ·
  refine List.nodup_append.2 ⟨h.nd, by simp, fun a ha b hb e => ?_⟩
  have hb2 : b = k := by simpa using hb
  exact hm ((h.met k).2 (hb2 ▸ e ▸ ha))
 ·
  rcases List.mem_append.1 hj with h1 | h1
  · exact h.rng j h1
  ·
   have : j = k := by simpa using h1
   subst this; exact ⟨k0, k1⟩
mutual
def ancT : Tr → Int × Int
  | .mk k _ a l => ((if k = 7 then 0 else if a = ⟨#[]⟩ then 0 else 1) + (ancTs l).1, (if k = 7 then 1 else 0) + (ancTs l).2)
def ancTs : List Tr → Int × Int
 | [] => (0, 0)
 | t :: r => ((ancT t).1 + (ancTs r).1, (ancT t).2 + (ancTs r).2)
end
theorem ancTs_append : ∀ (a : List Tr) (t : Tr), ancTs (a ++ [t]) = ((ancTs a).1 + (ancT t).1, (ancTs a).2 + (ancT t).2)
 | [], t => by simp [ancTs]
 | x :: r, t => by rw [List.cons_append, ancTs, ancTs_append r t, ancTs]; simp only; rw [Prod.mk.injEq]; omega
def named (an : Int → ByteArray) (L : List Int) : Nat := (L.filter fun k => decide (an k ≠ ⟨#[]⟩)).length
theorem named_append (an : Int → ByteArray) (a b : List Int) : named an (a ++ b) = named an a + named an b := by simp [named]
def kidsL (l : List Nd) (L : List Int) : Nat := (L.map fun a => (rd_T45 l a).f2.length).sum
theorem kidsL_append (l : List Nd) (a b : List Int) : kidsL l (a ++ b) = kidsL l a + kidsL l b := by simp [kidsL]
theorem tree_some (l : List Nd) (an : Int → ByteArray) (hk : Kin l) (hl : l.length ≤ 4096) (h7 : ∀ n ∈ l, n.f0 ≤ 6) : ∀ (K : Nat) (at_ deep : Int) (L : List Int) (t : LS), LaS l.length L t → l.length < K + L.length → 0 ≤ at_ → at_ < (l.length : Int) →
  ∃ x t' ext, treeO l an K at_ deep t = some (x, t') ∧ LaS l.length (L ++ ext) t' ∧ (t.2.1 ≠ 0 → t'.2.1 ≠ 0) ∧
   (t'.2.1 = 0 → (ancT x).1 = (named an ext : Int) ∧ (ancT x).2 + (ext.length : Int) = 1 + (kidsL l ext : Int) ∧ ∀ (s : WS) (d : Int), GoS l.length s → s.2.1 = L → ∃ s', goO l K at_ d s = some s' ∧ s'.2.1 = L ++ ext ∧ GoS l.length s')
 | 0, at_, deep, L, t, hs, hK, _, _ => absurd hs.le (by omega)
 | K + 1, at_, deep, L, t, hs, hK, h0, h1 => by
  rw [treeO]
  by_cases hm : t.1 at_ = true
  ·
   rw [if_pos hm]
   refine ⟨_, t, [], rfl, by simpa using hs, id, fun _ => ⟨by simp [ancT, ancTs, named], by simp [ancT, ancTs, kidsL], fun s d hg he => ⟨s, ?_, by simpa using he, hg⟩⟩⟩
   rw [goO, if_pos ((hg.met at_ h0 h1).2 (by rw [he]; exact (hs.met at_).1 hm))]
  rw [if_neg hm, if_neg (by have := hs.le; have := hs.cnt; omega)]
  dsimp only
  have hkid := hk _ (rd_mem l at_ h0 h1)
  have hk7 := h7 _ (rd_mem l at_ h0 h1)
  generalize hn : rd_T45 l at_ = n at *
  generalize hwy : (if 5 ≤ n.f0 ∧ deep = 64 then (10 : Int) else t.2.1) = why
  have hs1 := hs.add at_ why h0 h1 hm
  have hwt : t.2.1 ≠ 0 → why ≠ 0 := fun h => by
   rw [← hwy]
   by_cases c : 5 ≤ n.f0 ∧ deep = 64
   · rw [if_pos c]; decide
   rw [if_neg c]; exact h
  by_cases hw : why = 0
  rotate_left
  ·
   rw [if_pos hw]
   exact ⟨_, _, [at_], rfl, hs1, fun _ => hw, fun h => absurd h hw⟩
  rw [if_neg (by simp [hw])]
  have fold : ∀ (kids : List Int) (ts : List Tr) (L1 : List Int) (t1 : LS), LaS l.length L1 t1 → l.length < K + L1.length → (∀ k ∈ kids, 0 ≤ k ∧ k < (l.length : Int)) →
    ∃ p ext, kids.foldlM (fun (p : List Tr × LS) k => (treeO l an K k (deep + 1) p.2).map fun q => (p.1 ++ [q.1], q.2)) (ts, t1) = some p ∧ LaS l.length (L1 ++ ext) p.2 ∧ (t1.2.1 ≠ 0 → p.2.2.1 ≠ 0) ∧
     (p.2.2.1 = 0 → (ancTs p.1).1 = (ancTs ts).1 + (named an ext : Int) ∧ (ancTs p.1).2 + (ext.length : Int) = (ancTs ts).2 + kids.length + (kidsL l ext : Int) ∧ ∀ (s : WS) (d : Int), GoS l.length s → s.2.1 = L1 → ∃ s', kids.foldlM (fun s x => goO l K x d s) s = some s' ∧ s'.2.1 = L1 ++ ext ∧ GoS l.length s') := by
   intro kids
   induction kids with
   | nil => intro ts L1 t1 h _ _; exact ⟨_, [], rfl, by simpa using h, id, fun _ => ⟨by simp [named], by simp [kidsL], fun s d hg he => ⟨s, rfl, by simpa using he, hg⟩⟩⟩
   | cons k r ih =>
    intro ts L1 t1 h hlt hr
    obtain ⟨x, t2, e2, g1, g2, g3, g4⟩ := tree_some l an hk hl h7 K k (deep + 1) L1 t1 h hlt (hr k (by simp)).1 (hr k (by simp)).2
    obtain ⟨p, e3, f1, f2, f3, f4⟩ := ih (ts ++ [x]) (L1 ++ e2) t2 g2 (by rw [List.length_append]; omega) (fun y hy => hr y (by simp [hy]))
    refine ⟨p, e2 ++ e3, ?_, by rw [← List.append_assoc]; exact f2, fun h => f3 (g3 h), fun hp => ?_⟩
    · rw [List.foldlM_cons, g1]; exact f1
    ·
     obtain ⟨a1, a2, a3⟩ := f4 hp
     obtain ⟨b1, b2, b3⟩ := g4 (Decidable.byContradiction fun h => f3 h hp)
     refine ⟨?_, ?_, fun s d hg he => ?_⟩
     · rw [a1, ancTs_append, named_append, b1]; simp only; omega
     · rw [ancTs_append] at a2; simp only at a2; rw [List.length_append, kidsL_append, List.length_cons]; omega
     ·
      obtain ⟨s2, c1, c2, c3⟩ := b3 s d hg he
      obtain ⟨s3, d1, d2, d3⟩ := a3 s2 d c3 c2
      exact ⟨s3, by rw [List.foldlM_cons, c1]; exact d1, by rw [d2, List.append_assoc], d3⟩
  obtain ⟨p, ext, g1, g2, g3, g4⟩ := fold n.f2 [] _ _ hs1 (by rw [List.length_append, List.length_singleton]; omega) hkid
  refine ⟨_, p.2, at_ :: ext, by rw [g1]; rfl, by simpa using g2, fun h => absurd hw (hwt h), fun hp => ?_⟩
  obtain ⟨a1, a2, a3⟩ := g4 hp
  have e7 : n.f0 ≠ 7 := by omega
  refine ⟨?_, ?_, fun s d hg he => ?_⟩
  ·
   rw [ancT, a1, if_neg e7]
   have : named an (at_ :: ext) = (if an at_ = ⟨#[]⟩ then 0 else 1) + named an ext := by
    by_cases e : an at_ = ⟨#[]⟩
    · simp [named, e]
    simp [named, e]; omega
   rw [this]
   by_cases e : an at_ = ⟨#[]⟩
   · simp [e, ancTs]
   simp [e, ancTs]
  ·
   rw [ancT, if_neg e7]
   have : kidsL l (at_ :: ext) = n.f2.length + kidsL l ext := by simp [kidsL, hn]
   rw [this, List.length_cons]
   simp only [ancTs] at a2 ⊢
   omega
  ·
   rw [goO, if_neg (fun h => hm ((hs.met at_).2 (by rw [← he]; exact (hg.met at_ h0 h1).1 h))), hn]
   have hmm : ¬ rdOf false s.1 at_ = true := fun h => hm ((hs.met at_).2 (by rw [← he]; exact (hg.met at_ h0 h1).1 h))
   obtain ⟨s', c1, c2, c3⟩ := a3 _ (d + 1) (hg.add at_ (if s.2.2 < d then d else s.2.2) h0 h1 hmm) (by dsimp only; rw [he])
   exact ⟨s', c1, by rw [c2]; simp, c3⟩
theorem bumps_cnt : ∀ (ks : List Int) (c : Int → Nat) (x : Int), ks.foldl bumpC c x = c x + ks.count x
 | [], c, x => by simp
 | k :: r, c, x => by
  rw [List.foldl_cons, bumps_cnt r]
  unfold bumpC
  rw [List.count_cons]
  by_cases e : x = k
  · subst e; simp; omega
  rw [if_neg e, if_neg (by simpa using Ne.symm e)]; omega
theorem usesC_sum (l : List Nd) : ∀ (xs : List Int) (c : Int → Nat) (x : Int), usesC l xs c x = c x + (xs.map fun a => (rd_T45 l a).f2.count x).sum
 | [], c, x => by simp [usesC]
 | a :: r, c, x => by rw [usesC, usesC_sum l r, bumps_cnt, List.map_cons, List.sum_cons]; omega
theorem sum_zero {α : Type} (f : α → Nat) : ∀ L : List α, (∀ x ∈ L, f x = 0) → (L.map f).sum = 0
 | [], _ => rfl
 | a :: r, h => by rw [List.map_cons, List.sum_cons, h a (by simp), sum_zero f r (fun x hx => h x (by simp [hx]))]
theorem sum_add {α : Type} (f g : α → Nat) : ∀ L : List α, (L.map fun x => f x + g x).sum = (L.map f).sum + (L.map g).sum
 | [] => rfl
 | a :: r => by simp only [List.map_cons, List.sum_cons, sum_add f g r]; omega
theorem sum_one (k : Int) : ∀ L : List Int, L.Nodup → k ∈ L → (L.map fun x => if k = x then 1 else 0).sum = 1
 | [], _, h => by simp at h
 | a :: r, hn, h => by
  obtain ⟨h1, h2⟩ := List.nodup_cons.1 hn
  rw [List.map_cons, List.sum_cons]
  by_cases e : k = a
  rotate_left
  · rw [if_neg e, sum_one k r h2 ((List.mem_cons.1 h).resolve_left e)]
  subst e
  have hz : ∀ x ∈ r, (if k = x then 1 else 0) = 0 := fun x hx => by
   by_cases c : k = x
   rotate_left
   · rw [if_neg c]
   subst c; exact absurd hx h1
  rw [if_pos rfl, sum_zero _ r hz]
theorem sum_counts (L : List Int) (hn : L.Nodup) : ∀ ks : List Int, (∀ k ∈ ks, k ∈ L) → (L.map fun x => ks.count x).sum = ks.length
 | [], _ => by rw [sum_zero _ L (fun x _ => by simp)]; rfl
 | k :: r, h => by
  have e : (fun x => (k :: r).count x) = fun x => r.count x + (if k = x then 1 else 0) := by
   funext x
   rw [List.count_cons]
   by_cases c : k = x
   · simp [c]
   simp [c]
  rw [e, sum_add, sum_counts L hn r (fun x hx => h x (by simp [hx])), sum_one k L hn (h k (by simp)), List.length_cons]
theorem sum_swap (l : List Nd) (L : List Int) : ∀ xs : List Int, (L.map fun x => (xs.map fun a => (rd_T45 l a).f2.count x).sum).sum = (xs.map fun a => (L.map fun x => (rd_T45 l a).f2.count x).sum).sum
 | [] => sum_zero _ L (fun _ _ => rfl)
 | a :: r => by
  simp only [List.map_cons, List.sum_cons]
  rw [sum_add, sum_swap l L r]
theorem uses_all (l : List Nd) (root : Int) (L : List Int) (hn : L.Nodup) (hr : root ∈ L) (hc : ∀ a ∈ L, ∀ k ∈ (rd_T45 l a).f2, k ∈ L) : (L.map fun x => usesC l L (bumpC (fun _ => 0) root) x).sum = 1 + kidsL l L := by
 have e : (fun x => usesC l L (bumpC (fun _ => 0) root) x) = fun x => (if root = x then 1 else 0) + (L.map fun a => (rd_T45 l a).f2.count x).sum := by
  funext x
  rw [usesC_sum]
  unfold bumpC
  by_cases c : x = root
  · rw [if_pos c, if_pos c.symm]
  rw [if_neg c, if_neg (Ne.symm c)]
 rw [e, sum_add, sum_one root L hn hr, sum_swap, kidsL]
 congr 2
 exact List.map_congr_left (fun a ha => sum_counts L hn _ (hc a ha))
theorem sum_le_len (f : Int → Nat) : ∀ L : List Int, (∀ x ∈ L, f x ≤ 1) → (L.map f).sum ≤ L.length
 | [], _ => by simp
 | a :: r, h => by rw [List.map_cons, List.sum_cons, List.length_cons]; have := h a (by simp); have := sum_le_len f r (fun x hx => h x (by simp [hx])); omega
def anG : List Int → Nat → (Int → Option ByteArray) → Int → Option ByteArray
 | [], _, F => F
 | a :: r, n, F => anG r (n + 1) (fun y => if y = a then some (nameB (n + 1)) else F y)
theorem anG_out : ∀ (L : List Int) (n : Nat) (F : Int → Option ByteArray) (k : Int), k ∉ L → anG L n F k = F k
 | [], _, _, _, _ => rfl
 | a :: r, n, F, k, h => by
  rw [anG, anG_out r _ _ k (fun x => h (by simp [x])), if_neg (fun e => h (by simp [e]))]
theorem anG_in : ∀ (L : List Int) (n : Nat) (F : Int → Option ByteArray) (k : Int), k ∈ L → ∃ j, anG L n F k = some (nameB (j + 1))
 | [], _, _, _, h => by simp at h
 | a :: r, n, F, k, h => by
  by_cases c : k ∈ r
  · exact anG_in r (n + 1) _ k c
  rw [anG, anG_out r _ _ k c, if_pos ((List.mem_cons.1 h).resolve_right c)]
  exact ⟨n, rfl⟩
def anB (sh : List Int) (k : Int) : ByteArray := (anG sh 0 (fun _ => none) k).getD ⟨#[]⟩
theorem nameB_ne (n : Nat) : nameB n ≠ ⟨#[]⟩ := fun e => by
 have := congrArg ByteArray.size e
 unfold nameB at this
 rw [ByteArray.size_append] at this
 have h2 : (ByteArray.mk #[97]).size = 1 := rfl
 have h3 : (ByteArray.mk #[]).size = 0 := rfl
 omega
theorem named_filter (p : Int → Bool) (L : List Int) : named (anB (L.filter p)) L = (L.filter p).length := by
 unfold named
 congr 1
 refine List.filter_congr (fun k hk => ?_)
 by_cases h : p k = true
 rotate_left
 ·
  rw [anB, anG_out _ _ _ k (fun e => h (List.mem_filter.1 e).2), Bool.eq_false_iff.2 h]
  exact decide_eq_false (fun e => e rfl)
 obtain ⟨j, hj⟩ := anG_in (L.filter p) 0 (fun _ => none) k (List.mem_filter.2 ⟨hk, h⟩)
 rw [anB, hj, h]
 exact decide_eq_true (nameB_ne _)
mutual
theorem anc_pos : ∀ t : Tr, 0 ≤ (ancT t).2
 | .mk k _ _ l => by
  have := ancs_pos l
  rw [ancT]
  dsimp only
  split <;> omega
theorem ancs_pos : ∀ l : List Tr, 0 ≤ (ancTs l).2
 | [] => by simp [ancTs]
 | t :: r => by
  have h1 := anc_pos t
  have h2 := ancs_pos r
  rw [ancTs]
  dsimp only
  omega
end
theorem rdOf_rep (n : Nat) (k : Int) : rdOf false (List.replicate n false) k = false := by
 unfold rdOf
 rw [List.getD_eq_getElem?_getD, List.getElem?_replicate]; split <;> rfl
theorem go_start (n : Nat) : GoS n (List.replicate n false, [], 0) :=
  ⟨by simp, fun k _ _ => by dsimp only; rw [rdOf_rep]; simp, by simp, fun k hk => by simp at hk⟩
theorem la_start (n : Nat) : LaS n [] (fun _ => false, 0, 0) := ⟨fun k => by simp, by simp, fun k hk => by simp at hk, rfl⟩
def layF (l : List Nd) (root : Int) : Option (Tr × Int) :=
 match graph_Order.f l root, iso_Shared.f l root with
 | some (xs, e), some (sh, _) =>
  if e ≠ 0 then some (noTr, e) else
  match treeO l (anB sh) (l.length + 1) root 0 (fun _ => false, 0, 0) with
  | none => none
  | some (t, s) => some (if s.2.1 ≠ 0 then (noTr, s.2.1) else if 4096 < 1 + kidsL l xs then (noTr, 5) else (t, 0))
 | _, _ => none
theorem lay_right (l : List Nd) (root : Int) (hs : sizesB l = true) (hG : RightG l root) (hk : Kin l) (h7 : ∀ n ∈ l, n.f0 ≤ 6) :
    ∃ xs sh t s, graph_Order.f l root = some (xs, 0) ∧ iso_Shared.f l root = some (sh, 0) ∧ treeO l (anB sh) (l.length + 1) root 0 (fun _ => false, 0, 0) = some (t, s) ∧
      xs.length ≤ l.length ∧ (s.2.1 = 0 → (ancT t).1 = (sh.length : Int) ∧ (ancT t).2 + (xs.length : Int) = 1 + (kidsL l xs : Int) ∧ (sh = [] → (ancT t).2 = 0)) := by
  have hr := (right_iff l root hs).2 hG
  obtain ⟨s0, xs, g1, g2, g3, g4, g5⟩ := go_some l hk (l.length + 1) root 1 _ (go_start l.length) (by simp) hG.r0 hG.r1
  have gx : s0.2.1 = xs := by rw [g3]; rfl
  rw [gx] at g4 g5
  have hn := g2.nd
  have hrg := g2.rng
  rw [gx] at hn hrg
  have hle := g2.le
  rw [gx] at hle
  have hO : graph_Order.f l root = some (xs, 0) := by
    unfold graph_Order.f
    rw [if_pos hs, if_pos hr, g1]
    simp [gx]
  have hS : iso_Shared.f l root = some (xs.filter (fun x => !decide ((usesC l xs (bumpC (fun _ => 0) root) x : Int) < 2)), 0) := by
    unfold iso_Shared.f
    rw [hO]
    dsimp only
    rw [if_neg (by simp), if_pos ⟨fun e => by rw [e] at g4; simp at g4, by have := hG.le; omega, List.all_eq_true.2 (fun x hx => by have := hrg x hx; simp; omega)⟩]
  obtain ⟨t, s, ext, t1, t2, t3, t4⟩ := tree_some l (anB (xs.filter (fun x => !decide ((usesC l xs (bumpC (fun _ => 0) root) x : Int) < 2)))) hk hG.le h7 (l.length + 1) root 0 [] _ (la_start l.length) (by simp) hG.r0 hG.r1
  refine ⟨xs, _, t, s, hO, hS, t1, hle, fun hw => ?_⟩
  obtain ⟨a1, a2, a3⟩ := t4 hw
  obtain ⟨s1, b1, b2, b3⟩ := a3 _ 1 (go_start l.length) rfl
  rw [g1] at b1
  have hx : ext = xs := by
    have := Option.some.inj b1
    rw [← this, gx] at b2
    simpa using b2.symm
  subst hx
  refine ⟨by rw [a1, named_filter], a2, fun he => ?_⟩
  have h1 := uses_all l root ext hn g4 g5
  have h2 := sum_le_len (fun x => usesC l ext (bumpC (fun _ => 0) root) x) ext (fun x hx => by
    have h3 := List.filter_eq_nil_iff.1 he x hx
    simp at h3
    omega)
  have h0 := anc_pos t
  omega
abbrev t0 : LS := (fun _ => false, 0, 0)
structure Ta (w : World) (gb rs lb am mm nb : Nat) (v : Value) (A0 : Option Addr) (n c0 : Nat) (root : Int) (xs : List Int) (F : Int → Option ByteArray) (j na : Nat) (W : World) : Prop where
 lw : Lw w lb am mm na A0 n c0 F t0 W
 g : W.heap[gb]? = some (.cells #[.slice A0 n c0, .int .i64 root] 24)
 r : W.heap[rs]? = some (.cells #[.int .i64 0, .string ⟨#[]⟩, .string ⟨#[]⟩, .slice none 0 0] 29)
 nm : W.heap[nb]? = some (.cells #[.int .i64 (j : Int)] 68)
 row : Kd.R (Kd.int .i64) 3 W w.heap.size (fun k => k < am) v xs
 lts : w.heap.size ≤ gb ∧ gb < am ∧ w.heap.size ≤ rs ∧ rs < am ∧ am < mm ∧ mm < lb ∧ lb < nb
section
variable {w W W' : World} {gb rs lb am mm nb : Nat} {v : Value} {A0 : Option Addr} {n c0 : Nat} {root : Int} {xs : List Int} {F : Int → Option ByteArray} {j na : Nat}
theorem ta_start (hg : W.heap[gb]? = some (.cells #[.slice A0 n c0, .int .i64 root] 24)) (hr : W.heap[rs]? = some (.cells #[.int .i64 0, .string ⟨#[]⟩, .string ⟨#[]⟩, .slice none 0 0] 29))
  (hrow : Kd.R (Kd.int .i64) 3 W w.heap.size (fun _ => True) v xs) (hb : Below w.heap.size w W) (h1 : w.heap.size ≤ gb) (h2 : w.heap.size ≤ rs) :
  Ta w gb rs (W.heap.size + 1 + 1) W.heap.size (W.heap.size + 1) (W.heap.size + 1 + 1 + 1) v A0 n c0 root xs (fun _ => none) 0 0
   ((((W.alloc (.map #[] 0)).alloc (.map #[] 0)).alloc (.cells #[.slice A0 n c0, .map (some W.heap.size), .map (some (W.heap.size + 1)), .int .i64 0] 64)).alloc (.cells #[.int .i64 0] 68)) := by
 have e1 : (W.alloc (.map #[] 0)).heap.size = W.heap.size + 1 := by simp
 have e2 : ((W.alloc (.map #[] 0)).alloc (.map #[] 0)).heap.size = W.heap.size + 1 + 1 := by simp
 have e3 : (((W.alloc (.map #[] 0)).alloc (.map #[] 0)).alloc (.cells #[.slice A0 n c0, .map (some W.heap.size), .map (some (W.heap.size + 1)), .int .i64 0] 64)).heap.size = W.heap.size + 1 + 1 + 1 := by simp
 have m1 := made W Tryz.prog 3 intV_inj
 have m2 := made (W.alloc (.map #[] 0)) Tryz.prog 3 intV_inj
 rw [e1] at m2
 have l1 := blk_new ((W.alloc (.map #[] 0)).alloc (.map #[] 0)) (.cells #[.slice A0 n c0, .map (some W.heap.size), .map (some (W.heap.size + 1)), .int .i64 0] 64)
 rw [e2] at l1
 have n1 := blk_new (((W.alloc (.map #[] 0)).alloc (.map #[] 0)).alloc (.cells #[.slice A0 n c0, .map (some W.heap.size), .map (some (W.heap.size + 1)), .int .i64 0] 64)) (.cells #[.int .i64 0] 68)
 rw [e3] at n1
 have hB := below_alloc (below_alloc (below_alloc (below_alloc (Below.refl W.heap.size W) (.map #[] 0)) (.map #[] 0)) (.cells #[.slice A0 n c0, .map (some W.heap.size), .map (some (W.heap.size + 1)), .int .i64 0] 64)) (.cells #[.int .i64 0] 68)
 have hz := hb.size
 refine ⟨⟨(Lib.alloc_old _ _ _ (by rw [e3]; omega)).trans l1, ?_, ?_, hb.trans (hB.mono hb.size), by omega⟩, (hB.block gb (blk_lt hg)).trans hg, (hB.block rs (blk_lt hr)).trans hr, n1, ?_, ⟨h1, blk_lt hg, h2, blk_lt hr, by omega, by omega, by omega⟩⟩
 ·
  have : anV (fun _ : Int => (none : Option ByteArray)) = fun _ => none := rfl
  rw [this]
  exact ((m1.alloc _).alloc _).alloc _
 ·
  have : metV t0.1 = fun _ => none := by funext k; simp [metV]
  rw [this]
  exact (m2.alloc _).alloc _
 · exact Kd.R_below (Kd.R_mono (Kd.R_bound hrow) (fun k hk => hk.2.2.1)) hB
theorem Ta.next (h : Ta w gb rs lb am mm nb v A0 n c0 root xs F j na W) (hg : W.grownBy W' (some nb)) {j' : Nat} (hn : W'.heap[nb]? = some (.cells #[.int .i64 (j' : Int)] 68)) : Ta w gb rs lb am mm nb v A0 n c0 root xs F j' na W' := by
 obtain ⟨a1, a2, a3, a4, a5, a6, a7⟩ := h.lts
 have hB : ∀ k, k < W.heap.size → k < nb → W'.heap[k]? = W.heap[k]? := fun k hk hl => hg.block k hk (fun e => by have := Option.some.inj e; omega)
 have hw := h.lw
 refine ⟨⟨(hB lb (blk_lt hw.l) (by omega)).trans hw.l, hw.a.of_block (hB am hw.a.lt (by omega)), hw.m.of_block (hB mm hw.m.lt (by omega)), hw.bel.trans (below_of_grown hg (by omega) hw.bel.size), hw.lts⟩, (hB gb (blk_lt h.g) (by omega)).trans h.g, (hB rs (blk_lt h.r) (by omega)).trans h.r, hn, Kd.R_step h.row (fun k hk hl => hB k hl (by omega)), h.lts⟩
theorem Ta.put (h : Ta w gb rs lb am mm nb v A0 n c0 root xs F j na W) (k : Int) (hk : -9223372036854775808 ≤ k ∧ k ≤ 9223372036854775807) (hna : na ≤ 1099511627776) (s : ByteArray) :
  ∃ W', (Instr.mapUpdate 61 (.map (some am)) (.int .i64 k) (.string s)).run Tryz.prog W = .ok () W' ∧ Ta w gb rs lb am mm nb v A0 n c0 root xs (fun y => if y = k then some s else F y) j (na + 1) W' := by
 obtain ⟨a1, a2, a3, a4, a5, a6, a7⟩ := h.lts
 have hw := h.lw
 obtain ⟨W', hr, hm', hg⟩ := hw.a.put int_law Tryz.underlying61 (by unfold maxLen; omega) (int_key k hk) (.string s)
 have e2 : (fun y => if y = k then some (Value.string s) else anV F y) = anV (fun y => if y = k then some s else F y) := by
  funext y
  unfold anV
  by_cases e : y = k
  · simp [e]
  simp [e]
 rw [e2] at hm'
 have hB : ∀ k, k < W.heap.size → k ≠ am → W'.heap[k]? = W.heap[k]? := fun k hk hl => hg.block k hk (fun e => hl (Option.some.inj e))
 exact ⟨W', hr, ⟨(hB lb (blk_lt hw.l) (by omega)).trans hw.l, hm', hw.m.of_block (hB mm hw.m.lt (by omega)), hw.bel.trans (below_of_grown hg hw.lts.2.1 hw.bel.size), hw.lts⟩, (hB gb (blk_lt h.g) (by omega)).trans h.g, (hB rs (blk_lt h.r) (by omega)).trans h.r, (hB nb (blk_lt h.nm) (by omega)).trans h.nm, Kd.R_step h.row (fun k hk hl => hB k hl (by omega)), h.lts⟩
theorem Ta.drew (h : Ta w gb rs lb am mm nb v A0 n c0 root xs F j na W) : Ta w gb rs lb am mm nb v A0 n c0 root xs F j na W.drew :=
  ⟨h.lw.keep (below_drew1 (Below.refl _ _)), h.g, h.r, h.nm, Kd.R_drew h.row, h.lts⟩
theorem Ta.cells (h : Ta w gb rs lb am mm nb v A0 n c0 root xs F j na W) : W.cell? ⟨gb, 0, none⟩ = some (.slice A0 n c0) ∧ W.cell? ⟨gb, 1, none⟩ = some (.int .i64 root) ∧ W.cell? ⟨lb, 1, none⟩ = some (.map (some am)) :=
  ⟨(blk_cell h.g 0).trans rfl, (blk_cell h.g 1).trans rfl, h.lw.cells.2.1⟩
structure Tb (w : World) (gb rs lb : Nat) (A0 : Option Addr) (n c0 : Nat) (root why : Int) (cs : Array Value) (am mm : Nat) (W : World) : Prop where
 l : W.heap[lb]? = some (.cells #[.slice A0 n c0, .map (some am), .map (some mm), .int .i64 why] 64)
 g : W.heap[gb]? = some (.cells #[.slice A0 n c0, .int .i64 root] 24)
 r : W.heap[rs]? = some (.cells cs 29)
 bel : Below w.heap.size w W
 lts : w.heap.size ≤ rs ∧ rs < lb
theorem Ta.tree (h : Ta w gb rs lb am mm nb v A0 n c0 root xs F j na W) {s : LS} (hl : Lw w lb am mm na A0 n c0 F s W') (hk : KeepBut W W' lb (some mm)) : Tb w gb rs lb A0 n c0 root s.2.1 #[.int .i64 0, .string ⟨#[]⟩, .string ⟨#[]⟩, .slice none 0 0] am mm W' := by
 obtain ⟨a1, a2, a3, a4, a5, a6, a7⟩ := h.lts
 exact ⟨hl.l, (hk.2 gb (blk_lt h.g) (by omega) (fun e => by have := Option.some.inj e; omega)).trans h.g, (hk.2 rs (blk_lt h.r) (by omega) (fun e => by have := Option.some.inj e; omega)).trans h.r, hl.bel, by omega⟩
theorem Tb.alloc {why : Int} {cs : Array Value} (h : Tb w gb rs lb A0 n c0 root why cs am mm W) (o : Obj) : Tb w gb rs lb A0 n c0 root why cs am mm (W.alloc o) :=
  ⟨(Lib.alloc_old _ _ _ (blk_lt h.l)).trans h.l, (Lib.alloc_old _ _ _ (blk_lt h.g)).trans h.g, (Lib.alloc_old _ _ _ (blk_lt h.r)).trans h.r, below_alloc h.bel o, h.lts⟩
theorem Tb.drew {why : Int} {cs : Array Value} (h : Tb w gb rs lb A0 n c0 root why cs am mm W) : Tb w gb rs lb A0 n c0 root why cs am mm W.drew := ⟨h.l, h.g, h.r, below_drew1 h.bel, h.lts⟩
theorem Tb.why {why : Int} {cs : Array Value} (h : Tb w gb rs lb A0 n c0 root why cs am mm W) : W.cell? ⟨lb, 3, none⟩ = some (.int .i64 why) := (blk_cell h.l 3).trans rfl
theorem blk_put4 {W : World} {b T : Nat} {x0 x1 x2 x3 : Value} (h : W.heap[b]? = some (.cells #[x0, x1, x2, x3] T)) (y0 y1 y2 y3 : Value) : ((((W.setCell ⟨b, 0, none⟩ y0).setCell ⟨b, 1, none⟩ y1).setCell ⟨b, 2, none⟩ y2).setCell ⟨b, 3, none⟩ y3).heap[b]? = some (.cells #[y0, y1, y2, y3] T) := by
 have h0 := blk_set h 0 y0
 have h1 := blk_set h0 1 y1
 have h2 := blk_set h1 2 y2
 have h3 := blk_set h2 3 y3
 simpa using h3
theorem below_put4 {b : Nat} (h : Below w.heap.size w W) (hb : w.heap.size ≤ b) (y0 y1 y2 y3 : Value) : Below w.heap.size w ((((W.setCell ⟨b, 0, none⟩ y0).setCell ⟨b, 1, none⟩ y1).setCell ⟨b, 2, none⟩ y2).setCell ⟨b, 3, none⟩ y3) :=
  (((h.setCell (p := ⟨b, 0, none⟩) hb y0).setCell (p := ⟨b, 1, none⟩) hb y1).setCell (p := ⟨b, 2, none⟩) hb y2).setCell (p := ⟨b, 3, none⟩) hb y3
theorem far_put4 (b : Nat) (y0 y1 y2 y3 : Value) {k : Nat} (hk : k ≠ b) : ((((W.setCell ⟨b, 0, none⟩ y0).setCell ⟨b, 1, none⟩ y1).setCell ⟨b, 2, none⟩ y2).setCell ⟨b, 3, none⟩ y3).heap[k]? = W.heap[k]? :=
  (Below.heap_setCell _ ⟨b, 3, none⟩ y3 k hk).trans ((Below.heap_setCell _ ⟨b, 2, none⟩ y2 k hk).trans ((Below.heap_setCell _ ⟨b, 1, none⟩ y1 k hk).trans (Below.heap_setCell _ ⟨b, 0, none⟩ y0 k hk)))
theorem Tb.rsl {why : Int} {x0 x1 x2 x3 : Value} (h : Tb w gb rs lb A0 n c0 root why #[x0, x1, x2, x3] am mm W) :
  (W.cell? ⟨rs, 0, none⟩ = some x0 ∧ W.cell? ⟨rs, 1, none⟩ = some x1 ∧ W.cell? ⟨rs, 2, none⟩ = some x2 ∧ W.cell? ⟨rs, 3, none⟩ = some x3) ∧ W.frozen? ⟨rs, 0, none⟩ = false ∧ W.frozen? ⟨rs, 1, none⟩ = false ∧ W.frozen? ⟨rs, 2, none⟩ = false ∧ W.frozen? ⟨rs, 3, none⟩ = false :=
 ⟨⟨(blk_cell h.r 0).trans rfl, (blk_cell h.r 1).trans rfl, (blk_cell h.r 2).trans rfl, (blk_cell h.r 3).trans rfl⟩, blk_frozen h.r 0, blk_frozen h.r 1, blk_frozen h.r 2, blk_frozen h.r 3⟩
end
end Go.Proofs.YtnjcpoojgmpmeaaGreatDoor.Plug
namespace Go.Proofs.YtnjcpoojgmpmeaaGreatDoor.PX
open RowKit YtnjcpoojgmpmeaaGreatDoorW.PrintWords YtnjcpoojgmpmeaaGreatDoorW.PrintLast YtnjcpoojgmpmeaaGreatDoorW.PrintMore YtnjcpoojgmpmeaaGreatDoor YtnjcpoojgmpmeaaGreatDoor.Plug
attribute [local go_sem] max2_int min2_int max_two min_two max_three min_three max_four min_four   -- for this text's walks alone
set_option linter.unusedVariables false
set_option linter.unusedSimpArgs false
def lay_Size.l0 : Nat → Int → List Int → Int → Int → List (S45) → Int → Option (Int × Int)
  | 0, _, _, _, _, _, _ => none
  | k + 1, x6, x17, x18, x19, x102000, x102001 => if x19 < x18 then (if 0 ≤ x19 then (if x19 < (x17.length : Int) then (if 0 ≤ (rd x17 x19) then (if (rd x17 x19) < (x102000.length : Int) then (lay_Size.l0 k (wrap64 (x6 + (((rd_T45 x102000 (rd x17 x19)).f2).length : Int))) x17 x18 (wrap64 (x19 + 1)) x102000 x102001) else (none)) else (none)) else (none)) else (none)) else (some (x6, 0))
def lay_Size.f (k : Nat) (l0_0 : List (S45)) (a0_1 : Int) : Option (Int × Int) := (graph_Order.f l0_0 a0_1).bind fun bt102 => (if bt102.2 = 0 then (lay_Size.l0 k 1 bt102.1 (bt102.1.length : Int) 0 l0_0 a0_1) else (some (0, bt102.2)))
theorem qua0_ {P : Prop} (h_ : P := by repeat (first | (with_reducible first | exact HB.out | apply below_alloc | apply pw_below_drewN | apply below_drew1 | refine below_set ?_ GE101.out) | exact HB.out)) : P := h_
theorem qua1_ {P : Prop} (h_ : P := by repeat (first | (with_reducible first | exact HB.out | apply below_alloc | apply pw_below_drewN | apply below_drew1) | exact HB.out)) : P := h_
theorem qua2_ {P : Prop} (h_ : P := by (with_reducible repeat (first | refine blk_drewN ?_ _ | refine blk_drew ?_ | refine blk_alloc ?_ _)); exact BK101.out) : P := h_
theorem qua3_ {P : Prop} (h_ : P := by first | ((repeat (first | (with_reducible first | exact HB.out | apply below_alloc | apply pw_below_drewN | apply below_drew1 | (refine Glob.below_set ?_ (by assumption) _ _ _)) | exact HB.out)); done) | (refine Drawn0.below ?_; repeat (first | exact Drawn0.refl _ | assumption | apply Drawn0.step))) : P := h_
theorem qua4_ {P : Prop} (h_ : P := by (try simp only [List.map_toArray, List.map_cons, List.map_nil]); first | done | rfl | (simp only [List.length_drop, List.length_take]; rfl)) : P := h_
theorem qua5_ {P : Prop} (h_ : P := by first | (with_reducible assumption) | assumption) : P := h_
theorem qua6_ {P : Prop} (h_ : P := by first | rfl | (simp; done) | (simp [*]; done)) : P := h_
set_option maxHeartbeats 8000000 in
set_option maxRecDepth 100000 in
theorem lay_Size.calls (k : Nat) (A0_0 : Option Addr) (c0_0 : Nat) (l0_0 : List (S45)) (a0_1 : Int) (r1 : Int) (r2 : Int) (w : World) (hr0_0 : Kd.C k45 w A0_0 l0_0.length l0_0) (hc0_0 : l0_0.length ≤ c0_0) (hG : Glob.G w) (h : lay_Size.f k l0_0 a0_1 = some (r1, r2)) :
  Calls Tryz.prog 13 #[.agg #[.slice A0_0 l0_0.length c0_0, .int .i64 a0_1]] w fun e w' => e = .returned (.tuple #[.int .i64 r1, .int .i64 r2]) ∧ Below w.heap.size w w' := by
 have hu24 := Tryz.underlying24
 have HR0_0 := Aside0.mk hr0_0
 have HC0_0 := Aside0.mk hc0_0
 clear hr0_0 hc0_0
 have HB := Aside0.mk (Below.refl w.heap.size w)
 have H : ((graph_Order.f l0_0 a0_1).bind fun bt102 => (if bt102.2 = 0 then (lay_Size.l0 k 1 bt102.1 (bt102.1.length : Int) 0 l0_0 a0_1) else (some (0, bt102.2)))) = some (r1, r2) := h
 clear h
 replace H := Option.bind_eq_some_iff.mp H
 obtain ⟨⟨t102, t105⟩, A20, H⟩ := H
 replace H : (if t105 = 0 then (lay_Size.l0 k 1 t102 (t102.length : Int) 0 l0_0 a0_1) else (some (0, t105))) = some (r1, r2) := H
 have A2 := Aside0.mk A20
 clear A20
 by_cases c3 : t105 = 0
 rotate_left
 ·
  rw [if_neg c3] at H
  have c3b0 : (t105 == 0) = false := beq_eq_false_iff_ne.mpr c3
  have c3b1 : (t105 != 0) = true := bne_iff_ne.mpr c3
  simp only [Option.some.injEq, Prod.mk.injEq] at H
  obtain ⟨rfl, rfl⟩ := H
  go_enter Tryz.func13, Tryz.ntmps13
  go_wp2_with (first | ((with_reducible refine gate_dst (N := 1) rfl ?_); refine box_event ?hg (N := 1) ?hd (cs := #[.slice A0_0 l0_0.length c0_0, .int .i64 a0_1]) (t := 24) ?hr ?_; (case hd => rfl); (case hg => rfl); (case hr => first | (go_simp; done) | (go_simp; rfl)); intro gb101 hg w14 hbox hb; have n0_ := Aside0.mk (below_step (qua1_) hb); have n1_ := Aside0.mk (hbox); have n2_ := Aside0.mk ((by rw [hg]; exact (below_size (qua1_)) : w.heap.size ≤ gb101)); have n3_ := Aside0.mk ((by rw [hg]; exact (below_size (qua1_)) : w.heap.size ≤ gb101)); clear HB; have HB := n0_; have BK101 := n1_; have GW101 := n2_; have GE101 := n3_; clear n0_ n1_ n2_ n3_; clear hb hbox hg; have hcz15_0 : w14.cell? ⟨gb101, 0, none⟩ = some (.slice A0_0 l0_0.length c0_0) := (blk_cell BK101.out 0).trans rfl; have hcz15_1 : w14.cell? ⟨gb101, 1, none⟩ = some (.int .i64 a0_1) := (blk_cell BK101.out 1).trans rfl; have hfz15_0 := blk_frozen BK101.out 0; have hfz15_1 := blk_frozen BK101.out 1) | ((with_reducible refine gate_callee (f := 17) rfl ?_); refine goesL_ (some 11) rfl rfl Tryz.func17 (by kernel_rfl) rfl #[.agg #[.slice A0_0 l0_0.length c0_0, .int .i64 a0_1]] rfl (qua4_) ?_; (with_reducible refine (graph_Order.calls _ _ l0_0 a0_1 t102 t105 _ ?side1 ?side2 (hG.below (qua3_)) A2.out).mono ?_); (case side1 => repeat (first | exact (Kd.C_below HR0_0.out HB.out) | (with_reducible refine Kd.C_alloc ?_ _) | (with_reducible refine Kd.C_drewN ?_ _) | (with_reducible refine Kd.C_drew ?_))); (case side2 => exact HC0_0.out); rintro e w16 ⟨v103, rfl, ho0, hb⟩; refine ⟨_, rfl, ?_⟩; have n0_ := Aside0.mk (Kd.R_lower ho0 (below_size (qua0_))); have n1_ := Aside0.mk (blk_below (g := gb101) (o := .cells #[.slice A0_0 l0_0.length c0_0, .int .i64 a0_1] 24 (0, 0)) (qua2_) hb); have n2_ := Aside0.mk (below_step (qua0_) hb); clear BK101; clear HB; have HO104 := n0_; have BK101 := n1_; have HB := n2_; clear n0_ n1_ n2_; (try clear hb); (try clear ho0)))
  go_ret2
  exact ⟨by first | rfl | (simp [errW_none, errW_some] <;> rfl) | (simp [*, errW_none, errW_some] <;> rfl), qua0_⟩
 rw [if_pos c3] at H
 have c3b0 : (t105 == 0) = true := beq_iff_eq.mpr c3
 have c3b1 : (t105 != 0) = false := bne_eq_false_iff_eq.mpr c3
 clear c3
 have H' := Aside0.mk H
 clear H
 go_enter Tryz.func13, Tryz.ntmps13
 go_wp2_with (first | ((with_reducible refine gate_dst (N := 1) rfl ?_); refine box_event ?hg (N := 1) ?hd (cs := #[.slice A0_0 l0_0.length c0_0, .int .i64 a0_1]) (t := 24) ?hr ?_; (case hd => rfl); (case hg => rfl); (case hr => first | (go_simp; done) | (go_simp; rfl)); intro gb101 hg w4 hbox hb; have n0_ := Aside0.mk (below_step (qua1_) hb); have n1_ := Aside0.mk (hbox); have n2_ := Aside0.mk ((by rw [hg]; exact (below_size (qua1_)) : w.heap.size ≤ gb101)); have n3_ := Aside0.mk ((by rw [hg]; exact (below_size (qua1_)) : w.heap.size ≤ gb101)); clear HB; have HB := n0_; have BK101 := n1_; have GW101 := n2_; have GE101 := n3_; clear n0_ n1_ n2_ n3_; clear hb hbox hg; have hcz5_0 : w4.cell? ⟨gb101, 0, none⟩ = some (.slice A0_0 l0_0.length c0_0) := (blk_cell BK101.out 0).trans rfl; have hcz5_1 : w4.cell? ⟨gb101, 1, none⟩ = some (.int .i64 a0_1) := (blk_cell BK101.out 1).trans rfl; have hfz5_0 := blk_frozen BK101.out 0; have hfz5_1 := blk_frozen BK101.out 1) | ((with_reducible refine gate_callee (f := 17) rfl ?_); refine goesL_ (some 11) rfl rfl Tryz.func17 (by kernel_rfl) rfl #[.agg #[.slice A0_0 l0_0.length c0_0, .int .i64 a0_1]] rfl (qua4_) ?_; (with_reducible refine (graph_Order.calls _ _ l0_0 a0_1 t102 t105 _ ?side1 ?side2 (hG.below (qua3_)) A2.out).mono ?_); (case side1 => repeat (first | exact (Kd.C_below HR0_0.out HB.out) | (with_reducible refine Kd.C_alloc ?_ _) | (with_reducible refine Kd.C_drewN ?_ _) | (with_reducible refine Kd.C_drew ?_))); (case side2 => exact HC0_0.out); rintro e w6 ⟨v103, rfl, ho0, hb⟩; refine ⟨_, rfl, ?_⟩; have n0_ := Aside0.mk (Kd.R_lower ho0 (below_size (qua0_))); have n1_ := Aside0.mk (blk_below (g := gb101) (o := .cells #[.slice A0_0 l0_0.length c0_0, .int .i64 a0_1] 24 (0, 0)) (qua2_) hb); have n2_ := Aside0.mk (below_step (qua0_) hb); clear BK101; clear HB; have HO104 := n0_; have BK101 := n1_; have HB := n2_; clear n0_ n1_ n2_; (try clear hb); (try clear ho0); obtain ⟨Ao7, co7, eo7⟩ := Kd.R_slice HO104.out; subst eo7))
 go_loopg [6, 19] k (fun kq v6 v19 w' => ∃ (x6_1 : Int) (x19_1 : Int), v6 = .int .i64 x6_1 ∧ v19 = .int .i64 x19_1 ∧ Aside0 (lay_Size.l0 kq x6_1 t102 (t102.length : Int) x19_1 l0_0 a0_1 = some (r1, r2)) ∧ Aside0 (kq ≤ k) ∧ Aside0 (Kd.R (Kd.int .i64) 3 w' w.heap.size (fun _ => True) (.slice Ao7 t102.length co7) t102) ∧ Aside0 (w'.heap[gb101]? = some (.cells #[(.slice A0_0 l0_0.length c0_0), .int .i64 a0_1] 24 (0, 0))) ∧ Aside0 (Below w.heap.size w w'))
 case atStart => exact ⟨(1), (0), (qua6_), (qua6_), H', ⟨Nat.le_refl _⟩, ⟨by (with_reducible repeat (first | apply Kd.R_alloc | apply Kd.R_drewN | apply Kd.R_drew)); exact HO104.out⟩, ⟨qua2_⟩, ⟨qua0_⟩⟩
 case round =>
  clear H'
  try clear c1
  try clear p2
  try clear c3
  try clear c3b0
  try clear c3b1
  try clear hcz5_0
  try clear hcz5_1
  try clear hfz5_0
  try clear hfz5_1
  obtain ⟨x6_1, x19_1, rfl, rfl, HA, HK1, HO_17, BK101, HB⟩ := hrel
  cases gk with
  | zero => exact absurd HA.out (by simp [lay_Size.l0])
  | succ k1 =>
   have H := HA.out
   clear HA
   simp only [lay_Size.l0] at H
   by_cases c8 : x19_1 < (t102.length : Int)
   rotate_left
   ·
    rw [if_neg c8] at H
    have c8b0 : decide (x19_1 < (t102.length : Int)) = false := decide_eq_false c8
    clear c8
    simp only [Option.some.injEq, Prod.mk.injEq] at H
    obtain ⟨rfl, rfl⟩ := H
    go_wp2
    go_ret2
    exact ⟨by first | rfl | (simp [errW_none, errW_some] <;> rfl) | (simp [*, errW_none, errW_some] <;> rfl), qua0_⟩
   rw [if_pos c8] at H
   have c8b0 : decide (x19_1 < (t102.length : Int)) = true := decide_eq_true c8
   clear c8
   by_cases c9 : 0 ≤ x19_1
   rotate_left
   ·
    rw [if_neg c9] at H
    exact absurd H (by simp)
   rw [if_pos c9] at H
   have c9b0 : decide (0 ≤ x19_1) = true := decide_eq_true c9
   clear c9
   by_cases c10 : x19_1 < (t102.length : Int)
   rotate_left
   · exact absurd (of_decide_eq_true c8b0) c10
   rw [if_pos c10] at H
   have c10b0 : decide (x19_1 < (t102.length : Int)) = true := decide_eq_true c10
   clear c10
   by_cases c11 : 0 ≤ (rd t102 x19_1)
   rotate_left
   ·
    rw [if_neg c11] at H
    exact absurd H (by simp)
   rw [if_pos c11] at H
   have c11b0 : decide (0 ≤ (rd t102 x19_1)) = true := decide_eq_true c11
   clear c11
   by_cases c12 : (rd t102 x19_1) < (l0_0.length : Int)
   rotate_left
   ·
    rw [if_neg c12] at H
    exact absurd H (by simp)
   rw [if_pos c12] at H
   have c12b0 : decide ((rd t102 x19_1) < (l0_0.length : Int)) = true := decide_eq_true c12
   clear c12
   have H' := Aside0.mk H
   clear H
   have p106 : 0 ≤ (x19_1 : Int) := of_decide_eq_true (qua5_)
   have q106 : x19_1 < (t102.length : Int) := of_decide_eq_true (qua5_)
   obtain ⟨ad106, e106, hx106_0⟩ := Kd.at_int (Kd.R_reads' HO_17.out).2.2 x19_1 p106 q106
   cases e106
   replace p106 := eq_true p106
   replace q106 := eq_true q106
   have hcz13_0 : wr.cell? ⟨gb101, 0, none⟩ = some (.slice A0_0 l0_0.length c0_0) := (blk_cell BK101.out 0).trans rfl
   have hcz13_1 : wr.cell? ⟨gb101, 1, none⟩ = some (.int .i64 a0_1) := (blk_cell BK101.out 1).trans rfl
   have hfz13_0 := blk_frozen BK101.out 0
   have hfz13_1 := blk_frozen BK101.out 1
   have p107 : 0 ≤ ((rd t102 x19_1) : Int) := of_decide_eq_true (qua5_)
   have q107 : (rd t102 x19_1) < (l0_0.length : Int) := of_decide_eq_true (qua5_)
   obtain ⟨ad107, A107_2, c107_2, e107, hx107_0, hx107_1, hx107_2, hl107_2, hi107_2⟩ := at_T45 HR0_0.out (rd t102 x19_1) p107 q107
   have KX107_2 := Aside0.mk hx107_2
   cases e107
   replace hx107_0 := (HB.out.cell (World.block_lt_of_cell? w _ hx107_0)).trans hx107_0
   replace hx107_1 := (HB.out.cell (World.block_lt_of_cell? w _ hx107_1)).trans hx107_1
   replace hx107_2 := (HB.out.cell (World.block_lt_of_cell? w _ hx107_2)).trans hx107_2
   have HR107_2 := Aside0.mk hi107_2
   have HC107_2 := Aside0.mk hl107_2
   clear hi107_2 hl107_2
   replace p107 := eq_true p107
   replace q107 := eq_true q107
   go_wp2
   go_roundg k1
   case measure => have := HK1.out; omega
   case rel => exact ⟨(wrap64 (x6_1 + (((rd_T45 l0_0 (rd t102 x19_1)).f2).length : Int))), (wrap64 (x19_1 + 1)), (qua6_), (qua6_), H', ⟨by have := HK1.out; omega⟩, ⟨by (with_reducible repeat (first | apply Kd.R_alloc | apply Kd.R_drewN | apply Kd.R_drew)); exact HO_17.out⟩, ⟨qua2_⟩, ⟨qua0_⟩⟩
end Go.Proofs.YtnjcpoojgmpmeaaGreatDoor.PX
namespace Go.Proofs.YtnjcpoojgmpmeaaGreatDoor.Plug
open Go.Maps RowKit YtnjcpoojgmpmeaaGreatDoor YtnjcpoojgmpmeaaGreatDoor.PX YtnjcpoojgmpmeaaGreatDoor.Utf YtnjcpoojgmpmeaaGreatDoor.Mapk YtnjcpoojgmpmeaaGreatDoor.Graphs YtnjcpoojgmpmeaaGreatDoorW.PrintWords YtnjcpoojgmpmeaaGreatDoorW.PrintLast YtnjcpoojgmpmeaaGreatDoorW.PrintMore
set_option linter.unusedVariables false
set_option linter.unusedSimpArgs false
theorem rd_nth (xs : List Int) (i : Nat) (h : i < xs.length) : rd xs (i : Int) = xs[i] := by
  rw [rd_at xs i h]
theorem size_l0 (l : List Nd) (root : Int) (xs : List Int) (hin : ∀ x ∈ xs, 0 ≤ x ∧ x < (l.length : Int)) (hz : ∀ n ∈ l, n.f2.length ≤ 1099511627776) (hx : xs.length ≤ 4096) :
  ∀ (d i K acc : Nat), xs.length = i + d → d + 1 ≤ K → acc ≤ 1 + i * 1099511627776 → lay_Size.l0 K (acc : Int) xs (xs.length : Int) (i : Int) l root = some (((acc + kidsL l (xs.drop i) : Nat) : Int), 0)
 | 0, i, K + 1, acc, h, _, _ => by
  rw [lay_Size.l0, if_neg (by omega), List.drop_of_length_le (by omega)]
  simp [kidsL]
 | d + 1, i, K + 1, acc, h, hK, ha => by
  have hi : i < xs.length := by omega
  obtain ⟨j0, j1⟩ := hin xs[i] (List.getElem_mem hi)
  have hk := hz _ (rd_mem l xs[i] j0 j1)
  rw [lay_Size.l0, if_pos (by omega), if_pos (by omega), if_pos (by omega), rd_nth xs i hi, if_pos j0, if_pos j1]
  have e1 : wrap64 ((acc : Int) + ((rd_T45 l xs[i]).f2.length : Int)) = ((acc + (rd_T45 l xs[i]).f2.length : Nat) : Int) := by
   unfold wrap64
   have : i * 1099511627776 ≤ 4096 * 1099511627776 := Nat.mul_le_mul_right _ (by omega)
   omega
  have e2 : wrap64 ((i : Int) + 1) = ((i + 1 : Nat) : Int) := by unfold wrap64; omega
  rw [e1, e2, size_l0 l root xs hin hz hx d (i + 1) K _ (by omega) (by omega) (by omega), List.drop_eq_getElem_cons hi]
  refine congrArg some (congrArg (·, (0 : Int)) ?_)
  simp only [kidsL, List.map_cons, List.sum_cons]
  omega
 | d, i, 0, acc, _, h, _ => absurd h (by omega)
set_option maxHeartbeats 8000000 in
set_option maxRecDepth 100000 in
theorem layF_calls (A0 : Option Addr) (c0 : Nat) (l : List Nd) (root : Int) (t : Tr) (e : Int) (w : World) (hr0 : Kd.C k45 w A0 l.length l) (hc0 : l.length ≤ c0) (hG : Glob.G w) (h : layF l root = some (t, e)) :
    Calls Tryz.prog 11 #[.agg #[.slice A0 l.length c0, .int .i64 root]] w fun e' w' => ∃ v : Value, e' = .returned (.tuple #[.agg #[.int .i64 t.f0, .string t.f1, .string t.f2, v], .int .i64 e]) ∧ Kd.M k29 w' w.heap.size (fun _ => True) t [.int .i64 t.f0, .string t.f1, .string t.f2, v] ∧ Below w.heap.size w w' := by
  unfold layF at h
  have HR := Lib.hid hr0
  clear hr0
  cases ho : graph_Order.f l root with
  | none => rw [ho] at h; cases h
  | some p =>
    obtain ⟨xs, e0⟩ := p
    cases hsh : iso_Shared.f l root with
    | none => rw [ho, hsh] at h; cases h
    | some q =>
      obtain ⟨sh, e1⟩ := q
      rw [ho, hsh] at h
      dsimp only at h
      by_cases he : e0 ≠ 0
      · rw [if_pos he] at h
        have HF := Lib.hid (show t = noTr ∧ e = e0 from ⟨(Prod.mk.inj (Option.some.inj h)).1.symm, (Prod.mk.inj (Option.some.inj h)).2.symm⟩)
        have HSZ := Lib.hid (show lay_Size.f 1 l root = some (0, e0) by unfold lay_Size.f; rw [ho, Option.bind_some, if_neg he])
        have q0 : (e0 != 0) = true := bne_iff_ne.2 he
        clear h ho hsh he
        go_enter Tryz.func11, Tryz.ntmps11
        go_wp2_with (first | ((with_reducible refine gate_dst (N := 1) rfl ?_); refine box_event ?hg (N := 1) ?hd (cs := #[.slice A0 l.length c0, .int .i64 root]) (t := 24) ?hr ?_; (case hd => rfl); (case hg => rfl); (case hr => first | (go_simp; done) | (go_simp; rfl)); intro gb hg w1 hgb hb1; have HG := Lib.hid hgb; have HB := Lib.hid hb1; have HE := Lib.hid hg; clear hgb hb1 hg; have x0 := cell_al (o := .cells #[.int .i64 0, .string ⟨#[]⟩, .string ⟨#[]⟩, .slice none 0 0] 29) ((blk_cell HG.out 0).trans rfl); have x1 := cell_al (o := .cells #[.int .i64 0, .string ⟨#[]⟩, .string ⟨#[]⟩, .slice none 0 0] 29) ((blk_cell HG.out 1).trans rfl)) | (go_at_call 13; refine (lay_Size.calls _ A0 c0 l root _ _ _ (Kd.C_below HR.out (below_alloc HB.out _)) hc0 (hG.below (below_alloc HB.out _)) HSZ.out).mono ?_; rintro ee w2 ⟨rfl, hb2⟩; have HB2 := Lib.hid ((below_alloc HB.out (.cells #[.int .i64 0, .string ⟨#[]⟩, .string ⟨#[]⟩, .slice none 0 0] 29)).trans (hb2.mono (below_alloc HB.out _).size)); have HG2 := Lib.hid ((hb2.block gb (blk_lt (show (w1.alloc (.cells #[.int .i64 0, .string ⟨#[]⟩, .string ⟨#[]⟩, .slice none 0 0] 29)).heap[gb]? = _ from (Lib.alloc_old _ _ _ (blk_lt HG.out)).trans HG.out))).trans ((Lib.alloc_old _ _ _ (blk_lt HG.out)).trans HG.out)); have HR2 := Lib.hid ((hb2.block w1.heap.size (blk_lt (blk_new w1 _))).trans (blk_new w1 (.cells #[.int .i64 0, .string ⟨#[]⟩, .string ⟨#[]⟩, .slice none 0 0] 29))); have hs1 := HB.out.size; have y0 := (blk_cell HG2.out 0).trans rfl; have y1 := (blk_cell HG2.out 1).trans rfl; have z0 := (blk_cell HR2.out 0).trans rfl; have z1 := (blk_cell HR2.out 1).trans rfl; have z2 := (blk_cell HR2.out 2).trans rfl; have z3 := (blk_cell HR2.out 3).trans rfl; have f0 := blk_frozen HR2.out 0; have f1 := blk_frozen HR2.out 1; have f2 := blk_frozen HR2.out 2; have f3 := blk_frozen HR2.out 3; clear hb2 x0 x1))
        refine bodyPost_ret (results_ct rfl _ _ w1.heap.size 29 #[.int .i64 0, .string ⟨#[]⟩, .string ⟨#[]⟩, .slice none 0 0] (0, 0) _ rfl (blk_put4 HR2.out _ _ _ _) Tryz.underlying29 rfl (by kernel_rfl)) rfl ?_
        rw [HF.out.1, HF.out.2]
        exact ⟨.slice none 0 0, by first | done | rfl, k29_mkM _ _ _ noTr (Kd.R_nil _ _ _ _ _), below_put4 HB2.out hs1 _ _ _ _⟩
      · have he0 : e0 = 0 := Decidable.not_not.1 he
        subst he0
        rw [if_neg he] at h
        cases htr : treeO l (anB sh) (l.length + 1) root 0 (fun _ => false, 0, 0) with
        | none => rw [htr] at h; cases h
        | some q =>
          obtain ⟨tt, s⟩ := q
          rw [htr] at h
          dsimp only at h
          have hrt : sizesB l = true ∧ rightB l root = true := by
            unfold graph_Order.f at ho
            by_cases hs : sizesB l = true
            · refine ⟨hs, ?_⟩
              rw [if_pos hs] at ho
              by_cases hrr : rightB l root = true
              · exact hrr
              · rw [if_neg hrr] at ho
                have := (Prod.mk.inj (Option.some.inj ho)).2
                omega
            · rw [if_neg hs] at ho; cases ho
          have hgood := (right_iff l root hrt.1).1 hrt.2
          have hz : ∀ n ∈ l, n.f2.length ≤ 1099511627776 := fun n hn => (sizes_iff hrt.1 n hn).2
          have hkin : Kin l := fun n hn => (hgood.node hn).range
          obtain ⟨xs', sh', t', s', r1, r2, r3, hxl, r5⟩ := lay_right l root hrt.1 hgood hkin (fun n hn => (hgood.node hn).k6)
          rw [ho] at r1
          obtain ⟨rfl, _⟩ := Prod.mk.inj (Option.some.inj r1)
          clear r1 r2 r3 r5
          have hS := hsh
          unfold iso_Shared.f at hS
          rw [ho] at hS
          dsimp only at hS
          rw [if_neg he] at hS
          by_cases hcx : xs ≠ [] ∧ xs.length ≤ 4194304 ∧ (xs.all fun x => decide (0 ≤ x) && decide (x < (l.length : Int))) = true
          case neg => rw [if_neg hcx] at hS; cases hS
          rw [if_pos hcx] at hS
          obtain ⟨e2, e3⟩ := Prod.mk.inj (Option.some.inj hS)
          have hin : ∀ x ∈ xs, 0 ≤ x ∧ x < (l.length : Int) := fun x hx => by have := List.all_eq_true.1 hcx.2.2 x hx; simpa using this
          have hll := hgood.le
          have hshl : sh.length ≤ 4096 := by rw [← e2]; exact Nat.le_trans (List.length_filter_le _ _) (by omega)
          have HIN := Lib.hid (show ∀ x ∈ sh, 0 ≤ x ∧ x < (l.length : Int) from fun x hx => hin x (by rw [← e2] at hx; exact (List.mem_filter.1 hx).1))
          subst e3
          have HSZ := Lib.hid (show lay_Size.f (xs.length + 1) l root = some (((1 + kidsL l xs : Nat) : Int), 0) by
            unfold lay_Size.f
            rw [ho, Option.bind_some, if_pos rfl]
            have := size_l0 l root xs hin hz (by omega) xs.length 0 (xs.length + 1) 1 (by omega) (by omega) (by omega)
            rw [List.drop_zero] at this
            exact this)
          have HSH := Lib.hid hsh
          have HTR := Lib.hid htr
          have HF := Lib.hid (Option.some.inj h)
          have HGG := Lib.hid hgood
          have HZ := Lib.hid hz
          have hr0 := hgood.r0
          have hr1 := hgood.r1
          have hkb : 1 + kidsL l xs ≤ 4503599627370497 := by
            have : ∀ L : List Int, (∀ x ∈ L, 0 ≤ x ∧ x < (l.length : Int)) → kidsL l L ≤ L.length * 1099511627776 := by
              intro L
              induction L with
              | nil => intro _; simp [kidsL]
              | cons a r ih =>
                intro hL
                have h1 := ih (fun x hx => hL x (by simp [hx]))
                have h2 := hz _ (rd_mem l a (hL a (by simp)).1 (hL a (by simp)).2)
                simp only [kidsL, List.map_cons, List.sum_cons, List.length_cons] at h1 ⊢
                omega
            have h1 := this xs hin
            have h2 : xs.length * 1099511627776 ≤ 4096 * 1099511627776 := Nat.mul_le_mul_right _ (by omega)
            omega
          obtain ⟨N, hN⟩ : ∃ N, 1 + kidsL l xs = N := ⟨_, rfl⟩
          rw [hN] at HSZ HF hkb
          clear h ho hsh htr he hrt hgood hz hkin hS hcx e2 hin hN hxl
          have hmm := @run_makeMap Tryz.prog
          have hmf : ∀ (fn : Fn) (first cap : Array Value) (w : World), (Instr.makeFunc fn first cap).run Tryz.prog w = .ok (.func fn first cap) w := fun _ _ _ _ => rfl
          go_enter Tryz.func11, Tryz.ntmps11
          go_wp2_with (first | ((with_reducible refine gate_dst (N := 1) rfl ?_); refine box_event ?hg (N := 1) ?hd (cs := #[.slice A0 l.length c0, .int .i64 root]) (t := 24) ?hr ?_; (case hd => rfl); (case hg => rfl); (case hr => first | (go_simp; done) | (go_simp; rfl)); intro gb hg w1 hgb hb1; have HG := Lib.hid hgb; have HB := Lib.hid hb1; have HE := Lib.hid hg; clear hgb hb1 hg; have x0 := cell_al (o := .cells #[.int .i64 0, .string ⟨#[]⟩, .string ⟨#[]⟩, .slice none 0 0] 29) ((blk_cell HG.out 0).trans rfl); have x1 := cell_al (o := .cells #[.int .i64 0, .string ⟨#[]⟩, .string ⟨#[]⟩, .slice none 0 0] 29) ((blk_cell HG.out 1).trans rfl)) | (go_at_call 13; refine (lay_Size.calls _ A0 c0 l root _ _ _ (Kd.C_below HR.out (below_alloc HB.out _)) hc0 (hG.below (below_alloc HB.out _)) HSZ.out).mono ?_; rintro ee w2 ⟨rfl, hb2⟩; have HB2 := Lib.hid ((below_alloc HB.out (.cells #[.int .i64 0, .string ⟨#[]⟩, .string ⟨#[]⟩, .slice none 0 0] 29)).trans (hb2.mono (below_alloc HB.out _).size)); have HG2 := Lib.hid ((hb2.block gb (blk_lt (show (w1.alloc (.cells #[.int .i64 0, .string ⟨#[]⟩, .string ⟨#[]⟩, .slice none 0 0] 29)).heap[gb]? = _ from (Lib.alloc_old _ _ _ (blk_lt HG.out)).trans HG.out))).trans ((Lib.alloc_old _ _ _ (blk_lt HG.out)).trans HG.out)); have HR2 := Lib.hid ((hb2.block w1.heap.size (blk_lt (blk_new w1 _))).trans (blk_new w1 (.cells #[.int .i64 0, .string ⟨#[]⟩, .string ⟨#[]⟩, .slice none 0 0] 29))); have hs1 := HB.out.size; have y0 := (blk_cell HG2.out 0).trans rfl; have y1 := (blk_cell HG2.out 1).trans rfl; have z0 := (blk_cell HR2.out 0).trans rfl; have z1 := (blk_cell HR2.out 1).trans rfl; have z2 := (blk_cell HR2.out 2).trans rfl; have z3 := (blk_cell HR2.out 3).trans rfl; have f0 := blk_frozen HR2.out 0; have f1 := blk_frozen HR2.out 1; have f2 := blk_frozen HR2.out 2; have f3 := blk_frozen HR2.out 3; clear hb2 x0 x1) | (go_at_call 16; refine (iso_Shared.calls A0 c0 l root sh 0 _ (Kd.C_below HR.out HB2.out) hc0 (hG.below HB2.out) HSH.out).mono ?_; rintro ee w3 ⟨v, rfl, hrow, hb3⟩; obtain ⟨A5, c5, ev⟩ := Kd.R_slice hrow; subst ev; have HROW := Lib.hid (Kd.R_lower hrow HB2.out.size); have HB3 := Lib.hid (HB2.out.trans (hb3.mono HB2.out.size)); have HG3 := Lib.hid ((hb3.block gb (blk_lt HG2.out)).trans HG2.out); have HR3 := Lib.hid ((hb3.block w1.heap.size (blk_lt HR2.out)).trans HR2.out); clear hrow hb3 y0 y1 z0 z1 z2 z3 f0 f1 f2 f3; have y0 := (blk_cell HG3.out 0).trans rfl))
          have HT := Lib.hid (ta_start HG3.out HR3.out HROW.out HB3.out (by have := HE.out; omega) hs1)
          clear y0 hmm hmf HG HB HG2 HB2 HR2 HG3 HB3 HR3 HROW HSZ HSH HE
          generalize World.alloc _ _ = w4 at HT ⊢
          generalize w3.heap.size + 1 + 1 + 1 = nb at HT ⊢
          generalize w3.heap.size + 1 + 1 = lb at HT ⊢
          generalize w3.heap.size + 1 = mm at HT ⊢
          generalize w3.heap.size = am at HT ⊢
          generalize w1.heap.size = rs at HT ⊢
          go_loopw [37] (fun v wr => ∃ (j : Nat) (F : Int → Option ByteArray), v = .int .i64 j ∧ j ≤ sh.length ∧ Hid (anG (sh.drop j) j F = anG sh 0 (fun _ => none)) ∧ Hid (Ta w gb rs lb am mm nb (.slice A5 sh.length c5) A0 l.length c0 root sh F j j wr)) (fun v _ => sh.length - (intOf v).toNat)
          case atStart => exact ⟨0, _, rfl, by omega, Lib.hid rfl, HT⟩
          case round =>
            clear HT
            obtain ⟨j, F, rfl, hj, HFR, HTR2⟩ := hrel
            by_cases hlj : j < sh.length
            · have hc : decide ((j : Int) < (sh.length : Int)) = true := decide_eq_true (by omega)
              obtain ⟨_, _, hC⟩ := Kd.R_reads' HTR2.out.row
              obtain ⟨cd, eA, hx0⟩ := Kd.at_int hC (j : Int) (by omega) (by omega)
              subst eA
              rw [rd_at sh j hlj, Int.toNat_natCast] at hx0
              obtain ⟨k0, k1⟩ := HIN.out sh[j] (List.getElem_mem _)
              have hst := HFR.out
              rw [List.drop_eq_getElem_cons hlj, anG] at hst
              have HLJ := Lib.hid hlj
              have p5 : (0 ≤ (j : Int)) = True := eq_true (by omega)
              have p6 : ((j : Int) < (sh.length : Int)) = True := eq_true (by omega)
              generalize sh[j] = k at *
              have HFN := Lib.hid hst
              have HKR : Hid (-9223372036854775808 ≤ k ∧ k ≤ 9223372036854775807) := Lib.hid (by omega)
              have HJ : Hid (j ≤ 1099511627776) := Lib.hid (by omega)
              have HTD := Lib.hid HTR2.out.drew
              have HNB : Hid (w.heap.size ≤ nb) := Lib.hid (by have := HTR2.out.lts; omega)
              clear hst hC HFR
              go_wp2_with (fail)
              refine start_ (n := 8) (S := fun w' => w'.cell? ⟨lb, 1, none⟩ = some (.map (some am))) (ds := [7]) #[false, false, false, false, false, false, false, false] (by kernel_rfl) rfl rfl (HTD.out.cells.2.2) (fun hHeld => ?_)
              refine pure_ (i := 0) (N := some 41) (v := ?_) (a' := ?_) #[true, false, false, false, false, false, false, false] rfl rfl (by kernel_rfl) (fun _ _ _ h => h) (Or.inl ⟨by rfl, ?_⟩) ?_ ?_
              rotate_left
              · intro w'
                go_simp
                with_reducible rfl
              rotate_left
              · simp only [Act.put, List.setIfInBounds_toArray, List.set_cons_zero, List.set_cons_succ, i64_w, i32_w]
                rfl
              refine pure_ (i := 1) (N := some 42) (v := ?_) (a' := ?_) #[true, true, false, false, false, false, false, false] rfl rfl (by kernel_rfl) (fun _ _ _ h => h) (Or.inl ⟨by rfl, ?_⟩) ?_ ?_
              rotate_left
              · intro w'
                go_simp
                with_reducible rfl
              rotate_left
              · simp only [Act.put, List.setIfInBounds_toArray, List.set_cons_zero, List.set_cons_succ, i64_w, i32_w]
                rfl
              refine pure_ (i := 2) (N := some 43) (v := ?_) (a' := ?_) #[true, true, true, false, false, false, false, false] rfl rfl (by kernel_rfl) (fun _ _ _ h => h) (Or.inl ⟨by rfl, ?_⟩) ?_ ?_
              rotate_left
              · intro w'
                go_simp
                with_reducible rfl
              rotate_left
              · simp only [Act.put, List.setIfInBounds_toArray, List.set_cons_zero, List.set_cons_succ, i64_w, i32_w]
                rfl
              refine pure_ (i := 4) (N := some 45) (v := ?_) (a' := ?_) #[true, true, true, false, true, false, false, false] rfl rfl (by kernel_rfl) (fun _ _ _ h => h) (Or.inl ⟨by rfl, ?_⟩) ?_ ?_
              rotate_left
              · intro w'
                go_simp
                with_reducible rfl
              rotate_left
              · simp only [Act.put, List.setIfInBounds_toArray, List.set_cons_zero, List.set_cons_succ, i64_w, i32_w]
                rfl
              refine pure_ (i := 5) (N := some 46) (v := ?_) (a' := ?_) #[true, true, true, false, true, true, false, false] rfl rfl (by kernel_rfl) (fun _ _ _ h => h) (Or.inl ⟨by rfl, ?_⟩) ?_ ?_
              rotate_left
              · intro w'
                go_simp
                with_reducible rfl
              rotate_left
              · simp only [Act.put, List.setIfInBounds_toArray, List.set_cons_zero, List.set_cons_succ, i64_w, i32_w]
                rfl
              refine take_ (i := 3) (N := some 44) (v := ?_) (a' := ?_) #[true, true, true, true, true, true, false, false] rfl rfl (by kernel_rfl) (fun _ _ _ h => h) (Or.inl ⟨by rfl, ?_⟩) hHeld ?_ ?_
              rotate_left
              · intro w' s0
                go_simp
                with_reducible rfl
              rotate_left
              · simp only [Act.put, List.setIfInBounds_toArray, List.set_cons_zero, List.set_cons_succ, i64_w, i32_w]
                rfl
              refine one_ (i := 6) (N := some 47) #[true, true, true, true, true, true, true, false] rfl rfl (by kernel_rfl) (by decide) (fun K hK => ?_)
              refine call_ 28 #[.pointer (some ⟨nb, 0, none⟩)] (by rfl) rfl ?_ ?_
              · have he := enters_ Tryz.func28 (by kernel_rfl) rfl #[.pointer (some ⟨nb, 0, none⟩)] wr.drew
                unfold execOp
                simp [resolve, Deferred.ofValue, invoke, Act.eval, he]
              with_reducible refine (next_is w nb j _ hG HTD.out.lw.bel HNB.out HJ.out HTD.out.nm).mono ?_
              rintro e w5 ⟨rfl, hn5, hg5⟩
              refine ⟨_, rfl, ?_⟩
              have HT5 := Lib.hid (HTD.out.next hg5 hn5)
              obtain ⟨w6, hrun6, hT6⟩ := HT5.out.put k HKR.out HJ.out (nameB (j + 1))
              have HT6 := Lib.hid hT6
              clear hn5 hg5 hT6
              refine hK.out _ _ (HT5.out.cells.2.2) (fun hHeld => ?_)
              clear hK K
              refine norm_ (a' := ?_) ?_ ?_
              rotate_left
              · show Act.put _ (some 47) _ = _
                simp only [Act.put, List.setIfInBounds_toArray, List.set_cons_zero, List.set_cons_succ, i64_w, i32_w]
                rfl
              refine last_ (i := 7) (N := none) #[true, true, true, true, true, true, true, true] rfl rfl (by kernel_rfl) (by decide) (fun K hK => ?_)
              refine skip_ (w1 := ?_) (by rfl) rfl ?_ ?_
              rotate_left
              · go_simp
                rfl
              refine hK.out _ _ ?_
              clear hK K
              refine done_ (by kernel_rfl) ?_
              go_wp2_with (fail)
              go_roundw
              case rel =>
                have h1 := HLJ.out
                exact ⟨j + 1, _, by go_num, by omega, HFN, HT6⟩
              case measure => have := HLJ.out; simp [intOf]; omega
            · have hc : decide ((j : Int) < (sh.length : Int)) = false := decide_eq_false (by omega)
              have hFe : F = anG sh 0 (fun _ => none) := by
                have h := HFR.out
                rw [List.drop_of_length_le (by omega), anG] at h
                exact h
              have HTO : Hid (treeO l (fun k => (F k).getD ⟨#[]⟩) (l.length + 1) root 0 t0 = some (tt, s)) := Lib.hid (by rw [hFe]; exact HTR.out)
              have HKI : Hid (∀ n ∈ l, ∀ k ∈ n.f2, 0 ≤ k ∧ k < (l.length : Int)) := Lib.hid (fun n hn => (HGG.out.node hn).range)
              obtain ⟨y0, y1, _⟩ := HTR2.out.cells
              have hrl := blk_lt HTR2.out.r
              obtain ⟨sm, why, scn⟩ := s
              have hf := HF.out
              dsimp only at hf
              clear hFe HFR HTR HF
              by_cases hw : why ≠ 0
              · rw [if_pos hw] at hf
                have HF := Lib.hid (show t = noTr ∧ e = why from ⟨(Prod.mk.inj hf).1.symm, (Prod.mk.inj hf).2.symm⟩)
                have q0 : (why != 0) = true := bne_iff_ne.2 hw
                clear hf hw
                go_wp2_with (first | (go_at_call 29; refine (tree_is w lb am mm _ A0 c0 l F HR.out hll HZ.out HKI.out (l.length + 1) root 0 t0 _ tt _ HTR2.out.lw HTO.out hr0 hr1 (by omega) (by omega)).mono ?_; rintro ee w7 ⟨v7, rfl, hM, hL, hK⟩; obtain ⟨v9, ev, hRR⟩ := k29_openM hM; obtain ⟨A7, c7, ev2⟩ := Kd.R_slice hRR; have e7 : v7 = .slice A7 tt.f3.length c7 := by { rw [← ev2]; simpa using ev }; subst e7; clear ev ev2 hRR; have HM := Lib.hid hM; have HTB := Lib.hid ((HTR2.out.tree hL hK).alloc (.cells #[.int .i64 tt.f0, .string tt.f1, .string tt.f2, .slice A7 tt.f3.length c7] 29)); clear hM hL hK y0 y1; have y3 := HTB.out.why))
                have HNE : Hid (lb ≠ rs) := Lib.hid (by have := HTB.out.lts; omega)
                obtain ⟨⟨r0, r1, r2, r3⟩, f0, f1, f2, f3⟩ := HTB.out.rsl
                refine start_ (n := 7) (S := fun w' => w'.cell? ⟨lb, 3, none⟩ = some (.int .i64 why)) (ds := []) #[false, false, false, false, false, false, false] (by kernel_rfl) rfl rfl (HTB.out.drew.why) (fun hHeld => ?_)
                refine pure_ (i := 0) (N := some 59) (v := ?_) (a' := ?_) #[true, false, false, false, false, false, false] rfl rfl (by kernel_rfl) (fun _ _ _ h => h) (Or.inl ⟨by rfl, ?_⟩) ?_ ?_
                rotate_left
                · intro w'
                  go_simp
                  with_reducible rfl
                rotate_left
                · simp only [Act.put, List.setIfInBounds_toArray, List.set_cons_zero, List.set_cons_succ, i64_w, i32_w]
                  rfl
                refine pure_ (i := 1) (N := some 60) (v := ?_) (a' := ?_) #[true, true, false, false, false, false, false] rfl rfl (by kernel_rfl) (fun _ _ _ h => h) (Or.inl ⟨by rfl, ?_⟩) ?_ ?_
                rotate_left
                · intro w'
                  go_simp
                  with_reducible rfl
                rotate_left
                · simp only [Act.put, List.setIfInBounds_toArray, List.set_cons_zero, List.set_cons_succ, i64_w, i32_w]
                  rfl
                refine pure_ (i := 2) (N := some 61) (v := ?_) (a' := ?_) #[true, true, true, false, false, false, false] rfl rfl (by kernel_rfl) (fun _ _ _ h => h) (Or.inl ⟨by rfl, ?_⟩) ?_ ?_
                rotate_left
                · intro w'
                  go_simp
                  with_reducible rfl
                rotate_left
                · simp only [Act.put, List.setIfInBounds_toArray, List.set_cons_zero, List.set_cons_succ, i64_w, i32_w]
                  rfl
                refine pure_ (i := 3) (N := some 62) (v := ?_) (a' := ?_) #[true, true, true, true, false, false, false] rfl rfl (by kernel_rfl) (fun _ _ _ h => h) (Or.inl ⟨by rfl, ?_⟩) ?_ ?_
                rotate_left
                · intro w'
                  go_simp
                  with_reducible rfl
                rotate_left
                · simp only [Act.put, List.setIfInBounds_toArray, List.set_cons_zero, List.set_cons_succ, i64_w, i32_w]
                  rfl
                refine take_ (i := 4) (N := some 63) (v := ?_) (a' := ?_) #[true, true, true, true, true, false, false] rfl rfl (by kernel_rfl) (fun _ _ _ h => h) (Or.inl ⟨by rfl, ?_⟩) hHeld ?_ ?_
                rotate_left
                · intro w' s0
                  go_simp
                  with_reducible rfl
                rotate_left
                · simp only [Act.put, List.setIfInBounds_toArray, List.set_cons_zero, List.set_cons_succ, i64_w, i32_w]
                  rfl
                refine one_ (i := 5) (N := none) #[true, true, true, true, true, true, false] rfl rfl (by kernel_rfl) (by decide) (fun K hK => ?_)
                refine skip_ (w1 := ?_) (by rfl) rfl ?_ ?_
                rotate_left
                · go_simp
                  rfl
                refine hK.out _ _ ((blk_cell ((far_put4 rs _ _ _ _ HNE.out).trans HTB.out.drew.l) 3).trans rfl) (fun hHeld => ?_)
                clear hK K
                refine pure_ (i := 6) (N := some 3) (v := ?_) (a' := ?_) #[true, true, true, true, true, true, true] rfl rfl (by kernel_rfl) (fun _ _ _ h => h) (Or.inl ⟨by rfl, ?_⟩) ?_ ?_
                rotate_left
                · intro w'
                  go_simp
                  with_reducible rfl
                rotate_left
                · simp only [Act.put, List.setIfInBounds_toArray, List.set_cons_zero, List.set_cons_succ, i64_w, i32_w]
                  rfl
                refine done_ (by kernel_rfl) ?_
                go_wp2_with (fail)
                refine bodyPost_ret (results_ct rfl _ _ rs 29 #[.int .i64 0, .string ⟨#[]⟩, .string ⟨#[]⟩, .slice none 0 0] (0, 0) _ rfl (blk_put4 HTB.out.drew.r _ _ _ _) Tryz.underlying29 rfl (by kernel_rfl)) rfl ?_
                rw [HF.out.1, HF.out.2]
                exact ⟨.slice none 0 0, by first | done | rfl, k29_mkM _ _ _ noTr (Kd.R_nil _ _ _ _ _), below_put4 HTB.out.drew.bel HTB.out.lts.1 _ _ _ _⟩
              · rw [if_neg hw] at hf
                have hw0 : why = 0 := Decidable.not_not.1 hw
                subst hw0
                clear hw
                by_cases hn : 4096 < N
                · rw [if_pos hn] at hf
                  have HF := Lib.hid (show t = noTr ∧ e = 5 from ⟨(Prod.mk.inj hf).1.symm, (Prod.mk.inj hf).2.symm⟩)
                  have q1 : decide ((N : Int) > 4096) = true := decide_eq_true (by omega)
                  clear hf hn
                  go_wp2_with (first | ((go_at_call 29; refine (tree_is w lb am mm _ A0 c0 l F HR.out hll HZ.out HKI.out (l.length + 1) root 0 t0 _ tt _ HTR2.out.lw HTO.out hr0 hr1 (by omega) (by omega)).mono ?_; rintro ee w7 ⟨v7, rfl, hM, hL, hK⟩; obtain ⟨v9, ev, hRR⟩ := k29_openM hM; obtain ⟨A7, c7, ev2⟩ := Kd.R_slice hRR; have e7 : v7 = .slice A7 tt.f3.length c7 := by { rw [← ev2]; simpa using ev }; subst e7; clear ev ev2 hRR; have HM := Lib.hid hM; have HTB := Lib.hid ((HTR2.out.tree hL hK).alloc (.cells #[.int .i64 tt.f0, .string tt.f1, .string tt.f2, .slice A7 tt.f3.length c7] 29)); clear hM hL hK y0 y1; have y3 := HTB.out.why); obtain ⟨⟨r0, r1, r2, r3⟩, f0, f1, f2, f3⟩ := HTB.out.rsl))
                  refine bodyPost_ret (results_ct rfl _ _ rs 29 #[.int .i64 0, .string ⟨#[]⟩, .string ⟨#[]⟩, .slice none 0 0] (0, 0) _ rfl (blk_put4 HTB.out.r _ _ _ _) Tryz.underlying29 rfl (by kernel_rfl)) rfl ?_
                  rw [HF.out.1, HF.out.2]
                  exact ⟨.slice none 0 0, by first | done | rfl, k29_mkM _ _ _ noTr (Kd.R_nil _ _ _ _ _), below_put4 HTB.out.bel HTB.out.lts.1 _ _ _ _⟩
                · rw [if_neg hn] at hf
                  have HF := Lib.hid (show t = tt ∧ e = 0 from ⟨(Prod.mk.inj hf).1.symm, (Prod.mk.inj hf).2.symm⟩)
                  have q1 : decide ((N : Int) > 4096) = false := decide_eq_false (by omega)
                  clear hf hn
                  have hwx : w.heap.size ≤ wr.heap.size := HTR2.out.lw.bel.size
                  go_wp2_with (first | ((go_at_call 29; refine (tree_is w lb am mm _ A0 c0 l F HR.out hll HZ.out HKI.out (l.length + 1) root 0 t0 _ tt _ HTR2.out.lw HTO.out hr0 hr1 (by omega) (by omega)).mono ?_; rintro ee w7 ⟨v7, rfl, hM, hL, hK⟩; obtain ⟨v9, ev, hRR⟩ := k29_openM hM; obtain ⟨A7, c7, ev2⟩ := Kd.R_slice hRR; have e7 : v7 = .slice A7 tt.f3.length c7 := by { rw [← ev2]; simpa using ev }; subst e7; clear ev ev2 hRR; have HM := Lib.hid hM; have HTB := Lib.hid ((HTR2.out.tree hL hK).alloc (.cells #[.int .i64 tt.f0, .string tt.f1, .string tt.f2, .slice A7 tt.f3.length c7] 29)); clear hM hL hK y0 y1; have y3 := HTB.out.why); obtain ⟨⟨r0, r1, r2, r3⟩, f0, f1, f2, f3⟩ := HTB.out.rsl))
                  refine bodyPost_ret (results_ct rfl _ _ rs 29 #[.int .i64 tt.f0, .string tt.f1, .string tt.f2, .slice A7 tt.f3.length c7] (0, 0) _ rfl (blk_put4 HTB.out.r _ _ _ _) Tryz.underlying29 rfl (by kernel_rfl)) rfl ?_
                  rw [HF.out.1, HF.out.2]
                  refine ⟨.slice A7 tt.f3.length c7, by first | done | rfl, ?_, below_put4 HTB.out.bel HTB.out.lts.1 _ _ _ _⟩
                  exact Kd.M_lower k29 hwx (Kd.M_mono k29 (fun _ _ => trivial) (Kd.M_step (Kd.M_bound k29 HM.out) (fun k hk hl => (far_put4 rs _ _ _ _ (by have := hk.2.1; omega)).trans (Lib.alloc_old w7 _ k hl))))
def lay_Tree.f (l : List Nd) (root : Int) : Option (Int × ByteArray × ByteArray × List Tr × Int) := (layF l root).map fun p => (p.1.f0, p.1.f1, p.1.f2, p.1.f3, p.2)
theorem lay_Tree.calls (A0 : Option Addr) (c0 : Nat) (l : List Nd) (root : Int) (r1 : Int) (r2 r3 : ByteArray) (r4 : List Tr) (r5 : Int) (w : World) (hr0 : Kd.C k45 w A0 l.length l) (hc0 : l.length ≤ c0) (hG : Glob.G w) (h : lay_Tree.f l root = some (r1, r2, r3, r4, r5)) :
  Calls Tryz.prog 11 #[.agg #[.slice A0 l.length c0, .int .i64 root]] w fun e' w' => ∃ v : Value, e' = .returned (.tuple #[.agg #[.int .i64 r1, .string r2, .string r3, v], .int .i64 r5]) ∧ Kd.R k29 29 w' w.heap.size (fun _ => True) v r4 ∧ Below w.heap.size w w' := by
 obtain ⟨p, hp1, hp2⟩ := Option.map_eq_some_iff.1 h
 obtain ⟨t, e⟩ := p
 obtain ⟨t0, t1, t2, t3⟩ := t
 obtain ⟨rfl, rfl, rfl, rfl, rfl⟩ : t0 = r1 ∧ t1 = r2 ∧ t2 = r3 ∧ t3 = r4 ∧ e = r5 := by
  simp only [Prod.mk.injEq] at hp2
  exact hp2
 refine (layF_calls A0 c0 l root _ _ w hr0 hc0 hG hp1).mono ?_
 rintro e' w' ⟨v, rfl, hM, hb⟩
 obtain ⟨v3, ev, hR⟩ := k29_openM hM
 have e7 : v = v3 := by simpa using ev
 subst e7
 exact ⟨v, rfl, hR, hb⟩
end Go.Proofs.YtnjcpoojgmpmeaaGreatDoor.Plug
namespace Go.Proofs.YtnjcpoojgmpmeaaGreatDoor.PX
open RowKit YtnjcpoojgmpmeaaGreatDoorW.PrintWords YtnjcpoojgmpmeaaGreatDoorW.PrintLast YtnjcpoojgmpmeaaGreatDoorW.PrintMore YtnjcpoojgmpmeaaGreatDoor YtnjcpoojgmpmeaaGreatDoor.Plug
attribute [local go_sem] max2_int min2_int max_two min_two max_three min_three max_four min_four   -- for this text's walks alone
set_option linter.unusedVariables false
set_option linter.unusedSimpArgs false
def grommetlaw14_alive.f  : Option (Bool) := (lay_Tree.f (([(⟨5, (⟨#[]⟩ : ByteArray), (([0, 1] : List Int))⟩ : S45), (⟨3, (⟨#[53]⟩ : ByteArray), ([] : List Int)⟩ : S45)] : List (S45))) 0).bind fun bt107 => ((flow_Write.f bt107.1 bt107.2.1 bt107.2.2.1 bt107.2.2.2.1).bind fun bt115 => (if bt107.2.2.2.2 = 0 then (if bt115.2 = 0 then (some (bt115.1.toList == ([38, 97, 49, 32, 91, 42, 97, 49, 44, 32, 53, 93] : List UInt8))) else (some false)) else (some false)))
theorem qda0_ {P : Prop} (h_ : P := by repeat (first | (with_reducible first | exact HB.out | apply below_alloc | apply pw_below_drewN | apply below_drew1) | exact HB.out)) : P := h_
theorem qda1_ {P : Prop} (h_ : P := by (with_reducible repeat (first | refine blk_drewN ?_ _ | refine blk_drew ?_ | refine blk_alloc ?_ _)); refine blk_put (cs := #[.int .i64 t107, .string t108, .string t109, .slice none 0 0]) ?_ 3 _ rfl; (with_reducible repeat (first | refine blk_drewN ?_ _ | refine blk_drew ?_ | refine blk_alloc ?_ _)); refine blk_put (cs := #[.int .i64 t107, .string t108, .string (⟨#[]⟩ : ByteArray), .slice none 0 0]) ?_ 2 _ rfl; (with_reducible repeat (first | refine blk_drewN ?_ _ | refine blk_drew ?_ | refine blk_alloc ?_ _)); refine blk_put (cs := #[.int .i64 t107, .string (⟨#[]⟩ : ByteArray), .string (⟨#[]⟩ : ByteArray), .slice none 0 0]) ?_ 1 _ rfl; (with_reducible repeat (first | refine blk_drewN ?_ _ | refine blk_drew ?_ | refine blk_alloc ?_ _)); refine blk_put (cs := #[.int .i64 0, .string (⟨#[]⟩ : ByteArray), .string (⟨#[]⟩ : ByteArray), .slice none 0 0]) ?_ 0 _ rfl; (with_reducible repeat (first | refine blk_drewN ?_ _ | refine blk_drew ?_ | refine blk_alloc ?_ _)); exact BK114.out) : P := h_
theorem qda2_ {P : Prop} (h_ : P := by first | ((repeat (first | (with_reducible first | exact HB.out | apply below_alloc | apply pw_below_drewN | apply below_drew1 | (refine Glob.below_set ?_ (by assumption) _ _ _)) | exact HB.out)); done) | (refine Drawn0.below ?_; repeat (first | exact Drawn0.refl _ | assumption | apply Drawn0.step))) : P := h_
theorem qda3_ {P : Prop} (h_ : P := by (with_reducible repeat (first | apply Kd.N_alloc | apply Kd.N_drewN | apply Kd.N_drew)); exact HO106.out) : P := h_
theorem qda4_ {P : Prop} (h_ : P := by repeat (first | (with_reducible first | exact HB.out | apply below_alloc | apply pw_below_drewN | apply below_drew1 | refine below_set ?_ GE114.out) | exact HB.out)) : P := h_
theorem qda5_ {P : Prop} (h_ : P := by (try simp only [List.map_toArray, List.map_cons, List.map_nil]); first | done | rfl | (simp only [List.length_drop, List.length_take]; rfl)) : P := h_
theorem qda6_ {P : Prop} (h_ : P := by (with_reducible repeat (first | apply Kd.N_alloc | apply Kd.N_drewN | apply Kd.N_drew)); exact (Kd.N_mono (Kd.N_far (p := ⟨gb114, 3, none⟩) (Kd.N_far (p := ⟨gb114, 2, none⟩) (Kd.N_far (p := ⟨gb114, 1, none⟩) (Kd.N_far (p := ⟨gb114, 0, none⟩) (Kd.N_mono HO112.out (fun k_ hk => (⟨hk, hk.2⟩ : _ ∧ k_ ≠ gb114))) (fun _ hk => hk.2) (.int .i64 t107)) (fun _ hk => hk.2) (.string t108)) (fun _ hk => hk.2) (.string t109)) (fun _ hk => hk.2) (.slice Ao36 t110.length co36)) (fun _ h_ => h_.1))) : P := h_
theorem qda7_ {P : Prop} (h_ : P := by (with_reducible repeat (first | apply Kd.N_alloc | apply Kd.N_drewN | apply Kd.N_drew)); exact (Kd.N_mono (Kd.N_far (p := ⟨gb114, 3, none⟩) (Kd.N_far (p := ⟨gb114, 2, none⟩) (Kd.N_far (p := ⟨gb114, 1, none⟩) (Kd.N_far (p := ⟨gb114, 0, none⟩) (Kd.N_mono HO112.out (fun k_ hk => (⟨hk, hk.2⟩ : _ ∧ k_ ≠ gb114))) (fun _ hk => hk.2) (.int .i64 t107)) (fun _ hk => hk.2) (.string t108)) (fun _ hk => hk.2) (.string t109)) (fun _ hk => hk.2) (.slice Ao25 t110.length co25)) (fun _ h_ => h_.1))) : P := h_
theorem qda8_ {P : Prop} (h_ : P := by (with_reducible repeat (first | apply Kd.N_alloc | apply Kd.N_drewN | apply Kd.N_drew)); exact (Kd.N_mono (Kd.N_far (p := ⟨gb114, 3, none⟩) (Kd.N_far (p := ⟨gb114, 2, none⟩) (Kd.N_far (p := ⟨gb114, 1, none⟩) (Kd.N_far (p := ⟨gb114, 0, none⟩) (Kd.N_mono HO112.out (fun k_ hk => (⟨hk, hk.2⟩ : _ ∧ k_ ≠ gb114))) (fun _ hk => hk.2) (.int .i64 t107)) (fun _ hk => hk.2) (.string t108)) (fun _ hk => hk.2) (.string t109)) (fun _ hk => hk.2) (.slice Ao14 t110.length co14)) (fun _ h_ => h_.1))) : P := h_
theorem qda9_ {P : Prop} (h_ : P := by (with_reducible repeat (first | apply Kd.N_alloc | apply Kd.N_drewN | apply Kd.N_drew)); exact HO112.out) : P := h_
theorem qda10_ {P : Prop} (h_ : P := by first | rfl | (simp [errW_none, errW_some] <;> rfl) | (simp [*, errW_none, errW_some] <;> rfl)) : P := h_
theorem qda11_ {P : Prop} (h_ : P := by repeat (first | exact (Kd.N_reads' HO106.out).2.2 | (with_reducible refine Kd.C_alloc ?_ _) | (with_reducible refine Kd.C_drewN ?_ _) | (with_reducible refine Kd.C_drew ?_))) : P := h_
set_option maxHeartbeats 8000000 in
set_option maxRecDepth 100000 in
theorem grommetlaw14_alive.calls  (r : Bool) (w : World) (hG : Glob.G w) (h : grommetlaw14_alive.f  = some r) :
  Calls Tryz.prog 10 #[] w fun e w' => e = .returned (.bool r) ∧ Below w.heap.size w w' := by
 have hu45 := Tryz.underlying45
 have hu24 := Tryz.underlying24
 have hu29 := Tryz.underlying29
 have HB := Aside0.mk (Below.refl w.heap.size w)
 have H : ((lay_Tree.f (([(⟨5, (⟨#[]⟩ : ByteArray), (([0, 1] : List Int))⟩ : S45), (⟨3, (⟨#[53]⟩ : ByteArray), ([] : List Int)⟩ : S45)] : List (S45))) 0).bind fun bt107 => ((flow_Write.f bt107.1 bt107.2.1 bt107.2.2.1 bt107.2.2.2.1).bind fun bt115 => (if bt107.2.2.2.2 = 0 then (if bt115.2 = 0 then (some (bt115.1.toList == ([38, 97, 49, 32, 91, 42, 97, 49, 44, 32, 53, 93] : List UInt8))) else (some false)) else (some false)))) = some r := h
 clear h
 obtain ⟨y101, hy101⟩ : ∃ y_ : List Int, y_ = (([0, 1] : List Int)) := ⟨_, rfl⟩
 replace H : ((lay_Tree.f (([(⟨5, (⟨#[]⟩ : ByteArray), y101⟩ : S45), (⟨3, (⟨#[53]⟩ : ByteArray), ([] : List Int)⟩ : S45)] : List (S45))) 0).bind fun bt107 => ((flow_Write.f bt107.1 bt107.2.1 bt107.2.2.1 bt107.2.2.2.1).bind fun bt115 => (if bt107.2.2.2.2 = 0 then (if bt115.2 = 0 then (some (bt115.1.toList == ([38, 97, 49, 32, 91, 42, 97, 49, 44, 32, 53, 93] : List UInt8))) else (some false)) else (some false)))) = some r := by first | (rw [hy101]; with_reducible exact H) | (have H2_ := (Option.bind_some _ _).symm.trans H; rw [hy101]; with_reducible exact H2_) | (have H2_ := (Option.bind_some _ _).symm.trans H; with_reducible exact H2_) | with_reducible exact H | (rw [hy101]; exact H) | exact H
 have Ny101 := Aside0.mk hy101
 clear hy101
 obtain ⟨y104, hy104⟩ : ∃ y_ : List (S45), y_ = (([(⟨5, (⟨#[]⟩ : ByteArray), y101⟩ : S45), (⟨3, (⟨#[53]⟩ : ByteArray), ([] : List Int)⟩ : S45)] : List (S45))) := ⟨_, rfl⟩
 replace H : ((lay_Tree.f y104 0).bind fun bt107 => ((flow_Write.f bt107.1 bt107.2.1 bt107.2.2.1 bt107.2.2.2.1).bind fun bt115 => (if bt107.2.2.2.2 = 0 then (if bt115.2 = 0 then (some (bt115.1.toList == ([38, 97, 49, 32, 91, 42, 97, 49, 44, 32, 53, 93] : List UInt8))) else (some false)) else (some false)))) = some r := by first | (rw [hy104]; with_reducible exact H) | (have H2_ := (Option.bind_some _ _).symm.trans H; rw [hy104]; with_reducible exact H2_) | (have H2_ := (Option.bind_some _ _).symm.trans H; with_reducible exact H2_) | with_reducible exact H | (rw [hy104]; exact H) | exact H
 have Ny104 := Aside0.mk hy104
 clear hy104
 replace H := Option.bind_eq_some_iff.mp H
 obtain ⟨⟨t107, t108, t109, t110, t113⟩, A10, H⟩ := H
 replace H : ((flow_Write.f t107 t108 t109 t110).bind fun bt115 => (if t113 = 0 then (if bt115.2 = 0 then (some (bt115.1.toList == ([38, 97, 49, 32, 91, 42, 97, 49, 44, 32, 53, 93] : List UInt8))) else (some false)) else (some false))) = some r := H
 have A1 := Aside0.mk A10
 clear A10
 replace H := Option.bind_eq_some_iff.mp H
 obtain ⟨⟨t115, t116⟩, A20, H⟩ := H
 replace H : (if t113 = 0 then (if t116 = 0 then (some (t115.toList == ([38, 97, 49, 32, 91, 42, 97, 49, 44, 32, 53, 93] : List UInt8))) else (some false)) else (some false)) = some r := H
 have A2 := Aside0.mk A20
 clear A20
 by_cases c3 : t113 = 0
 rotate_left
 ·
  rw [if_neg c3] at H
  have c3b0 : (t113 == 0) = false := beq_eq_false_iff_ne.mpr c3
  have c3b1 : (t113 != 0) = true := bne_iff_ne.mpr c3
  obtain rfl := Option.some.inj H
  go_enter Tryz.func10, Tryz.ntmps10
  go_wp2_with (first | ((with_reducible refine gate_dst (N := 6) rfl ?_); refine Kd.R_lit (Kd.int .i64) _ 3 ?hg (N := 6) ?hd (xs := ([0, 1] : List Int)) (inner := [.int .i64 0, .int .i64 1]) (ok := fun _ => True) (okp := fun _ => True) ?hr ?hp (fun _ hk => hk) trivial (Below.refl _ _) (Nat.le_refl _) (by simp) ?_; (case hd => rfl); (case hg => rfl); (case hr => first | (go_simp; done) | (go_simp; rfl)); (case hp => exact (Reps.one (show Kd.M (Kd.int .i64) _ _ _ 0 [.int .i64 0] from rfl) (Reps.one (show Kd.M (Kd.int .i64) _ _ _ 1 [.int .i64 1] from rfl) (Reps.none _ _)))); intro v102 w27 ho28 hb hg_ hnew_; clear hg_ hnew_; (first | rw [← Ny101.out] at ho28 | (simp only [Int.reduceToNat] at ho28; rw [← Ny101.out] at ho28)); have n0_ := Aside0.mk (Kd.R_lower ho28 (below_size (qda0_))); have n1_ := Aside0.mk (below_step (qda0_) hb); clear HB; have HO103 := n0_; have HB := n1_; clear n0_ n1_; clear hb ho28; obtain ⟨Ao29, co29, eo29⟩ := Kd.R_slice HO103.out; subst eo29) | ((with_reducible refine gate_dst (N := 9) rfl ?_); refine Kd.N_lit k45 _ 45 ?hg (N' := 9) ?hd (xs := ([(⟨5, (⟨#[]⟩ : ByteArray), y101⟩ : S45), (⟨3, (⟨#[53]⟩ : ByteArray), ([] : List Int)⟩ : S45)] : List (S45))) (inner := [.int .i64 5, .string (⟨#[]⟩ : ByteArray), .slice Ao29 y101.length co29, .int .i64 3, .string (⟨#[53]⟩ : ByteArray), .slice none 0 0]) (ok := (fun _ => True)) (okp := (fun _ => True)) ?hr ?hp (fun _ hk => hk) ((show ∀ k_, w27.heap.size ≤ k_ → (fun _ => True) k_ from fun k_ hk => trivial) _ (Nat.le_refl _)) (Below.refl _ _) (Nat.le_refl _) (by simp) ?_; (case hd => rfl); (case hg => rfl); (case hr => first | (go_simp; done) | (go_simp; rfl)); (case hp => exact (Reps.c3 (show Kd.FK k45 _ _ (⟨5, (⟨#[]⟩ : ByteArray), y101⟩ : S45) [.int .i64 5, .string (⟨#[]⟩ : ByteArray), .slice Ao29 y101.length co29] from (k45_mkF _ _ (⟨5, (⟨#[]⟩ : ByteArray), y101⟩ : S45) (Kd.R_reads' (Kd.R_mono (ok' := (fun _ => True)) (HO103.out) (fun k_ hk => trivial))).2.1 (Kd.R_F (Kd.R_mono (ok' := (fun _ => True)) (HO103.out) (fun k_ hk => trivial))))) (Reps.c3 (show Kd.FK k45 _ _ (⟨3, (⟨#[53]⟩ : ByteArray), ([] : List Int)⟩ : S45) [.int .i64 3, .string (⟨#[53]⟩ : ByteArray), .slice none 0 0] from (k45_mkF _ _ (⟨3, (⟨#[53]⟩ : ByteArray), ([] : List Int)⟩ : S45) (Nat.le_refl _) (Kd.F_nil _ _ _))) (Reps.none _ _)))); intro v105 w30 ho31 hb hg_ hnew_; clear hg_ hnew_; (first | rw [← Ny104.out] at ho31 | (simp only [Int.reduceToNat] at ho31; rw [← Ny104.out] at ho31)); have n0_ := Aside0.mk (Kd.N_lower ho31 (below_size (qda0_))); have n1_ := Aside0.mk (below_step (qda0_) hb); clear HB; clear HO103; have HO106 := n0_; have HB := n1_; clear n0_ n1_; clear hb ho31; obtain ⟨Ao32, co32, eo32⟩ := Kd.N_slice HO106.out; subst eo32) | ((with_reducible refine gate_callee (f := 11) rfl ?_); refine goesL_ (some 11) rfl rfl Tryz.func11 (by kernel_rfl) rfl #[.agg #[.slice Ao32 y104.length co32, .int .i64 0]] rfl (qda5_) ?_; (with_reducible refine (lay_Tree.calls _ _ y104 0 t107 t108 t109 t110 t113 _ ?side1 ?side2 (hG.below (qda2_)) A1.out).mono ?_); (case side1 => exact qda11_); (case side2 => exact (Kd.N_reads' HO106.out).2.1); rintro e w33 ⟨v111, rfl, ho0, hb⟩; refine ⟨_, rfl, ?_⟩; have n0_ := Aside0.mk (Kd.N_elder' (qda3_) (Kd.R_base ho0) hb); have n1_ := Aside0.mk (Kd.N_lower (Kd.N_mono (ok' := fun k_ => some k_ ≠ (.slice Ao32 y104.length co32 : Value).ownBlock) (Kd.R_N (Kd.R_bound ho0)) (fun k_ hk_ => (Kd.fresh' (Kd.N_lt (qda3_)) k_ hk_.2.1))) (below_size (qda0_))); have n2_ := Aside0.mk (below_step (qda0_) hb); clear HO106; clear HB; have HO106 := n0_; have HO112 := n1_; have HB := n2_; clear n0_ n1_ n2_; (try clear hb); (try clear hk); (try clear ho0)) | ((with_reducible refine gate_dst (N := 1) rfl ?_); refine box_event ?hg (N := 1) ?hd (cs := #[.int .i64 0, .string (⟨#[]⟩ : ByteArray), .string (⟨#[]⟩ : ByteArray), .slice none 0 0]) (t := 29) ?hr ?_; (case hd => rfl); (case hg => rfl); (case hr => first | (go_simp; done) | (go_simp; rfl)); intro gb114 hg w34 hbox hb; have n0_ := Aside0.mk (Kd.N_below (Kd.N_elderB (qda3_) gb114 (Nat.le_of_eq hg.symm)) hb); have n1_ := Aside0.mk (Kd.N_below (Kd.N_elderB (qda9_) gb114 (Nat.le_of_eq hg.symm)) hb); have n2_ := Aside0.mk (below_step (qda0_) hb); have n3_ := Aside0.mk (hbox); have n4_ := Aside0.mk ((by rw [hg]; exact (below_size (qda0_)) : w.heap.size ≤ gb114)); have n5_ := Aside0.mk ((by rw [hg]; exact (below_size (qda0_)) : w.heap.size ≤ gb114)); clear HO106; clear HO112; clear HB; have HO106 := n0_; have HO112 := n1_; have HB := n2_; have BK114 := n3_; have GW114 := n4_; have GE114 := n5_; clear n0_ n1_ n2_ n3_ n4_ n5_; clear hb hbox hg; have hcz35_0 : w34.cell? ⟨gb114, 0, none⟩ = some (.int .i64 0) := (blk_cell BK114.out 0).trans rfl; have hcz35_1 : w34.cell? ⟨gb114, 1, none⟩ = some (.string (⟨#[]⟩ : ByteArray)) := (blk_cell BK114.out 1).trans rfl; have hcz35_2 : w34.cell? ⟨gb114, 2, none⟩ = some (.string (⟨#[]⟩ : ByteArray)) := (blk_cell BK114.out 2).trans rfl; have hcz35_3 : w34.cell? ⟨gb114, 3, none⟩ = some (.slice none 0 0) := (blk_cell BK114.out 3).trans rfl; have hfz35_0 := blk_frozen BK114.out 0; have hfz35_1 := blk_frozen BK114.out 1; have hfz35_2 := blk_frozen BK114.out 2; have hfz35_3 := blk_frozen BK114.out 3; obtain ⟨Ao36, co36, eo36⟩ := Kd.N_slice HO112.out; subst eo36) | ((with_reducible refine gate_callee (f := 27) rfl ?_); refine goesL_ (some 16) rfl rfl Tryz.func27 (by kernel_rfl) rfl #[.agg #[.int .i64 t107, .string t108, .string t109, .slice Ao36 t110.length co36]] rfl (qda5_) ?_; (with_reducible refine (flow_Write.calls t107 t108 t109 _ _ t110 t115 t116 _ ?side1 ?side2 (hG.below (qda2_)) A2.out).mono ?_); (case side1 => refine (Kd.N_reads' (e := 29) (base := w.heap.size) (ok := fun k_ => (some k_ ≠ (.slice Ao32 y104.length co32 : Value).ownBlock ∧ k_ ≠ gb114)) (n := t110.length) (c := co36) ?_).2.2; exact (qda6_)); (case side2 => exact (Kd.N_reads' HO112.out).2.1); rintro e w37 ⟨rfl, hb⟩; refine ⟨_, rfl, ?_⟩; have n0_ := Aside0.mk (Kd.N_below (by (with_reducible repeat (first | apply Kd.N_alloc | apply Kd.N_drewN | apply Kd.N_drew)); exact (Kd.N_mono (Kd.N_far (p := ⟨gb114, 3, none⟩) (Kd.N_far (p := ⟨gb114, 2, none⟩) (Kd.N_far (p := ⟨gb114, 1, none⟩) (Kd.N_far (p := ⟨gb114, 0, none⟩) (Kd.N_mono HO106.out (fun k_ hk => (⟨hk, hk.2⟩ : _ ∧ k_ ≠ gb114))) (fun _ hk => hk.2) (.int .i64 t107)) (fun _ hk => hk.2) (.string t108)) (fun _ hk => hk.2) (.string t109)) (fun _ hk => hk.2) (.slice Ao36 t110.length co36)) (fun _ h_ => h_.1))) hb); have n1_ := Aside0.mk (Kd.N_below (qda6_) hb); have n2_ := Aside0.mk (blk_below (g := gb114) (o := .cells #[.int .i64 t107, .string t108, .string t109, .slice Ao36 t110.length co36] 29 (0, 0)) (qda1_) hb); have n3_ := Aside0.mk (below_step (qda4_) hb); clear HO106; clear HO112; clear BK114; clear HB; have HO106 := n0_; have HO112 := n1_; have BK114 := n2_; have HB := n3_; clear n0_ n1_ n2_ n3_; (try clear hb); (try clear hk)))
  go_ret
  exact ⟨qda10_, qda4_⟩
 rw [if_pos c3] at H
 have c3b0 : (t113 == 0) = true := beq_iff_eq.mpr c3
 have c3b1 : (t113 != 0) = false := bne_eq_false_iff_eq.mpr c3
 clear c3
 by_cases c4 : t116 = 0
 ·
  rw [if_pos c4] at H
  have c4b0 : (t116 == 0) = true := beq_iff_eq.mpr c4
  have c4b1 : (t116 != 0) = false := bne_eq_false_iff_eq.mpr c4
  clear c4
  obtain rfl := Option.some.inj H
  go_enter Tryz.func10, Tryz.ntmps10
  go_wp2_with (first | ((with_reducible refine gate_dst (N := 6) rfl ?_); refine Kd.R_lit (Kd.int .i64) _ 3 ?hg (N := 6) ?hd (xs := ([0, 1] : List Int)) (inner := [.int .i64 0, .int .i64 1]) (ok := fun _ => True) (okp := fun _ => True) ?hr ?hp (fun _ hk => hk) trivial (Below.refl _ _) (Nat.le_refl _) (by simp) ?_; (case hd => rfl); (case hg => rfl); (case hr => first | (go_simp; done) | (go_simp; rfl)); (case hp => exact (Reps.one (show Kd.M (Kd.int .i64) _ _ _ 0 [.int .i64 0] from rfl) (Reps.one (show Kd.M (Kd.int .i64) _ _ _ 1 [.int .i64 1] from rfl) (Reps.none _ _)))); intro v102 w5 ho6 hb hg_ hnew_; clear hg_ hnew_; (first | rw [← Ny101.out] at ho6 | (simp only [Int.reduceToNat] at ho6; rw [← Ny101.out] at ho6)); have n0_ := Aside0.mk (Kd.R_lower ho6 (below_size (qda0_))); have n1_ := Aside0.mk (below_step (qda0_) hb); clear HB; have HO103 := n0_; have HB := n1_; clear n0_ n1_; clear hb ho6; obtain ⟨Ao7, co7, eo7⟩ := Kd.R_slice HO103.out; subst eo7) | ((with_reducible refine gate_dst (N := 9) rfl ?_); refine Kd.N_lit k45 _ 45 ?hg (N' := 9) ?hd (xs := ([(⟨5, (⟨#[]⟩ : ByteArray), y101⟩ : S45), (⟨3, (⟨#[53]⟩ : ByteArray), ([] : List Int)⟩ : S45)] : List (S45))) (inner := [.int .i64 5, .string (⟨#[]⟩ : ByteArray), .slice Ao7 y101.length co7, .int .i64 3, .string (⟨#[53]⟩ : ByteArray), .slice none 0 0]) (ok := (fun _ => True)) (okp := (fun _ => True)) ?hr ?hp (fun _ hk => hk) ((show ∀ k_, w5.heap.size ≤ k_ → (fun _ => True) k_ from fun k_ hk => trivial) _ (Nat.le_refl _)) (Below.refl _ _) (Nat.le_refl _) (by simp) ?_; (case hd => rfl); (case hg => rfl); (case hr => first | (go_simp; done) | (go_simp; rfl)); (case hp => exact (Reps.c3 (show Kd.FK k45 _ _ (⟨5, (⟨#[]⟩ : ByteArray), y101⟩ : S45) [.int .i64 5, .string (⟨#[]⟩ : ByteArray), .slice Ao7 y101.length co7] from (k45_mkF _ _ (⟨5, (⟨#[]⟩ : ByteArray), y101⟩ : S45) (Kd.R_reads' (Kd.R_mono (ok' := (fun _ => True)) (HO103.out) (fun k_ hk => trivial))).2.1 (Kd.R_F (Kd.R_mono (ok' := (fun _ => True)) (HO103.out) (fun k_ hk => trivial))))) (Reps.c3 (show Kd.FK k45 _ _ (⟨3, (⟨#[53]⟩ : ByteArray), ([] : List Int)⟩ : S45) [.int .i64 3, .string (⟨#[53]⟩ : ByteArray), .slice none 0 0] from (k45_mkF _ _ (⟨3, (⟨#[53]⟩ : ByteArray), ([] : List Int)⟩ : S45) (Nat.le_refl _) (Kd.F_nil _ _ _))) (Reps.none _ _)))); intro v105 w8 ho9 hb hg_ hnew_; clear hg_ hnew_; (first | rw [← Ny104.out] at ho9 | (simp only [Int.reduceToNat] at ho9; rw [← Ny104.out] at ho9)); have n0_ := Aside0.mk (Kd.N_lower ho9 (below_size (qda0_))); have n1_ := Aside0.mk (below_step (qda0_) hb); clear HB; clear HO103; have HO106 := n0_; have HB := n1_; clear n0_ n1_; clear hb ho9; obtain ⟨Ao10, co10, eo10⟩ := Kd.N_slice HO106.out; subst eo10) | ((with_reducible refine gate_callee (f := 11) rfl ?_); refine goesL_ (some 11) rfl rfl Tryz.func11 (by kernel_rfl) rfl #[.agg #[.slice Ao10 y104.length co10, .int .i64 0]] rfl (qda5_) ?_; (with_reducible refine (lay_Tree.calls _ _ y104 0 t107 t108 t109 t110 t113 _ ?side1 ?side2 (hG.below (qda2_)) A1.out).mono ?_); (case side1 => exact qda11_); (case side2 => exact (Kd.N_reads' HO106.out).2.1); rintro e w11 ⟨v111, rfl, ho0, hb⟩; refine ⟨_, rfl, ?_⟩; have n0_ := Aside0.mk (Kd.N_elder' (qda3_) (Kd.R_base ho0) hb); have n1_ := Aside0.mk (Kd.N_lower (Kd.N_mono (ok' := fun k_ => some k_ ≠ (.slice Ao10 y104.length co10 : Value).ownBlock) (Kd.R_N (Kd.R_bound ho0)) (fun k_ hk_ => (Kd.fresh' (Kd.N_lt (qda3_)) k_ hk_.2.1))) (below_size (qda0_))); have n2_ := Aside0.mk (below_step (qda0_) hb); clear HO106; clear HB; have HO106 := n0_; have HO112 := n1_; have HB := n2_; clear n0_ n1_ n2_; (try clear hb); (try clear hk); (try clear ho0)) | ((with_reducible refine gate_dst (N := 1) rfl ?_); refine box_event ?hg (N := 1) ?hd (cs := #[.int .i64 0, .string (⟨#[]⟩ : ByteArray), .string (⟨#[]⟩ : ByteArray), .slice none 0 0]) (t := 29) ?hr ?_; (case hd => rfl); (case hg => rfl); (case hr => first | (go_simp; done) | (go_simp; rfl)); intro gb114 hg w12 hbox hb; have n0_ := Aside0.mk (Kd.N_below (Kd.N_elderB (qda3_) gb114 (Nat.le_of_eq hg.symm)) hb); have n1_ := Aside0.mk (Kd.N_below (Kd.N_elderB (qda9_) gb114 (Nat.le_of_eq hg.symm)) hb); have n2_ := Aside0.mk (below_step (qda0_) hb); have n3_ := Aside0.mk (hbox); have n4_ := Aside0.mk ((by rw [hg]; exact (below_size (qda0_)) : w.heap.size ≤ gb114)); have n5_ := Aside0.mk ((by rw [hg]; exact (below_size (qda0_)) : w.heap.size ≤ gb114)); clear HO106; clear HO112; clear HB; have HO106 := n0_; have HO112 := n1_; have HB := n2_; have BK114 := n3_; have GW114 := n4_; have GE114 := n5_; clear n0_ n1_ n2_ n3_ n4_ n5_; clear hb hbox hg; have hcz13_0 : w12.cell? ⟨gb114, 0, none⟩ = some (.int .i64 0) := (blk_cell BK114.out 0).trans rfl; have hcz13_1 : w12.cell? ⟨gb114, 1, none⟩ = some (.string (⟨#[]⟩ : ByteArray)) := (blk_cell BK114.out 1).trans rfl; have hcz13_2 : w12.cell? ⟨gb114, 2, none⟩ = some (.string (⟨#[]⟩ : ByteArray)) := (blk_cell BK114.out 2).trans rfl; have hcz13_3 : w12.cell? ⟨gb114, 3, none⟩ = some (.slice none 0 0) := (blk_cell BK114.out 3).trans rfl; have hfz13_0 := blk_frozen BK114.out 0; have hfz13_1 := blk_frozen BK114.out 1; have hfz13_2 := blk_frozen BK114.out 2; have hfz13_3 := blk_frozen BK114.out 3; obtain ⟨Ao14, co14, eo14⟩ := Kd.N_slice HO112.out; subst eo14) | ((with_reducible refine gate_callee (f := 27) rfl ?_); refine goesL_ (some 16) rfl rfl Tryz.func27 (by kernel_rfl) rfl #[.agg #[.int .i64 t107, .string t108, .string t109, .slice Ao14 t110.length co14]] rfl (qda5_) ?_; (with_reducible refine (flow_Write.calls t107 t108 t109 _ _ t110 t115 t116 _ ?side1 ?side2 (hG.below (qda2_)) A2.out).mono ?_); (case side1 => refine (Kd.N_reads' (e := 29) (base := w.heap.size) (ok := fun k_ => (some k_ ≠ (.slice Ao10 y104.length co10 : Value).ownBlock ∧ k_ ≠ gb114)) (n := t110.length) (c := co14) ?_).2.2; exact (qda8_)); (case side2 => exact (Kd.N_reads' HO112.out).2.1); rintro e w15 ⟨rfl, hb⟩; refine ⟨_, rfl, ?_⟩; have n0_ := Aside0.mk (Kd.N_below (by (with_reducible repeat (first | apply Kd.N_alloc | apply Kd.N_drewN | apply Kd.N_drew)); exact (Kd.N_mono (Kd.N_far (p := ⟨gb114, 3, none⟩) (Kd.N_far (p := ⟨gb114, 2, none⟩) (Kd.N_far (p := ⟨gb114, 1, none⟩) (Kd.N_far (p := ⟨gb114, 0, none⟩) (Kd.N_mono HO106.out (fun k_ hk => (⟨hk, hk.2⟩ : _ ∧ k_ ≠ gb114))) (fun _ hk => hk.2) (.int .i64 t107)) (fun _ hk => hk.2) (.string t108)) (fun _ hk => hk.2) (.string t109)) (fun _ hk => hk.2) (.slice Ao14 t110.length co14)) (fun _ h_ => h_.1))) hb); have n1_ := Aside0.mk (Kd.N_below (qda8_) hb); have n2_ := Aside0.mk (blk_below (g := gb114) (o := .cells #[.int .i64 t107, .string t108, .string t109, .slice Ao14 t110.length co14] 29 (0, 0)) (qda1_) hb); have n3_ := Aside0.mk (below_step (qda4_) hb); clear HO106; clear HO112; clear BK114; clear HB; have HO106 := n0_; have HO112 := n1_; have BK114 := n2_; have HB := n3_; clear n0_ n1_ n2_ n3_; (try clear hb); (try clear hk)))
  go_ret
  exact ⟨qda10_, qda4_⟩
 rw [if_neg c4] at H
 have c4b0 : (t116 == 0) = false := beq_eq_false_iff_ne.mpr c4
 have c4b1 : (t116 != 0) = true := bne_iff_ne.mpr c4
 obtain rfl := Option.some.inj H
 go_enter Tryz.func10, Tryz.ntmps10
 go_wp2_with (first | ((with_reducible refine gate_dst (N := 6) rfl ?_); refine Kd.R_lit (Kd.int .i64) _ 3 ?hg (N := 6) ?hd (xs := ([0, 1] : List Int)) (inner := [.int .i64 0, .int .i64 1]) (ok := fun _ => True) (okp := fun _ => True) ?hr ?hp (fun _ hk => hk) trivial (Below.refl _ _) (Nat.le_refl _) (by simp) ?_; (case hd => rfl); (case hg => rfl); (case hr => first | (go_simp; done) | (go_simp; rfl)); (case hp => exact (Reps.one (show Kd.M (Kd.int .i64) _ _ _ 0 [.int .i64 0] from rfl) (Reps.one (show Kd.M (Kd.int .i64) _ _ _ 1 [.int .i64 1] from rfl) (Reps.none _ _)))); intro v102 w16 ho17 hb hg_ hnew_; clear hg_ hnew_; (first | rw [← Ny101.out] at ho17 | (simp only [Int.reduceToNat] at ho17; rw [← Ny101.out] at ho17)); have n0_ := Aside0.mk (Kd.R_lower ho17 (below_size (qda0_))); have n1_ := Aside0.mk (below_step (qda0_) hb); clear HB; have HO103 := n0_; have HB := n1_; clear n0_ n1_; clear hb ho17; obtain ⟨Ao18, co18, eo18⟩ := Kd.R_slice HO103.out; subst eo18) | ((with_reducible refine gate_dst (N := 9) rfl ?_); refine Kd.N_lit k45 _ 45 ?hg (N' := 9) ?hd (xs := ([(⟨5, (⟨#[]⟩ : ByteArray), y101⟩ : S45), (⟨3, (⟨#[53]⟩ : ByteArray), ([] : List Int)⟩ : S45)] : List (S45))) (inner := [.int .i64 5, .string (⟨#[]⟩ : ByteArray), .slice Ao18 y101.length co18, .int .i64 3, .string (⟨#[53]⟩ : ByteArray), .slice none 0 0]) (ok := (fun _ => True)) (okp := (fun _ => True)) ?hr ?hp (fun _ hk => hk) ((show ∀ k_, w16.heap.size ≤ k_ → (fun _ => True) k_ from fun k_ hk => trivial) _ (Nat.le_refl _)) (Below.refl _ _) (Nat.le_refl _) (by simp) ?_; (case hd => rfl); (case hg => rfl); (case hr => first | (go_simp; done) | (go_simp; rfl)); (case hp => exact (Reps.c3 (show Kd.FK k45 _ _ (⟨5, (⟨#[]⟩ : ByteArray), y101⟩ : S45) [.int .i64 5, .string (⟨#[]⟩ : ByteArray), .slice Ao18 y101.length co18] from (k45_mkF _ _ (⟨5, (⟨#[]⟩ : ByteArray), y101⟩ : S45) (Kd.R_reads' (Kd.R_mono (ok' := (fun _ => True)) (HO103.out) (fun k_ hk => trivial))).2.1 (Kd.R_F (Kd.R_mono (ok' := (fun _ => True)) (HO103.out) (fun k_ hk => trivial))))) (Reps.c3 (show Kd.FK k45 _ _ (⟨3, (⟨#[53]⟩ : ByteArray), ([] : List Int)⟩ : S45) [.int .i64 3, .string (⟨#[53]⟩ : ByteArray), .slice none 0 0] from (k45_mkF _ _ (⟨3, (⟨#[53]⟩ : ByteArray), ([] : List Int)⟩ : S45) (Nat.le_refl _) (Kd.F_nil _ _ _))) (Reps.none _ _)))); intro v105 w19 ho20 hb hg_ hnew_; clear hg_ hnew_; (first | rw [← Ny104.out] at ho20 | (simp only [Int.reduceToNat] at ho20; rw [← Ny104.out] at ho20)); have n0_ := Aside0.mk (Kd.N_lower ho20 (below_size (qda0_))); have n1_ := Aside0.mk (below_step (qda0_) hb); clear HB; clear HO103; have HO106 := n0_; have HB := n1_; clear n0_ n1_; clear hb ho20; obtain ⟨Ao21, co21, eo21⟩ := Kd.N_slice HO106.out; subst eo21) | ((with_reducible refine gate_callee (f := 11) rfl ?_); refine goesL_ (some 11) rfl rfl Tryz.func11 (by kernel_rfl) rfl #[.agg #[.slice Ao21 y104.length co21, .int .i64 0]] rfl (qda5_) ?_; (with_reducible refine (lay_Tree.calls _ _ y104 0 t107 t108 t109 t110 t113 _ ?side1 ?side2 (hG.below (qda2_)) A1.out).mono ?_); (case side1 => exact qda11_); (case side2 => exact (Kd.N_reads' HO106.out).2.1); rintro e w22 ⟨v111, rfl, ho0, hb⟩; refine ⟨_, rfl, ?_⟩; have n0_ := Aside0.mk (Kd.N_elder' (qda3_) (Kd.R_base ho0) hb); have n1_ := Aside0.mk (Kd.N_lower (Kd.N_mono (ok' := fun k_ => some k_ ≠ (.slice Ao21 y104.length co21 : Value).ownBlock) (Kd.R_N (Kd.R_bound ho0)) (fun k_ hk_ => (Kd.fresh' (Kd.N_lt (qda3_)) k_ hk_.2.1))) (below_size (qda0_))); have n2_ := Aside0.mk (below_step (qda0_) hb); clear HO106; clear HB; have HO106 := n0_; have HO112 := n1_; have HB := n2_; clear n0_ n1_ n2_; (try clear hb); (try clear hk); (try clear ho0)) | ((with_reducible refine gate_dst (N := 1) rfl ?_); refine box_event ?hg (N := 1) ?hd (cs := #[.int .i64 0, .string (⟨#[]⟩ : ByteArray), .string (⟨#[]⟩ : ByteArray), .slice none 0 0]) (t := 29) ?hr ?_; (case hd => rfl); (case hg => rfl); (case hr => first | (go_simp; done) | (go_simp; rfl)); intro gb114 hg w23 hbox hb; have n0_ := Aside0.mk (Kd.N_below (Kd.N_elderB (qda3_) gb114 (Nat.le_of_eq hg.symm)) hb); have n1_ := Aside0.mk (Kd.N_below (Kd.N_elderB (qda9_) gb114 (Nat.le_of_eq hg.symm)) hb); have n2_ := Aside0.mk (below_step (qda0_) hb); have n3_ := Aside0.mk (hbox); have n4_ := Aside0.mk ((by rw [hg]; exact (below_size (qda0_)) : w.heap.size ≤ gb114)); have n5_ := Aside0.mk ((by rw [hg]; exact (below_size (qda0_)) : w.heap.size ≤ gb114)); clear HO106; clear HO112; clear HB; have HO106 := n0_; have HO112 := n1_; have HB := n2_; have BK114 := n3_; have GW114 := n4_; have GE114 := n5_; clear n0_ n1_ n2_ n3_ n4_ n5_; clear hb hbox hg; have hcz24_0 : w23.cell? ⟨gb114, 0, none⟩ = some (.int .i64 0) := (blk_cell BK114.out 0).trans rfl; have hcz24_1 : w23.cell? ⟨gb114, 1, none⟩ = some (.string (⟨#[]⟩ : ByteArray)) := (blk_cell BK114.out 1).trans rfl; have hcz24_2 : w23.cell? ⟨gb114, 2, none⟩ = some (.string (⟨#[]⟩ : ByteArray)) := (blk_cell BK114.out 2).trans rfl; have hcz24_3 : w23.cell? ⟨gb114, 3, none⟩ = some (.slice none 0 0) := (blk_cell BK114.out 3).trans rfl; have hfz24_0 := blk_frozen BK114.out 0; have hfz24_1 := blk_frozen BK114.out 1; have hfz24_2 := blk_frozen BK114.out 2; have hfz24_3 := blk_frozen BK114.out 3; obtain ⟨Ao25, co25, eo25⟩ := Kd.N_slice HO112.out; subst eo25) | ((with_reducible refine gate_callee (f := 27) rfl ?_); refine goesL_ (some 16) rfl rfl Tryz.func27 (by kernel_rfl) rfl #[.agg #[.int .i64 t107, .string t108, .string t109, .slice Ao25 t110.length co25]] rfl (qda5_) ?_; (with_reducible refine (flow_Write.calls t107 t108 t109 _ _ t110 t115 t116 _ ?side1 ?side2 (hG.below (qda2_)) A2.out).mono ?_); (case side1 => refine (Kd.N_reads' (e := 29) (base := w.heap.size) (ok := fun k_ => (some k_ ≠ (.slice Ao21 y104.length co21 : Value).ownBlock ∧ k_ ≠ gb114)) (n := t110.length) (c := co25) ?_).2.2; exact (qda7_)); (case side2 => exact (Kd.N_reads' HO112.out).2.1); rintro e w26 ⟨rfl, hb⟩; refine ⟨_, rfl, ?_⟩; have n0_ := Aside0.mk (Kd.N_below (by (with_reducible repeat (first | apply Kd.N_alloc | apply Kd.N_drewN | apply Kd.N_drew)); exact (Kd.N_mono (Kd.N_far (p := ⟨gb114, 3, none⟩) (Kd.N_far (p := ⟨gb114, 2, none⟩) (Kd.N_far (p := ⟨gb114, 1, none⟩) (Kd.N_far (p := ⟨gb114, 0, none⟩) (Kd.N_mono HO106.out (fun k_ hk => (⟨hk, hk.2⟩ : _ ∧ k_ ≠ gb114))) (fun _ hk => hk.2) (.int .i64 t107)) (fun _ hk => hk.2) (.string t108)) (fun _ hk => hk.2) (.string t109)) (fun _ hk => hk.2) (.slice Ao25 t110.length co25)) (fun _ h_ => h_.1))) hb); have n1_ := Aside0.mk (Kd.N_below (qda7_) hb); have n2_ := Aside0.mk (blk_below (g := gb114) (o := .cells #[.int .i64 t107, .string t108, .string t109, .slice Ao25 t110.length co25] 29 (0, 0)) (qda1_) hb); have n3_ := Aside0.mk (below_step (qda4_) hb); clear HO106; clear HO112; clear BK114; clear HB; have HO106 := n0_; have HO112 := n1_; have BK114 := n2_; have HB := n3_; clear n0_ n1_ n2_ n3_; (try clear hb); (try clear hk)))
 go_ret
 exact ⟨qda10_, qda4_⟩
end Go.Proofs.YtnjcpoojgmpmeaaGreatDoor.PX
namespace Go.Proofs.YtnjcpoojgmpmeaaGreatDoor.PX
open RowKit YtnjcpoojgmpmeaaGreatDoorW.PrintWords YtnjcpoojgmpmeaaGreatDoorW.PrintLast YtnjcpoojgmpmeaaGreatDoorW.PrintMore YtnjcpoojgmpmeaaGreatDoor
attribute [local go_sem] max2_int min2_int max_two min_two max_three min_three max_four min_four   -- for this text's walks alone
set_option linter.unusedVariables false
set_option linter.unusedSimpArgs false
mutual
def grommetref09_Same.j0 : Nat → Bool → Int → ByteArray → ByteArray → List (S29) → Int → ByteArray → ByteArray → List (S29) → Option (Bool)
  | 0, _, _, _, _, _, _, _, _, _ => none
  | k + 1, x33, x102000, x102001, x102002, x102003, x103000, x103001, x103002, x103003 => if x33 = true then (some false) else (grommetref09_Same.l0 k 0 x102000 x102001 x102002 x102003 x103000 x103001 x103002 x103003)
def grommetref09_Same.l0 : Nat → Int → Int → ByteArray → ByteArray → List (S29) → Int → ByteArray → ByteArray → List (S29) → Option (Bool)
  | 0, _, _, _, _, _, _, _, _, _ => none
  | k + 1, x5, x102000, x102001, x102002, x102003, x103000, x103001, x103002, x103003 => if x5 < (x102003.length : Int) then (if 0 ≤ x5 then (if x5 < (x103003.length : Int) then ((grommetref09_Same.f k ((rd_T29 x102003 x5).f0) ((rd_T29 x102003 x5).f1) ((rd_T29 x102003 x5).f2) ((rd_T29 x102003 x5).f3) ((rd_T29 x103003 x5).f0) ((rd_T29 x103003 x5).f1) ((rd_T29 x103003 x5).f2) ((rd_T29 x103003 x5).f3)).bind fun t105 => (if t105 = true then (grommetref09_Same.l0 k (wrap64 (x5 + 1)) x102000 x102001 x102002 x102003 x103000 x103001 x103002 x103003) else (some false))) else (none)) else (none)) else (some true)
def grommetref09_Same.f : Nat → Int → ByteArray → ByteArray → List (S29) → Int → ByteArray → ByteArray → List (S29) → Option (Bool)
  | 0, _, _, _, _, _, _, _, _ => none
  | k + 1, a0_0, a0_1, a0_2, l0_3, a1_0, a1_1, a1_2, l1_3 => if a0_0 = a1_0 then (if a0_1.toList = a1_1.toList then (if a0_2.toList = a1_2.toList then (grommetref09_Same.j0 k ((l0_3.length : Int) != (l1_3.length : Int)) a0_0 a0_1 a0_2 l0_3 a1_0 a1_1 a1_2 l1_3) else (grommetref09_Same.j0 k true a0_0 a0_1 a0_2 l0_3 a1_0 a1_1 a1_2 l1_3)) else (grommetref09_Same.j0 k true a0_0 a0_1 a0_2 l0_3 a1_0 a1_1 a1_2 l1_3)) else (grommetref09_Same.j0 k true a0_0 a0_1 a0_2 l0_3 a1_0 a1_1 a1_2 l1_3)
end
def grommetref09_Same.T6 : Bool × List (List Nat × List Nat) := (true, [([], []), ([0], [0]), ([], []), ([1, 2], [1, 2]), ([3], [3]), ([], []), ([5], [5]), ([], []), ([6, 7], [6, 7]), ([8], [8]), ([4, 9], [4, 9]), ([10], [10])])
def grommetref09_Same.B6 : List Nat := [0, 1, 0, 7, 15, 0, 32, 0, 224, 480, 1023, 2047]
theorem grommetref09_Same.tab6 : rtab .any (opsOf Tryz.f15 6) = grommetref09_Same.T6 := by kernel_rfl
theorem grommetref09_Same.bits6 : waitsOk grommetref09_Same.T6.2 grommetref09_Same.B6 = true := by kernel_rfl
theorem qva0_ {P : Prop} (h_ : P := by repeat (first | (with_reducible first | exact HB.out | apply below_alloc | apply pw_below_drewN | apply below_drew1 | refine below_set ?_ GE101.out | refine below_set ?_ GE102.out) | exact HB.out)) : P := h_
theorem qva1_ {P : Prop} (h_ : P := by (with_reducible repeat (first | refine blk_drewN ?_ _ | refine blk_drew ?_ | refine blk_alloc ?_ _)); exact BK101.out) : P := h_
theorem qva2_ {P : Prop} (h_ : P := by (with_reducible repeat (first | refine blk_drewN ?_ _ | refine blk_drew ?_ | refine blk_alloc ?_ _)); exact BK102.out) : P := h_
theorem qva3_ {P : Prop} (h_ : P := by repeat (first | (with_reducible first | exact HB.out | apply below_alloc | apply pw_below_drewN | apply below_drew1 | refine below_set ?_ GE101.out) | exact HB.out)) : P := h_
theorem qva4_ {P : Prop} (h_ : P := by first | (with_reducible assumption) | assumption) : P := h_
theorem qva5_ {P : Prop} (h_ : P := by first | ((repeat (first | (with_reducible first | exact HB.out | apply below_alloc | apply pw_below_drewN | apply below_drew1 | (refine Glob.below_set ?_ (by assumption) _ _ _)) | exact HB.out)); done) | (refine Drawn0.below ?_; repeat (first | exact Drawn0.refl _ | assumption | apply Drawn0.step))) : P := h_
theorem qva6_ {P : Prop} (h_ : P := by repeat (first | (with_reducible first | exact HB.out | apply below_alloc | apply pw_below_drewN | apply below_drew1) | exact HB.out)) : P := h_
theorem qva7_ {P : Prop} (h_ : P := by first | rfl | (simp; done) | (simp [*]; done)) : P := h_
theorem qva8_ {P : Prop} (h_ : P := by first | rfl | (simp [errW_none, errW_some] <;> rfl) | (simp [*, errW_none, errW_some] <;> rfl)) : P := h_
theorem qva9_ {P : Prop} (h_ : P := by (try simp only [List.map_toArray, List.map_cons, List.map_nil]); first | done | rfl | (simp only [List.length_drop, List.length_take]; rfl)) : P := h_
theorem qva10_ {P : Prop} (h_ : P := by intro w'; go_simp; with_reducible rfl) : P := h_
theorem qva11_ {P : Prop} (h_ : P := by simp only [Act.put, List.setIfInBounds_toArray, List.set_cons_zero, List.set_cons_succ, i64_w, i32_w]; rfl) : P := h_
theorem qva12_ {P : Prop} (h_ : P := by rintro w' ⟨s0, s1, s2, s3, s4, s5, s6, s7, s8, s9, s10, s11, s12, s13, s14, s15⟩; go_simp; with_reducible rfl) : P := h_
set_option maxHeartbeats 8000000 in
set_option maxRecDepth 100000 in
theorem grommetref09_Same.calls (k : Nat) : ∀ (a0_0 : Int) (a0_1 : ByteArray) (a0_2 : ByteArray) (A0_3 : Option Addr) (c0_3 : Nat) (l0_3 : List (S29)) (a1_0 : Int) (a1_1 : ByteArray) (a1_2 : ByteArray) (A1_3 : Option Addr) (c1_3 : Nat) (l1_3 : List (S29)) (r : Bool) (w : World) (hr0_3 : Kd.C k29 w A0_3 l0_3.length l0_3) (hc0_3 : l0_3.length ≤ c0_3) (hr1_3 : Kd.C k29 w A1_3 l1_3.length l1_3) (hc1_3 : l1_3.length ≤ c1_3) (hG : Glob.G w) (h : grommetref09_Same.f k a0_0 a0_1 a0_2 l0_3 a1_0 a1_1 a1_2 l1_3 = some r),
  Calls Tryz.prog 15 #[.agg #[.int .i64 a0_0, .string a0_1, .string a0_2, .slice A0_3 l0_3.length c0_3], .agg #[.int .i64 a1_0, .string a1_1, .string a1_2, .slice A1_3 l1_3.length c1_3]] w fun e w' => e = .returned (.bool r) ∧ Below w.heap.size w w' := by
 induction k using Nat.strongRecOn with
 | _ k ih =>
 intro a0_0 a0_1 a0_2 A0_3 c0_3 l0_3 a1_0 a1_1 a1_2 A1_3 c1_3 l1_3 r w hr0_3 hc0_3 hr1_3 hc1_3 hG h
 cases k with
 | zero => exact absurd h (by simp [grommetref09_Same.f])
 | succ k =>
 simp only [grommetref09_Same.f] at h
 have hu29 := Tryz.underlying29
 have HR0_3 := Aside0.mk hr0_3
 have HC0_3 := Aside0.mk hc0_3
 clear hr0_3 hc0_3
 have HR1_3 := Aside0.mk hr1_3
 have HC1_3 := Aside0.mk hc1_3
 clear hr1_3 hc1_3
 have HB := Aside0.mk (Below.refl w.heap.size w)
 have H : (if a0_0 = a1_0 then (if a0_1.toList = a1_1.toList then (if a0_2.toList = a1_2.toList then (grommetref09_Same.j0 k ((l0_3.length : Int) != (l1_3.length : Int)) a0_0 a0_1 a0_2 l0_3 a1_0 a1_1 a1_2 l1_3) else (grommetref09_Same.j0 k true a0_0 a0_1 a0_2 l0_3 a1_0 a1_1 a1_2 l1_3)) else (grommetref09_Same.j0 k true a0_0 a0_1 a0_2 l0_3 a1_0 a1_1 a1_2 l1_3)) else (grommetref09_Same.j0 k true a0_0 a0_1 a0_2 l0_3 a1_0 a1_1 a1_2 l1_3)) = some r := h
 clear h
 have HC3 := Aside0.mk H
 clear H
 go_enter Tryz.func15, Tryz.ntmps15
 go_upto_region 1 with (first | ((with_reducible refine gate_dst (N := 2) rfl ?_); (try (refine gate_guard (by rfl) ?_; dsimp only)); refine box_event ?hg (N := 2) ?hd (cs := #[.int .i64 a0_0, .string a0_1, .string a0_2, .slice A0_3 l0_3.length c0_3]) (t := 29) ?hr ?_; (case hd => rfl); (case hg => rfl); (case hr => first | (go_simp; done) | (go_simp; rfl)); intro gb101 hg w4 hbox hb; have n0_ := Aside0.mk (below_step (qva6_) hb); have n1_ := Aside0.mk (hbox); have n2_ := Aside0.mk ((by rw [hg]; exact (below_size (qva6_)) : w.heap.size ≤ gb101)); have n3_ := Aside0.mk ((by rw [hg]; exact (below_size (qva6_)) : w.heap.size ≤ gb101)); clear HB; have HB := n0_; have BK101 := n1_; have GW101 := n2_; have GE101 := n3_; clear n0_ n1_ n2_ n3_; clear hb hbox hg) | ((with_reducible refine gate_dst (N := 3) rfl ?_); (try (refine gate_guard (by rfl) ?_; dsimp only)); refine box_event ?hg (N := 3) ?hd (cs := #[.int .i64 a1_0, .string a1_1, .string a1_2, .slice A1_3 l1_3.length c1_3]) (t := 29) ?hr ?_; (case hd => rfl); (case hg => rfl); (case hr => first | (go_simp; done) | (go_simp; rfl)); intro gb102 hg w5 hbox hb; have n0_ := Aside0.mk (blk_below (g := gb101) (o := .cells #[.int .i64 a0_0, .string a0_1, .string a0_2, .slice A0_3 l0_3.length c0_3] 29 (0, 0)) (qva1_) hb); have n1_ := Aside0.mk (below_step (qva3_) hb); have n2_ := Aside0.mk (hbox); have n3_ := Aside0.mk ((by rw [hg]; exact (below_size (qva3_)) : w.heap.size ≤ gb102)); have n4_ := Aside0.mk ((by rw [hg]; exact (below_size (qva3_)) : w.heap.size ≤ gb102)); have n5_ := Aside0.mk ((by rw [hg]; exact Nat.ne_of_lt (blk_lt (g := gb101) (o := .cells #[.int .i64 a0_0, .string a0_1, .string a0_2, .slice A0_3 l0_3.length c0_3] 29 (0, 0)) (qva1_)) : gb101 ≠ gb102)); have n6_ := Aside0.mk ((by rw [hg]; exact Nat.ne_of_gt (blk_lt (g := gb101) (o := .cells #[.int .i64 a0_0, .string a0_1, .string a0_2, .slice A0_3 l0_3.length c0_3] 29 (0, 0)) (qva1_)) : gb102 ≠ gb101)); clear BK101; clear HB; have BK101 := n0_; have HB := n1_; have BK102 := n2_; have GW102 := n3_; have GE102 := n4_; have NB101_102 := n5_; have NB102_101 := n6_; clear n0_ n1_ n2_ n3_ n4_ n5_ n6_; clear hb hbox hg))
 (try simp only [Act.put, List.setIfInBounds_toArray, List.set_cons_zero, List.set_cons_succ])
 go_cut [33] (fun v33 wc => ∃ (kq : Nat) (x33_2 : Bool), v33 = .bool x33_2 ∧ Aside0 (grommetref09_Same.j0 kq x33_2 a0_0 a0_1 a0_2 l0_3 a1_0 a1_1 a1_2 l1_3 = some r) ∧ Aside0 (kq ≤ k) ∧ Aside0 (wc.heap[gb101]? = some (.cells #[.int .i64 a0_0, .string a0_1, .string a0_2, (.slice A0_3 l0_3.length c0_3)] 29 (0, 0))) ∧ Aside0 (wc.heap[gb102]? = some (.cells #[.int .i64 a1_0, .string a1_1, .string a1_2, (.slice A1_3 l1_3.length c1_3)] 29 (0, 0))) ∧ Aside0 (Below w.heap.size w wc))
 case first =>
  have H := HC3.out
  clear HC3
  by_cases c6 : a0_0 = a1_0
  rotate_left
  ·
   rw [if_neg c6] at H
   have c6b0 : (a0_0 == a1_0) = false := beq_eq_false_iff_ne.mpr c6
   have c6b1 : (a0_0 != a1_0) = true := bne_iff_ne.mpr c6
   (first | rw [c6b0] | (simp only [i64_w, i32_w]; rw [c6b0]) | skip)
   have H' := Aside0.mk H
   clear H
   have hnb18 := NB101_102.out
   have hnc18 := NB102_101.out
   have hcz19_0 : w5.cell? ⟨gb101, 0, none⟩ = some (.int .i64 a0_0) := (blk_cell BK101.out 0).trans rfl
   have hcz19_1 : w5.cell? ⟨gb101, 1, none⟩ = some (.string a0_1) := (blk_cell BK101.out 1).trans rfl
   have hcz19_2 : w5.cell? ⟨gb101, 2, none⟩ = some (.string a0_2) := (blk_cell BK101.out 2).trans rfl
   have hcz19_3 : w5.cell? ⟨gb101, 3, none⟩ = some (.slice A0_3 l0_3.length c0_3) := (blk_cell BK101.out 3).trans rfl
   have hfz19_0 := blk_frozen BK101.out 0
   have hfz19_1 := blk_frozen BK101.out 1
   have hfz19_2 := blk_frozen BK101.out 2
   have hfz19_3 := blk_frozen BK101.out 3
   have hcz20_0 : w5.cell? ⟨gb102, 0, none⟩ = some (.int .i64 a1_0) := (blk_cell BK102.out 0).trans rfl
   have hcz20_1 : w5.cell? ⟨gb102, 1, none⟩ = some (.string a1_1) := (blk_cell BK102.out 1).trans rfl
   have hcz20_2 : w5.cell? ⟨gb102, 2, none⟩ = some (.string a1_2) := (blk_cell BK102.out 2).trans rfl
   have hcz20_3 : w5.cell? ⟨gb102, 3, none⟩ = some (.slice A1_3 l1_3.length c1_3) := (blk_cell BK102.out 3).trans rfl
   have hfz20_0 := blk_frozen BK102.out 0
   have hfz20_1 := blk_frozen BK102.out 1
   have hfz20_2 := blk_frozen BK102.out 2
   have hfz20_3 := blk_frozen BK102.out 3
   go_wp2
   go_meet
   case rel => exact ⟨_, (true), (qva7_), H', ⟨by first | omega | exact Nat.le_refl _⟩, ⟨qva1_⟩, ⟨qva2_⟩, ⟨qva0_⟩⟩
  rw [if_pos c6] at H
  have c6b0 : (a0_0 == a1_0) = true := beq_iff_eq.mpr c6
  have c6b1 : (a0_0 != a1_0) = false := bne_eq_false_iff_eq.mpr c6
  clear c6
  (first | rw [c6b0] | (simp only [i64_w, i32_w]; rw [c6b0]) | skip)
  by_cases c7 : a0_1.toList = a1_1.toList
  rotate_left
  ·
   rw [if_neg c7] at H
   have c7b0 : (a0_1.toList == a1_1.toList) = false := beq_eq_false_iff_ne.mpr c7
   have c7b1 : (a0_1.toList != a1_1.toList) = true := bne_iff_ne.mpr c7
   have H' := Aside0.mk H
   clear H
   have hnb15 := NB101_102.out
   have hnc15 := NB102_101.out
   have hcz16_0 : w5.cell? ⟨gb101, 0, none⟩ = some (.int .i64 a0_0) := (blk_cell BK101.out 0).trans rfl
   have hcz16_1 : w5.cell? ⟨gb101, 1, none⟩ = some (.string a0_1) := (blk_cell BK101.out 1).trans rfl
   have hcz16_2 : w5.cell? ⟨gb101, 2, none⟩ = some (.string a0_2) := (blk_cell BK101.out 2).trans rfl
   have hcz16_3 : w5.cell? ⟨gb101, 3, none⟩ = some (.slice A0_3 l0_3.length c0_3) := (blk_cell BK101.out 3).trans rfl
   have hfz16_0 := blk_frozen BK101.out 0
   have hfz16_1 := blk_frozen BK101.out 1
   have hfz16_2 := blk_frozen BK101.out 2
   have hfz16_3 := blk_frozen BK101.out 3
   have hcz17_0 : w5.cell? ⟨gb102, 0, none⟩ = some (.int .i64 a1_0) := (blk_cell BK102.out 0).trans rfl
   have hcz17_1 : w5.cell? ⟨gb102, 1, none⟩ = some (.string a1_1) := (blk_cell BK102.out 1).trans rfl
   have hcz17_2 : w5.cell? ⟨gb102, 2, none⟩ = some (.string a1_2) := (blk_cell BK102.out 2).trans rfl
   have hcz17_3 : w5.cell? ⟨gb102, 3, none⟩ = some (.slice A1_3 l1_3.length c1_3) := (blk_cell BK102.out 3).trans rfl
   have hfz17_0 := blk_frozen BK102.out 0
   have hfz17_1 := blk_frozen BK102.out 1
   have hfz17_2 := blk_frozen BK102.out 2
   have hfz17_3 := blk_frozen BK102.out 3
   go_wp2
   go_meet
   case rel => exact ⟨_, (true), (qva7_), H', ⟨by first | omega | exact Nat.le_refl _⟩, ⟨qva1_⟩, ⟨qva2_⟩, ⟨qva0_⟩⟩
  rw [if_pos c7] at H
  have c7b0 : (a0_1.toList == a1_1.toList) = true := beq_iff_eq.mpr c7
  have c7b1 : (a0_1.toList != a1_1.toList) = false := bne_eq_false_iff_eq.mpr c7
  clear c7
  by_cases c8 : a0_2.toList = a1_2.toList
  rotate_left
  ·
   rw [if_neg c8] at H
   have c8b0 : (a0_2.toList == a1_2.toList) = false := beq_eq_false_iff_ne.mpr c8
   have c8b1 : (a0_2.toList != a1_2.toList) = true := bne_iff_ne.mpr c8
   have H' := Aside0.mk H
   clear H
   have hnb12 := NB101_102.out
   have hnc12 := NB102_101.out
   have hcz13_0 : w5.cell? ⟨gb101, 0, none⟩ = some (.int .i64 a0_0) := (blk_cell BK101.out 0).trans rfl
   have hcz13_1 : w5.cell? ⟨gb101, 1, none⟩ = some (.string a0_1) := (blk_cell BK101.out 1).trans rfl
   have hcz13_2 : w5.cell? ⟨gb101, 2, none⟩ = some (.string a0_2) := (blk_cell BK101.out 2).trans rfl
   have hcz13_3 : w5.cell? ⟨gb101, 3, none⟩ = some (.slice A0_3 l0_3.length c0_3) := (blk_cell BK101.out 3).trans rfl
   have hfz13_0 := blk_frozen BK101.out 0
   have hfz13_1 := blk_frozen BK101.out 1
   have hfz13_2 := blk_frozen BK101.out 2
   have hfz13_3 := blk_frozen BK101.out 3
   have hcz14_0 : w5.cell? ⟨gb102, 0, none⟩ = some (.int .i64 a1_0) := (blk_cell BK102.out 0).trans rfl
   have hcz14_1 : w5.cell? ⟨gb102, 1, none⟩ = some (.string a1_1) := (blk_cell BK102.out 1).trans rfl
   have hcz14_2 : w5.cell? ⟨gb102, 2, none⟩ = some (.string a1_2) := (blk_cell BK102.out 2).trans rfl
   have hcz14_3 : w5.cell? ⟨gb102, 3, none⟩ = some (.slice A1_3 l1_3.length c1_3) := (blk_cell BK102.out 3).trans rfl
   have hfz14_0 := blk_frozen BK102.out 0
   have hfz14_1 := blk_frozen BK102.out 1
   have hfz14_2 := blk_frozen BK102.out 2
   have hfz14_3 := blk_frozen BK102.out 3
   go_wp2
   go_meet
   case rel => exact ⟨_, (true), (qva7_), H', ⟨by first | omega | exact Nat.le_refl _⟩, ⟨qva1_⟩, ⟨qva2_⟩, ⟨qva0_⟩⟩
  rw [if_pos c8] at H
  have c8b0 : (a0_2.toList == a1_2.toList) = true := beq_iff_eq.mpr c8
  have c8b1 : (a0_2.toList != a1_2.toList) = false := bne_eq_false_iff_eq.mpr c8
  clear c8
  have H' := Aside0.mk H
  clear H
  have hnb9 := NB101_102.out
  have hnc9 := NB102_101.out
  have hcz10_0 : w5.cell? ⟨gb101, 0, none⟩ = some (.int .i64 a0_0) := (blk_cell BK101.out 0).trans rfl
  have hcz10_1 : w5.cell? ⟨gb101, 1, none⟩ = some (.string a0_1) := (blk_cell BK101.out 1).trans rfl
  have hcz10_2 : w5.cell? ⟨gb101, 2, none⟩ = some (.string a0_2) := (blk_cell BK101.out 2).trans rfl
  have hcz10_3 : w5.cell? ⟨gb101, 3, none⟩ = some (.slice A0_3 l0_3.length c0_3) := (blk_cell BK101.out 3).trans rfl
  have hfz10_0 := blk_frozen BK101.out 0
  have hfz10_1 := blk_frozen BK101.out 1
  have hfz10_2 := blk_frozen BK101.out 2
  have hfz10_3 := blk_frozen BK101.out 3
  have hcz11_0 : w5.cell? ⟨gb102, 0, none⟩ = some (.int .i64 a1_0) := (blk_cell BK102.out 0).trans rfl
  have hcz11_1 : w5.cell? ⟨gb102, 1, none⟩ = some (.string a1_1) := (blk_cell BK102.out 1).trans rfl
  have hcz11_2 : w5.cell? ⟨gb102, 2, none⟩ = some (.string a1_2) := (blk_cell BK102.out 2).trans rfl
  have hcz11_3 : w5.cell? ⟨gb102, 3, none⟩ = some (.slice A1_3 l1_3.length c1_3) := (blk_cell BK102.out 3).trans rfl
  have hfz11_0 := blk_frozen BK102.out 0
  have hfz11_1 := blk_frozen BK102.out 1
  have hfz11_2 := blk_frozen BK102.out 2
  have hfz11_3 := blk_frozen BK102.out 3
  go_wp2
  go_meet
  case rel => exact ⟨_, (((l0_3.length : Int) != (l1_3.length : Int))), (qva7_), H', ⟨by first | omega | exact Nat.le_refl _⟩, ⟨qva1_⟩, ⟨qva2_⟩, ⟨qva0_⟩⟩
 case rest =>
  clear HC3
  try clear c1
  try clear p2
  try clear c6
  try clear c6b0
  try clear c6b1
  try clear c7
  try clear c7b0
  try clear c7b1
  try clear c8
  try clear c8b0
  try clear c8b1
  try clear c9
  try clear c12
  try clear c15
  try clear c18
  try clear hcz10_0
  try clear hcz10_1
  try clear hcz10_2
  try clear hcz10_3
  try clear hcz11_0
  try clear hcz11_1
  try clear hcz11_2
  try clear hcz11_3
  try clear hcz13_0
  try clear hcz13_1
  try clear hcz13_2
  try clear hcz13_3
  try clear hcz14_0
  try clear hcz14_1
  try clear hcz14_2
  try clear hcz14_3
  try clear hcz16_0
  try clear hcz16_1
  try clear hcz16_2
  try clear hcz16_3
  try clear hcz17_0
  try clear hcz17_1
  try clear hcz17_2
  try clear hcz17_3
  try clear hcz19_0
  try clear hcz19_1
  try clear hcz19_2
  try clear hcz19_3
  try clear hcz20_0
  try clear hcz20_1
  try clear hcz20_2
  try clear hcz20_3
  try clear hfz10_0
  try clear hfz10_1
  try clear hfz10_2
  try clear hfz10_3
  try clear hfz11_0
  try clear hfz11_1
  try clear hfz11_2
  try clear hfz11_3
  try clear hfz13_0
  try clear hfz13_1
  try clear hfz13_2
  try clear hfz13_3
  try clear hfz14_0
  try clear hfz14_1
  try clear hfz14_2
  try clear hfz14_3
  try clear hfz16_0
  try clear hfz16_1
  try clear hfz16_2
  try clear hfz16_3
  try clear hfz17_0
  try clear hfz17_1
  try clear hfz17_2
  try clear hfz17_3
  try clear hfz19_0
  try clear hfz19_1
  try clear hfz19_2
  try clear hfz19_3
  try clear hfz20_0
  try clear hfz20_1
  try clear hfz20_2
  try clear hfz20_3
  obtain ⟨kq, x33_2, rfl, HA, HJ2, BK101, BK102, HB⟩ := hcut
  cases kq with
  | zero => exact absurd HA.out (by simp [grommetref09_Same.j0])
  | succ kj2 =>
   have H := HA.out
   clear HA
   simp only [grommetref09_Same.j0] at H
   by_cases c21 : x33_2 = true
   ·
    subst c21
    have H1 : (some false) = some r := by rw [if_pos rfl] at H; exact H
    clear H
    have H := H1
    clear H1
    obtain rfl := Option.some.inj H
    go_wp2
    go_ret
    exact ⟨qva8_, qva0_⟩
   replace c21 := Bool.eq_false_iff.mpr c21
   subst c21
   have H1 : (grommetref09_Same.l0 kj2 0 a0_0 a0_1 a0_2 l0_3 a1_0 a1_1 a1_2 l1_3) = some r := by rw [if_neg (show ¬ (false = true) by decide)] at H; exact H
   clear H
   have H := H1
   clear H1
   have H' := Aside0.mk H
   clear H
   go_wp2
   go_loopg [5] kj2 (fun kq v5 w' => ∃ (x5_2 : Int), v5 = .int .i64 x5_2 ∧ Aside0 (grommetref09_Same.l0 kq x5_2 a0_0 a0_1 a0_2 l0_3 a1_0 a1_1 a1_2 l1_3 = some r) ∧ Aside0 (kq ≤ kj2) ∧ Aside0 (w'.heap[gb101]? = some (.cells #[.int .i64 a0_0, .string a0_1, .string a0_2, (.slice A0_3 l0_3.length c0_3)] 29 (0, 0))) ∧ Aside0 (w'.heap[gb102]? = some (.cells #[.int .i64 a1_0, .string a1_1, .string a1_2, (.slice A1_3 l1_3.length c1_3)] 29 (0, 0))) ∧ Aside0 (Below w.heap.size w w'))
   case atStart => exact ⟨(0), (qva7_), H', ⟨Nat.le_refl _⟩, ⟨qva1_⟩, ⟨qva2_⟩, ⟨qva0_⟩⟩
   case round =>
    clear H'
    try clear c1
    try clear c2
    try clear p2
    try clear c6
    try clear c6b0
    try clear c6b1
    try clear c7
    try clear c7b0
    try clear c7b1
    try clear c8
    try clear c8b0
    try clear c8b1
    try clear c9
    try clear c12
    try clear c15
    try clear c18
    try clear c21
    try clear hcz10_0
    try clear hcz10_1
    try clear hcz10_2
    try clear hcz10_3
    try clear hcz11_0
    try clear hcz11_1
    try clear hcz11_2
    try clear hcz11_3
    try clear hcz13_0
    try clear hcz13_1
    try clear hcz13_2
    try clear hcz13_3
    try clear hcz14_0
    try clear hcz14_1
    try clear hcz14_2
    try clear hcz14_3
    try clear hcz16_0
    try clear hcz16_1
    try clear hcz16_2
    try clear hcz16_3
    try clear hcz17_0
    try clear hcz17_1
    try clear hcz17_2
    try clear hcz17_3
    try clear hcz19_0
    try clear hcz19_1
    try clear hcz19_2
    try clear hcz19_3
    try clear hcz20_0
    try clear hcz20_1
    try clear hcz20_2
    try clear hcz20_3
    try clear hfz10_0
    try clear hfz10_1
    try clear hfz10_2
    try clear hfz10_3
    try clear hfz11_0
    try clear hfz11_1
    try clear hfz11_2
    try clear hfz11_3
    try clear hfz13_0
    try clear hfz13_1
    try clear hfz13_2
    try clear hfz13_3
    try clear hfz14_0
    try clear hfz14_1
    try clear hfz14_2
    try clear hfz14_3
    try clear hfz16_0
    try clear hfz16_1
    try clear hfz16_2
    try clear hfz16_3
    try clear hfz17_0
    try clear hfz17_1
    try clear hfz17_2
    try clear hfz17_3
    try clear hfz19_0
    try clear hfz19_1
    try clear hfz19_2
    try clear hfz19_3
    try clear hfz20_0
    try clear hfz20_1
    try clear hfz20_2
    try clear hfz20_3
    try clear p2
    obtain ⟨x5_2, rfl, HA, HK2, BK101, BK102, HB⟩ := hrel
    cases gk with
    | zero => exact absurd HA.out (by simp [grommetref09_Same.l0])
    | succ k2 =>
     have H := HA.out
     clear HA
     simp only [grommetref09_Same.l0] at H
     by_cases c22 : x5_2 < (l0_3.length : Int)
     rotate_left
     ·
      rw [if_neg c22] at H
      have c22b0 : decide (x5_2 < (l0_3.length : Int)) = false := decide_eq_false c22
      clear c22
      obtain rfl := Option.some.inj H
      have hnb35 := NB101_102.out
      have hnc35 := NB102_101.out
      have hcz36_0 : wr.cell? ⟨gb101, 0, none⟩ = some (.int .i64 a0_0) := (blk_cell BK101.out 0).trans rfl
      have hcz36_1 : wr.cell? ⟨gb101, 1, none⟩ = some (.string a0_1) := (blk_cell BK101.out 1).trans rfl
      have hcz36_2 : wr.cell? ⟨gb101, 2, none⟩ = some (.string a0_2) := (blk_cell BK101.out 2).trans rfl
      have hcz36_3 : wr.cell? ⟨gb101, 3, none⟩ = some (.slice A0_3 l0_3.length c0_3) := (blk_cell BK101.out 3).trans rfl
      have hfz36_0 := blk_frozen BK101.out 0
      have hfz36_1 := blk_frozen BK101.out 1
      have hfz36_2 := blk_frozen BK101.out 2
      have hfz36_3 := blk_frozen BK101.out 3
      go_wp2
      go_ret
      exact ⟨qva8_, qva0_⟩
     rw [if_pos c22] at H
     have c22b0 : decide (x5_2 < (l0_3.length : Int)) = true := decide_eq_true c22
     clear c22
     by_cases c23 : 0 ≤ x5_2
     rotate_left
     ·
      rw [if_neg c23] at H
      exact absurd H (by simp)
     rw [if_pos c23] at H
     have c23b0 : decide (0 ≤ x5_2) = true := decide_eq_true c23
     clear c23
     by_cases c24 : x5_2 < (l1_3.length : Int)
     rotate_left
     ·
      rw [if_neg c24] at H
      exact absurd H (by simp)
     rw [if_pos c24] at H
     have c24b0 : decide (x5_2 < (l1_3.length : Int)) = true := decide_eq_true c24
     clear c24
     replace H := Option.bind_eq_some_iff.mp H
     obtain ⟨t105, A250, H⟩ := H
     replace H : (if t105 = true then (grommetref09_Same.l0 k2 (wrap64 (x5_2 + 1)) a0_0 a0_1 a0_2 l0_3 a1_0 a1_1 a1_2 l1_3) else (some false)) = some r := H
     have A25 := Aside0.mk A250
     clear A250
     by_cases c26 : t105 = true
     rotate_left
     ·
      replace c26 := Bool.eq_false_iff.mpr c26
      subst c26
      have H1 : (some false) = some r := by rw [if_neg (show ¬ (false = true) by decide)] at H; exact H
      clear H
      have H := H1
      clear H1
      obtain rfl := Option.some.inj H
      have hnb31 := NB101_102.out
      have hnc31 := NB102_101.out
      have hcz32_0 : wr.cell? ⟨gb101, 0, none⟩ = some (.int .i64 a0_0) := (blk_cell BK101.out 0).trans rfl
      have hcz32_1 : wr.cell? ⟨gb101, 1, none⟩ = some (.string a0_1) := (blk_cell BK101.out 1).trans rfl
      have hcz32_2 : wr.cell? ⟨gb101, 2, none⟩ = some (.string a0_2) := (blk_cell BK101.out 2).trans rfl
      have hcz32_3 : wr.cell? ⟨gb101, 3, none⟩ = some (.slice A0_3 l0_3.length c0_3) := (blk_cell BK101.out 3).trans rfl
      have hfz32_0 := blk_frozen BK101.out 0
      have hfz32_1 := blk_frozen BK101.out 1
      have hfz32_2 := blk_frozen BK101.out 2
      have hfz32_3 := blk_frozen BK101.out 3
      try go_wp2
      have n0_ := Aside0.mk (blk_drew BK101.out)
      have n1_ := Aside0.mk (blk_drew BK102.out)
      have n2_ := Aside0.mk (below_drew1 HB.out)
      clear BK101
      clear BK102
      clear HB
      have BK101 := n0_
      have BK102 := n1_
      have HB := n2_
      clear n0_ n1_ n2_
      have p103 : 0 ≤ (x5_2 : Int) := of_decide_eq_true (qva4_)
      have q103 : x5_2 < (l0_3.length : Int) := of_decide_eq_true (qva4_)
      obtain ⟨ad103, A103_3, c103_3, e103, hx103_0, hx103_1, hx103_2, hx103_3, hl103_3, hi103_3⟩ := at_T29 HR0_3.out x5_2 p103 q103
      have KX103_3 := Aside0.mk hx103_3
      have hw103_3 := hx103_3
      have hw103_2 := hx103_2
      have hw103_1 := hx103_1
      have hw103_0 := hx103_0
      cases e103
      replace hx103_0 := (HB.out.cell (World.block_lt_of_cell? w _ hx103_0)).trans hx103_0
      replace hx103_1 := (HB.out.cell (World.block_lt_of_cell? w _ hx103_1)).trans hx103_1
      replace hx103_2 := (HB.out.cell (World.block_lt_of_cell? w _ hx103_2)).trans hx103_2
      replace hx103_3 := (HB.out.cell (World.block_lt_of_cell? w _ hx103_3)).trans hx103_3
      have HR103_3 := Aside0.mk hi103_3
      have HC103_3 := Aside0.mk hl103_3
      clear hi103_3 hl103_3
      replace p103 := eq_true p103
      replace q103 := eq_true q103
      have p104 : 0 ≤ (x5_2 : Int) := of_decide_eq_true (qva4_)
      have q104 : x5_2 < (l1_3.length : Int) := of_decide_eq_true (qva4_)
      obtain ⟨ad104, A104_3, c104_3, e104, hx104_0, hx104_1, hx104_2, hx104_3, hl104_3, hi104_3⟩ := at_T29 HR1_3.out x5_2 p104 q104
      have KX104_3 := Aside0.mk hx104_3
      have hw104_3 := hx104_3
      have hw104_2 := hx104_2
      have hw104_1 := hx104_1
      have hw104_0 := hx104_0
      cases e104
      replace hx104_0 := (HB.out.cell (World.block_lt_of_cell? w _ hx104_0)).trans hx104_0
      replace hx104_1 := (HB.out.cell (World.block_lt_of_cell? w _ hx104_1)).trans hx104_1
      replace hx104_2 := (HB.out.cell (World.block_lt_of_cell? w _ hx104_2)).trans hx104_2
      replace hx104_3 := (HB.out.cell (World.block_lt_of_cell? w _ hx104_3)).trans hx104_3
      have HR104_3 := Aside0.mk hi104_3
      have HC104_3 := Aside0.mk hl104_3
      clear hi104_3 hl104_3
      replace p104 := eq_true p104
      replace q104 := eq_true q104
      refine start_ (n := 12) (S := fun w' => w'.cell? ⟨gb101, 0, none⟩ = some (.int .i64 a0_0) ∧ w'.cell? ⟨gb101, 1, none⟩ = some (.string a0_1) ∧ w'.cell? ⟨gb101, 2, none⟩ = some (.string a0_2) ∧ w'.cell? ⟨gb101, 3, none⟩ = some (.slice (some ad103) l0_3.length c0_3) ∧ w'.cell? ⟨gb102, 0, none⟩ = some (.int .i64 a1_0) ∧ w'.cell? ⟨gb102, 1, none⟩ = some (.string a1_1) ∧ w'.cell? ⟨gb102, 2, none⟩ = some (.string a1_2) ∧ w'.cell? ⟨gb102, 3, none⟩ = some (.slice (some ad104) l1_3.length c1_3) ∧ w'.cell? (ad103.add ((x5_2).toNat * 4)) = some (.int .i64 ((rd_T29 l0_3 x5_2).f0)) ∧ w'.cell? ⟨(ad103.add ((x5_2).toNat * 4)).block, (ad103.add ((x5_2).toNat * 4)).off + 1, none⟩ = some (.string ((rd_T29 l0_3 x5_2).f1)) ∧ w'.cell? ⟨(ad103.add ((x5_2).toNat * 4)).block, (ad103.add ((x5_2).toNat * 4)).off + 2, none⟩ = some (.string ((rd_T29 l0_3 x5_2).f2)) ∧ w'.cell? ⟨(ad103.add ((x5_2).toNat * 4)).block, (ad103.add ((x5_2).toNat * 4)).off + 3, none⟩ = some (.slice A103_3 ((rd_T29 l0_3 x5_2).f3).length c103_3) ∧ w'.cell? (ad104.add ((x5_2).toNat * 4)) = some (.int .i64 ((rd_T29 l1_3 x5_2).f0)) ∧ w'.cell? ⟨(ad104.add ((x5_2).toNat * 4)).block, (ad104.add ((x5_2).toNat * 4)).off + 1, none⟩ = some (.string ((rd_T29 l1_3 x5_2).f1)) ∧ w'.cell? ⟨(ad104.add ((x5_2).toNat * 4)).block, (ad104.add ((x5_2).toNat * 4)).off + 2, none⟩ = some (.string ((rd_T29 l1_3 x5_2).f2)) ∧ w'.cell? ⟨(ad104.add ((x5_2).toNat * 4)).block, (ad104.add ((x5_2).toNat * 4)).off + 3, none⟩ = some (.slice A104_3 ((rd_T29 l1_3 x5_2).f3).length c104_3)) (ds := []) #[false, false, false, false, false, false, false, false, false, false, false, false] (by kernel_rfl) rfl rfl ⟨(blk_cell BK101.out 0).trans rfl, (blk_cell BK101.out 1).trans rfl, (blk_cell BK101.out 2).trans rfl, (blk_cell BK101.out 3).trans rfl, (blk_cell BK102.out 0).trans rfl, (blk_cell BK102.out 1).trans rfl, (blk_cell BK102.out 2).trans rfl, (blk_cell BK102.out 3).trans rfl, ((HB.out.cell (World.block_lt_of_cell? w _ hw103_0)).trans hw103_0), ((HB.out.cell (World.block_lt_of_cell? w _ hw103_1)).trans hw103_1), ((HB.out.cell (World.block_lt_of_cell? w _ hw103_2)).trans hw103_2), ((HB.out.cell (World.block_lt_of_cell? w _ hw103_3)).trans hw103_3), ((HB.out.cell (World.block_lt_of_cell? w _ hw104_0)).trans hw104_0), ((HB.out.cell (World.block_lt_of_cell? w _ hw104_1)).trans hw104_1), ((HB.out.cell (World.block_lt_of_cell? w _ hw104_2)).trans hw104_2), ((HB.out.cell (World.block_lt_of_cell? w _ hw104_3)).trans hw104_3)⟩ (fun hHeld => ?_); refine with_tabW grommetref09_Same.tab6 grommetref09_Same.bits6 (fun HT_ HW_ => ?_)
      generalize wr.drew = w33 at BK101 BK102 HB HR103_3 HR104_3 hx103_0 hx103_1 hx103_2 hx103_3 hx104_0 hx104_1 hx104_2 hx104_3 hHeld ⊢
      refine pure_ (i := 0) (N := some 41) (v := ?_) (a' := ?_) #[true, false, false, false, false, false, false, false, false, false, false, false] rfl rfl (any_of HT_.out (by kernel_rfl)) (fun _ _ _ h => h) (Or.inl ⟨by rfl, ?_⟩) ?_ ?_
      rotate_left
      exact qva10_
      rotate_left
      exact qva11_
      refine pure_ (i := 2) (N := some 43) (v := ?_) (a' := ?_) #[true, false, true, false, false, false, false, false, false, false, false, false] rfl rfl (any_of HT_.out (by kernel_rfl)) (fun _ _ _ h => h) (Or.inl ⟨by rfl, ?_⟩) ?_ ?_
      rotate_left
      exact qva10_
      rotate_left
      exact qva11_
      refine pure_ (i := 5) (N := some 46) (v := ?_) (a' := ?_) #[true, false, true, false, false, true, false, false, false, false, false, false] rfl rfl (any_of HT_.out (by kernel_rfl)) (fun _ _ _ h => h) (Or.inl ⟨by rfl, ?_⟩) ?_ ?_
      rotate_left
      exact qva10_
      rotate_left
      exact qva11_
      refine pure_ (i := 7) (N := some 48) (v := ?_) (a' := ?_) #[true, false, true, false, false, true, false, true, false, false, false, false] rfl rfl (any_of HT_.out (by kernel_rfl)) (fun _ _ _ h => h) (Or.inl ⟨by rfl, ?_⟩) ?_ ?_
      rotate_left
      exact qva10_
      rotate_left
      exact qva11_
      refine take_ (i := 1) (N := some 42) (v := ?_) (a' := ?_) #[true, true, true, false, false, true, false, true, false, false, false, false] rfl rfl (take_ofW HT_.out HW_.out (by kernel_rfl)) (fun _ _ _ h => h) (Or.inl ⟨by rfl, ?_⟩) hHeld ?_ ?_
      rotate_left
      exact qva12_
      rotate_left
      exact qva11_
      refine pure_ (i := 3) (N := some 44) (v := ?_) (a' := ?_) #[true, true, true, true, false, true, false, true, false, false, false, false] rfl rfl (any_of HT_.out (by kernel_rfl)) (fun _ _ _ h => h) (Or.inl ⟨by rfl, ?_⟩) ?_ ?_
      rotate_left
      exact qva10_
      rotate_left
      exact qva11_
      refine take_ (i := 4) (N := some 45) (v := ?_) (a' := ?_) #[true, true, true, true, true, true, false, true, false, false, false, false] rfl rfl (take_ofW HT_.out HW_.out (by kernel_rfl)) (fun _ _ _ h => h) (Or.inl ⟨by rfl, ?_⟩) hHeld ?_ ?_
      rotate_left
      exact qva12_
      rotate_left
      exact qva11_
      refine take_ (i := 6) (N := some 47) (v := ?_) (a' := ?_) #[true, true, true, true, true, true, true, true, false, false, false, false] rfl rfl (take_ofW HT_.out HW_.out (by kernel_rfl)) (fun _ _ _ h => h) (Or.inl ⟨by rfl, ?_⟩) hHeld ?_ ?_
      rotate_left
      exact qva12_
      rotate_left
      exact qva11_
      refine pure_ (i := 8) (N := some 49) (v := ?_) (a' := ?_) #[true, true, true, true, true, true, true, true, true, false, false, false] rfl rfl (any_of HT_.out (by kernel_rfl)) (fun _ _ _ h => h) (Or.inl ⟨by rfl, ?_⟩) ?_ ?_
      rotate_left
      exact qva10_
      rotate_left
      exact qva11_
      refine take_ (i := 9) (N := some 50) (v := ?_) (a' := ?_) #[true, true, true, true, true, true, true, true, true, true, false, false] rfl rfl (take_ofW HT_.out HW_.out (by kernel_rfl)) (fun _ _ _ h => h) (Or.inl ⟨by rfl, ?_⟩) hHeld ?_ ?_
      rotate_left
      exact qva12_
      rotate_left
      exact qva11_
      refine one_ (i := 10) (N := some 51) #[true, true, true, true, true, true, true, true, true, true, true, false] rfl rfl (one_of HT_.out (by kernel_rfl)) (by decide) (fun K hK => ?_)
      refine goes_ Tryz.func15 (by kernel_rfl) rfl #[.agg #[.int .i64 ((rd_T29 l0_3 x5_2).f0), .string ((rd_T29 l0_3 x5_2).f1), .string ((rd_T29 l0_3 x5_2).f2), .slice A103_3 ((rd_T29 l0_3 x5_2).f3).length c103_3], .agg #[.int .i64 ((rd_T29 l1_3 x5_2).f0), .string ((rd_T29 l1_3 x5_2).f1), .string ((rd_T29 l1_3 x5_2).f2), .slice A104_3 ((rd_T29 l1_3 x5_2).f3).length c104_3]] (by rfl) rfl rfl (qva9_) ?_
      with_reducible refine (ih k2 (by have := HJ2.out; have := HK2.out; omega) ((rd_T29 l0_3 x5_2).f0) ((rd_T29 l0_3 x5_2).f1) ((rd_T29 l0_3 x5_2).f2) _ _ ((rd_T29 l0_3 x5_2).f3) ((rd_T29 l1_3 x5_2).f0) ((rd_T29 l1_3 x5_2).f1) ((rd_T29 l1_3 x5_2).f2) _ _ ((rd_T29 l1_3 x5_2).f3) false _ ?side1 ?side2 ?side3 ?side4 (hG.below (qva5_)) A25.out).mono ?_
      (case side1 => repeat (first | exact (Kd.C_below HR103_3.out HB.out) | (with_reducible refine Kd.C_alloc ?_ _) | (with_reducible refine Kd.C_drewN ?_ _) | (with_reducible refine Kd.C_drew ?_)))
      (case side2 => exact HC103_3.out)
      (case side3 => repeat (first | exact (Kd.C_below HR104_3.out HB.out) | (with_reducible refine Kd.C_alloc ?_ _) | (with_reducible refine Kd.C_drewN ?_ _) | (with_reducible refine Kd.C_drew ?_)))
      (case side4 => exact HC104_3.out)
      rintro e w34 ⟨rfl, hb⟩
      refine ⟨_, rfl, ?_⟩
      have n0_ := Aside0.mk (blk_below (g := gb101) (o := .cells #[.int .i64 a0_0, .string a0_1, .string a0_2, .slice (some ad103) l0_3.length c0_3] 29 (0, 0)) (qva1_) hb)
      have n1_ := Aside0.mk (blk_below (g := gb102) (o := .cells #[.int .i64 a1_0, .string a1_1, .string a1_2, .slice (some ad104) l1_3.length c1_3] 29 (0, 0)) (qva2_) hb)
      have n2_ := Aside0.mk (below_step (qva0_) hb)
      clear BK101
      clear BK102
      clear HB
      have BK101 := n0_
      have BK102 := n1_
      have HB := n2_
      clear n0_ n1_ n2_
      (try clear hb)
      (try clear hb2)
      (try clear hk)
      (try clear hi)
      refine hK.out _ _ ⟨(blk_cell BK101.out 0).trans rfl, (blk_cell BK101.out 1).trans rfl, (blk_cell BK101.out 2).trans rfl, (blk_cell BK101.out 3).trans rfl, (blk_cell BK102.out 0).trans rfl, (blk_cell BK102.out 1).trans rfl, (blk_cell BK102.out 2).trans rfl, (blk_cell BK102.out 3).trans rfl, ((HB.out.cell (World.block_lt_of_cell? w _ hw103_0)).trans hw103_0), ((HB.out.cell (World.block_lt_of_cell? w _ hw103_1)).trans hw103_1), ((HB.out.cell (World.block_lt_of_cell? w _ hw103_2)).trans hw103_2), ((HB.out.cell (World.block_lt_of_cell? w _ hw103_3)).trans hw103_3), ((HB.out.cell (World.block_lt_of_cell? w _ hw104_0)).trans hw104_0), ((HB.out.cell (World.block_lt_of_cell? w _ hw104_1)).trans hw104_1), ((HB.out.cell (World.block_lt_of_cell? w _ hw104_2)).trans hw104_2), ((HB.out.cell (World.block_lt_of_cell? w _ hw104_3)).trans hw104_3)⟩ (fun hHeld => ?_)
      clear hK K
      refine norm_ (a' := ?_) ?_ ?_
      rotate_left
      ·
       show Act.put _ (some 51) _ = _
       simp only [Act.put, List.setIfInBounds_toArray, List.set_cons_zero, List.set_cons_succ, i64_w, i32_w]
       rfl
      refine pure_ (i := 11) (N := some 52) (v := ?_) (a' := ?_) #[true, true, true, true, true, true, true, true, true, true, true, true] rfl rfl (any_of HT_.out (by kernel_rfl)) (fun _ _ _ h => h) (Or.inl ⟨by rfl, ?_⟩) ?_ ?_
      rotate_left
      exact qva10_
      rotate_left
      exact qva11_
      refine done_ (done_of HT_.out (by kernel_rfl)) ?_
      try go_wp2
      go_ret
      exact ⟨qva8_, qva0_⟩
     subst c26
     have H1 : (grommetref09_Same.l0 k2 (wrap64 (x5_2 + 1)) a0_0 a0_1 a0_2 l0_3 a1_0 a1_1 a1_2 l1_3) = some r := by rw [if_pos rfl] at H; exact H
     clear H
     have H := H1
     clear H1
     have H' := Aside0.mk H
     clear H
     have hnb27 := NB101_102.out
     have hnc27 := NB102_101.out
     have hcz28_0 : wr.cell? ⟨gb101, 0, none⟩ = some (.int .i64 a0_0) := (blk_cell BK101.out 0).trans rfl
     have hcz28_1 : wr.cell? ⟨gb101, 1, none⟩ = some (.string a0_1) := (blk_cell BK101.out 1).trans rfl
     have hcz28_2 : wr.cell? ⟨gb101, 2, none⟩ = some (.string a0_2) := (blk_cell BK101.out 2).trans rfl
     have hcz28_3 : wr.cell? ⟨gb101, 3, none⟩ = some (.slice A0_3 l0_3.length c0_3) := (blk_cell BK101.out 3).trans rfl
     have hfz28_0 := blk_frozen BK101.out 0
     have hfz28_1 := blk_frozen BK101.out 1
     have hfz28_2 := blk_frozen BK101.out 2
     have hfz28_3 := blk_frozen BK101.out 3
     try go_wp2
     have n0_ := Aside0.mk (blk_drew BK101.out)
     have n1_ := Aside0.mk (blk_drew BK102.out)
     have n2_ := Aside0.mk (below_drew1 HB.out)
     clear BK101
     clear BK102
     clear HB
     have BK101 := n0_
     have BK102 := n1_
     have HB := n2_
     clear n0_ n1_ n2_
     have p103 : 0 ≤ (x5_2 : Int) := of_decide_eq_true (qva4_)
     have q103 : x5_2 < (l0_3.length : Int) := of_decide_eq_true (qva4_)
     obtain ⟨ad103, A103_3, c103_3, e103, hx103_0, hx103_1, hx103_2, hx103_3, hl103_3, hi103_3⟩ := at_T29 HR0_3.out x5_2 p103 q103
     have KX103_3 := Aside0.mk hx103_3
     have hw103_3 := hx103_3
     have hw103_2 := hx103_2
     have hw103_1 := hx103_1
     have hw103_0 := hx103_0
     cases e103
     replace hx103_0 := (HB.out.cell (World.block_lt_of_cell? w _ hx103_0)).trans hx103_0
     replace hx103_1 := (HB.out.cell (World.block_lt_of_cell? w _ hx103_1)).trans hx103_1
     replace hx103_2 := (HB.out.cell (World.block_lt_of_cell? w _ hx103_2)).trans hx103_2
     replace hx103_3 := (HB.out.cell (World.block_lt_of_cell? w _ hx103_3)).trans hx103_3
     have HR103_3 := Aside0.mk hi103_3
     have HC103_3 := Aside0.mk hl103_3
     clear hi103_3 hl103_3
     replace p103 := eq_true p103
     replace q103 := eq_true q103
     have p104 : 0 ≤ (x5_2 : Int) := of_decide_eq_true (qva4_)
     have q104 : x5_2 < (l1_3.length : Int) := of_decide_eq_true (qva4_)
     obtain ⟨ad104, A104_3, c104_3, e104, hx104_0, hx104_1, hx104_2, hx104_3, hl104_3, hi104_3⟩ := at_T29 HR1_3.out x5_2 p104 q104
     have KX104_3 := Aside0.mk hx104_3
     have hw104_3 := hx104_3
     have hw104_2 := hx104_2
     have hw104_1 := hx104_1
     have hw104_0 := hx104_0
     cases e104
     replace hx104_0 := (HB.out.cell (World.block_lt_of_cell? w _ hx104_0)).trans hx104_0
     replace hx104_1 := (HB.out.cell (World.block_lt_of_cell? w _ hx104_1)).trans hx104_1
     replace hx104_2 := (HB.out.cell (World.block_lt_of_cell? w _ hx104_2)).trans hx104_2
     replace hx104_3 := (HB.out.cell (World.block_lt_of_cell? w _ hx104_3)).trans hx104_3
     have HR104_3 := Aside0.mk hi104_3
     have HC104_3 := Aside0.mk hl104_3
     clear hi104_3 hl104_3
     replace p104 := eq_true p104
     replace q104 := eq_true q104
     refine start_ (n := 12) (S := fun w' => w'.cell? ⟨gb101, 0, none⟩ = some (.int .i64 a0_0) ∧ w'.cell? ⟨gb101, 1, none⟩ = some (.string a0_1) ∧ w'.cell? ⟨gb101, 2, none⟩ = some (.string a0_2) ∧ w'.cell? ⟨gb101, 3, none⟩ = some (.slice (some ad103) l0_3.length c0_3) ∧ w'.cell? ⟨gb102, 0, none⟩ = some (.int .i64 a1_0) ∧ w'.cell? ⟨gb102, 1, none⟩ = some (.string a1_1) ∧ w'.cell? ⟨gb102, 2, none⟩ = some (.string a1_2) ∧ w'.cell? ⟨gb102, 3, none⟩ = some (.slice (some ad104) l1_3.length c1_3) ∧ w'.cell? (ad103.add ((x5_2).toNat * 4)) = some (.int .i64 ((rd_T29 l0_3 x5_2).f0)) ∧ w'.cell? ⟨(ad103.add ((x5_2).toNat * 4)).block, (ad103.add ((x5_2).toNat * 4)).off + 1, none⟩ = some (.string ((rd_T29 l0_3 x5_2).f1)) ∧ w'.cell? ⟨(ad103.add ((x5_2).toNat * 4)).block, (ad103.add ((x5_2).toNat * 4)).off + 2, none⟩ = some (.string ((rd_T29 l0_3 x5_2).f2)) ∧ w'.cell? ⟨(ad103.add ((x5_2).toNat * 4)).block, (ad103.add ((x5_2).toNat * 4)).off + 3, none⟩ = some (.slice A103_3 ((rd_T29 l0_3 x5_2).f3).length c103_3) ∧ w'.cell? (ad104.add ((x5_2).toNat * 4)) = some (.int .i64 ((rd_T29 l1_3 x5_2).f0)) ∧ w'.cell? ⟨(ad104.add ((x5_2).toNat * 4)).block, (ad104.add ((x5_2).toNat * 4)).off + 1, none⟩ = some (.string ((rd_T29 l1_3 x5_2).f1)) ∧ w'.cell? ⟨(ad104.add ((x5_2).toNat * 4)).block, (ad104.add ((x5_2).toNat * 4)).off + 2, none⟩ = some (.string ((rd_T29 l1_3 x5_2).f2)) ∧ w'.cell? ⟨(ad104.add ((x5_2).toNat * 4)).block, (ad104.add ((x5_2).toNat * 4)).off + 3, none⟩ = some (.slice A104_3 ((rd_T29 l1_3 x5_2).f3).length c104_3)) (ds := []) #[false, false, false, false, false, false, false, false, false, false, false, false] (by kernel_rfl) rfl rfl ⟨(blk_cell BK101.out 0).trans rfl, (blk_cell BK101.out 1).trans rfl, (blk_cell BK101.out 2).trans rfl, (blk_cell BK101.out 3).trans rfl, (blk_cell BK102.out 0).trans rfl, (blk_cell BK102.out 1).trans rfl, (blk_cell BK102.out 2).trans rfl, (blk_cell BK102.out 3).trans rfl, ((HB.out.cell (World.block_lt_of_cell? w _ hw103_0)).trans hw103_0), ((HB.out.cell (World.block_lt_of_cell? w _ hw103_1)).trans hw103_1), ((HB.out.cell (World.block_lt_of_cell? w _ hw103_2)).trans hw103_2), ((HB.out.cell (World.block_lt_of_cell? w _ hw103_3)).trans hw103_3), ((HB.out.cell (World.block_lt_of_cell? w _ hw104_0)).trans hw104_0), ((HB.out.cell (World.block_lt_of_cell? w _ hw104_1)).trans hw104_1), ((HB.out.cell (World.block_lt_of_cell? w _ hw104_2)).trans hw104_2), ((HB.out.cell (World.block_lt_of_cell? w _ hw104_3)).trans hw104_3)⟩ (fun hHeld => ?_); refine with_tabW grommetref09_Same.tab6 grommetref09_Same.bits6 (fun HT_ HW_ => ?_)
     generalize wr.drew = w29 at BK101 BK102 HB HR103_3 HR104_3 hx103_0 hx103_1 hx103_2 hx103_3 hx104_0 hx104_1 hx104_2 hx104_3 hHeld ⊢
     refine pure_ (i := 0) (N := some 41) (v := ?_) (a' := ?_) #[true, false, false, false, false, false, false, false, false, false, false, false] rfl rfl (any_of HT_.out (by kernel_rfl)) (fun _ _ _ h => h) (Or.inl ⟨by rfl, ?_⟩) ?_ ?_
     rotate_left
     exact qva10_
     rotate_left
     exact qva11_
     refine pure_ (i := 2) (N := some 43) (v := ?_) (a' := ?_) #[true, false, true, false, false, false, false, false, false, false, false, false] rfl rfl (any_of HT_.out (by kernel_rfl)) (fun _ _ _ h => h) (Or.inl ⟨by rfl, ?_⟩) ?_ ?_
     rotate_left
     exact qva10_
     rotate_left
     exact qva11_
     refine pure_ (i := 5) (N := some 46) (v := ?_) (a' := ?_) #[true, false, true, false, false, true, false, false, false, false, false, false] rfl rfl (any_of HT_.out (by kernel_rfl)) (fun _ _ _ h => h) (Or.inl ⟨by rfl, ?_⟩) ?_ ?_
     rotate_left
     exact qva10_
     rotate_left
     exact qva11_
     refine pure_ (i := 7) (N := some 48) (v := ?_) (a' := ?_) #[true, false, true, false, false, true, false, true, false, false, false, false] rfl rfl (any_of HT_.out (by kernel_rfl)) (fun _ _ _ h => h) (Or.inl ⟨by rfl, ?_⟩) ?_ ?_
     rotate_left
     exact qva10_
     rotate_left
     exact qva11_
     refine take_ (i := 1) (N := some 42) (v := ?_) (a' := ?_) #[true, true, true, false, false, true, false, true, false, false, false, false] rfl rfl (take_ofW HT_.out HW_.out (by kernel_rfl)) (fun _ _ _ h => h) (Or.inl ⟨by rfl, ?_⟩) hHeld ?_ ?_
     rotate_left
     exact qva12_
     rotate_left
     exact qva11_
     refine pure_ (i := 3) (N := some 44) (v := ?_) (a' := ?_) #[true, true, true, true, false, true, false, true, false, false, false, false] rfl rfl (any_of HT_.out (by kernel_rfl)) (fun _ _ _ h => h) (Or.inl ⟨by rfl, ?_⟩) ?_ ?_
     rotate_left
     exact qva10_
     rotate_left
     exact qva11_
     refine take_ (i := 4) (N := some 45) (v := ?_) (a' := ?_) #[true, true, true, true, true, true, false, true, false, false, false, false] rfl rfl (take_ofW HT_.out HW_.out (by kernel_rfl)) (fun _ _ _ h => h) (Or.inl ⟨by rfl, ?_⟩) hHeld ?_ ?_
     rotate_left
     exact qva12_
     rotate_left
     exact qva11_
     refine take_ (i := 6) (N := some 47) (v := ?_) (a' := ?_) #[true, true, true, true, true, true, true, true, false, false, false, false] rfl rfl (take_ofW HT_.out HW_.out (by kernel_rfl)) (fun _ _ _ h => h) (Or.inl ⟨by rfl, ?_⟩) hHeld ?_ ?_
     rotate_left
     exact qva12_
     rotate_left
     exact qva11_
     refine pure_ (i := 8) (N := some 49) (v := ?_) (a' := ?_) #[true, true, true, true, true, true, true, true, true, false, false, false] rfl rfl (any_of HT_.out (by kernel_rfl)) (fun _ _ _ h => h) (Or.inl ⟨by rfl, ?_⟩) ?_ ?_
     rotate_left
     exact qva10_
     rotate_left
     exact qva11_
     refine take_ (i := 9) (N := some 50) (v := ?_) (a' := ?_) #[true, true, true, true, true, true, true, true, true, true, false, false] rfl rfl (take_ofW HT_.out HW_.out (by kernel_rfl)) (fun _ _ _ h => h) (Or.inl ⟨by rfl, ?_⟩) hHeld ?_ ?_
     rotate_left
     exact qva12_
     rotate_left
     exact qva11_
     refine one_ (i := 10) (N := some 51) #[true, true, true, true, true, true, true, true, true, true, true, false] rfl rfl (one_of HT_.out (by kernel_rfl)) (by decide) (fun K hK => ?_)
     refine goes_ Tryz.func15 (by kernel_rfl) rfl #[.agg #[.int .i64 ((rd_T29 l0_3 x5_2).f0), .string ((rd_T29 l0_3 x5_2).f1), .string ((rd_T29 l0_3 x5_2).f2), .slice A103_3 ((rd_T29 l0_3 x5_2).f3).length c103_3], .agg #[.int .i64 ((rd_T29 l1_3 x5_2).f0), .string ((rd_T29 l1_3 x5_2).f1), .string ((rd_T29 l1_3 x5_2).f2), .slice A104_3 ((rd_T29 l1_3 x5_2).f3).length c104_3]] (by rfl) rfl rfl (qva9_) ?_
     with_reducible refine (ih k2 (by have := HJ2.out; have := HK2.out; omega) ((rd_T29 l0_3 x5_2).f0) ((rd_T29 l0_3 x5_2).f1) ((rd_T29 l0_3 x5_2).f2) _ _ ((rd_T29 l0_3 x5_2).f3) ((rd_T29 l1_3 x5_2).f0) ((rd_T29 l1_3 x5_2).f1) ((rd_T29 l1_3 x5_2).f2) _ _ ((rd_T29 l1_3 x5_2).f3) true _ ?side1 ?side2 ?side3 ?side4 (hG.below (qva5_)) A25.out).mono ?_
     (case side1 => repeat (first | exact (Kd.C_below HR103_3.out HB.out) | (with_reducible refine Kd.C_alloc ?_ _) | (with_reducible refine Kd.C_drewN ?_ _) | (with_reducible refine Kd.C_drew ?_)))
     (case side2 => exact HC103_3.out)
     (case side3 => repeat (first | exact (Kd.C_below HR104_3.out HB.out) | (with_reducible refine Kd.C_alloc ?_ _) | (with_reducible refine Kd.C_drewN ?_ _) | (with_reducible refine Kd.C_drew ?_)))
     (case side4 => exact HC104_3.out)
     rintro e w30 ⟨rfl, hb⟩
     refine ⟨_, rfl, ?_⟩
     have n0_ := Aside0.mk (blk_below (g := gb101) (o := .cells #[.int .i64 a0_0, .string a0_1, .string a0_2, .slice (some ad103) l0_3.length c0_3] 29 (0, 0)) (qva1_) hb)
     have n1_ := Aside0.mk (blk_below (g := gb102) (o := .cells #[.int .i64 a1_0, .string a1_1, .string a1_2, .slice (some ad104) l1_3.length c1_3] 29 (0, 0)) (qva2_) hb)
     have n2_ := Aside0.mk (below_step (qva0_) hb)
     clear BK101
     clear BK102
     clear HB
     have BK101 := n0_
     have BK102 := n1_
     have HB := n2_
     clear n0_ n1_ n2_
     (try clear hb)
     (try clear hb2)
     (try clear hk)
     (try clear hi)
     refine hK.out _ _ ⟨(blk_cell BK101.out 0).trans rfl, (blk_cell BK101.out 1).trans rfl, (blk_cell BK101.out 2).trans rfl, (blk_cell BK101.out 3).trans rfl, (blk_cell BK102.out 0).trans rfl, (blk_cell BK102.out 1).trans rfl, (blk_cell BK102.out 2).trans rfl, (blk_cell BK102.out 3).trans rfl, ((HB.out.cell (World.block_lt_of_cell? w _ hw103_0)).trans hw103_0), ((HB.out.cell (World.block_lt_of_cell? w _ hw103_1)).trans hw103_1), ((HB.out.cell (World.block_lt_of_cell? w _ hw103_2)).trans hw103_2), ((HB.out.cell (World.block_lt_of_cell? w _ hw103_3)).trans hw103_3), ((HB.out.cell (World.block_lt_of_cell? w _ hw104_0)).trans hw104_0), ((HB.out.cell (World.block_lt_of_cell? w _ hw104_1)).trans hw104_1), ((HB.out.cell (World.block_lt_of_cell? w _ hw104_2)).trans hw104_2), ((HB.out.cell (World.block_lt_of_cell? w _ hw104_3)).trans hw104_3)⟩ (fun hHeld => ?_)
     clear hK K
     refine norm_ (a' := ?_) ?_ ?_
     rotate_left
     ·
      show Act.put _ (some 51) _ = _
      simp only [Act.put, List.setIfInBounds_toArray, List.set_cons_zero, List.set_cons_succ, i64_w, i32_w]
      rfl
     refine pure_ (i := 11) (N := some 52) (v := ?_) (a' := ?_) #[true, true, true, true, true, true, true, true, true, true, true, true] rfl rfl (any_of HT_.out (by kernel_rfl)) (fun _ _ _ h => h) (Or.inl ⟨by rfl, ?_⟩) ?_ ?_
     rotate_left
     exact qva10_
     rotate_left
     exact qva11_
     refine done_ (done_of HT_.out (by kernel_rfl)) ?_
     try go_wp2
     go_roundg k2
     case measure => have := HJ2.out; have := HK2.out; omega
     case rel => exact ⟨(wrap64 (x5_2 + 1)), (qva7_), H', ⟨by have := HJ2.out; have := HK2.out; omega⟩, ⟨qva1_⟩, ⟨qva2_⟩, ⟨qva0_⟩⟩
def grommetref01_Ints.l0 : Nat → List Int → List Int → Int → Option (Bool)
  | 0, _, _, _ => none
  | k + 1, x0, x1, x5 => if x5 < (x0.length : Int) then (if 0 ≤ x5 then (if x5 < (x1.length : Int) then (if (rd x0 x5) = (rd x1 x5) then (grommetref01_Ints.l0 k x0 x1 (wrap64 (x5 + 1))) else (some false)) else (none)) else (none)) else (some true)
def grommetref01_Ints.f (k : Nat) (l0 : List Int) (l1 : List Int) : Option (Bool) := if (l0.length : Int) = (l1.length : Int) then (grommetref01_Ints.l0 k l0 l1 0) else (some false)
theorem qxa0_ {P : Prop} (h_ : P := by first | (with_reducible assumption) | assumption) : P := h_
theorem qxa1_ {P : Prop} (h_ : P := by repeat (first | exact Drawn0.refl _ | apply Drawn0.step)) : P := h_
theorem qxa2_ {P : Prop} (h_ : P := by first | rfl | (simp; done) | (simp [*]; done) | (simp; generalize ByteArray.toList _ = l_; cases l_ <;> rfl)) : P := h_
set_option maxHeartbeats 8000000 in
set_option maxRecDepth 100000 in
theorem grommetref01_Ints.calls (k : Nat) (A0 : Option Addr) (c0 : Nat) (l0 : List Int) (A1 : Option Addr) (c1 : Nat) (l1 : List Int) (r : Bool) (w : World) (hr0 : Kd.C (Kd.int .i64) w A0 l0.length l0) (hc0 : l0.length ≤ c0) (hr1 : Kd.C (Kd.int .i64) w A1 l1.length l1) (hc1 : l1.length ≤ c1) (hG : Glob.G w) (h : grommetref01_Ints.f k l0 l1 = some r) :
  Calls Tryz.prog 41 #[.slice A0 l0.length c0, .slice A1 l1.length c1] w fun e w' => e = .returned (.bool r) ∧ Drawn0 w w' := by
 have HR0 := Aside0.mk hr0
 have HC0 := Aside0.mk hc0
 clear hr0 hc0
 have HR1 := Aside0.mk hr1
 have HC1 := Aside0.mk hc1
 clear hr1 hc1
 have H : (if (l0.length : Int) = (l1.length : Int) then (grommetref01_Ints.l0 k l0 l1 0) else (some false)) = some r := h
 clear h
 by_cases c3 : (l0.length : Int) = (l1.length : Int)
 rotate_left
 ·
  rw [if_neg c3] at H
  have c3b0 : ((l0.length : Int) == (l1.length : Int)) = false := beq_eq_false_iff_ne.mpr c3
  have c3b1 : ((l0.length : Int) != (l1.length : Int)) = true := bne_iff_ne.mpr c3
  have c3b2 : (l0.length == l1.length) = false := by first | simpa using c3 | (simp at c3 ⊢; omega)
  obtain rfl := Option.some.inj H
  go_enter Tryz.func41, Tryz.ntmps41
  go_wp2
  repeat (go_quiet (fail); try go_wp2)
  go_ret
  exact ⟨qxa2_, qxa1_⟩
 rw [if_pos c3] at H
 have c3b0 : ((l0.length : Int) == (l1.length : Int)) = true := beq_iff_eq.mpr c3
 have c3b1 : ((l0.length : Int) != (l1.length : Int)) = false := bne_eq_false_iff_eq.mpr c3
 have c3b2 : (l0.length == l1.length) = true := by first | simpa using c3 | (simp at c3 ⊢; omega)
 clear c3
 have H' := Aside0.mk H
 clear H
 go_enter Tryz.func41, Tryz.ntmps41
 go_wp2
 repeat (go_quiet (fail); try go_wp2)
 go_loopg [5] k (fun kq v5 w' => ∃ (x5_1 : Int), v5 = .int .i64 x5_1 ∧ Aside0 (grommetref01_Ints.l0 kq l0 l1 x5_1 = some r) ∧ Aside0 (kq ≤ k) ∧ Drawn0 w w')
 case atStart => exact ⟨(0), (by first | rfl | (simp; done) | (simp [*]; done)), H', ⟨Nat.le_refl _⟩, qxa1_⟩
 case round =>
  clear H'
  try clear c1
  try clear p2
  try clear c3
  try clear c3b0
  try clear c3b1
  try clear c3b2
  obtain ⟨x5_1, rfl, HA, HK1, ⟨m1, rfl⟩⟩ := hrel
  cases gk with
  | zero => exact absurd HA.out (by simp [grommetref01_Ints.l0])
  | succ k1 =>
   have H := HA.out
   clear HA
   simp only [grommetref01_Ints.l0] at H
   by_cases c4 : x5_1 < (l0.length : Int)
   rotate_left
   ·
    rw [if_neg c4] at H
    have c4b0 : decide (x5_1 < (l0.length : Int)) = false := decide_eq_false c4
    clear c4
    obtain rfl := Option.some.inj H
    go_wp2
    repeat (go_quiet (fail); try go_wp2)
    go_ret
    exact ⟨qxa2_, qxa1_⟩
   rw [if_pos c4] at H
   have c4b0 : decide (x5_1 < (l0.length : Int)) = true := decide_eq_true c4
   clear c4
   by_cases c5 : 0 ≤ x5_1
   rotate_left
   ·
    rw [if_neg c5] at H
    exact absurd H (by simp)
   rw [if_pos c5] at H
   have c5b0 : decide (0 ≤ x5_1) = true := decide_eq_true c5
   clear c5
   by_cases c6 : x5_1 < (l1.length : Int)
   rotate_left
   ·
    rw [if_neg c6] at H
    exact absurd H (by simp)
   rw [if_pos c6] at H
   have c6b0 : decide (x5_1 < (l1.length : Int)) = true := decide_eq_true c6
   clear c6
   by_cases c7 : (rd l0 x5_1) = (rd l1 x5_1)
   rotate_left
   ·
    rw [if_neg c7] at H
    have c7b0 : ((rd l0 x5_1) == (rd l1 x5_1)) = false := beq_eq_false_iff_ne.mpr c7
    have c7b1 : ((rd l0 x5_1) != (rd l1 x5_1)) = true := bne_iff_ne.mpr c7
    obtain rfl := Option.some.inj H
    have p101 : 0 ≤ (x5_1 : Int) := of_decide_eq_true (qxa0_)
    have q101 : x5_1 < (l0.length : Int) := of_decide_eq_true (qxa0_)
    obtain ⟨ad101, e101, hx101_0⟩ := Kd.at_int HR0.out x5_1 p101 q101
    cases e101
    replace p101 := eq_true p101
    replace q101 := eq_true q101
    have p102 : 0 ≤ (x5_1 : Int) := of_decide_eq_true (qxa0_)
    have q102 : x5_1 < (l1.length : Int) := of_decide_eq_true (qxa0_)
    obtain ⟨ad102, e102, hx102_0⟩ := Kd.at_int HR1.out x5_1 p102 q102
    cases e102
    replace p102 := eq_true p102
    replace q102 := eq_true q102
    go_wp2
    repeat (go_quiet (fail); try go_wp2)
    go_ret
    exact ⟨qxa2_, qxa1_⟩
   rw [if_pos c7] at H
   have c7b0 : ((rd l0 x5_1) == (rd l1 x5_1)) = true := beq_iff_eq.mpr c7
   have c7b1 : ((rd l0 x5_1) != (rd l1 x5_1)) = false := bne_eq_false_iff_eq.mpr c7
   clear c7
   have H' := Aside0.mk H
   clear H
   have p101 : 0 ≤ (x5_1 : Int) := of_decide_eq_true (qxa0_)
   have q101 : x5_1 < (l0.length : Int) := of_decide_eq_true (qxa0_)
   obtain ⟨ad101, e101, hx101_0⟩ := Kd.at_int HR0.out x5_1 p101 q101
   cases e101
   replace p101 := eq_true p101
   replace q101 := eq_true q101
   have p102 : 0 ≤ (x5_1 : Int) := of_decide_eq_true (qxa0_)
   have q102 : x5_1 < (l1.length : Int) := of_decide_eq_true (qxa0_)
   obtain ⟨ad102, e102, hx102_0⟩ := Kd.at_int HR1.out x5_1 p102 q102
   cases e102
   replace p102 := eq_true p102
   replace q102 := eq_true q102
   go_wp2
   repeat (go_quiet (fail); try go_wp2)
   go_roundg k1
   case measure => have := HK1.out; omega
   case rel => exact ⟨(wrap64 (x5_1 + 1)), (by first | rfl | (simp; done) | (simp [*]; done)), H', ⟨by have := HK1.out; omega⟩, qxa1_⟩
end Go.Proofs.YtnjcpoojgmpmeaaGreatDoor.PX
