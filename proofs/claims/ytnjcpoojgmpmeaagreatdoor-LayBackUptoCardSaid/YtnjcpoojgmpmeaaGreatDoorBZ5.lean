/- Texts that stand behind one another, laid into one: what this claim needs of them. -/
import Derived.Test.YtnjcpoojgmpmeaaGreatDoorBZ4
import Derived.Test.YtnjcpoojgmpmeaaGreatDoorBZ3
import Derived.Outline
import Derived.Test.YtnjcpoojgmpmeaaGreatDoorBZ2
namespace Go.Proofs.YtnjcpoojgmpmeaaGreatDoor.Plug
open Go.Maps RowKit YtnjcpoojgmpmeaaGreatDoor YtnjcpoojgmpmeaaGreatDoor.PX YtnjcpoojgmpmeaaGreatDoor.Utf YtnjcpoojgmpmeaaGreatDoor.Mapk YtnjcpoojgmpmeaaGreatDoor.Graphs YtnjcpoojgmpmeaaGreatDoorW.PrintWords YtnjcpoojgmpmeaaGreatDoorW.PrintLast YtnjcpoojgmpmeaaGreatDoorW.PrintMore
set_option linter.unusedVariables false
set_option linter.unusedSimpArgs false
theorem no_bytes {a : ByteArray} (h : a.toList = []) : a = ⟨#[]⟩ := ByteArray.ext (by rw [Lib.toList_data] at h; have := congrArg List.toArray h; simpa using this)
theorem rd_tree (xs : List Tr) (i : Nat) (h : i < xs.length) : rd_T29 xs (i : Int) = xs[i] := by
 unfold rd_T29
 rw [Int.toNat_natCast, List.getD_eq_getElem?_getD, List.getElem?_eq_getElem h]; rfl
theorem info_node : (Tryz.prog.info? 45).map (fun i => (i.zero, i.size, i.bytes)) = some (some (.agg #[.int .i64 0, .string ⟨#[]⟩, .slice none 0 0]), 3, 48) := by kernel_rfl
set_option maxHeartbeats 8000000 in
set_option maxRecDepth 100000 in
theorem cadd_is (w0 : World) (cb am : Nat) : ∀ (K : Nat) (t : Tr) (s s' : CO) (r : Int) (ok : Nat → Prop) (v : Value) (A3 : Option Addr) (c3 : Nat) (W : World), Cm w0 cb am ok v v s W → (∀ k, W.heap.size ≤ k → ok k) → Kd.C k29 w0 A3 t.f3.length t.f3 → t.f3.length ≤ c3 → compO K t s = some (r, s') →
    Calls Tryz.prog 38 #[.pointer (some ⟨cb, 0, none⟩), .agg #[.int .i64 t.f0, .string t.f1, .string t.f2, .slice A3 t.f3.length c3]] W fun e W' => e = .returned (.int .i64 r) ∧ Cd w0 W cb am ok s' W' := by
  intro K
  induction K with
  | zero => intro t s s' r ok v A3 c3 W _ _ _ _ h; simp [compO] at h
  | succ K ih =>
    intro t s s' r ok v A3 c3 W hC hfr hr hc h
    obtain ⟨kd, tx, an, kids⟩ := t
    rw [compO] at h
    dsimp only at h hr hc ⊢
    obtain ⟨ns, F, why⟩ := s
    dsimp only at h
    have HR := Lib.hid hr
    have HFR := Lib.hid hfr
    have HC := Lib.hid hC
    have IH := Lib.hid ih
    clear hr hfr hC ih
    by_cases han : an.size ≤ 1099511627776
    case neg => rw [if_neg han] at h; cases h
    rw [if_pos han] at h
    have HAN := Lib.hid han
    clear han
    by_cases h7 : kd = 7
    · rw [if_pos h7] at h
      have q7 : (kd == 7) = true := beq_iff_eq.2 h7
      clear h7
      cases hv : F an with
      | none =>
        rw [hv] at h
        obtain ⟨e1, e2⟩ := Prod.mk.inj (Option.some.inj h)
        subst e1 e2
        have HV := Lib.hid hv
        clear h hv
        go_enter Tryz.func38, Tryz.ntmps38
        go_wp2_with (first | ((with_reducible refine gate_dst (N := 3) rfl ?_); refine box_event ?hg (N := 3) ?hd (cs := #[.int .i64 kd, .string tx, .string an, .slice A3 kids.length c3]) (t := 29) ?hr ?_; (case hd => rfl); (case hg => rfl); (case hr => first | (go_simp; done) | (go_simp; rfl)); intro gb hgb w1 hb hb1; have HX1 := Lib.hid (cf_start HC.out HFR.out hgb hb hb1); have HA1 := Lib.hid (HC.out.a.of_below hb1); clear hgb hb hb1; obtain ⟨x0, x1, x2, x3⟩ := HX1.out.cells; obtain ⟨z0, z1, z2, z3, z4⟩ := HX1.out.cm.cells))
        have hlk : ∀ n, (Instr.lookup 85 (.map (some am)) (.string an) true).run Tryz.prog (w1.drewN n) = .ok (.tuple #[.int .i64 0, .bool false]) (w1.drewN n) := fun n => by
          have := HX1.out.cm.look an HAN.out n
          rw [show (ns, F, why).2.1 an = none from HV.out] at this
          exact this
        go_quiet (fail)
        have HX2 := Lib.hid (HX1.out.below (pw_below_drewN (Below.refl _ _) nq))
        generalize World.drewN _ _ = w2 at HX2 ⊢
        clear hlk x0 x1 x2 x3 z0 z1 z2 z3 z4
        obtain ⟨z0, z1, z2, z3, z4⟩ := HX2.out.cm.cells
        have HD := Lib.hid (HX2.out.why 11).done
        go_wp2_with (fail)
        go_ret
        exact ⟨rfl, HD.out⟩
      | some a =>
        rw [hv] at h
        obtain ⟨e1, e2⟩ := Prod.mk.inj (Option.some.inj h)
        subst e1 e2
        have HV := Lib.hid hv
        clear h hv
        go_enter Tryz.func38, Tryz.ntmps38
        go_wp2_with (first | ((with_reducible refine gate_dst (N := 3) rfl ?_); refine box_event ?hg (N := 3) ?hd (cs := #[.int .i64 kd, .string tx, .string an, .slice A3 kids.length c3]) (t := 29) ?hr ?_; (case hd => rfl); (case hg => rfl); (case hr => first | (go_simp; done) | (go_simp; rfl)); intro gb hgb w1 hb hb1; have HX1 := Lib.hid (cf_start HC.out HFR.out hgb hb hb1); have HA1 := Lib.hid (HC.out.a.of_below hb1); clear hgb hb hb1; obtain ⟨x0, x1, x2, x3⟩ := HX1.out.cells; obtain ⟨z0, z1, z2, z3, z4⟩ := HX1.out.cm.cells))
        have hlk : ∀ n, (Instr.lookup 85 (.map (some am)) (.string an) true).run Tryz.prog (w1.drewN n) = .ok (.tuple #[.int .i64 a, .bool true]) (w1.drewN n) := fun n => by
          have := HX1.out.cm.look an HAN.out n
          rw [show (ns, F, why).2.1 an = some a from HV.out] at this
          exact this
        go_quiet (fail)
        have HX2 := Lib.hid (HX1.out.below (pw_below_drewN (Below.refl _ _) nq))
        generalize World.drewN _ _ = w2 at HX2 ⊢
        clear hlk x0 x1 x2 x3 z0 z1 z2 z3 z4
        have HD := Lib.hid HX2.out.done
        go_wp2_with (fail)
        go_ret
        exact ⟨rfl, HD.out⟩
    · rw [if_neg h7] at h
      by_cases hsz : kids.length ≤ 1099511627776 ∧ ns.length ≤ 1048576
      case neg => rw [if_neg hsz] at h; cases h
      rw [if_pos hsz] at h
      obtain ⟨hkl, hnl⟩ := hsz
      have HL := Lib.hid h
      have q7 : (kd == 7) = false := beq_eq_false_iff_ne.2 h7
      clear h h7
      obtain ⟨AN, cn, ev⟩ := Kd.S_slice HC.out.row
      subst ev
      go_enter Tryz.func38, Tryz.ntmps38
      go_wp2_with (first | ((with_reducible refine gate_dst (N := 3) rfl ?_); refine box_event ?hg (N := 3) ?hd (cs := #[.int .i64 kd, .string tx, .string an, .slice A3 kids.length c3]) (t := 29) ?hr ?_; (case hd => rfl); (case hg => rfl); (case hr => first | (go_simp; done) | (go_simp; rfl)); intro gb hgb w1 hb hb1; have HX1 := Lib.hid (cf_start HC.out HFR.out hgb hb hb1); have HA1 := Lib.hid (HC.out.a.of_below hb1); clear hgb hb hb1; obtain ⟨x0, x1, x2, x3⟩ := HX1.out.cells; obtain ⟨z0, z1, z2, z3, z4⟩ := HX1.out.cm.cells))
      clear x0 x1 x2 x3 z0 z1 z2 z3 z4
      have HX2 := Lib.hid (HX1.out.below (below_drew1 (Below.refl _ _)))
      have HA2 := Lib.hid (HA1.out.of_block (w' := w1.drew) rfl)
      have HFRE : Hid (∀ k, w1.drew.heap.size ≤ k → ok k ∧ k ≠ gb) := Lib.hid (fun k hk => by
        have hk2 : w1.heap.size ≤ k := hk
        have h1 := HX1.out.kc.1
        have h2 := blk_lt HX1.out.g
        exact ⟨HFR.out k (by omega), by omega⟩)
      have HLEN : Hid ((ns.length + 1) * 48 ≤ 140737488355328) := Lib.hid (by omega)
      refine start_ (n := 15) (S := fun w' => w'.cell? ⟨cb, 0, none⟩ = some (.slice AN ns.length cn) ∧ w'.cell? ⟨gb, 0, none⟩ = some (.int .i64 kd) ∧ w'.cell? ⟨gb, 1, none⟩ = some (.string tx)) (ds := [14]) #[false, false, false, false, false, false, false, false, false, false, false, false, false, false, false] (by kernel_rfl) rfl rfl ⟨HX2.out.cm.cells.1, HX2.out.cells.1, HX2.out.cells.2.1⟩ (fun hHeld => ?_)
      refine pure_ (i := 0) (N := some 37) (v := ?_) (a' := ?_) #[true, false, false, false, false, false, false, false, false, false, false, false, false, false, false] rfl rfl (by kernel_rfl) (fun _ _ _ h => h) (Or.inl ⟨by rfl, ?_⟩) ?_ ?_
      rotate_left
      · intro w'
        go_simp
        with_reducible rfl
      rotate_left
      · simp only [Act.put, List.setIfInBounds_toArray, List.set_cons_zero, List.set_cons_succ, i64_w, i32_w]
        rfl
      refine pure_ (i := 1) (N := some 38) (v := ?_) (a' := ?_) #[true, true, false, false, false, false, false, false, false, false, false, false, false, false, false] rfl rfl (by kernel_rfl) (fun _ _ _ h => h) (Or.inl ⟨by rfl, ?_⟩) ?_ ?_
      rotate_left
      · intro w'
        go_simp
        with_reducible rfl
      rotate_left
      · simp only [Act.put, List.setIfInBounds_toArray, List.set_cons_zero, List.set_cons_succ, i64_w, i32_w]
        rfl
      refine pure_ (i := 2) (N := some 39) (v := ?_) (a' := ?_) #[true, true, true, false, false, false, false, false, false, false, false, false, false, false, false] rfl rfl (by kernel_rfl) (fun _ _ _ h => h) (Or.inl ⟨by rfl, ?_⟩) ?_ ?_
      rotate_left
      · intro w'
        go_simp
        with_reducible rfl
      rotate_left
      · simp only [Act.put, List.setIfInBounds_toArray, List.set_cons_zero, List.set_cons_succ, i64_w, i32_w]
        rfl
      refine pure_ (i := 3) (N := some 40) (v := ?_) (a' := ?_) #[true, true, true, true, false, false, false, false, false, false, false, false, false, false, false] rfl rfl (by kernel_rfl) (fun _ _ _ h => h) (Or.inl ⟨by rfl, ?_⟩) ?_ ?_
      rotate_left
      · intro w'
        go_simp
        with_reducible rfl
      rotate_left
      · simp only [Act.put, List.setIfInBounds_toArray, List.set_cons_zero, List.set_cons_succ, i64_w, i32_w]
        rfl
      refine pure_ (i := 5) (N := some 42) (v := ?_) (a' := ?_) #[true, true, true, true, false, true, false, false, false, false, false, false, false, false, false] rfl rfl (by kernel_rfl) (fun _ _ _ h => h) (Or.inl ⟨by rfl, ?_⟩) ?_ ?_
      rotate_left
      · intro w'
        go_simp
        with_reducible rfl
      rotate_left
      · simp only [Act.put, List.setIfInBounds_toArray, List.set_cons_zero, List.set_cons_succ, i64_w, i32_w]
        rfl
      refine pure_ (i := 7) (N := some 44) (v := ?_) (a' := ?_) #[true, true, true, true, false, true, false, true, false, false, false, false, false, false, false] rfl rfl (by kernel_rfl) (fun _ _ _ h => h) (Or.inl ⟨by rfl, ?_⟩) ?_ ?_
      rotate_left
      · intro w'
        go_simp
        with_reducible rfl
      rotate_left
      · simp only [Act.put, List.setIfInBounds_toArray, List.set_cons_zero, List.set_cons_succ, i64_w, i32_w]
        rfl
      refine take_ (i := 4) (N := some 41) (v := ?_) (a' := ?_) #[true, true, true, true, true, true, false, true, false, false, false, false, false, false, false] rfl rfl (by kernel_rfl) (fun _ _ _ h => h) (Or.inl ⟨by rfl, ?_⟩) hHeld ?_ ?_
      rotate_left
      · rintro w' ⟨s0, s1, s2⟩
        go_simp
        with_reducible rfl
      rotate_left
      · simp only [Act.put, List.setIfInBounds_toArray, List.set_cons_zero, List.set_cons_succ, i64_w, i32_w]
        rfl
      refine take_ (i := 6) (N := some 43) (v := ?_) (a' := ?_) #[true, true, true, true, true, true, true, true, false, false, false, false, false, false, false] rfl rfl (by kernel_rfl) (fun _ _ _ h => h) (Or.inl ⟨by rfl, ?_⟩) hHeld ?_ ?_
      rotate_left
      · rintro w' ⟨s0, s1, s2⟩
        go_simp
        with_reducible rfl
      rotate_left
      · simp only [Act.put, List.setIfInBounds_toArray, List.set_cons_zero, List.set_cons_succ, i64_w, i32_w]
        rfl
      refine take_ (i := 8) (N := some 45) (v := ?_) (a' := ?_) #[true, true, true, true, true, true, true, true, true, false, false, false, false, false, false] rfl rfl (by kernel_rfl) (fun _ _ _ h => h) (Or.inl ⟨by rfl, ?_⟩) hHeld ?_ ?_
      rotate_left
      · rintro w' ⟨s0, s1, s2⟩
        go_simp
        with_reducible rfl
      rotate_left
      · simp only [Act.put, List.setIfInBounds_toArray, List.set_cons_zero, List.set_cons_succ, i64_w, i32_w]
        rfl
      refine pure_ (i := 9) (N := some 46) (v := ?_) (a' := ?_) #[true, true, true, true, true, true, true, true, true, true, false, false, false, false, false] rfl rfl (by kernel_rfl) (fun _ _ _ h => h) (Or.inl ⟨by rfl, ?_⟩) ?_ ?_
      rotate_left
      · intro w'
        go_simp
        with_reducible rfl
      rotate_left
      · simp only [Act.put, List.setIfInBounds_toArray, List.set_cons_zero, List.set_cons_succ, i64_w, i32_w]
        rfl
      refine one_ (i := 10) (N := some 47) #[true, true, true, true, true, true, true, true, true, true, true, false, false, false, false] rfl rfl (by kernel_rfl) (by decide) (fun K hK => ?_)
      refine value_ (w1 := ?_) (v := ?_) (by rfl) rfl ?_ ?_
      rotate_left 2
      · go_simp
        constructor
        · rfl
        · rfl
      refine hK.out _ _ ⟨(cell_al HX2.out.cm.cells.1), (cell_al HX2.out.cells.1), (cell_al HX2.out.cells.2.1)⟩ (fun hHeld => ?_)
      clear hK K
      refine norm_ (a' := ?_) ?_ ?_
      rotate_left
      · show Act.put _ (some 47) _ = _
        simp only [Act.put, List.setIfInBounds_toArray, List.set_cons_zero, List.set_cons_succ, i64_w, i32_w]
        rfl
      refine one_ (i := 11) (N := some 48) #[true, true, true, true, true, true, true, true, true, true, true, true, false, false, false] rfl rfl (by kernel_rfl) (by decide) (fun K hK => ?_)
      refine Kd.S_append_step k45 (w0 := w0) w0.heap.size (by rfl) (.tmp 41) (.tmp 47) 22 45 (.agg #[.int .i64 0, .string ⟨#[]⟩, .slice none 0 0]) 48 rfl Tryz.underlying22 info_node rfl (by decide) (by omega) (.slice AN ns.length cn) ns ⟨kd, tx, []⟩ [.int .i64 kd, .string tx, .slice none 0 0] (fun k => ok k ∧ k ≠ gb) (fun _ => False) rfl rfl (k45_mkM _ _ _ ⟨kd, tx, []⟩ (Kd.R_nil _ _ _ _ _)) (fun _ hk => hk.elim) HFRE.out (Kd.S_mono HX2.out.cm.row (fun k hk => ⟨hk, fun e => e⟩)) HX2.out.cm.bel HX2.out.cm.bel.size HLEN.out ?_
      intro v1 w3 hN3 _ hg3 _
      obtain ⟨A8, c8, ev⟩ := Kd.S_slice hN3
      obtain ⟨n8, hn8⟩ : ∃ n, (ns ++ [(⟨kd, tx, []⟩ : Nd)]).length = n := ⟨_, rfl⟩
      rw [hn8] at ev
      subst ev
      clear hn8
      have HX3 := Lib.hid (HX2.out.grow hg3 hN3 (by simp))
      have HA3 := Lib.hid (HA2.out.kept hg3 (fun e => HX2.out.cm.oks.2 ((Kd.S_R HX2.out.cm.row).1 am e.symm)))
      have z30 := HX3.out.cm.cells.1
      have z3f := HX3.out.cm.cells.2.2.2.1
      clear hN3 hg3
      refine hK.out _ _ ⟨z30, HX3.out.cells.1, HX3.out.cells.2.1⟩ (fun hHeld => ?_)
      clear hK K
      refine norm_ (a' := ?_) ?_ ?_
      rotate_left
      · show Act.put _ (some 48) _ = _
        simp only [Act.put, List.setIfInBounds_toArray, List.set_cons_zero, List.set_cons_succ, i64_w, i32_w]
        rfl
      refine pure_ (i := 12) (N := some 49) (v := ?_) (a' := ?_) #[true, true, true, true, true, true, true, true, true, true, true, true, true, false, false] rfl rfl (by kernel_rfl) (fun _ _ _ h => h) (Or.inl ⟨by rfl, ?_⟩) ?_ ?_
      rotate_left
      · intro w'
        go_simp
        with_reducible rfl
      rotate_left
      · simp only [Act.put, List.setIfInBounds_toArray, List.set_cons_zero, List.set_cons_succ, i64_w, i32_w]
        rfl
      refine pure_ (i := 13) (N := some 50) (v := ?_) (a' := ?_) #[true, true, true, true, true, true, true, true, true, true, true, true, true, true, false] rfl rfl (by kernel_rfl) (fun _ _ _ h => h) (Or.inl ⟨by rfl, ?_⟩) ?_ ?_
      rotate_left
      · intro w'
        go_simp
        with_reducible rfl
      rotate_left
      · simp only [Act.put, List.setIfInBounds_toArray, List.set_cons_zero, List.set_cons_succ, i64_w, i32_w]
        rfl
      refine last_ (i := 14) (N := none) #[true, true, true, true, true, true, true, true, true, true, true, true, true, true, true] rfl rfl (by kernel_rfl) (by decide) (fun K hK => ?_)
      refine skip_ (w1 := ?_) (by rfl) rfl ?_ ?_
      rotate_left
      · go_simp
        rfl
      refine hK.out _ _ ?_
      clear hK K
      refine done_ (by kernel_rfl) ?_
      have HX4 := Lib.hid HX3.out.store
      have HA4 := Lib.hid (HA3.out.of_block (Below.heap_setCell w3 ⟨cb, 0, none⟩ (.slice A8 n8 c8) am (Ne.symm HX3.out.cm.lts.2.2)))
      generalize World.setCell _ _ _ = w4 at HX4 HA4 ⊢
      clear z30 z3f hHeld HX3 HA3 HX2 HA2 HX1 HA1
      have hmm := @run_makeMap Tryz.prog
      obtain ⟨x0, x1, x2, x3⟩ := HX4.out.cells
      have x3m := cell_al (o := .map #[] 0) x3
      have hcs : an = ⟨#[]⟩ ∨ an ≠ ⟨#[]⟩ := Decidable.em _
      rcases hcs with hae | hae
      · have q8 : (!an.toList.isEmpty) = false := by rw [hae, Lib.toList_data]; rfl
        have HX7 : Hid (Cf w0 W cb am ok (fun k => ok k ∧ k ≠ gb) gb #[.int .i64 kd, .string tx, .string an, .slice A3 kids.length c3] (.slice A8 n8 c8) (.slice A8 n8 c8) (ns ++ [(⟨kd, tx, []⟩ : Nd)], putA F an (ns.length : Int), why) w4) := Lib.hid (by
          have hp : putA F an (ns.length : Int) = F := by unfold putA; rw [if_pos hae]
          rw [hp]
          exact HX4.out)
        clear hae
        go_wp2_with (fail)
        have HL8 := Lib.hid (cl_start HX7.out)
        generalize World.alloc _ _ = w8 at HL8 ⊢
        generalize w4.heap.size = mm at HL8 ⊢
        clear x0 x1 x2 x3 x3m HX4 HX7 HA4 hmm
        go_loopw [9, 65] (fun v9 v65 wr => ∃ (j : Nat) (ks : List Int) (met : List (Int × ByteArray)) (nm : Nat) (s2 : CO) (v2 : Value), v65 = .int .i64 j ∧ j ≤ kids.length ∧ nm ≤ j ∧ Hid (ks.length = j) ∧ Hid (ns.length < s2.1.length) ∧ Hid (compL (compO K) kd ns.length (kids.drop j) met ks s2 = some (r, s')) ∧ Hid (Cl w0 W cb am ok gb mm #[.int .i64 kd, .string tx, .string an, .slice A3 kids.length c3] v2 v9 s2 met nm ks wr)) (fun _ v65 _ => kids.length - (intOf v65).toNat)
        case atStart => exact ⟨0, [], [], 0, _, _, rfl, by omega, by omega, Lib.hid rfl, Lib.hid (by simp), HL, HL8⟩
        case round =>
          clear HL HL8
          obtain ⟨j, ks, met, nm, s2, v2, rfl, hj, hnm, hkl2, HNL, HPR, HLR⟩ := hrel
          obtain ⟨Au, cu, ev⟩ := Kd.R_slice HLR.out.row
          rw [hkl2.out] at ev
          subst ev
          by_cases hlj : j < kids.length
          · have hc9 : decide ((j : Int) < (kids.length : Int)) = true := decide_eq_true (by omega)
            obtain ⟨bd, A9, c9, eA, g0, g1, g2, g3, hc9x, hC9x⟩ := at_T29 HR.out (j : Int) (by omega) (by omega)
            subst eA
            rw [rd_tree kids j hlj] at g0 g1 g2 g3 hc9x hC9x
            rw [Int.toNat_natCast] at g0 g1 g2 g3
            have hst := HPR.out
            rw [List.drop_eq_getElem_cons hlj] at hst
            have p5 : (0 ≤ (j : Int)) = True := eq_true (by omega)
            have p6 : ((j : Int) < (kids.length : Int)) = True := eq_true (by omega)
            have HLJ := Lib.hid hlj
            clear HPR
            generalize kids[j] = x at *
            obtain ⟨xk, xt, xa, xl⟩ := x
            dsimp only at g0 g1 g2 g3 hc9x hC9x
            have HC9 := Lib.hid hC9x
            clear hC9x
            have g0 := (HLR.out.cf.cm.bel.cell (World.block_lt_of_cell? w0 _ g0)).trans g0
            have g1 := (HLR.out.cf.cm.bel.cell (World.block_lt_of_cell? w0 _ g1)).trans g1
            have g2 := (HLR.out.cf.cm.bel.cell (World.block_lt_of_cell? w0 _ g2)).trans g2
            have g3 := (HLR.out.cf.cm.bel.cell (World.block_lt_of_cell? w0 _ g3)).trans g3
            have HLX := Lib.hid (HLR.out.below (below_alloc (Below.refl _ _) (.cells #[.int .i64 xk, .string xt, .string xa, .slice A9 xl.length c9] 29)))
            have HXB := Lib.hid (blk_new wr (.cells #[.int .i64 xk, .string xt, .string xa, .slice A9 xl.length c9] 29))
            obtain ⟨x0, x1, x2, x3⟩ := HLX.out.cf.cells
            obtain ⟨z0, z1, z2, z3, z4⟩ := HLX.out.cf.cm.cells
            have k0 := (blk_cell HXB.out 0).trans rfl
            have k1 := (blk_cell HXB.out 1).trans rfl
            have k2 := (blk_cell HXB.out 2).trans rfl
            have k3 := (blk_cell HXB.out 3).trans rfl
            rw [compL] at hst
            dsimp only at hst
            obtain ⟨ns2, F2, why2⟩ := s2
            dsimp only at hst z2
            by_cases cw : why2 ≠ 0
            · rw [if_pos cw] at hst
              obtain ⟨e1, e2⟩ := Prod.mk.inj (Option.some.inj hst)
              subst e1 e2
              have qa : (why2 == 0) = false := beq_eq_false_iff_ne.2 cw
              have qb : (why2 != 0) = true := bne_iff_ne.2 cw
              have HD := Lib.hid HLX.out.cf.done
              clear hst cw
              go_wp2_with (fail)
              go_ret
              exact ⟨rfl, HD.out⟩
            · have hw0 : why2 = 0 := Decidable.not_not.1 cw
              rw [if_neg cw] at hst
              subst hw0
              clear cw
              by_cases ck : kd = 6 ∧ ks.length % 2 = 0
              · rw [if_pos ck] at hst
                have q6 : (kd == 6) = true := beq_iff_eq.2 ck.1
                have hj2 : j % 2 = 0 := by have := hkl2.out; have := ck.2; omega
                clear ck
                by_cases cg : goodT ⟨xk, xt, xa, xl⟩ = true
                case neg => rw [if_neg cg] at hst; cases hst
                rw [if_pos cg] at hst
                have hgk : goodK (xk, xt) := by
                  unfold goodT at cg
                  rw [Bool.and_eq_true, Bool.and_eq_true, decide_eq_true_eq, decide_eq_true_eq, decide_eq_true_eq] at cg
                  have h3 : xt.size ≤ 1099511627776 := cg.2
                  exact ⟨⟨cg.1.1, cg.1.2⟩, by unfold maxLen; exact Nat.le_trans h3 (by decide)⟩
                have HGD := Lib.hid hgk
                clear cg hgk
                have qm : (Int.tmod (j : Int) 2 == 0) = true := beq_iff_eq.2 (by rw [Int.tmod_eq_emod_of_nonneg (by omega)]; omega)
                have HNM : Hid (nm < maxLen) := Lib.hid (by unfold maxLen; omega)
                by_cases cm : met.any (fun z => decide (z = (xk, xt))) = true
                · rw [if_pos cm] at hst
                  obtain ⟨e1, e2⟩ := Prod.mk.inj (Option.some.inj hst)
                  subst e1 e2
                  have HW := Lib.hid (show (metF met (xk, xt)).getD (.bool false) = .bool true by rw [metF_was, cm])
                  clear hst cm
                  go_wp2_with (first | ((go_at_call 57; refine (add_is mm nm (metF met) (xk, xt) HGD.out _ HLX.out.m HNM.out _ HW.out).mono ?_; rintro e w8 ⟨rfl, hm8, hg8⟩); have HC8 := Lib.hid (HLX.out.key hg8).1; have HD := Lib.hid (HC8.out.why 7).done; clear hm8 hg8 z0 z1 z2 z3 z4; obtain ⟨z0, z1, z2, z3, z4⟩ := HC8.out.cm.cells))
                  go_ret
                  exact ⟨rfl, HD.out⟩
                · rw [if_neg cm] at hst
                  have HW := Lib.hid (show (metF met (xk, xt)).getD (.bool false) = .bool false by rw [metF_was, Bool.eq_false_iff.2 cm])
                  clear cm
                  obtain ⟨q, hq1, hq2⟩ := Option.bind_eq_some_iff.1 hst
                  obtain ⟨n3, s3⟩ := q
                  dsimp only at hq2
                  have HQ := Lib.hid hq1
                  have HPN := Lib.hid hq2
                  have HNL2 := Lib.hid (Nat.lt_of_lt_of_le HNL.out (compO_len K _ _ _ hq1))
                  clear hst hq1 hq2
                  go_wp2_with (first | (go_at_call 38; refine (IH.out ⟨xk, xt, xa, xl⟩ _ s3 n3 _ v2 A9 c9 _ HLX.out.cf.cm HLX.out.free HC9.out hc9x HQ.out).mono ?_; rintro e w9 ⟨rfl, v9, hC9, hK9⟩; have HLY := Lib.hid (HLX.out.call hC9 hK9); clear hC9 hK9) | (at_builtin; refine Kd.R_append (Kd.int .i64) (w0 := w9) W.heap.size rfl (.tmp 105) (.tmp 107) 40 3 (.int .i64 0) 8 rfl Tryz.underlying40 info3 rfl (by decide) (by omega) _ ks n3 [.int .i64 n3] (fun k => k ≠ gb ∧ k ≠ mm ∧ k ≠ cb ∧ k ≠ am) (fun _ => False) rfl (by first | (go_simp; done) | (go_simp; rfl)) rfl (fun _ hk => hk.elim) (fun k hk => by have h1 := blk_lt HLY.out.cf.g; have h2 := HLY.out.m.lt; have h3 := HLY.out.cf.cm.lt; omega) HLY.out.row (Below.refl _ _) HLY.out.cf.kc.1 (by have := hkl2.out; omega) ?_; intro v7 w7 ho hb hg hat; have HLZ := Lib.hid (HLY.out.grow hg hat ho); clear ho hb hg hat) | ((go_at_call 57; refine (add_is mm nm (metF met) (xk, xt) HGD.out _ HLX.out.m HNM.out _ HW.out).mono ?_; rintro e w8 ⟨rfl, hm8, hg8⟩); have hxb := (hg8.block wr.heap.size (blk_lt HXB.out) (fun e => by have := Option.some.inj e; have := HLR.out.m.lt; omega)).trans HXB.out; have HLW := Lib.hid (HLX.out.keyed _ hm8 hg8); clear hm8 hg8 z0 z1 z2 z3 z4 HLX k0 k1 k2 k3; have HLX := HLW; obtain ⟨z0, z1, z2, z3, z4⟩ := HLX.out.cf.cm.cells; have k0 := (blk_cell hxb 0).trans rfl; have k1 := (blk_cell hxb 1).trans rfl; have k2 := (blk_cell hxb 2).trans rfl; have k3 := (blk_cell hxb 3).trans rfl))
                  go_roundw
                  case rel => exact ⟨j + 1, ks ++ [n3], (xk, xt) :: met, nm + 1, s3, v9, by go_num, HLJ.out, by omega, Lib.hid (by rw [List.length_append, List.length_singleton, hkl2.out]), HNL2, HPN, HLZ⟩
                  case measure => have := HLJ.out; simp [intOf]; omega
              · rw [if_neg ck] at hst
                have hcase : (kd == 6) = false ∨ ((kd == 6) = true ∧ j % 2 = 1) := by
                  by_cases c6 : kd = 6
                  · exact .inr ⟨beq_iff_eq.2 c6, by have := hkl2.out; have : ¬ ks.length % 2 = 0 := fun e => ck ⟨c6, e⟩; omega⟩
                  · exact .inl (beq_eq_false_iff_ne.2 c6)
                clear ck
                obtain ⟨q, hq1, hq2⟩ := Option.bind_eq_some_iff.1 hst
                obtain ⟨n3, s3⟩ := q
                dsimp only at hq2
                have HQ := Lib.hid hq1
                have HPN := Lib.hid hq2
                have HNL2 := Lib.hid (Nat.lt_of_lt_of_le HNL.out (compO_len K _ _ _ hq1))
                clear hst hq1 hq2
                rcases hcase with q6 | ⟨q6, hj2⟩
                · go_wp2_with (first | (go_at_call 38; refine (IH.out ⟨xk, xt, xa, xl⟩ _ s3 n3 _ v2 A9 c9 _ HLX.out.cf.cm HLX.out.free HC9.out hc9x HQ.out).mono ?_; rintro e w9 ⟨rfl, v9, hC9, hK9⟩; have HLY := Lib.hid (HLX.out.call hC9 hK9); clear hC9 hK9) | (at_builtin; refine Kd.R_append (Kd.int .i64) (w0 := w9) W.heap.size rfl (.tmp 105) (.tmp 107) 40 3 (.int .i64 0) 8 rfl Tryz.underlying40 info3 rfl (by decide) (by omega) _ ks n3 [.int .i64 n3] (fun k => k ≠ gb ∧ k ≠ mm ∧ k ≠ cb ∧ k ≠ am) (fun _ => False) rfl (by first | (go_simp; done) | (go_simp; rfl)) rfl (fun _ hk => hk.elim) (fun k hk => by have h1 := blk_lt HLY.out.cf.g; have h2 := HLY.out.m.lt; have h3 := HLY.out.cf.cm.lt; omega) HLY.out.row (Below.refl _ _) HLY.out.cf.kc.1 (by have := hkl2.out; omega) ?_; intro v7 w7 ho hb hg hat; have HLZ := Lib.hid (HLY.out.grow hg hat ho); clear ho hb hg hat))
                  go_roundw
                  case rel => exact ⟨j + 1, ks ++ [n3], met, nm, s3, v9, by go_num, HLJ.out, by omega, Lib.hid (by rw [List.length_append, List.length_singleton, hkl2.out]), HNL2, HPN, HLZ⟩
                  case measure => have := HLJ.out; simp [intOf]; omega
                · have qm : (Int.tmod (j : Int) 2 == 0) = false := beq_eq_false_iff_ne.2 (by rw [Int.tmod_eq_emod_of_nonneg (by omega)]; omega)
                  go_wp2_with (first | (go_at_call 38; refine (IH.out ⟨xk, xt, xa, xl⟩ _ s3 n3 _ v2 A9 c9 _ HLX.out.cf.cm HLX.out.free HC9.out hc9x HQ.out).mono ?_; rintro e w9 ⟨rfl, v9, hC9, hK9⟩; have HLY := Lib.hid (HLX.out.call hC9 hK9); clear hC9 hK9) | (at_builtin; refine Kd.R_append (Kd.int .i64) (w0 := w9) W.heap.size rfl (.tmp 105) (.tmp 107) 40 3 (.int .i64 0) 8 rfl Tryz.underlying40 info3 rfl (by decide) (by omega) _ ks n3 [.int .i64 n3] (fun k => k ≠ gb ∧ k ≠ mm ∧ k ≠ cb ∧ k ≠ am) (fun _ => False) rfl (by first | (go_simp; done) | (go_simp; rfl)) rfl (fun _ hk => hk.elim) (fun k hk => by have h1 := blk_lt HLY.out.cf.g; have h2 := HLY.out.m.lt; have h3 := HLY.out.cf.cm.lt; omega) HLY.out.row (Below.refl _ _) HLY.out.cf.kc.1 (by have := hkl2.out; omega) ?_; intro v7 w7 ho hb hg hat; have HLZ := Lib.hid (HLY.out.grow hg hat ho); clear ho hb hg hat))
                  go_roundw
                  case rel => exact ⟨j + 1, ks ++ [n3], met, nm, s3, v9, by go_num, HLJ.out, by omega, Lib.hid (by rw [List.length_append, List.length_singleton, hkl2.out]), HNL2, HPN, HLZ⟩
                  case measure => have := HLJ.out; simp [intOf]; omega
          · have hc9 : decide ((j : Int) < (kids.length : Int)) = false := decide_eq_false (by omega)
            have hst := HPR.out
            rw [List.drop_of_length_le (by omega), compL] at hst
            obtain ⟨e1, e2⟩ := Prod.mk.inj (Option.some.inj hst)
            subst e1 e2
            have e3 := hkl2.out
            subst e3
            obtain ⟨g, cap, ev, _, _, _⟩ := Kd.S_form HLR.out.cf.cm.row (by have := HNL.out; omega)
            subst ev
            obtain ⟨c, oki, hcc, hfz, hH, hF⟩ := HLR.out.kid ns.length HNL.out
            have HF := Lib.hid hF
            have HH := Lib.hid hH
            have HNL3 : Hid ((ns.length : Int) < (s2.1.length : Int)) := Lib.hid (by have := HNL.out; omega)
            have p7 : (0 ≤ (ns.length : Int)) = True := eq_true (by omega)
            have p8 : ((ns.length : Int) < (s2.1.length : Int)) = True := eq_true HNL3.out
            obtain ⟨z0, z1, z2, z3, z4⟩ := HLR.out.cf.cm.cells
            clear hst HPR hF hH hcc
            go_wp2_with (first | ((with_reducible refine gate_store (t := 40) (p := 117) rfl ?_); refine Kd.H_store k45 (w0 := w0) w0.heap.size ?q1 ?q2 40 (.tmp 117) (.tmp 115) ?q3 45 (g := g) (n := s2.1.length) (cap := cap) (o' := ns.length * 3 + 2) (ns.length : Int) 2 s2.1 ⟨(rd_T45 s2.1 (ns.length : Int)).f0, (rd_T45 s2.1 (ns.length : Int)).f1, ks⟩ (.slice Au ks.length cu) [.slice Au ks.length cu] c ok _ _ ?ha ?hb ?hc1 ?hc2 ?hd ?he HH.out ?h0 ?h1 ?h4 HF.out ?h6 ?h7 ?_; (case q1 => rfl); (case q2 => rfl); (case q3 => rfl); (case ha => rfl); (case hb => simp; rfl); (case hc1 => rfl); (case hc2 => rfl); (case hd => kernel_rfl); (case he => (intro q hq; rw [List.mem_singleton.1 hq]; rfl)); (case h0 => omega); (case h1 => exact HNL3.out); (case h4 => exact Nat.le_refl 3); (case h6 => exact fun _ e => .inr e); (case h7 => exact HLR.out.cf.cm.bel); intro w9 hN9 hb9 hg9; have HD := Lib.hid (HLR.out.last (ns := setK s2.1 ns.length ks) hg9 hN9 (by simp [setK])); clear hN9 hb9 hg9))
            go_ret
            exact ⟨rfl, HD.out⟩
      · have q8 : (!an.toList.isEmpty) = true := by
          cases hq : an.toList with
          | nil => exact absurd (no_bytes hq) hae
          | cons a r => rfl
        go_wp2_with (fail)
        have HX5 := Lib.hid (HX4.out.below (below_drew1 (Below.refl _ _)))
        obtain ⟨w6, hrun, hX6⟩ := HX5.out.put an HAN.out hae (ns.length : Int) (m := ns.length) (by simp) (by omega) (HA4.out.of_block (w' := w4.drew) rfl)
        have HX7 := Lib.hid hX6
        clear hX6 hae
        refine start_ (n := 8) (S := fun w' => w'.cell? ⟨cb, 1, none⟩ = some (.map (some am)) ∧ w'.cell? ⟨gb, 2, none⟩ = some (.string an)) (ds := [7]) #[false, false, false, false, false, false, false, false] (by kernel_rfl) rfl rfl ⟨HX5.out.cm.cells.2.1, HX5.out.cells.2.2.1⟩ (fun hHeld => ?_)
        refine pure_ (i := 0) (N := some 54) (v := ?_) (a' := ?_) #[true, false, false, false, false, false, false, false] rfl rfl (by kernel_rfl) (fun _ _ _ h => h) (Or.inl ⟨by rfl, ?_⟩) ?_ ?_
        rotate_left
        · intro w'
          go_simp
          with_reducible rfl
        rotate_left
        · simp only [Act.put, List.setIfInBounds_toArray, List.set_cons_zero, List.set_cons_succ, i64_w, i32_w]
          rfl
        refine pure_ (i := 1) (N := some 55) (v := ?_) (a' := ?_) #[true, true, false, false, false, false, false, false] rfl rfl (by kernel_rfl) (fun _ _ _ h => h) (Or.inl ⟨by rfl, ?_⟩) ?_ ?_
        rotate_left
        · intro w'
          go_simp
          with_reducible rfl
        rotate_left
        · simp only [Act.put, List.setIfInBounds_toArray, List.set_cons_zero, List.set_cons_succ, i64_w, i32_w]
          rfl
        refine pure_ (i := 2) (N := some 56) (v := ?_) (a' := ?_) #[true, true, true, false, false, false, false, false] rfl rfl (by kernel_rfl) (fun _ _ _ h => h) (Or.inl ⟨by rfl, ?_⟩) ?_ ?_
        rotate_left
        · intro w'
          go_simp
          with_reducible rfl
        rotate_left
        · simp only [Act.put, List.setIfInBounds_toArray, List.set_cons_zero, List.set_cons_succ, i64_w, i32_w]
          rfl
        refine pure_ (i := 4) (N := some 58) (v := ?_) (a' := ?_) #[true, true, true, false, true, false, false, false] rfl rfl (by kernel_rfl) (fun _ _ _ h => h) (Or.inl ⟨by rfl, ?_⟩) ?_ ?_
        rotate_left
        · intro w'
          go_simp
          with_reducible rfl
        rotate_left
        · simp only [Act.put, List.setIfInBounds_toArray, List.set_cons_zero, List.set_cons_succ, i64_w, i32_w]
          rfl
        refine pure_ (i := 6) (N := some 60) (v := ?_) (a' := ?_) #[true, true, true, false, true, false, true, false] rfl rfl (by kernel_rfl) (fun _ _ _ h => h) (Or.inl ⟨by rfl, ?_⟩) ?_ ?_
        rotate_left
        · intro w'
          go_simp
          with_reducible rfl
        rotate_left
        · simp only [Act.put, List.setIfInBounds_toArray, List.set_cons_zero, List.set_cons_succ, i64_w, i32_w]
          rfl
        refine take_ (i := 3) (N := some 57) (v := ?_) (a' := ?_) #[true, true, true, true, true, false, true, false] rfl rfl (by kernel_rfl) (fun _ _ _ h => h) (Or.inl ⟨by rfl, ?_⟩) hHeld ?_ ?_
        rotate_left
        · rintro w' ⟨s0, s1⟩
          go_simp
          with_reducible rfl
        rotate_left
        · simp only [Act.put, List.setIfInBounds_toArray, List.set_cons_zero, List.set_cons_succ, i64_w, i32_w]
          rfl
        refine take_ (i := 5) (N := some 59) (v := ?_) (a' := ?_) #[true, true, true, true, true, true, true, false] rfl rfl (by kernel_rfl) (fun _ _ _ h => h) (Or.inl ⟨by rfl, ?_⟩) hHeld ?_ ?_
        rotate_left
        · rintro w' ⟨s0, s1⟩
          go_simp
          with_reducible rfl
        rotate_left
        · simp only [Act.put, List.setIfInBounds_toArray, List.set_cons_zero, List.set_cons_succ, i64_w, i32_w]
          rfl
        refine last_ (i := 7) (N := none) #[true, true, true, true, true, true, true, true] rfl rfl (by kernel_rfl) (by decide) (fun K hK => ?_)
        refine skip_ (w1 := ?_) (by rfl) rfl ?_ ?_
        rotate_left
        · go_simp
          rfl
        refine hK.out _ _ ?_
        clear hK K
        refine done_ (by kernel_rfl) ?_
        obtain ⟨y0, y1, y2, y3⟩ := HX7.out.cells
        have y3m := cell_al (o := .map #[] 0) y3
        clear x0 x1 x2 x3 x3m
        go_wp2_with (fail)
        have HL8 := Lib.hid (cl_start HX7.out)
        generalize World.alloc _ _ = w8 at HL8 ⊢
        generalize w6.heap.size = mm at HL8 ⊢
        clear y0 y1 y2 y3 y3m HX4 HX5 HX7 HA4 hmm hrun hHeld
        go_loopw [9, 65] (fun v9 v65 wr => ∃ (j : Nat) (ks : List Int) (met : List (Int × ByteArray)) (nm : Nat) (s2 : CO) (v2 : Value), v65 = .int .i64 j ∧ j ≤ kids.length ∧ nm ≤ j ∧ Hid (ks.length = j) ∧ Hid (ns.length < s2.1.length) ∧ Hid (compL (compO K) kd ns.length (kids.drop j) met ks s2 = some (r, s')) ∧ Hid (Cl w0 W cb am ok gb mm #[.int .i64 kd, .string tx, .string an, .slice A3 kids.length c3] v2 v9 s2 met nm ks wr)) (fun _ v65 _ => kids.length - (intOf v65).toNat)
        case atStart => exact ⟨0, [], [], 0, _, _, rfl, by omega, by omega, Lib.hid rfl, Lib.hid (by simp), HL, HL8⟩
        case round =>
          clear HL HL8
          obtain ⟨j, ks, met, nm, s2, v2, rfl, hj, hnm, hkl2, HNL, HPR, HLR⟩ := hrel
          obtain ⟨Au, cu, ev⟩ := Kd.R_slice HLR.out.row
          rw [hkl2.out] at ev
          subst ev
          by_cases hlj : j < kids.length
          · have hc9 : decide ((j : Int) < (kids.length : Int)) = true := decide_eq_true (by omega)
            obtain ⟨bd, A9, c9, eA, g0, g1, g2, g3, hc9x, hC9x⟩ := at_T29 HR.out (j : Int) (by omega) (by omega)
            subst eA
            rw [rd_tree kids j hlj] at g0 g1 g2 g3 hc9x hC9x
            rw [Int.toNat_natCast] at g0 g1 g2 g3
            have hst := HPR.out
            rw [List.drop_eq_getElem_cons hlj] at hst
            have p5 : (0 ≤ (j : Int)) = True := eq_true (by omega)
            have p6 : ((j : Int) < (kids.length : Int)) = True := eq_true (by omega)
            have HLJ := Lib.hid hlj
            clear HPR
            generalize kids[j] = x at *
            obtain ⟨xk, xt, xa, xl⟩ := x
            dsimp only at g0 g1 g2 g3 hc9x hC9x
            have HC9 := Lib.hid hC9x
            clear hC9x
            have g0 := (HLR.out.cf.cm.bel.cell (World.block_lt_of_cell? w0 _ g0)).trans g0
            have g1 := (HLR.out.cf.cm.bel.cell (World.block_lt_of_cell? w0 _ g1)).trans g1
            have g2 := (HLR.out.cf.cm.bel.cell (World.block_lt_of_cell? w0 _ g2)).trans g2
            have g3 := (HLR.out.cf.cm.bel.cell (World.block_lt_of_cell? w0 _ g3)).trans g3
            have HLX := Lib.hid (HLR.out.below (below_alloc (Below.refl _ _) (.cells #[.int .i64 xk, .string xt, .string xa, .slice A9 xl.length c9] 29)))
            have HXB := Lib.hid (blk_new wr (.cells #[.int .i64 xk, .string xt, .string xa, .slice A9 xl.length c9] 29))
            obtain ⟨x0, x1, x2, x3⟩ := HLX.out.cf.cells
            obtain ⟨z0, z1, z2, z3, z4⟩ := HLX.out.cf.cm.cells
            have k0 := (blk_cell HXB.out 0).trans rfl
            have k1 := (blk_cell HXB.out 1).trans rfl
            have k2 := (blk_cell HXB.out 2).trans rfl
            have k3 := (blk_cell HXB.out 3).trans rfl
            rw [compL] at hst
            dsimp only at hst
            obtain ⟨ns2, F2, why2⟩ := s2
            dsimp only at hst z2
            by_cases cw : why2 ≠ 0
            · rw [if_pos cw] at hst
              obtain ⟨e1, e2⟩ := Prod.mk.inj (Option.some.inj hst)
              subst e1 e2
              have qa : (why2 == 0) = false := beq_eq_false_iff_ne.2 cw
              have qb : (why2 != 0) = true := bne_iff_ne.2 cw
              have HD := Lib.hid HLX.out.cf.done
              clear hst cw
              go_wp2_with (fail)
              go_ret
              exact ⟨rfl, HD.out⟩
            · have hw0 : why2 = 0 := Decidable.not_not.1 cw
              rw [if_neg cw] at hst
              subst hw0
              clear cw
              by_cases ck : kd = 6 ∧ ks.length % 2 = 0
              · rw [if_pos ck] at hst
                have q6 : (kd == 6) = true := beq_iff_eq.2 ck.1
                have hj2 : j % 2 = 0 := by have := hkl2.out; have := ck.2; omega
                clear ck
                by_cases cg : goodT ⟨xk, xt, xa, xl⟩ = true
                case neg => rw [if_neg cg] at hst; cases hst
                rw [if_pos cg] at hst
                have hgk : goodK (xk, xt) := by
                  unfold goodT at cg
                  rw [Bool.and_eq_true, Bool.and_eq_true, decide_eq_true_eq, decide_eq_true_eq, decide_eq_true_eq] at cg
                  have h3 : xt.size ≤ 1099511627776 := cg.2
                  exact ⟨⟨cg.1.1, cg.1.2⟩, by unfold maxLen; exact Nat.le_trans h3 (by decide)⟩
                have HGD := Lib.hid hgk
                clear cg hgk
                have qm : (Int.tmod (j : Int) 2 == 0) = true := beq_iff_eq.2 (by rw [Int.tmod_eq_emod_of_nonneg (by omega)]; omega)
                have HNM : Hid (nm < maxLen) := Lib.hid (by unfold maxLen; omega)
                by_cases cm : met.any (fun z => decide (z = (xk, xt))) = true
                · rw [if_pos cm] at hst
                  obtain ⟨e1, e2⟩ := Prod.mk.inj (Option.some.inj hst)
                  subst e1 e2
                  have HW := Lib.hid (show (metF met (xk, xt)).getD (.bool false) = .bool true by rw [metF_was, cm])
                  clear hst cm
                  go_wp2_with (first | ((go_at_call 57; refine (add_is mm nm (metF met) (xk, xt) HGD.out _ HLX.out.m HNM.out _ HW.out).mono ?_; rintro e w8 ⟨rfl, hm8, hg8⟩); have HC8 := Lib.hid (HLX.out.key hg8).1; have HD := Lib.hid (HC8.out.why 7).done; clear hm8 hg8 z0 z1 z2 z3 z4; obtain ⟨z0, z1, z2, z3, z4⟩ := HC8.out.cm.cells))
                  go_ret
                  exact ⟨rfl, HD.out⟩
                · rw [if_neg cm] at hst
                  have HW := Lib.hid (show (metF met (xk, xt)).getD (.bool false) = .bool false by rw [metF_was, Bool.eq_false_iff.2 cm])
                  clear cm
                  obtain ⟨q, hq1, hq2⟩ := Option.bind_eq_some_iff.1 hst
                  obtain ⟨n3, s3⟩ := q
                  dsimp only at hq2
                  have HQ := Lib.hid hq1
                  have HPN := Lib.hid hq2
                  have HNL2 := Lib.hid (Nat.lt_of_lt_of_le HNL.out (compO_len K _ _ _ hq1))
                  clear hst hq1 hq2
                  go_wp2_with (first | (go_at_call 38; refine (IH.out ⟨xk, xt, xa, xl⟩ _ s3 n3 _ v2 A9 c9 _ HLX.out.cf.cm HLX.out.free HC9.out hc9x HQ.out).mono ?_; rintro e w9 ⟨rfl, v9, hC9, hK9⟩; have HLY := Lib.hid (HLX.out.call hC9 hK9); clear hC9 hK9) | (at_builtin; refine Kd.R_append (Kd.int .i64) (w0 := w9) W.heap.size rfl (.tmp 105) (.tmp 107) 40 3 (.int .i64 0) 8 rfl Tryz.underlying40 info3 rfl (by decide) (by omega) _ ks n3 [.int .i64 n3] (fun k => k ≠ gb ∧ k ≠ mm ∧ k ≠ cb ∧ k ≠ am) (fun _ => False) rfl (by first | (go_simp; done) | (go_simp; rfl)) rfl (fun _ hk => hk.elim) (fun k hk => by have h1 := blk_lt HLY.out.cf.g; have h2 := HLY.out.m.lt; have h3 := HLY.out.cf.cm.lt; omega) HLY.out.row (Below.refl _ _) HLY.out.cf.kc.1 (by have := hkl2.out; omega) ?_; intro v7 w7 ho hb hg hat; have HLZ := Lib.hid (HLY.out.grow hg hat ho); clear ho hb hg hat) | ((go_at_call 57; refine (add_is mm nm (metF met) (xk, xt) HGD.out _ HLX.out.m HNM.out _ HW.out).mono ?_; rintro e w8 ⟨rfl, hm8, hg8⟩); have hxb := (hg8.block wr.heap.size (blk_lt HXB.out) (fun e => by have := Option.some.inj e; have := HLR.out.m.lt; omega)).trans HXB.out; have HLW := Lib.hid (HLX.out.keyed _ hm8 hg8); clear hm8 hg8 z0 z1 z2 z3 z4 HLX k0 k1 k2 k3; have HLX := HLW; obtain ⟨z0, z1, z2, z3, z4⟩ := HLX.out.cf.cm.cells; have k0 := (blk_cell hxb 0).trans rfl; have k1 := (blk_cell hxb 1).trans rfl; have k2 := (blk_cell hxb 2).trans rfl; have k3 := (blk_cell hxb 3).trans rfl))
                  go_roundw
                  case rel => exact ⟨j + 1, ks ++ [n3], (xk, xt) :: met, nm + 1, s3, v9, by go_num, HLJ.out, by omega, Lib.hid (by rw [List.length_append, List.length_singleton, hkl2.out]), HNL2, HPN, HLZ⟩
                  case measure => have := HLJ.out; simp [intOf]; omega
              · rw [if_neg ck] at hst
                have hcase : (kd == 6) = false ∨ ((kd == 6) = true ∧ j % 2 = 1) := by
                  by_cases c6 : kd = 6
                  · exact .inr ⟨beq_iff_eq.2 c6, by have := hkl2.out; have : ¬ ks.length % 2 = 0 := fun e => ck ⟨c6, e⟩; omega⟩
                  · exact .inl (beq_eq_false_iff_ne.2 c6)
                clear ck
                obtain ⟨q, hq1, hq2⟩ := Option.bind_eq_some_iff.1 hst
                obtain ⟨n3, s3⟩ := q
                dsimp only at hq2
                have HQ := Lib.hid hq1
                have HPN := Lib.hid hq2
                have HNL2 := Lib.hid (Nat.lt_of_lt_of_le HNL.out (compO_len K _ _ _ hq1))
                clear hst hq1 hq2
                rcases hcase with q6 | ⟨q6, hj2⟩
                · go_wp2_with (first | (go_at_call 38; refine (IH.out ⟨xk, xt, xa, xl⟩ _ s3 n3 _ v2 A9 c9 _ HLX.out.cf.cm HLX.out.free HC9.out hc9x HQ.out).mono ?_; rintro e w9 ⟨rfl, v9, hC9, hK9⟩; have HLY := Lib.hid (HLX.out.call hC9 hK9); clear hC9 hK9) | (at_builtin; refine Kd.R_append (Kd.int .i64) (w0 := w9) W.heap.size rfl (.tmp 105) (.tmp 107) 40 3 (.int .i64 0) 8 rfl Tryz.underlying40 info3 rfl (by decide) (by omega) _ ks n3 [.int .i64 n3] (fun k => k ≠ gb ∧ k ≠ mm ∧ k ≠ cb ∧ k ≠ am) (fun _ => False) rfl (by first | (go_simp; done) | (go_simp; rfl)) rfl (fun _ hk => hk.elim) (fun k hk => by have h1 := blk_lt HLY.out.cf.g; have h2 := HLY.out.m.lt; have h3 := HLY.out.cf.cm.lt; omega) HLY.out.row (Below.refl _ _) HLY.out.cf.kc.1 (by have := hkl2.out; omega) ?_; intro v7 w7 ho hb hg hat; have HLZ := Lib.hid (HLY.out.grow hg hat ho); clear ho hb hg hat))
                  go_roundw
                  case rel => exact ⟨j + 1, ks ++ [n3], met, nm, s3, v9, by go_num, HLJ.out, by omega, Lib.hid (by rw [List.length_append, List.length_singleton, hkl2.out]), HNL2, HPN, HLZ⟩
                  case measure => have := HLJ.out; simp [intOf]; omega
                · have qm : (Int.tmod (j : Int) 2 == 0) = false := beq_eq_false_iff_ne.2 (by rw [Int.tmod_eq_emod_of_nonneg (by omega)]; omega)
                  go_wp2_with (first | (go_at_call 38; refine (IH.out ⟨xk, xt, xa, xl⟩ _ s3 n3 _ v2 A9 c9 _ HLX.out.cf.cm HLX.out.free HC9.out hc9x HQ.out).mono ?_; rintro e w9 ⟨rfl, v9, hC9, hK9⟩; have HLY := Lib.hid (HLX.out.call hC9 hK9); clear hC9 hK9) | (at_builtin; refine Kd.R_append (Kd.int .i64) (w0 := w9) W.heap.size rfl (.tmp 105) (.tmp 107) 40 3 (.int .i64 0) 8 rfl Tryz.underlying40 info3 rfl (by decide) (by omega) _ ks n3 [.int .i64 n3] (fun k => k ≠ gb ∧ k ≠ mm ∧ k ≠ cb ∧ k ≠ am) (fun _ => False) rfl (by first | (go_simp; done) | (go_simp; rfl)) rfl (fun _ hk => hk.elim) (fun k hk => by have h1 := blk_lt HLY.out.cf.g; have h2 := HLY.out.m.lt; have h3 := HLY.out.cf.cm.lt; omega) HLY.out.row (Below.refl _ _) HLY.out.cf.kc.1 (by have := hkl2.out; omega) ?_; intro v7 w7 ho hb hg hat; have HLZ := Lib.hid (HLY.out.grow hg hat ho); clear ho hb hg hat))
                  go_roundw
                  case rel => exact ⟨j + 1, ks ++ [n3], met, nm, s3, v9, by go_num, HLJ.out, by omega, Lib.hid (by rw [List.length_append, List.length_singleton, hkl2.out]), HNL2, HPN, HLZ⟩
                  case measure => have := HLJ.out; simp [intOf]; omega
          · have hc9 : decide ((j : Int) < (kids.length : Int)) = false := decide_eq_false (by omega)
            have hst := HPR.out
            rw [List.drop_of_length_le (by omega), compL] at hst
            obtain ⟨e1, e2⟩ := Prod.mk.inj (Option.some.inj hst)
            subst e1 e2
            have e3 := hkl2.out
            subst e3
            obtain ⟨g, cap, ev, _, _, _⟩ := Kd.S_form HLR.out.cf.cm.row (by have := HNL.out; omega)
            subst ev
            obtain ⟨c, oki, hcc, hfz, hH, hF⟩ := HLR.out.kid ns.length HNL.out
            have HF := Lib.hid hF
            have HH := Lib.hid hH
            have HNL3 : Hid ((ns.length : Int) < (s2.1.length : Int)) := Lib.hid (by have := HNL.out; omega)
            have p7 : (0 ≤ (ns.length : Int)) = True := eq_true (by omega)
            have p8 : ((ns.length : Int) < (s2.1.length : Int)) = True := eq_true HNL3.out
            obtain ⟨z0, z1, z2, z3, z4⟩ := HLR.out.cf.cm.cells
            clear hst HPR hF hH hcc
            go_wp2_with (first | ((with_reducible refine gate_store (t := 40) (p := 117) rfl ?_); refine Kd.H_store k45 (w0 := w0) w0.heap.size ?q1 ?q2 40 (.tmp 117) (.tmp 115) ?q3 45 (g := g) (n := s2.1.length) (cap := cap) (o' := ns.length * 3 + 2) (ns.length : Int) 2 s2.1 ⟨(rd_T45 s2.1 (ns.length : Int)).f0, (rd_T45 s2.1 (ns.length : Int)).f1, ks⟩ (.slice Au ks.length cu) [.slice Au ks.length cu] c ok _ _ ?ha ?hb ?hc1 ?hc2 ?hd ?he HH.out ?h0 ?h1 ?h4 HF.out ?h6 ?h7 ?_; (case q1 => rfl); (case q2 => rfl); (case q3 => rfl); (case ha => rfl); (case hb => simp; rfl); (case hc1 => rfl); (case hc2 => rfl); (case hd => kernel_rfl); (case he => (intro q hq; rw [List.mem_singleton.1 hq]; rfl)); (case h0 => omega); (case h1 => exact HNL3.out); (case h4 => exact Nat.le_refl 3); (case h6 => exact fun _ e => .inr e); (case h7 => exact HLR.out.cf.cm.bel); intro w9 hN9 hb9 hg9; have HD := Lib.hid (HLR.out.last (ns := setK s2.1 ns.length ks) hg9 hN9 (by simp [setK])); clear hN9 hb9 hg9))
            go_ret
            exact ⟨rfl, HD.out⟩
def compF (t : Tr) : Option (List Nd × Int) :=
 match flow_Right.f t.f0 t.f1 t.f2 t.f3 with
 | none => none
 | some b =>
  if b = false then some ([], 1) else
  (compO 68 t ([], fun _ => none, 0)).map fun q => if q.2.2.2 ≠ 0 then ([], q.2.2.2) else (q.2.1, 0)
theorem comp_start {w W : World} {gb rs : Nat} (hb : Below w.heap.size w W) (h1 : gb < W.heap.size) (h2 : rs < W.heap.size) :
  Cm w (W.heap.size + 1) W.heap.size (fun k => k ≠ gb ∧ k ≠ rs ∧ k ≠ W.heap.size + 1 ∧ k ≠ W.heap.size) (.slice none 0 0) (.slice none 0 0) ([], fun _ => none, 0) ((W.alloc (.map #[] 0)).alloc (.cells #[.slice none 0 0, .map (some W.heap.size), .int .i64 0] 87)) := by
 have e1 : (W.alloc (.map #[] 0)).heap.size = W.heap.size + 1 := by simp
 have h := blk_new (W.alloc (.map #[] 0)) (.cells #[.slice none 0 0, .map (some W.heap.size), .int .i64 0] 87)
 rw [e1] at h
 have hz := hb.size
 refine ⟨h, ?_, Kd.S_nil _ _ _ _ _, below_alloc (below_alloc hb _) _, by omega, fun e => e.2.2.1 rfl, fun e => e.2.2.2 rfl⟩
 have e : strV (fun _ => none) = fun _ => (none : Option Value) := rfl
 rw [e]
 exact (made W Tryz.prog 9 strV_inj).alloc _
theorem blk_put2 {W : World} {b T : Nat} {x0 x1 : Value} (h : W.heap[b]? = some (.cells #[x0, x1] T)) (y0 y1 : Value) : ((W.setCell ⟨b, 0, none⟩ y0).setCell ⟨b, 1, none⟩ y1).heap[b]? = some (.cells #[y0, y1] T) := by
 have h0 := blk_set h 0 y0
 have h1 := blk_set h0 1 y1
 simpa using h1
theorem below_put2 {w W : World} {b : Nat} (h : Below w.heap.size w W) (hb : w.heap.size ≤ b) (y0 y1 : Value) : Below w.heap.size w ((W.setCell ⟨b, 0, none⟩ y0).setCell ⟨b, 1, none⟩ y1) :=
  (h.setCell (p := ⟨b, 0, none⟩) hb y0).setCell (p := ⟨b, 1, none⟩) hb y1
theorem far_put2 {W : World} (b : Nat) (y0 y1 : Value) {k : Nat} (hk : k ≠ b) : ((W.setCell ⟨b, 0, none⟩ y0).setCell ⟨b, 1, none⟩ y1).heap[k]? = W.heap[k]? :=
  (Below.heap_setCell _ ⟨b, 1, none⟩ y1 k hk).trans (Below.heap_setCell _ ⟨b, 0, none⟩ y0 k hk)
set_option maxHeartbeats 8000000 in
set_option maxRecDepth 100000 in
theorem compF_calls (a0 : Int) (a1 a2 : ByteArray) (A3 : Option Addr) (c3 : Nat) (l3 : List Tr) (ns : List Nd) (e0 : Int) (w : World) (hr : Kd.C k29 w A3 l3.length l3) (hc : l3.length ≤ c3) (hG : Glob.G w) (h : compF ⟨a0, a1, a2, l3⟩ = some (ns, e0)) :
  Calls Tryz.prog 22 #[.agg #[.int .i64 a0, .string a1, .string a2, .slice A3 l3.length c3]] w fun e w' => ∃ v : Value, e = .returned (.tuple #[.agg #[v, .int .i64 0], .int .i64 e0]) ∧ Kd.S k45 45 w' w.heap.size (fun _ => True) v ns ∧ Below w.heap.size w w' := by
 unfold compF at h
 dsimp only at h
 have HR := Lib.hid hr
 clear hr
 cases hrt : flow_Right.f a0 a1 a2 l3 with
 | none => rw [hrt] at h; cases h
 | some b =>
  rw [hrt] at h
  dsimp only at h
  have HRT := Lib.hid hrt
  clear hrt
  cases b with
  | false =>
   rw [if_pos rfl] at h
   obtain ⟨e1, e2⟩ := Prod.mk.inj (Option.some.inj h)
   have HF := Lib.hid (And.intro e1.symm e2.symm)
   clear h e1 e2
   go_enter Tryz.func22, Tryz.ntmps22
   go_wp2_with (first | ((with_reducible refine gate_dst (N := 1) rfl ?_); refine box_event ?hg (N := 1) ?hd (cs := #[.int .i64 a0, .string a1, .string a2, .slice A3 l3.length c3]) (t := 29) ?hr ?_; (case hd => rfl); (case hg => rfl); (case hr => first | (go_simp; done) | (go_simp; rfl)); intro gb hgb w1 hb hb1; have HG := Lib.hid hb; have HB := Lib.hid hb1; have HE := Lib.hid hgb; clear hgb hb hb1; obtain ⟨x0, x1, x2, x3⟩ := show (w1.alloc (.cells #[.slice none 0 0, .int .i64 0] 24)).cell? ⟨gb, 0, none⟩ = some (.int .i64 a0) ∧ (w1.alloc (.cells #[.slice none 0 0, .int .i64 0] 24)).cell? ⟨gb, 1, none⟩ = some (.string a1) ∧ (w1.alloc (.cells #[.slice none 0 0, .int .i64 0] 24)).cell? ⟨gb, 2, none⟩ = some (.string a2) ∧ (w1.alloc (.cells #[.slice none 0 0, .int .i64 0] 24)).cell? ⟨gb, 3, none⟩ = some (.slice A3 l3.length c3) from ⟨cell_al ((blk_cell HG.out 0).trans rfl), cell_al ((blk_cell HG.out 1).trans rfl), cell_al ((blk_cell HG.out 2).trans rfl), cell_al ((blk_cell HG.out 3).trans rfl)⟩) | (go_at_call 24; refine (flow_Right.calls a0 a1 a2 A3 c3 l3 _ _ (Kd.C_below HR.out (below_alloc HB.out _)) hc (hG.below (below_alloc HB.out _)) HRT.out).mono ?_; rintro e w2 ⟨rfl, hb2⟩; have HB2 := Lib.hid ((below_alloc HB.out (.cells #[.slice none 0 0, .int .i64 0] 24)).trans (hb2.mono (below_alloc HB.out _).size)); have HG2 := Lib.hid (blk_below (blk_alloc HG.out _) hb2); have HS2 := Lib.hid (blk_below (blk_new w1 (.cells #[.slice none 0 0, .int .i64 0] 24)) hb2); clear hb2 x0 x1 x2 x3; have x0 := (blk_cell HG2.out 0).trans rfl; have x1 := (blk_cell HG2.out 1).trans rfl; have x2 := (blk_cell HG2.out 2).trans rfl; have x3 := (blk_cell HG2.out 3).trans rfl; have s0 := (blk_cell HS2.out 0).trans rfl; have s1 := (blk_cell HS2.out 1).trans rfl; have f0 := blk_frozen HS2.out 0; have f1 := blk_frozen HS2.out 1))
   have HS1 := HB.out.size
   refine bodyPost_ret (results_ct rfl _ _ w1.heap.size 24 #[.slice none 0 0, .int .i64 0] (0, 0) _ rfl (blk_put2 HS2.out _ _) Tryz.underlying24 rfl (by kernel_rfl)) rfl ?_
   rw [HF.out.1, HF.out.2]
   exact ⟨.slice none 0 0, by first | done | rfl, Kd.S_nil _ _ _ _ _, below_put2 HB2.out HS1 _ _⟩
  | true =>
   rw [if_neg (by decide)] at h
   obtain ⟨q, hq1, hq2⟩ := Option.map_eq_some_iff.1 h
   obtain ⟨at_, ns2, F2, why⟩ := q
   dsimp only at hq2
   have HQ := Lib.hid hq1
   clear h hq1
   have hmm := @run_makeMap Tryz.prog
   by_cases hw : why ≠ 0
   rotate_left
   ·
    rw [if_neg hw] at hq2
    obtain ⟨e1, e2⟩ := Prod.mk.inj hq2
    have HF := Lib.hid (And.intro e1.symm e2.symm)
    have q5 : (why != 0) = false := by rw [Decidable.not_not.1 hw]; rfl
    clear hq2 e1 e2 hw
    go_enter Tryz.func22, Tryz.ntmps22
    go_wp2_with (first | ((with_reducible refine gate_dst (N := 1) rfl ?_); refine box_event ?hg (N := 1) ?hd (cs := #[.int .i64 a0, .string a1, .string a2, .slice A3 l3.length c3]) (t := 29) ?hr ?_; (case hd => rfl); (case hg => rfl); (case hr => first | (go_simp; done) | (go_simp; rfl)); intro gb hgb w1 hb hb1; have HG := Lib.hid hb; have HB := Lib.hid hb1; have HE := Lib.hid hgb; clear hgb hb hb1; obtain ⟨x0, x1, x2, x3⟩ := show (w1.alloc (.cells #[.slice none 0 0, .int .i64 0] 24)).cell? ⟨gb, 0, none⟩ = some (.int .i64 a0) ∧ (w1.alloc (.cells #[.slice none 0 0, .int .i64 0] 24)).cell? ⟨gb, 1, none⟩ = some (.string a1) ∧ (w1.alloc (.cells #[.slice none 0 0, .int .i64 0] 24)).cell? ⟨gb, 2, none⟩ = some (.string a2) ∧ (w1.alloc (.cells #[.slice none 0 0, .int .i64 0] 24)).cell? ⟨gb, 3, none⟩ = some (.slice A3 l3.length c3) from ⟨cell_al ((blk_cell HG.out 0).trans rfl), cell_al ((blk_cell HG.out 1).trans rfl), cell_al ((blk_cell HG.out 2).trans rfl), cell_al ((blk_cell HG.out 3).trans rfl)⟩) | ((go_at_call 24; refine (flow_Right.calls a0 a1 a2 A3 c3 l3 _ _ (Kd.C_below HR.out (below_alloc HB.out _)) hc (hG.below (below_alloc HB.out _)) HRT.out).mono ?_; rintro e w2 ⟨rfl, hb2⟩; have HB2 := Lib.hid ((below_alloc HB.out (.cells #[.slice none 0 0, .int .i64 0] 24)).trans (hb2.mono (below_alloc HB.out _).size)); have HG2 := Lib.hid (blk_below (blk_alloc HG.out _) hb2); have HS2 := Lib.hid (blk_below (blk_new w1 (.cells #[.slice none 0 0, .int .i64 0] 24)) hb2); clear hb2 x0 x1 x2 x3; have x0 := (blk_cell HG2.out 0).trans rfl; have x1 := (blk_cell HG2.out 1).trans rfl; have x2 := (blk_cell HG2.out 2).trans rfl; have x3 := (blk_cell HG2.out 3).trans rfl; have s0 := (blk_cell HS2.out 0).trans rfl; have s1 := (blk_cell HS2.out 1).trans rfl; have f0 := blk_frozen HS2.out 0; have f1 := blk_frozen HS2.out 1); have u0 := cell_al (o := (.cells #[.slice none 0 0, .map (some w2.heap.size), .int .i64 0] 87)) (cell_al (o := .map #[] 0) x0); have u1 := cell_al (o := (.cells #[.slice none 0 0, .map (some w2.heap.size), .int .i64 0] 87)) (cell_al (o := .map #[] 0) x1); have u2 := cell_al (o := (.cells #[.slice none 0 0, .map (some w2.heap.size), .int .i64 0] 87)) (cell_al (o := .map #[] 0) x2); have u3 := cell_al (o := (.cells #[.slice none 0 0, .map (some w2.heap.size), .int .i64 0] 87)) (cell_al (o := .map #[] 0) x3)) | (go_at_call 38; refine (cadd_is w (w2.heap.size + 1) w2.heap.size 68 ⟨a0, a1, a2, l3⟩ _ (ns2, F2, why) at_ _ (.slice none 0 0) A3 c3 _ (comp_start (gb := gb) (rs := w1.heap.size) HB2.out (blk_lt HG2.out) (blk_lt HS2.out)) (fun k hk => by have h1 := blk_lt HG2.out; have h2 := blk_lt HS2.out; have h3 : w2.heap.size + 2 ≤ k := by { simpa using hk }; omega) HR.out hc HQ.out).mono ?_; rintro e w5 ⟨rfl, v5, hC5, hK5⟩; obtain ⟨A5, c5, ev⟩ := Kd.S_slice hC5.row; subst ev; have HC5 := Lib.hid hC5; have HG5 := Lib.hid ((hK5.2 gb (by have h1 := blk_lt HG2.out; simp; omega) (fun e => e.1 rfl) (by have h1 := blk_lt HG2.out; omega) (by have h1 := blk_lt HG2.out; omega)).trans (blk_alloc (blk_alloc HG2.out (.map #[] 0)) (.cells #[.slice none 0 0, .map (some w2.heap.size), .int .i64 0] 87))); have HS5 := Lib.hid ((hK5.2 w1.heap.size (by have h1 := blk_lt HS2.out; simp; omega) (fun e => e.2.1 rfl) (by have h1 := blk_lt HS2.out; omega) (by have h1 := blk_lt HS2.out; omega)).trans (blk_alloc (blk_alloc HS2.out (.map #[] 0)) (.cells #[.slice none 0 0, .map (some w2.heap.size), .int .i64 0] 87))); have HNE : Hid (w2.heap.size + 1 ≠ w1.heap.size) := Lib.hid (by have h1 := blk_lt HS2.out; omega); clear hC5 hK5 x0 x1 x2 x3 s0 s1 f0 f1 u0 u1 u2 u3; obtain ⟨z0, z1, z2, z3, z4⟩ := HC5.out.cells; have s0 := (blk_cell HS5.out 0).trans rfl; have s1 := (blk_cell HS5.out 1).trans rfl; have f0 := blk_frozen HS5.out 0; have f1 := blk_frozen HS5.out 1))
    have HS1 := HB.out.size
    refine bodyPost_ret (results_ct rfl _ _ w1.heap.size 24 #[.slice A5 ns2.length c5, .int .i64 0] (0, 0) _ rfl (blk_put2 HS5.out _ _) Tryz.underlying24 rfl (by kernel_rfl)) rfl ?_
    rw [HF.out.1, HF.out.2]
    refine ⟨.slice A5 ns2.length c5, by first | done | rfl, ?_, below_put2 HC5.out.bel HS1 _ _⟩
    exact Kd.S_mono (Kd.S_far (p := ⟨w1.heap.size, 1, none⟩) (Kd.S_far (p := ⟨w1.heap.size, 0, none⟩) HC5.out.row (fun k hk => hk.2.1) _) (fun k hk => hk.2.1) _) (fun _ _ => trivial)
   rw [if_pos hw] at hq2
   obtain ⟨e1, e2⟩ := Prod.mk.inj hq2
   have HF := Lib.hid (And.intro e1.symm e2.symm)
   have q5 : (why != 0) = true := bne_iff_ne.2 hw
   clear hq2 e1 e2 hw
   go_enter Tryz.func22, Tryz.ntmps22
   go_wp2_with (first | ((with_reducible refine gate_dst (N := 1) rfl ?_); refine box_event ?hg (N := 1) ?hd (cs := #[.int .i64 a0, .string a1, .string a2, .slice A3 l3.length c3]) (t := 29) ?hr ?_; (case hd => rfl); (case hg => rfl); (case hr => first | (go_simp; done) | (go_simp; rfl)); intro gb hgb w1 hb hb1; have HG := Lib.hid hb; have HB := Lib.hid hb1; have HE := Lib.hid hgb; clear hgb hb hb1; obtain ⟨x0, x1, x2, x3⟩ := show (w1.alloc (.cells #[.slice none 0 0, .int .i64 0] 24)).cell? ⟨gb, 0, none⟩ = some (.int .i64 a0) ∧ (w1.alloc (.cells #[.slice none 0 0, .int .i64 0] 24)).cell? ⟨gb, 1, none⟩ = some (.string a1) ∧ (w1.alloc (.cells #[.slice none 0 0, .int .i64 0] 24)).cell? ⟨gb, 2, none⟩ = some (.string a2) ∧ (w1.alloc (.cells #[.slice none 0 0, .int .i64 0] 24)).cell? ⟨gb, 3, none⟩ = some (.slice A3 l3.length c3) from ⟨cell_al ((blk_cell HG.out 0).trans rfl), cell_al ((blk_cell HG.out 1).trans rfl), cell_al ((blk_cell HG.out 2).trans rfl), cell_al ((blk_cell HG.out 3).trans rfl)⟩) | ((go_at_call 24; refine (flow_Right.calls a0 a1 a2 A3 c3 l3 _ _ (Kd.C_below HR.out (below_alloc HB.out _)) hc (hG.below (below_alloc HB.out _)) HRT.out).mono ?_; rintro e w2 ⟨rfl, hb2⟩; have HB2 := Lib.hid ((below_alloc HB.out (.cells #[.slice none 0 0, .int .i64 0] 24)).trans (hb2.mono (below_alloc HB.out _).size)); have HG2 := Lib.hid (blk_below (blk_alloc HG.out _) hb2); have HS2 := Lib.hid (blk_below (blk_new w1 (.cells #[.slice none 0 0, .int .i64 0] 24)) hb2); clear hb2 x0 x1 x2 x3; have x0 := (blk_cell HG2.out 0).trans rfl; have x1 := (blk_cell HG2.out 1).trans rfl; have x2 := (blk_cell HG2.out 2).trans rfl; have x3 := (blk_cell HG2.out 3).trans rfl; have s0 := (blk_cell HS2.out 0).trans rfl; have s1 := (blk_cell HS2.out 1).trans rfl; have f0 := blk_frozen HS2.out 0; have f1 := blk_frozen HS2.out 1); have u0 := cell_al (o := (.cells #[.slice none 0 0, .map (some w2.heap.size), .int .i64 0] 87)) (cell_al (o := .map #[] 0) x0); have u1 := cell_al (o := (.cells #[.slice none 0 0, .map (some w2.heap.size), .int .i64 0] 87)) (cell_al (o := .map #[] 0) x1); have u2 := cell_al (o := (.cells #[.slice none 0 0, .map (some w2.heap.size), .int .i64 0] 87)) (cell_al (o := .map #[] 0) x2); have u3 := cell_al (o := (.cells #[.slice none 0 0, .map (some w2.heap.size), .int .i64 0] 87)) (cell_al (o := .map #[] 0) x3)) | (go_at_call 38; refine (cadd_is w (w2.heap.size + 1) w2.heap.size 68 ⟨a0, a1, a2, l3⟩ _ (ns2, F2, why) at_ _ (.slice none 0 0) A3 c3 _ (comp_start (gb := gb) (rs := w1.heap.size) HB2.out (blk_lt HG2.out) (blk_lt HS2.out)) (fun k hk => by have h1 := blk_lt HG2.out; have h2 := blk_lt HS2.out; have h3 : w2.heap.size + 2 ≤ k := by { simpa using hk }; omega) HR.out hc HQ.out).mono ?_; rintro e w5 ⟨rfl, v5, hC5, hK5⟩; obtain ⟨A5, c5, ev⟩ := Kd.S_slice hC5.row; subst ev; have HC5 := Lib.hid hC5; have HG5 := Lib.hid ((hK5.2 gb (by have h1 := blk_lt HG2.out; simp; omega) (fun e => e.1 rfl) (by have h1 := blk_lt HG2.out; omega) (by have h1 := blk_lt HG2.out; omega)).trans (blk_alloc (blk_alloc HG2.out (.map #[] 0)) (.cells #[.slice none 0 0, .map (some w2.heap.size), .int .i64 0] 87))); have HS5 := Lib.hid ((hK5.2 w1.heap.size (by have h1 := blk_lt HS2.out; simp; omega) (fun e => e.2.1 rfl) (by have h1 := blk_lt HS2.out; omega) (by have h1 := blk_lt HS2.out; omega)).trans (blk_alloc (blk_alloc HS2.out (.map #[] 0)) (.cells #[.slice none 0 0, .map (some w2.heap.size), .int .i64 0] 87))); have HNE : Hid (w2.heap.size + 1 ≠ w1.heap.size) := Lib.hid (by have h1 := blk_lt HS2.out; omega); clear hC5 hK5 x0 x1 x2 x3 s0 s1 f0 f1 u0 u1 u2 u3; obtain ⟨z0, z1, z2, z3, z4⟩ := HC5.out.cells; have s0 := (blk_cell HS5.out 0).trans rfl; have s1 := (blk_cell HS5.out 1).trans rfl; have f0 := blk_frozen HS5.out 0; have f1 := blk_frozen HS5.out 1))
   have HFX : Hid (((w5.drew.setCell ⟨w1.heap.size, 0, none⟩ (.slice none 0 0)).setCell ⟨w1.heap.size, 1, none⟩ (.int .i64 0)).cell? ⟨w2.heap.size + 1, 2, none⟩ = some (.int .i64 why)) := Lib.hid ((blk_cell ((far_put2 w1.heap.size _ _ HNE.out).trans HC5.out.l) 2).trans rfl)
   refine start_ (n := 7) (S := fun w' => w'.cell? ⟨w2.heap.size + 1, 2, none⟩ = some (.int .i64 why)) (ds := []) #[false, false, false, false, false, false, false] (by kernel_rfl) rfl rfl (HC5.out.cells.2.2.1) (fun hHeld => ?_)
   refine pure_ (i := 0) (N := some 20) (v := ?_) (a' := ?_) #[true, false, false, false, false, false, false] rfl rfl (by kernel_rfl) (fun _ _ _ h => h) (Or.inl ⟨by rfl, ?_⟩) ?_ ?_
   rotate_left
   ·
    intro w'
    go_simp
    with_reducible rfl
   rotate_left
   ·
    simp only [Act.put, List.setIfInBounds_toArray, List.set_cons_zero, List.set_cons_succ, i64_w, i32_w]
    rfl
   refine pure_ (i := 1) (N := some 21) (v := ?_) (a' := ?_) #[true, true, false, false, false, false, false] rfl rfl (by kernel_rfl) (fun _ _ _ h => h) (Or.inl ⟨by rfl, ?_⟩) ?_ ?_
   rotate_left
   ·
    intro w'
    go_simp
    with_reducible rfl
   rotate_left
   ·
    simp only [Act.put, List.setIfInBounds_toArray, List.set_cons_zero, List.set_cons_succ, i64_w, i32_w]
    rfl
   refine pure_ (i := 2) (N := some 22) (v := ?_) (a' := ?_) #[true, true, true, false, false, false, false] rfl rfl (by kernel_rfl) (fun _ _ _ h => h) (Or.inl ⟨by rfl, ?_⟩) ?_ ?_
   rotate_left
   ·
    intro w'
    go_simp
    with_reducible rfl
   rotate_left
   ·
    simp only [Act.put, List.setIfInBounds_toArray, List.set_cons_zero, List.set_cons_succ, i64_w, i32_w]
    rfl
   refine pure_ (i := 3) (N := some 23) (v := ?_) (a' := ?_) #[true, true, true, true, false, false, false] rfl rfl (by kernel_rfl) (fun _ _ _ h => h) (Or.inl ⟨by rfl, ?_⟩) ?_ ?_
   rotate_left
   ·
    intro w'
    go_simp
    with_reducible rfl
   rotate_left
   ·
    simp only [Act.put, List.setIfInBounds_toArray, List.set_cons_zero, List.set_cons_succ, i64_w, i32_w]
    rfl
   refine take_ (i := 4) (N := some 24) (v := ?_) (a' := ?_) #[true, true, true, true, true, false, false] rfl rfl (by kernel_rfl) (fun _ _ _ h => h) (Or.inl ⟨by rfl, ?_⟩) hHeld ?_ ?_
   rotate_left
   ·
    intro w' s0
    go_simp
    with_reducible rfl
   rotate_left
   ·
    simp only [Act.put, List.setIfInBounds_toArray, List.set_cons_zero, List.set_cons_succ, i64_w, i32_w]
    rfl
   refine one_ (i := 5) (N := none) #[true, true, true, true, true, true, false] rfl rfl (by kernel_rfl) (by decide) (fun K hK => ?_)
   refine skip_ (w1 := ?_) (by rfl) rfl ?_ ?_
   rotate_left
   ·
    go_simp
    rfl
   refine hK.out _ _ (HFX.out) (fun hHeld => ?_)
   clear hK K
   refine pure_ (i := 6) (N := some 3) (v := ?_) (a' := ?_) #[true, true, true, true, true, true, true] rfl rfl (by kernel_rfl) (fun _ _ _ h => h) (Or.inl ⟨by rfl, ?_⟩) ?_ ?_
   rotate_left
   ·
    intro w'
    go_simp
    with_reducible rfl
   rotate_left
   ·
    simp only [Act.put, List.setIfInBounds_toArray, List.set_cons_zero, List.set_cons_succ, i64_w, i32_w]
    rfl
   refine done_ (by kernel_rfl) ?_
   go_wp2_with (fail)
   have HS1 := HB.out.size
   refine bodyPost_ret (results_ct rfl _ _ w1.heap.size 24 #[.slice none 0 0, .int .i64 0] (0, 0) _ rfl (blk_put2 (W := w5.drew) HS5.out _ _) Tryz.underlying24 rfl (by kernel_rfl)) rfl ?_
   rw [HF.out.1, HF.out.2]
   exact ⟨.slice none 0 0, by first | done | rfl, Kd.S_nil _ _ _ _ _, below_put2 (below_drew1 HC5.out.bel) HS1 _ _⟩
def graph_Compose.f (a0 : Int) (a1 a2 : ByteArray) (l3 : List Tr) : Option (List Nd × Int × Int) := (compF ⟨a0, a1, a2, l3⟩).map fun p => (p.1, 0, p.2)
theorem graph_Compose.calls (a0 : Int) (a1 a2 : ByteArray) (A3 : Option Addr) (c3 : Nat) (l3 : List Tr) (r1 : List Nd) (r2 r3 : Int) (w : World) (hr : Kd.C k29 w A3 l3.length l3) (hc : l3.length ≤ c3) (hG : Glob.G w) (h : graph_Compose.f a0 a1 a2 l3 = some (r1, r2, r3)) :
  Calls Tryz.prog 22 #[.agg #[.int .i64 a0, .string a1, .string a2, .slice A3 l3.length c3]] w fun e w' => ∃ v : Value, e = .returned (.tuple #[.agg #[v, .int .i64 r2], .int .i64 r3]) ∧ Kd.S k45 45 w' w.heap.size (fun _ => True) v r1 ∧ Below w.heap.size w w' := by
 obtain ⟨p, hp1, hp2⟩ := Option.map_eq_some_iff.1 h
 obtain ⟨ns, e⟩ := p
 obtain ⟨rfl, rfl, rfl⟩ : ns = r1 ∧ 0 = r2 ∧ e = r3 := by
  simp only [Prod.mk.injEq] at hp2
  exact hp2
 exact compF_calls a0 a1 a2 A3 c3 l3 _ _ w hr hc hG hp1
def plG : List Int → Nat → (Int → Option Int) → Int → Option Int
 | [], _, F => F
 | a :: r, n, F => plG r (n + 1) (fun y => if y = a then some (n : Int) else F y)
def plV (F : Int → Option Int) (k : Int) : Option Value := (F k).map (Value.int .i64)
def plO (F : Int → Option Int) (k : Int) : Int := (F k).getD 0
def cutL (l : List Nd) (pl : Int → Int) (xs : List Int) : List Nd := xs.map fun a => ⟨(rd_T45 l a).f0, (rd_T45 l a).f1, (rd_T45 l a).f2.map pl⟩
theorem plV_put (F : Int → Option Int) (k j : Int) : (fun y => if y = k then some (Value.int .i64 j) else plV F y) = plV (fun y => if y = k then some j else F y) := by
 funext y
 unfold plV
 by_cases e : y = k
 · simp [e]
 simp [e]
theorem plV_get (F : Int → Option Int) (k : Int) : (plV F k).getD (.int .i64 0) = .int .i64 (plO F k) := by
 unfold plV plO
 cases F k <;> rfl
structure Ck (W1 : World) (N0 : Nat) (v : Value) (ns : List Nd) (kd : Int) (tx : ByteArray) (vK : Value) (ys : List Int) (Z : World) : Prop where
 bel : Below W1.heap.size W1 Z
 o : Z.heap[W1.heap.size]? = some (.cells #[v, .int .i64 0] 24)
 s : Kd.S k45 45 Z (W1.heap.size + 1) (fun k => k < N0) v ns
 n : Z.heap[N0]? = some (.cells #[.int .i64 kd, .string tx, vK] 45)
 r : Kd.R (Kd.int .i64) 3 Z (N0 + 1) (fun _ => True) vK ys
 lt : W1.heap.size < N0
section
variable {W1 Z Z' wr : World} {N0 : Nat} {v vK : Value} {ns : List Nd} {kd : Int} {tx : ByteArray} {ys : List Int}
theorem Ck.put {g n cap : Nat} (h : Ck W1 N0 v ns kd tx (.slice (some ⟨g, 0, none⟩) n cap) ys Z) (i x : Int) : Ck W1 N0 v ns kd tx (.slice (some ⟨g, 0, none⟩) n cap) (ys.set i.toNat x) (Z.setCell ⟨g, i.toNat, none⟩ (.int .i64 x)) := by
 obtain ⟨hr, hg⟩ := Kd.R_putg h.r i x
 have hgn : N0 + 1 ≤ g := Kd.R_base h.r g rfl
 have hlt := h.lt
 have hB : ∀ k, k < Z.heap.size → k ≤ N0 → (Z.setCell ⟨g, i.toNat, none⟩ (.int .i64 x)).heap[k]? = Z.heap[k]? := fun k hk hn => hg.block k hk (fun e => by have := Option.some.inj e; omega)
 exact ⟨h.bel.setCell (p := ⟨g, i.toNat, none⟩) (by show W1.heap.size ≤ g; omega) _, (hB _ (blk_lt h.o) (by omega)).trans h.o, Kd.S_step h.s (fun k hk hl => hB k hl (by omega)), (hB _ (blk_lt h.n) (Nat.le_refl _)).trans h.n, hr, hlt⟩
theorem ck_start (hb : Below W1.heap.size W1 wr) (ho : wr.heap[W1.heap.size]? = some (.cells #[v, .int .i64 0] 24)) (hs : Kd.S k45 45 wr (W1.heap.size + 1) (fun _ => True) v ns) {u : Value} (hZ : Below (wr.alloc (.cells #[.int .i64 kd, .string tx, u] 45)).heap.size (wr.alloc (.cells #[.int .i64 kd, .string tx, u] 45)) Z) (hr : Kd.R (Kd.int .i64) 3 Z (wr.alloc (.cells #[.int .i64 kd, .string tx, u] 45)).heap.size (fun _ => True) vK ys) :
  Ck W1 wr.heap.size v ns kd tx vK ys (Z.setCell ⟨wr.heap.size, 2, none⟩ vK) := by
 have e0 : (wr.alloc (.cells #[.int .i64 kd, .string tx, u] 45)).heap.size = wr.heap.size + 1 := by simp
 rw [e0] at hZ hr
 have h1 := blk_lt ho
 have hal := below_alloc (Below.refl wr.heap.size wr) (.cells #[.int .i64 kd, .string tx, u] 45)
 have hB : ∀ k, k < wr.heap.size → (Z.setCell ⟨wr.heap.size, 2, none⟩ vK).heap[k]? = wr.heap[k]? := fun k hk => (Below.heap_setCell Z ⟨wr.heap.size, 2, none⟩ vK k (by show k ≠ wr.heap.size; omega)).trans ((hZ.block k (by omega)).trans (hal.block k hk))
 have hn := (hZ.block wr.heap.size (by omega)).trans (blk_new wr (.cells #[.int .i64 kd, .string tx, u] 45))
 have hz := hZ.size
 have hbz : Below wr.heap.size wr Z := hal.trans (hZ.mono (by omega))
 refine ⟨(hb.trans (hbz.mono hb.size)).setCell (p := ⟨wr.heap.size, 2, none⟩) (by show W1.heap.size ≤ wr.heap.size; omega) _, (hB _ h1).trans ho, Kd.S_mono (Kd.S_step (Kd.S_bound hs) (fun k hk _ => hB k hk.2.2.1)) (fun k hk => hk.2.2.1), by simpa using blk_set hn 2 vK, ?_, h1⟩
 exact Kd.R_mono (Kd.R_far (Kd.R_mono (Kd.R_bound hr) (fun k hk => (show k ≠ wr.heap.size by have := hk.2.1; omega))) (p := ⟨wr.heap.size, 2, none⟩) (fun k hk => hk) vK) (fun _ _ => trivial)
theorem Ck.cells (h : Ck W1 N0 v ns kd tx vK ys Z) : Z.cell? ⟨N0, 0, none⟩ = some (.int .i64 kd) ∧ Z.cell? ⟨N0, 1, none⟩ = some (.string tx) ∧ Z.cell? ⟨N0, 2, none⟩ = some vK ∧ Z.cell? ⟨W1.heap.size, 0, none⟩ = some v ∧ Z.cell? ⟨W1.heap.size, 1, none⟩ = some (.int .i64 0) ∧ Z.frozen? ⟨W1.heap.size, 0, none⟩ = false :=
  ⟨(blk_cell h.n 0).trans rfl, (blk_cell h.n 1).trans rfl, (blk_cell h.n 2).trans rfl, (blk_cell h.o 0).trans rfl, (blk_cell h.o 1).trans rfl, blk_frozen h.o 0⟩
end
theorem map_step (f : Int → Int) : ∀ (ks : List Int) (i : Nat) (h : i < ks.length), ((ks.take i).map f ++ ks.drop i).set i (f ks[i]) = (ks.take (i + 1)).map f ++ ks.drop (i + 1)
 | k :: r, 0, h => by simp
 | k :: r, i + 1, h => by
  have := map_step f r i (by simpa using h)
  simpa using this
theorem map_at (f : Int → Int) (ks : List Int) (i : Nat) (h : i < ks.length) : rd ((ks.take i).map f ++ ks.drop i) (i : Int) = ks[i] := by
 have hl : ((ks.take i).map f).length = i := by rw [List.length_map, List.length_take]; omega
 unfold rd
 rw [Int.toNat_natCast, List.getD_eq_getElem?_getD, List.getElem?_append_right (by omega), hl, Nat.sub_self, List.getElem?_drop, Nat.add_zero, List.getElem?_eq_getElem h]; rfl
theorem below_row {w W W' : World} {row : Option Nat} (h : W.grownBy W' row) (hb : ∀ b, row = some b → w.heap.size ≤ b) (hw : w.heap.size ≤ W.heap.size) : Below w.heap.size W W' :=
  ⟨h.os, h.tape, h.output, h.size, fun k hk => h.block k (by omega) (fun e => by have := hb k e.symm; omega)⟩
set_option maxHeartbeats 8000000 in
set_option maxRecDepth 100000 in
theorem cut_is (A0 : Option Addr) (c0 : Nat) (l : List Nd) (root at_ : Int) (s1 : List Bool) (xs : List Int) (s3 : Int) (w : World) (hr : Kd.C k45 w A0 l.length l) (hl : l.length ≤ 4096) (hz : ∀ n ∈ l, n.f2.length ≤ 1099511627776) (hk : ∀ n ∈ l, ∀ k ∈ n.f2, 0 ≤ k ∧ k < (l.length : Int))
  (h0 : 0 ≤ at_) (h1 : at_ < (l.length : Int)) (h : goO l (l.length + 1) at_ 1 (List.replicate l.length false, [], 0) = some (s1, xs, s3)) (hxl : xs.length ≤ 4096) (hin : ∀ x ∈ xs, 0 ≤ x ∧ x < (l.length : Int)) :
  Calls Tryz.prog 39 #[.agg #[.slice A0 l.length c0, .int .i64 root], .int .i64 at_] w fun e w' => ∃ v, e = .returned (.agg #[v, .int .i64 0]) ∧ Kd.S k45 45 w' w.heap.size (fun _ => True) v (cutL l (plO (plG xs 0 (fun _ => none))) xs) ∧ Below w.heap.size w w' := by
 have HR := Lib.hid hr
 have HZ := Lib.hid hz
 have HKK := Lib.hid hk
 have HS := Lib.hid h
 have HIN := Lib.hid hin
 clear hr hz hk h hin
 obtain ⟨PF, hPF⟩ : ∃ PF, plG xs 0 (fun _ => none) = PF := ⟨_, rfl⟩
 rw [hPF]
 have HPF := Lib.hid hPF
 clear hPF
 have hmm := @run_makeMap Tryz.prog
 go_enter Tryz.func39, Tryz.ntmps39
 go_wp2_with (first | ((with_reducible refine gate_dst (N := 2) rfl ?_); refine box_event ?hg (N := 2) ?hd (cs := #[.slice A0 l.length c0, .int .i64 root]) (t := 24) ?hr ?_; (case hd => rfl); (case hg => rfl); (case hr => first | (go_simp; done) | (go_simp; rfl)); intro gb hgb w1 hb hb1; have HG := Lib.hid hb; have HB := Lib.hid hb1; have HE := Lib.hid hgb; clear hgb hb hb1; have x0 := cell_al (o := .cells #[.slice none 0 0, .int .i64 0] 24) ((blk_cell HG.out 0).trans rfl); have x1 := cell_al (o := .cells #[.slice none 0 0, .int .i64 0] 24) ((blk_cell HG.out 1).trans rfl)) | (go_at_call 36; refine (walk_is A0 c0 l root at_ (s1, xs, s3) (l.length + 1) _ (Kd.C_below HR.out (below_alloc HB.out _)) hl HZ.out HKK.out h0 h1 HS.out (by omega)).mono ?_; rintro e w3 ⟨wb, mb, cp, vo, rfl, hW⟩; obtain ⟨A5, c5, ev⟩ := Kd.R_slice hW.out; subst ev; obtain ⟨u0, u1, u2, u3, u4⟩ := hW.cells; have HV3 := Lib.hid (Kd.R_reads' hW.out).2.2; have HB3 := Lib.hid ((below_alloc HB.out (.cells #[.slice none 0 0, .int .i64 0] 24)).trans (hW.bel.mono (below_alloc HB.out _).size)); have HG3 := Lib.hid (blk_below (blk_alloc HG.out (.cells #[.slice none 0 0, .int .i64 0] 24)) hW.bel); have HS3 := Lib.hid (blk_below (blk_new w1 (.cells #[.slice none 0 0, .int .i64 0] 24)) hW.bel); clear hW))
 have HM0 := Lib.hid (show MapIs Tryz.prog 3 (Value.int .i64) (w3.alloc (.map #[] 0)) w3.heap.size 0 (plV (fun _ => none)) from made w3 Tryz.prog 3 intV_inj)
 have HB0 := Lib.hid (below_alloc (Below.refl w3.heap.size w3) (.map #[] 0))
 generalize World.alloc _ _ = w4 at HM0 HB0 ⊢
 clear x0 x1 u0 u1 u2 u3 u4 hmm
 go_loopw [24] (fun v wr => ∃ (j : Nat) (F : Int → Option Int), v = .int .i64 j ∧ j ≤ xs.length ∧ Hid (plG (xs.drop j) j F = PF) ∧ Hid (Below w3.heap.size w3 wr) ∧ Hid (MapIs Tryz.prog 3 (Value.int .i64) wr w3.heap.size j (plV F))) (fun v _ => xs.length - (intOf v).toNat)
 case atStart => exact ⟨0, _, rfl, by omega, HPF, HB0, HM0⟩
 case round =>
  clear HB0 HM0 HPF
  obtain ⟨j, F, rfl, hj, HFR, HBR, HMR⟩ := hrel
  by_cases hlj : j < xs.length
  ·
   have hc : decide ((j : Int) < (xs.length : Int)) = true := decide_eq_true (by omega)
   obtain ⟨cd, eA, hx0⟩ := Kd.at_int (Kd.C_below HV3.out HBR.out) (j : Int) (by omega) (by omega)
   subst eA
   rw [rd_at xs j hlj, Int.toNat_natCast] at hx0
   obtain ⟨k0, k1⟩ := HIN.out xs[j] (List.getElem_mem _)
   have hst := HFR.out
   rw [List.drop_eq_getElem_cons hlj, plG] at hst
   have HLJ := Lib.hid hlj
   have p5 : (0 ≤ (j : Int)) = True := eq_true (by omega)
   have p6 : ((j : Int) < (xs.length : Int)) = True := eq_true (by omega)
   generalize xs[j] = k at *
   have HFN := Lib.hid hst
   obtain ⟨w9, hrun, hm9, hg9⟩ := HMR.out.put int_law Tryz.underlying75 (by unfold maxLen; omega) (int_key k (by omega)) (.int .i64 (j : Int))
   rw [plV_put] at hm9
   have HM9 := Lib.hid hm9
   have HB9 := Lib.hid (HBR.out.trans (below_of_grown hg9 (Nat.le_refl _) HBR.out.size))
   clear hst HFR hm9 hg9
   go_wp2_with (fail)
   go_roundw
   case rel => exact ⟨j + 1, _, by go_num, HLJ.out, HFN, HB9, HM9⟩
   case measure => have := HLJ.out; simp [intOf]; omega
  have hc : decide ((j : Int) < (xs.length : Int)) = false := decide_eq_false (by omega)
  have hje : j = xs.length := by omega
  have hFe : F = PF := by
   have h := HFR.out
   rw [List.drop_of_length_le (by omega), plG] at h
   exact h
  have HFE := Lib.hid hFe
  clear hFe hje HFR
  go_wp2_with (fail)
  have HO0 := Lib.hid (blk_new wr (.cells #[.slice none 0 0, .int .i64 0] 24))
  have HB0 := Lib.hid (below_alloc (Below.refl wr.heap.size wr) (.cells #[.slice none 0 0, .int .i64 0] 24))
  generalize World.alloc _ _ = w6 at HO0 HB0 ⊢
  generalize wr = W1 at *
  have HM1 := Lib.hid (show MapIs Tryz.prog 3 (Value.int .i64) W1 w3.heap.size j (plV PF) from by rw [← HFE.out]; exact HMR.out)
  have hlts : gb < w3.heap.size ∧ w1.heap.size < w3.heap.size := ⟨blk_lt HG3.out, blk_lt HS3.out⟩
  clear HFE HMR
  go_loopw [35] (fun v wr => ∃ (j : Nat) (v2 : Value), v = .int .i64 j ∧ j ≤ xs.length ∧ Hid (Below W1.heap.size W1 wr) ∧ Hid (wr.heap[W1.heap.size]? = some (.cells #[v2, .int .i64 0] 24)) ∧ Hid (Kd.S k45 45 wr (W1.heap.size + 1) (fun _ => True) v2 (cutL l (plO PF) (xs.take j)))) (fun v _ => xs.length - (intOf v).toNat)
  case atStart => exact ⟨0, _, rfl, by omega, HB0, HO0, Lib.hid (Kd.S_nil _ _ _ _ _)⟩
  case round =>
   clear HB0 HO0
   obtain ⟨i, v2, rfl, hi, HBR2, HOR, HSR⟩ := hrel
   have HB3R := Lib.hid (HBR.out.trans (HBR2.out.mono HBR.out.size))
   have HBW := Lib.hid (HB3.out.trans (HB3R.out.mono HB3.out.size))
   by_cases hli : i < xs.length
   rotate_left
   ·
    have hc2 : decide ((i : Int) < (xs.length : Int)) = false := decide_eq_false (by omega)
    have HSR2 := Lib.hid (show Kd.S k45 45 wr (W1.heap.size + 1) (fun _ => True) v2 (cutL l (plO PF) xs) from by have h := HSR.out; rw [List.take_of_length_le (by omega)] at h; exact h)
    clear HSR
    obtain ⟨A8, c8, ev⟩ := Kd.S_slice HSR2.out
    obtain ⟨n8, hn8⟩ : ∃ n, (cutL l (plO PF) xs).length = n := ⟨_, rfl⟩
    rw [hn8] at ev
    subst ev
    clear hn8
    have o0 := (blk_cell HOR.out 0).trans rfl
    have o1 := (blk_cell HOR.out 1).trans rfl
    have HS4 := Lib.hid (blk_below HS3.out HB3R.out)
    have s0 := (blk_cell HS4.out 0).trans rfl
    have s1 := (blk_cell HS4.out 1).trans rfl
    have f0 := blk_frozen HS4.out 0
    have f1 := blk_frozen HS4.out 1
    go_wp2_with (fail)
    have hsz := HB.out.size
    have hws : w3.heap.size ≤ W1.heap.size := HBR.out.size
    refine bodyPost_ret (results_cell_row rfl _ _ w1.heap.size 24 #[.slice A8 n8 c8, .int .i64 0] (0, 0) _ rfl (blk_put2 HS4.out _ _) Tryz.underlying24 rfl (by kernel_rfl)) rfl ?_
    refine ⟨.slice A8 n8 c8, by first | done | rfl, ?_, below_put2 HBW.out hsz _ _⟩
    have hB : Kd.S k45 45 wr (W1.heap.size + 1) (fun k => k ≠ w1.heap.size) (.slice A8 n8 c8) (cutL l (plO PF) xs) := Kd.S_mono (Kd.S_bound HSR2.out) (fun k hk => (show k ≠ w1.heap.size by have := hk.2.1; omega))
    exact Kd.S_lower (Kd.S_mono (Kd.S_far (p := ⟨w1.heap.size, 1, none⟩) (Kd.S_far (p := ⟨w1.heap.size, 0, none⟩) hB (fun k hk => hk) _) (fun k hk => hk) _) (fun _ _ => trivial)) (by have := HB3.out.size; omega)
   have hc2 : decide ((i : Int) < (xs.length : Int)) = true := decide_eq_true (by omega)
   obtain ⟨cd, eA, hx0⟩ := Kd.at_int (Kd.C_below HV3.out HB3R.out) (i : Int) (by omega) (by omega)
   subst eA
   rw [rd_at xs i hli, Int.toNat_natCast] at hx0
   obtain ⟨k0, k1⟩ := HIN.out xs[i] (List.getElem_mem _)
   have htk : xs.take (i + 1) = xs.take i ++ [xs[i]] := by rw [List.take_add_one, List.getElem?_eq_getElem hli]; rfl
   have HTK := Lib.hid htk
   have HLI := Lib.hid hli
   have p5 : (0 ≤ (i : Int)) = True := eq_true (by omega)
   have p6 : ((i : Int) < (xs.length : Int)) = True := eq_true (by omega)
   have hmem := rd_mem l xs[i] k0 k1
   obtain ⟨bd, A2, c2, eA, g0, g1, g2, hc2x, hC⟩ := at_T45 HR.out xs[i] k0 k1
   subst eA
   have g0 := (HBW.out.cell (World.block_lt_of_cell? w _ g0)).trans g0
   have g1 := (HBW.out.cell (World.block_lt_of_cell? w _ g1)).trans g1
   have g2 := (HBW.out.cell (World.block_lt_of_cell? w _ g2)).trans g2
   have hkz := HZ.out _ hmem
   have hkk := HKK.out _ hmem
   have HCK := Lib.hid (Kd.C_below hC HBW.out)
   obtain ⟨ns, hns⟩ : ∃ ns, cutL l (plO PF) (xs.take i) = ns := ⟨_, rfl⟩
   have hns2 : cutL l (plO PF) (xs.take (i + 1)) = ns ++ [⟨(rd_T45 l xs[i]).f0, (rd_T45 l xs[i]).f1, (rd_T45 l xs[i]).f2.map (plO PF)⟩] := by rw [htk, ← hns]; unfold cutL; rw [List.map_append]; rfl
   have HNL : Hid (ns.length ≤ 4096) := Lib.hid (by rw [← hns]; simp [cutL]; omega)
   have HNS := Lib.hid hns2
   rw [hns] at HSR
   clear hmem hC htk HTK hns hns2
   generalize rd_T45 l xs[i] = nd at *
   generalize xs[i] = at2 at *
   obtain ⟨kd, tx, kids⟩ := nd
   dsimp only at g0 g1 g2 hc2x hkz hkk HCK HNS
   have p7 : (0 ≤ at2) = True := eq_true k0
   have p8 : (at2 < (l.length : Int)) = True := eq_true k1
   have HG4 := Lib.hid (blk_below HG3.out HB3R.out)
   have y0 := (blk_cell HG4.out 0).trans rfl
   have HKI := Lib.hid hkk
   have m2 := cell_al (o := .cells #[.int .i64 kd, .string tx, .slice A2 kids.length c2] 45) g2
   have b2 : (wr.alloc (.cells #[.int .i64 kd, .string tx, .slice A2 kids.length c2] 45)).cell? ⟨wr.heap.size, 2, none⟩ = some (.slice A2 kids.length c2) := (blk_cell (blk_new wr _) 2).trans rfl
   have HCL := Lib.hid (clone_is A2 c2 kids _ (Kd.C_below HCK.out (below_alloc (Below.refl _ _) (.cells #[.int .i64 kd, .string tx, .slice A2 kids.length c2] 45))) hkz)
   clear hkk
   go_wp2_with (first | (go_at_call 58; refine HCL.out.mono ?_; rintro e w7 ⟨v7, rfl, hr7, hb7⟩; obtain ⟨AK, cK, ev⟩ := Kd.R_slice hr7; subst ev; have HCK7 := Lib.hid (ck_start HBR2.out HOR.out HSR.out (u := .slice A2 kids.length c2) hb7 hr7); have HN7 := Lib.hid ((hb7.block wr.heap.size (by simp)).trans (blk_new wr (.cells #[.int .i64 kd, .string tx, .slice A2 kids.length c2] 45))); clear hr7 hb7; have n0 := (blk_cell HN7.out 0).trans rfl; have n1 := (blk_cell HN7.out 1).trans rfl; have n2 := (blk_cell HN7.out 2).trans rfl; have nf := blk_frozen HN7.out 2))
   generalize World.setCell _ _ _ = w8 at HCK7 ⊢
   generalize wr.heap.size = N0 at HCK7 ⊢
   clear HCL HCK HN7 g0 g1 g2 m2 b2 y0 n0 n1 n2 nf HG4 HBW HB3R HSR HOR HBR2 hx0 hc2 hc2x
   go_loopw [51] (fun v wr => ∃ (q : Nat), v = .int .i64 q ∧ q ≤ kids.length ∧ Hid (Ck W1 N0 v2 ns kd tx (.slice AK kids.length cK) ((kids.take q).map (plO PF) ++ kids.drop q) wr)) (fun v _ => kids.length - (intOf v).toNat)
   case atStart => exact ⟨0, rfl, by omega, Lib.hid (by simpa using HCK7.out)⟩
   case round =>
    clear HCK7
    obtain ⟨q, rfl, hq, HCQ⟩ := hrel
    obtain ⟨d0, d1, d2, d3, d4, d5⟩ := HCQ.out.cells
    by_cases hlq : q < kids.length
    ·
     have hc3 : decide ((q : Int) < (kids.length : Int)) = true := decide_eq_true (by omega)
     have hlen : ((kids.take q).map (plO PF) ++ kids.drop q).length = kids.length := by rw [List.length_append, List.length_map, List.length_take, List.length_drop]; omega
     obtain ⟨gk, cap, ev, _, _, _⟩ := Kd.R_form HCQ.out.r (by rw [hlen]; omega)
     injection ev with e1 e2 e3
     subst e1 e3
     obtain ⟨h5, h6⟩ := Kd.R_celln (0 : Int) HCQ.out.r (q : Int) (by omega) (by omega)
     rw [show rdOf (0 : Int) ((kids.take q).map (plO PF) ++ kids.drop q) (q : Int) = kids[q] from map_at _ kids q hlq] at h5
     rw [Int.toNat_natCast] at h5 h6
     obtain ⟨k2, k3⟩ := HKI.out kids[q] (List.getElem_mem _)
     have HCN := Lib.hid (show Ck W1 N0 v2 ns kd tx (.slice (some ⟨gk, 0, none⟩) kids.length cK) ((kids.take (q + 1)).map (plO PF) ++ kids.drop (q + 1)) (wr.setCell ⟨gk, q, none⟩ (.int .i64 (plO PF kids[q]))) from by rw [← map_step (plO PF) kids q hlq]; exact HCQ.out.put (q : Int) (plO PF kids[q]))
     have hlk : (Instr.lookup 75 (.map (some w3.heap.size)) (.int .i64 kids[q]) false).run Tryz.prog wr = .ok (.int .i64 (plO PF kids[q])) wr := by
      rw [(HM1.out.of_below HCQ.out.bel).look int_law Tryz.underlying75 (zero_int wr) (int_key kids[q] (by omega)), plV_get]
     have HLQ := Lib.hid hlq
     have p9 : (0 ≤ (q : Int)) = True := eq_true (by omega)
     have p10 : ((q : Int) < (kids.length : Int)) = True := eq_true (by omega)
     clear hlen e2 HCQ
     generalize kids[q] = kq at *
     go_wp2_with (fail)
     go_roundw
     case rel => exact ⟨q + 1, by go_num, HLQ.out, HCN⟩
     case measure => have := HLQ.out; simp [intOf]; omega
    have hc3 : decide ((q : Int) < (kids.length : Int)) = false := decide_eq_false (by omega)
    have HCE := Lib.hid (show Ck W1 N0 v2 ns kd tx (.slice AK kids.length cK) (kids.map (plO PF)) wr from by have h := HCQ.out; rw [List.drop_of_length_le (by omega), List.take_of_length_le (by omega), List.append_nil] at h; exact h)
    have hlt := HCE.out.lt
    have HMN := Lib.hid (show k45.M wr (W1.heap.size + 1) (fun k => N0 + 1 ≤ k) ⟨kd, tx, kids.map (plO PF)⟩ [.int .i64 kd, .string tx, .slice AK kids.length cK] from k45_mkM _ _ _ ⟨kd, tx, kids.map (plO PF)⟩ (Kd.R_lower (Kd.R_mono (Kd.R_bound HCE.out.r) (fun k hk => hk.2.1)) (by omega)))
    have HOK : Hid (∀ k, N0 + 1 ≤ k → True ∧ some k ≠ v2.ownBlock) := Lib.hid (fun k hk => ⟨trivial, fun e => by have := (Kd.S_R HCE.out.s).1 k e.symm; omega⟩)
    have HSE := Lib.hid (Kd.S_mono HCE.out.s (ok' := fun k => True ∧ ¬ (N0 + 1 ≤ k)) (fun k hk => ⟨trivial, by omega⟩))
    have HLE : Hid (W1.heap.size + 1 ≤ wr.heap.size) := Lib.hid (by have := blk_lt HCE.out.o; omega)
    have HLN : Hid ((ns.length + 1) * 48 ≤ 140737488355328) := Lib.hid (by have := HNL.out; omega)
    clear HCQ hlt
    go_wp2_with (first | (at_builtin; refine Kd.S_append k45 (w0 := wr) (W1.heap.size + 1) rfl (.tmp 65) (.tmp 67) 22 45 (.agg #[.int .i64 0, .string ⟨#[]⟩, .slice none 0 0]) 48 rfl Tryz.underlying22 info_node rfl (by decide) (by omega) v2 ns ⟨kd, tx, kids.map (plO PF)⟩ [.int .i64 kd, .string tx, .slice AK kids.length cK] (fun _ => True) (fun k => N0 + 1 ≤ k) rfl (by first | (go_simp; done) | (go_simp; rfl)) HMN.out HOK.out (fun _ _ => trivial) HSE.out (Below.refl _ _) HLE.out HLN.out ?_; intro v8 w8 ho hb hg hat; obtain ⟨A8, c8, ev⟩ := Kd.S_slice ho; obtain ⟨n8, hn8⟩ : ∃ n, (ns ++ [(⟨kd, tx, kids.map (plO PF)⟩ : Nd)]).length = n := ⟨_, rfl⟩; rw [hn8] at ev; subst ev; clear hn8; have HS8 := Lib.hid ho; have HB8 := Lib.hid (HCE.out.bel.trans (below_row (w := W1) hg (fun k e => by have := (Kd.S_base HCE.out.s) k e; omega) HCE.out.bel.size)); have HO8 := Lib.hid ((hg.block W1.heap.size (blk_lt HCE.out.o) (fun e => by have := (Kd.S_base HCE.out.s) _ e.symm; omega)).trans HCE.out.o); clear ho hb hg hat; have o0 := (blk_cell HO8.out 0).trans rfl; have of := blk_frozen HO8.out 0))
    have HSF := Lib.hid (Kd.S_mono (Kd.S_far (p := ⟨W1.heap.size, 0, none⟩) (Kd.S_mono (Kd.S_bound HS8.out) (fun k hk => (show k ≠ W1.heap.size by have := hk.2.1; omega))) (fun k hk => hk) (.slice A8 n8 c8)) (fun _ _ => trivial : ∀ k, _ → True))
    have HBF := Lib.hid (HB8.out.setCell (p := ⟨W1.heap.size, 0, none⟩) (Nat.le_refl _) (.slice A8 n8 c8))
    have HOF := Lib.hid (show (w8.setCell ⟨W1.heap.size, 0, none⟩ (.slice A8 n8 c8)).heap[W1.heap.size]? = some (.cells #[.slice A8 n8 c8, .int .i64 0] 24) from by simpa using blk_set HO8.out 0 (.slice A8 n8 c8))
    go_roundw
    case rel => exact ⟨i + 1, _, by go_num, HLI.out, HBF, HOF, Lib.hid (by rw [HNS.out]; exact HSF.out)⟩
    case measure => have := HLI.out; simp [intOf]; omega
def graph_Canon.f (l : List Nd) (root : Int) : Option (List Nd × Int × Int) :=
 if sizesB l = true then
  if rightB l root = true then (goO l (l.length + 1) root 1 (List.replicate l.length false, [], 0)).map (fun s => (cutL l (plO (plG s.2.1 0 (fun _ => none))) s.2.1, 0, 0)) else some ([], 0, 1)
 else none
set_option maxHeartbeats 8000000 in
set_option maxRecDepth 100000 in
theorem graph_Canon.calls (A0 : Option Addr) (c0 : Nat) (l : List Nd) (root : Int) (r1 : List Nd) (r2 r3 : Int) (w : World) (hr0 : Kd.C k45 w A0 l.length l) (hc0 : l.length ≤ c0) (hG : Glob.G w) (h : graph_Canon.f l root = some (r1, r2, r3)) :
  Calls Tryz.prog 23 #[.agg #[.slice A0 l.length c0, .int .i64 root]] w fun e w' => ∃ v : Value, e = .returned (.tuple #[.agg #[v, .int .i64 r2], .int .i64 r3]) ∧ Kd.S k45 45 w' w.heap.size (fun _ => True) v r1 ∧ Below w.heap.size w w' := by
 unfold graph_Canon.f at h
 by_cases hs : sizesB l = true
 rotate_left
 · rw [if_neg hs] at h; cases h
 rw [if_pos hs] at h
 have HR := Lib.hid hr0
 obtain ⟨rt, hrt⟩ : ∃ b, rightB l root = b := ⟨_, rfl⟩
 have HRT := Lib.hid (show graph_Right.f l root = some rt by unfold graph_Right.f; rw [if_pos hs, hrt])
 rw [hrt] at h
 clear hr0
 cases rt with
 | false =>
  rw [if_neg Bool.false_ne_true] at h
  simp only [Option.some.injEq, Prod.mk.injEq] at h
  obtain ⟨rfl, rfl, rfl⟩ := h
  clear hs hrt
  go_enter Tryz.func23, Tryz.ntmps23
  go_wp2_with (first | ((with_reducible refine gate_dst (N := 1) rfl ?_); refine box_event ?hg (N := 1) ?hd (cs := #[.slice A0 l.length c0, .int .i64 root]) (t := 24) ?hr ?_; (case hd => rfl); (case hg => rfl); (case hr => first | (go_simp; done) | (go_simp; rfl)); intro gb hgb w1 hb hb1; have HG := Lib.hid hb; have HB := Lib.hid hb1; clear hgb hb hb1; have x0 := cell_al (o := .cells #[.slice none 0 0, .int .i64 0] 24) ((blk_cell HG.out 0).trans rfl); have x1 := cell_al (o := .cells #[.slice none 0 0, .int .i64 0] 24) ((blk_cell HG.out 1).trans rfl)) | (go_at_call 35; refine (graph_Right.calls A0 c0 l root _ _ (Kd.C_below HR.out (below_alloc HB.out _)) hc0 (hG.below (below_alloc HB.out _)) HRT.out).mono ?_; rintro e w2 ⟨rfl, hb2⟩; have HB2 := Lib.hid ((below_alloc HB.out (.cells #[.slice none 0 0, .int .i64 0] 24)).trans (hb2.mono (below_alloc HB.out _).size)); have HG2 := Lib.hid (blk_below (blk_alloc HG.out (.cells #[.slice none 0 0, .int .i64 0] 24)) hb2); have HS2 := Lib.hid (blk_below (blk_new w1 (.cells #[.slice none 0 0, .int .i64 0] 24)) hb2); clear hb2 x0 x1; have x0 := (blk_cell HG2.out 0).trans rfl; have x1 := (blk_cell HG2.out 1).trans rfl; have s0 := (blk_cell HS2.out 0).trans rfl; have s1_ := (blk_cell HS2.out 1).trans rfl; have f0 := blk_frozen HS2.out 0; have f1 := blk_frozen HS2.out 1))
  have HS1 := HB.out.size
  refine bodyPost_ret (results_ct rfl _ _ w1.heap.size 24 #[.slice none 0 0, .int .i64 0] (0, 0) _ rfl (blk_put2 HS2.out _ _) Tryz.underlying24 rfl (by kernel_rfl)) rfl ?_
  exact ⟨.slice none 0 0, by first | done | rfl, Kd.S_nil _ _ _ _ _, below_put2 HB2.out HS1 _ _⟩
 | true =>
  rw [if_pos rfl] at h
  have hg := (right_iff l root hs).1 hrt
  obtain ⟨s, hs1, hs2⟩ := Option.map_eq_some_iff.1 h
  have hkin : Kin l := fun n hn => (hg.node hn).range
  obtain ⟨s', xs', g1, g2, g3, _, _⟩ := go_some l hkin (l.length + 1) root 1 _ (go_start l.length) (by simp) hg.r0 hg.r1
  rw [hs1] at g1
  have es := Option.some.inj g1
  subst es
  obtain ⟨s1, xs, s3⟩ := s
  dsimp only at hs2
  simp only [Prod.mk.injEq] at hs2
  obtain ⟨rfl, rfl, rfl⟩ := hs2
  have HS := Lib.hid hs1
  have HGG := Lib.hid hg
  have HZ := Lib.hid (show ∀ n ∈ l, n.f2.length ≤ 1099511627776 from fun n hn => (sizes_iff hs n hn).2)
  have HXL := Lib.hid (show xs.length ≤ 4096 from Nat.le_trans g2.le hg.le)
  have HIN := Lib.hid (show ∀ x ∈ xs, 0 ≤ x ∧ x < (l.length : Int) from g2.rng)
  clear h hs hs1 hrt hg hkin g1 g2 g3
  go_enter Tryz.func23, Tryz.ntmps23
  go_wp2_with (first | ((with_reducible refine gate_dst (N := 1) rfl ?_); refine box_event ?hg (N := 1) ?hd (cs := #[.slice A0 l.length c0, .int .i64 root]) (t := 24) ?hr ?_; (case hd => rfl); (case hg => rfl); (case hr => first | (go_simp; done) | (go_simp; rfl)); intro gb hgb w1 hb hb1; have HG := Lib.hid hb; have HB := Lib.hid hb1; clear hgb hb hb1; have x0 := cell_al (o := .cells #[.slice none 0 0, .int .i64 0] 24) ((blk_cell HG.out 0).trans rfl); have x1 := cell_al (o := .cells #[.slice none 0 0, .int .i64 0] 24) ((blk_cell HG.out 1).trans rfl)) | (go_at_call 35; refine (graph_Right.calls A0 c0 l root _ _ (Kd.C_below HR.out (below_alloc HB.out _)) hc0 (hG.below (below_alloc HB.out _)) HRT.out).mono ?_; rintro e w2 ⟨rfl, hb2⟩; have HB2 := Lib.hid ((below_alloc HB.out (.cells #[.slice none 0 0, .int .i64 0] 24)).trans (hb2.mono (below_alloc HB.out _).size)); have HG2 := Lib.hid (blk_below (blk_alloc HG.out (.cells #[.slice none 0 0, .int .i64 0] 24)) hb2); have HS2 := Lib.hid (blk_below (blk_new w1 (.cells #[.slice none 0 0, .int .i64 0] 24)) hb2); clear hb2 x0 x1; have x0 := (blk_cell HG2.out 0).trans rfl; have x1 := (blk_cell HG2.out 1).trans rfl; have s0 := (blk_cell HS2.out 0).trans rfl; have s1_ := (blk_cell HS2.out 1).trans rfl; have f0 := blk_frozen HS2.out 0; have f1 := blk_frozen HS2.out 1) | (go_at_call 39; refine (cut_is A0 c0 l root root s1 xs s3 _ (Kd.C_below HR.out HB2.out) HGG.out.le HZ.out (fun n hn k hk => (HGG.out.node hn).range k hk) HGG.out.r0 HGG.out.r1 HS.out HXL.out HIN.out).mono ?_; rintro e w3 ⟨v3, rfl, hr3, hb3⟩; obtain ⟨A8, c8, ev⟩ := Kd.S_slice hr3; obtain ⟨n8, hn8⟩ : ∃ n, (cutL l (plO (plG xs 0 (fun _ => none))) xs).length = n := ⟨_, rfl⟩; rw [hn8] at ev; subst ev; clear hn8; have HR3 := Lib.hid hr3; have HB3 := Lib.hid (HB2.out.trans (hb3.mono HB2.out.size)); have HS3 := Lib.hid (blk_below HS2.out hb3); clear hr3 hb3 x0 x1 s0 s1_ f0 f1; have s0 := (blk_cell HS3.out 0).trans rfl; have s1_ := (blk_cell HS3.out 1).trans rfl; have f0 := blk_frozen HS3.out 0; have f1 := blk_frozen HS3.out 1))
  have HS1 := HB.out.size
  refine bodyPost_ret (results_ct rfl _ _ w1.heap.size 24 #[.slice A8 n8 c8, .int .i64 0] (0, 0) _ rfl (blk_put2 HS3.out _ _) Tryz.underlying24 rfl (by kernel_rfl)) rfl ?_
  refine ⟨.slice A8 n8 c8, by first | done | rfl, ?_, below_put2 HB3.out HS1 _ _⟩
  have hlt2 := blk_lt HS2.out
  have hB : Kd.S k45 45 w3 w2.heap.size (fun k => k ≠ w1.heap.size) (.slice A8 n8 c8) (cutL l (plO (plG xs 0 (fun _ => none))) xs) := Kd.S_mono (Kd.S_bound HR3.out) (fun k hk => (show k ≠ w1.heap.size by have := hk.2.1; omega))
  exact Kd.S_lower (Kd.S_mono (Kd.S_far (p := ⟨w1.heap.size, 1, none⟩) (Kd.S_far (p := ⟨w1.heap.size, 0, none⟩) hB (fun k hk => hk) _) (fun k hk => hk) _) (fun _ _ => trivial)) (by have := HB2.out.size; omega)
end Go.Proofs.YtnjcpoojgmpmeaaGreatDoor.Plug
