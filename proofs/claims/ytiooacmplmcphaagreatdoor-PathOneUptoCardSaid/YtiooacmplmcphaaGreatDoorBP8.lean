/- Texts that stand behind one another, laid into one: what this claim needs of them. -/
import Derived.Test.YtiooacmplmcphaaGreatDoorBP4
import Derived.Test.YtiooacmplmcphaaGreatDoorBP0
import Derived.Test.YtiooacmplmcphaaGreatDoorBP7
namespace Go.Proofs.YtiooacmplmcphaaGreatDoor.Pure
open RowKit YtiooacmplmcphaaGreatDoor.PX YtiooacmplmcphaaGreatDoor.Plug YtiooacmplmcphaaGreatDoor.Graphs YtiooacmplmcphaaGreatDoor.Paths YtiooacmplmcphaaGreatDoorW.PrintWords YtiooacmplmcphaaGreatDoorW.PrintLast
theorem one_l0 (l : List Nd) (root : Int) (x0 : ByteArray) (x1 : Int) (x2 : Bool) (kd : Int) (tt : ByteArray) (kids : List Int) (hk : kids.length ≤ 1099511627776) (he : kids.length % 2 = 0) (hr : ∀ k ∈ kids, 0 ≤ k ∧ k < (l.length : Int)) (ra rb : Int) :
  ∀ (d i K : Nat), kids.length ≤ i + 2 * d → i ≤ kids.length → i % 2 = 0 → d + 1 ≤ K → (match firstF l (kids.drop i) (4, x0) with | some p => ra = p.2 ∧ rb = 0 | none => rb = 6) → grommetlaw16_PathOne.l0 K ra rb (i : Int) l root x0 x1 x2 kd tt kids = some true
 | d, i, K, hd, hi, h2, hK, hm => by
  obtain ⟨K, rfl⟩ : ∃ k, K = k + 1 := ⟨K - 1, by omega⟩
  rw [grommetlaw16_PathOne.l0, w1 i (by omega)]
  by_cases hlt : i + 1 < kids.length
  rotate_left
  ·
   rw [if_neg (by omega)]
   have h3 : kids.drop i = [] := List.drop_of_length_le (by omega)
   rw [h3] at hm
   have hm2 : rb = 6 := hm
   rw [if_pos hm2, alive16]; rfl
  have hdr : kids.drop i = kids[i] :: kids[i + 1] :: kids.drop (i + 2) := by rw [List.drop_eq_getElem_cons (by omega), List.drop_eq_getElem_cons (by omega)]
  obtain ⟨k0, k1⟩ := hr kids[i] (List.getElem_mem _)
  have e1 : rd kids (i : Int) = kids[i] := rd_at kids i (by omega)
  have e2 : rd kids ((i + 1 : Nat) : Int) = kids[i + 1] := rd_at kids (i + 1) hlt
  rw [if_pos (by omega), if_pos (by omega), if_pos (by omega), e1, if_pos k0, if_pos k1]
  rw [hdr, firstF] at hm
  have ew : wrap64 ((i : Int) + 2) = ((i + 2 : Nat) : Int) := by unfold wrap64; omega
  rw [ew, e2]
  by_cases c : keyIs l kids[i] = (4, x0)
  ·
   rw [if_pos c] at hm
   obtain ⟨h3, h4⟩ := hm
   have c1 : (rd_T45 l kids[i]).f0 = 4 := (Prod.mk.inj c).1
   have c2 : (rd_T45 l kids[i]).f1 = x0 := (Prod.mk.inj c).2
   rw [if_pos c1, if_pos (by rw [c2]), if_pos h4, if_pos (by omega), if_pos h3, alive16]; rfl
  rw [if_neg c] at hm
  obtain ⟨d, rfl⟩ : ∃ e, d = e + 1 := ⟨d - 1, by omega⟩
  have ih := one_l0 l root x0 x1 x2 kd tt kids hk he hr ra rb d (i + 2) K (by omega) (by omega) (by omega) (by omega) hm
  by_cases c1 : (rd_T45 l kids[i]).f0 = 4
  rotate_left
  · rw [if_neg c1]; exact ih
  have hne : ¬ (rd_T45 l kids[i]).f1.toList = x0.toList := fun h => c (Prod.ext c1 (bytes_eq.1 h))
  rw [if_pos c1, if_neg hne]; exact ih
theorem PathOne (l : List S45) (root : Int) (x0 : ByteArray) (x1 : Int) (x2 : Bool) (_hg : Opened.goodGraph (l, root)) (_hx : Opened.goodStep ⟨x0, x1, x2⟩) (hbk : Opened.bulkGraph (l, root) + Opened.bulkStep ⟨x0, x1, x2⟩ ≤ 1048576) : ∃ K, grommetlaw16_PathOne.f K l root x0 x1 x2 = some true := by
  have hb : Opened.bulkGraph (l, root) = Opened.bulkL Opened.bulkNode l + 2 := rfl
  obtain ⟨hs, hal⟩ := sizes_of l (by omega)
  refine ⟨8000000 + 1, ?_⟩
  obtain ⟨p, hp⟩ := large_of l root (8000000 + 1) (by omega)
  have h1 : grommetlaw16_PathOne.j0 (8000000 + 1) true l root x0 x1 x2 = some true := by
    rw [grommetlaw16_PathOne.j0, if_pos rfl, alive16]; rfl
  have hR : graph_Right.f l root = some (rightB l root) := by unfold graph_Right.f; rw [if_pos hs]
  have h2 : rightB l root = true → grommetlaw16_PathOne.j0 (8000000 + 1) false l root x0 x1 x2 = some true := fun hr => by
    have tA := theirs_of [⟨x0, x1, x2⟩] (by simp) 8000000 (by simp)
    have eA : ([⟨x0, x1, x2⟩] : List Sr).map conv = [⟨x0, x1, x2⟩] := rfl
    rw [eA] at tA
    have hg := (right_iff l root hs).1 hr
    have hm := rd_mem l root hg.r0 hg.r1
    have hn := hg.node hm
    have hFA : path_Format.f [(⟨x0, x1, x2⟩ : S98)] = some (⟨(fmtB [(⟨x0, x1, x2⟩ : S98)]).1.toArray⟩, (fmtB [(⟨x0, x1, x2⟩ : S98)]).2) := rfl
    rw [grommetlaw16_PathOne.j0, if_neg Bool.false_ne_true, tA, Option.bind_some, prog_get l root _ hs 8000000 (by omega), Option.bind_some, Option.bind_some, hFA, Option.bind_some]
    by_cases hf : (fmtB [(⟨x0, x1, x2⟩ : S98)]).2 = 0
    · have hok := (fmtB_ok _ hf).2.1 _ (List.mem_singleton.2 rfl)
      have eG : getG l root [⟨x0, x1, x2⟩] = if (Graphs.stepG l root ⟨x0, x1, x2⟩).2 = 0 then ((Graphs.stepG l root ⟨x0, x1, x2⟩).1, 0) else (0, (Graphs.stepG l root ⟨x0, x1, x2⟩).2) := by
        unfold getG; rw [if_pos hf, if_pos hr]; rfl
      rw [eG]
      cases x2 with
      | true =>
        have e := stepG_idx l root ⟨x0, x1, true⟩ rfl
        dsimp only at e
        have h0 : 0 ≤ x1 := by unfold okStep at hok; simp at hok; exact hok.1
        by_cases k5 : (rd_T45 l root).f0 = 5
        · rw [if_pos k5] at e
          by_cases hx : x1 < ((rd_T45 l root).f2.length : Int)
          · rw [if_pos hx] at e
            rw [e, if_pos (show ((rd (rd_T45 l root).f2 x1, (0 : Int)) : Int × Int).2 = 0 from rfl), if_neg (show ¬ (0 : Int) = 1 by omega), if_pos hg.r0, if_pos hg.r1, if_pos rfl, if_pos k5, if_pos hx, if_pos (show (0 : Int) = 0 from rfl), if_pos h0, if_pos rfl, alive16]; rfl
          · rw [if_neg hx] at e
            rw [e, if_neg (show ¬ (6 : Int) = 0 by omega), if_neg (show ¬ (6 : Int) = 1 by omega), if_pos hg.r0, if_pos hg.r1, if_pos rfl, if_pos k5, if_neg hx, if_pos rfl, alive16]; rfl
        · rw [if_neg k5] at e
          rw [e, if_neg (show ¬ (17 : Int) = 0 by omega), if_neg (show ¬ (17 : Int) = 1 by omega), if_pos hg.r0, if_pos hg.r1, if_pos rfl, if_neg k5, if_pos rfl, alive16]; rfl
      | false =>
        have e : Graphs.stepG l root ⟨x0, x1, false⟩ = if (rd_T45 l root).f0 = 6 then (match firstF l (rd_T45 l root).f2 (4, x0) with | some p => (p.2, (0 : Int)) | none => ((0 : Int), (6 : Int))) else ((0 : Int), (17 : Int)) := by
          unfold Graphs.stepG; rw [if_neg Bool.false_ne_true]; first | done | rfl
        by_cases k6 : (rd_T45 l root).f0 = 6
        · rw [if_pos k6] at e
          have hlp := fun ra rb => one_l0 l root x0 x1 false (rd_T45 l root).f0 (rd_T45 l root).f1 (rd_T45 l root).f2 (sizes_iff hs _ hm).2 (hn.even k6) hn.range ra rb (rd_T45 l root).f2.length 0 8000000 (by omega) (by omega) rfl (by
            have : (rd_T45 l root).f2.length ≤ allL l := by unfold allL; exact sum_mem (f := fun n => n.f2.length) l _ hm
            omega)
          rw [List.drop_zero] at hlp
          cases hv : firstF l (rd_T45 l root).f2 (4, x0) with
          | some q =>
            rw [hv] at e hlp
            dsimp only at e hlp
            rw [e, if_pos (show ((q.2, (0 : Int)) : Int × Int).2 = 0 from rfl), if_neg (show ¬ (0 : Int) = 1 by omega), if_pos hg.r0, if_pos hg.r1, if_neg Bool.false_ne_true, if_pos k6]
            exact hlp q.2 0 ⟨rfl, rfl⟩
          | none =>
            rw [hv] at e hlp
            dsimp only at e hlp
            rw [e, if_neg (show ¬ (6 : Int) = 0 by omega), if_neg (show ¬ (6 : Int) = 1 by omega), if_pos hg.r0, if_pos hg.r1, if_neg Bool.false_ne_true, if_pos k6]
            exact hlp 0 6 rfl
        · rw [if_neg k6] at e
          rw [e, if_neg (show ¬ (17 : Int) = 0 by omega), if_neg (show ¬ (17 : Int) = 1 by omega), if_pos hg.r0, if_pos hg.r1, if_neg Bool.false_ne_true, if_neg k6, if_pos rfl, alive16]; rfl
    · have eG : getG l root [⟨x0, x1, x2⟩] = (0, 1) := by unfold getG; rw [if_neg hf]
      rw [eG, if_pos rfl, if_neg hf, alive16]; rfl
  unfold grommetlaw16_PathOne.f
  rw [hp, Option.bind_some, hR, Option.bind_some]
  cases p with
  | true => rw [if_pos rfl]; exact h1
  | false =>
    rw [if_neg Bool.false_ne_true]
    cases hr : rightB l root with
    | true =>
      rw [if_pos rfl]
      by_cases hl : (x0.size : Int) > 300
      · rw [decide_eq_true hl]; exact h1
      · rw [decide_eq_false hl]; exact h2 hr
    | false => rw [if_neg Bool.false_ne_true]; exact h1
end Go.Proofs.YtiooacmplmcphaaGreatDoor.Pure
