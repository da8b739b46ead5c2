/- Texts that stand behind one another, laid into one: what this claim needs of them. -/
import Derived.Test.YtnjcpoojgmpmeaaGreatDoorBT3
import Derived.Test.YtnjcpoojgmpmeaaGreatDoorBT4
import Derived.Outline
import Derived.Test.YtnjcpoojgmpmeaaGreatDoorBT0
import Derived.Test.YtnjcpoojgmpmeaaGreatDoorBT5
import Derived.Test.YtnjcpoojgmpmeaaGreatDoorBT2
namespace Go.Proofs.YtnjcpoojgmpmeaaGreatDoor.Plug
open Go.Maps RowKit YtnjcpoojgmpmeaaGreatDoor YtnjcpoojgmpmeaaGreatDoor.PX YtnjcpoojgmpmeaaGreatDoor.Utf YtnjcpoojgmpmeaaGreatDoor.Mapk YtnjcpoojgmpmeaaGreatDoor.Graphs YtnjcpoojgmpmeaaGreatDoorW.PrintWords YtnjcpoojgmpmeaaGreatDoorW.PrintLast YtnjcpoojgmpmeaaGreatDoorW.PrintMore
set_option linter.unusedVariables false
set_option linter.unusedSimpArgs false
def refO (l : List Nd) (an : Int → ByteArray) : Nat → Int → Int → List Bool × Bool → Option (Tr × (List Bool × Bool))
 | 0, _, _, _ => none
 | K + 1, at_, deep, s =>
  if rdOf false s.1 at_ = true then some (.mk 7 ⟨#[]⟩ (an at_) [], s)
  else
   ((rd_T45 l at_).f2.foldlM (fun (p : List Tr × (List Bool × Bool)) k => (refO l an K k (deep + 1) p.2).map fun q => (p.1 ++ [q.1], q.2)) ([], (s.1.set at_.toNat true, s.2 || (decide (5 ≤ (rd_T45 l at_).f0) && decide (64 ≤ deep))))).map fun p => (.mk (rd_T45 l at_).f0 (rd_T45 l at_).f1 (an at_) p.1, p.2)
theorem ref_some (l : List Nd) (an : Int → ByteArray) (hk : Kin l) : ∀ (K : Nat) (at_ deep : Int) (m : List Bool) (d : Bool) (L : List Int), GoS l.length (m, L, 0) → l.length < K + L.length → 0 ≤ at_ → at_ < (l.length : Int) →
  ∃ y m' d' ext, refO l an K at_ deep (m, d) = some (y, (m', d')) ∧ GoS l.length (m', L ++ ext, 0) ∧ (d = true → d' = true)
 | 0, at_, deep, m, d, L, hs, hK, _, _ => absurd hs.le (by dsimp only; omega)
 | K + 1, at_, deep, m, d, L, hs, hK, h0, h1 => by
  rw [refO]
  dsimp only
  by_cases hm : rdOf false m at_ = true
  ·
   rw [if_pos hm]
   exact ⟨_, m, d, [], rfl, by simpa using hs, id⟩
  rw [if_neg hm]
  have hs1 := hs.add at_ 0 h0 h1 hm
  dsimp only at hs1
  have hkid := hk _ (rd_mem l at_ h0 h1)
  generalize rd_T45 l at_ = n at *
  have fold : ∀ (kids : List Int) (ts : List Tr) (m1 : List Bool) (d1 : Bool) (L1 : List Int), GoS l.length (m1, L1, 0) → l.length < K + L1.length → (∀ k ∈ kids, 0 ≤ k ∧ k < (l.length : Int)) →
    ∃ us m' d' ext, kids.foldlM (fun (p : List Tr × (List Bool × Bool)) k => (refO l an K k (deep + 1) p.2).map fun q => (p.1 ++ [q.1], q.2)) (ts, (m1, d1)) = some (us, (m', d')) ∧ GoS l.length (m', L1 ++ ext, 0) ∧ (d1 = true → d' = true) := by
   intro kids
   induction kids with
   | nil => intro ts m1 d1 L1 h _ _; exact ⟨ts, m1, d1, [], rfl, by simpa using h, id⟩
   | cons k r ih =>
    intro ts m1 d1 L1 h hl hr
    obtain ⟨y, m2, d2, e2, g1, g2, g3⟩ := ref_some l an hk K k (deep + 1) m1 d1 L1 h hl (hr k (by simp)).1 (hr k (by simp)).2
    obtain ⟨us, m3, d3, e3, f1, f2, f3⟩ := ih (ts ++ [y]) m2 d2 (L1 ++ e2) g2 (by rw [List.length_append]; omega) (fun x hx => hr x (by simp [hx]))
    exact ⟨us, m3, d3, e2 ++ e3, by rw [List.foldlM_cons, g1]; exact f1, by rw [← List.append_assoc]; exact f2, fun h => f3 (g3 h)⟩
  obtain ⟨us, m', d', ext, g1, g2, g3⟩ := fold n.f2 [] (m.set at_.toNat true) (d || (decide (5 ≤ n.f0) && decide (64 ≤ deep))) (L ++ [at_]) hs1 (by simp; omega) hkid
  exact ⟨_, m', d', at_ :: ext, by rw [g1]; rfl, by simpa using g2, fun h => g3 (by rw [h]; rfl)⟩
theorem ref_tree (l : List Nd) (an : Int → ByteArray) (hk : Kin l) (hl : l.length ≤ 4096) (hsc : ∀ n ∈ l, n.f0 ≤ 4 → n.f2 = []) : ∀ (K : Nat) (at_ deep : Int) (L : List Int) (t : LS) (m : List Bool) (x : Tr) (t' : LS), LaS l.length L t → t.2.1 = 0 → GoS l.length (m, L, 0) → l.length < K + L.length → 0 ≤ at_ → at_ < (l.length : Int) → deep ≤ 64 → treeO l an K at_ deep t = some (x, t') →
  ∃ y m' d' ext, refO l an K at_ deep (m, false) = some (y, (m', d')) ∧ GoS l.length (m', L ++ ext, 0) ∧ (t'.2.1 = 0 → y = x ∧ d' = false ∧ LaS l.length (L ++ ext) t') ∧ (t'.2.1 ≠ 0 → d' = true)
 | 0, at_, deep, L, t, m, x, t', hs, _, _, hK, _, _, _, _ => absurd hs.le (by omega)
 | K + 1, at_, deep, L, t, m, x, t', hs, hw, hg, hK, h0, h1, hd, h => by
  rw [treeO] at h
  rw [refO]
  dsimp only
  by_cases hm : t.1 at_ = true
  ·
   rw [if_pos hm] at h
   obtain ⟨e1, e2⟩ := Prod.mk.inj (Option.some.inj h)
   rw [if_pos ((hg.met at_ h0 h1).2 ((hs.met at_).1 hm))]
   refine ⟨_, m, false, [], rfl, by simpa using hg, fun _ => ⟨e1, rfl, by rw [← e2]; simpa using hs⟩, fun hn => absurd (by rw [← e2]; exact hw) hn⟩
  have hmm : ¬ rdOf false m at_ = true := fun z => hm ((hs.met at_).2 ((hg.met at_ h0 h1).1 z))
  rw [if_neg hm, if_neg (by have := hs.le; have := hs.cnt; omega)] at h
  rw [if_neg hmm]
  dsimp only at h
  have hs2 : ∀ w, LaS l.length (L ++ [at_]) (seen t.1 at_, w, t.2.2 + 1) := fun w => hs.add at_ w h0 h1 hm
  have hg1 := hg.add at_ 0 h0 h1 hmm
  dsimp only at hg1
  have hkid := hk _ (rd_mem l at_ h0 h1)
  have hsn := hsc _ (rd_mem l at_ h0 h1)
  generalize rd_T45 l at_ = n at *
  by_cases hb : 5 ≤ n.f0 ∧ deep = 64
  ·
   rw [if_pos hb, if_pos (by decide)] at h
   obtain ⟨e1, e2⟩ := Prod.mk.inj (Option.some.inj h)
   have fold : ∀ (kids : List Int) (ts : List Tr) (m1 : List Bool) (L1 : List Int), GoS l.length (m1, L1, 0) → l.length < K + L1.length → (∀ k ∈ kids, 0 ≤ k ∧ k < (l.length : Int)) →
     ∃ us m' ext, kids.foldlM (fun (p : List Tr × (List Bool × Bool)) k => (refO l an K k (deep + 1) p.2).map fun q => (p.1 ++ [q.1], q.2)) (ts, (m1, true)) = some (us, (m', true)) ∧ GoS l.length (m', L1 ++ ext, 0) := by
    intro kids
    induction kids with
    | nil => intro ts m1 L1 h _ _; exact ⟨ts, m1, [], rfl, by simpa using h⟩
    | cons k r ih =>
     intro ts m1 L1 h hlt hr
     obtain ⟨y, m2, d2, e2, g1, g2, g3⟩ := ref_some l an hk K k (deep + 1) m1 true L1 h hlt (hr k (by simp)).1 (hr k (by simp)).2
     have hd2 := g3 rfl
     subst hd2
     obtain ⟨us, m3, e3, f1, f2⟩ := ih (ts ++ [y]) m2 (L1 ++ e2) g2 (by rw [List.length_append]; omega) (fun x hx => hr x (by simp [hx]))
     exact ⟨us, m3, e2 ++ e3, by rw [List.foldlM_cons, g1]; exact f1, by rw [← List.append_assoc]; exact f2⟩
   obtain ⟨us, m', ext, g1, g2⟩ := fold n.f2 [] (m.set at_.toNat true) (L ++ [at_]) hg1 (by simp; omega) hkid
   have e3 : (false || (decide (5 ≤ n.f0) && decide (64 ≤ deep))) = true := by rw [decide_eq_true hb.1, decide_eq_true (by omega)]; rfl
   rw [e3, g1]
   exact ⟨_, m', true, at_ :: ext, rfl, by simpa using g2, fun hz => absurd hz (by rw [← e2]; show (10 : Int) ≠ 0; decide), fun _ => rfl⟩
  rw [if_neg hb, hw, if_neg (by simp)] at h
  obtain ⟨p, hp1, hp2⟩ := Option.map_eq_some_iff.1 h
  obtain ⟨e1, e2⟩ := Prod.mk.inj hp2
  have e3 : (false || (decide (5 ≤ n.f0) && decide (64 ≤ deep))) = false := by
   by_cases c : 5 ≤ n.f0
   rotate_left
   · rw [decide_eq_false c]; rfl
   rw [decide_eq_true c, decide_eq_false (fun z => hb ⟨c, by omega⟩)]; rfl
  have hdk : n.f2 ≠ [] → deep + 1 ≤ 64 := fun hne => by
   by_cases c : 5 ≤ n.f0
   rotate_left
   · exact absurd (hsn (by omega)) hne
   have : deep ≠ 64 := fun z => hb ⟨c, z⟩
   omega
  rw [e3]
  have stuck : ∀ (kids : List Int) (ts : List Tr) (m1 : List Bool) (L1 : List Int), GoS l.length (m1, L1, 0) → l.length < K + L1.length → (∀ k ∈ kids, 0 ≤ k ∧ k < (l.length : Int)) →
    ∃ us m' ext, kids.foldlM (fun (p : List Tr × (List Bool × Bool)) k => (refO l an K k (deep + 1) p.2).map fun q => (p.1 ++ [q.1], q.2)) (ts, (m1, true)) = some (us, (m', true)) ∧ GoS l.length (m', L1 ++ ext, 0) := by
   intro kids
   induction kids with
   | nil => intro ts m1 L1 h _ _; exact ⟨ts, m1, [], rfl, by simpa using h⟩
   | cons k r ih =>
    intro ts m1 L1 h hlt hr
    obtain ⟨y, m2, d2, e2, g1, g2, g3⟩ := ref_some l an hk K k (deep + 1) m1 true L1 h hlt (hr k (by simp)).1 (hr k (by simp)).2
    have hd2 := g3 rfl
    subst hd2
    obtain ⟨us, m3, e3, f1, f2⟩ := ih (ts ++ [y]) m2 (L1 ++ e2) g2 (by rw [List.length_append]; omega) (fun x hx => hr x (by simp [hx]))
    exact ⟨us, m3, e2 ++ e3, by rw [List.foldlM_cons, g1]; exact f1, by rw [← List.append_assoc]; exact f2⟩
  have keep : ∀ (kids : List Int) (ts : List Tr) (t1 : LS) (p : List Tr × LS), t1.2.1 ≠ 0 → (∀ (k : Int) (s : LS) (x : Tr) (s' : LS), s.2.1 ≠ 0 → treeO l an K k (deep + 1) s = some (x, s') → s'.2.1 ≠ 0) → kids.foldlM (fun (p : List Tr × LS) k => (treeO l an K k (deep + 1) p.2).map fun q => (p.1 ++ [q.1], q.2)) (ts, t1) = some p → p.2.2.1 ≠ 0 := by
   intro kids
   induction kids with
   | nil => intro ts t1 p h1 _ h2; have := Option.some.inj h2; rw [← this]; exact h1
   | cons k r ih =>
    intro ts t1 p h1 hst h2
    rw [List.foldlM_cons] at h2
    obtain ⟨p1, q1, q2⟩ := Option.bind_eq_some_iff.1 h2
    obtain ⟨q, r1, r2⟩ := Option.map_eq_some_iff.1 q1
    subst r2
    exact ih _ _ p (hst k t1 q.1 q.2 h1 r1) hst q2
  have why_ : ∀ (K : Nat) (k deep : Int) (s : LS) (x : Tr) (s' : LS), s.2.1 ≠ 0 → treeO l an K k deep s = some (x, s') → s'.2.1 ≠ 0 := by
   intro K k deep s x s' h1 h2
   cases K with
   | zero => simp [treeO] at h2
   | succ K =>
    rw [treeO] at h2
    split at h2
    ·
     have := (Prod.mk.inj (Option.some.inj h2)).2
     rw [← this]; exact h1
    ·
     split at h2
     · cases h2
     ·
      dsimp only at h2
      have hne : (if 5 ≤ (rd_T45 l k).f0 ∧ deep = 64 then (10 : Int) else s.2.1) ≠ 0 := by
       by_cases c : 5 ≤ (rd_T45 l k).f0 ∧ deep = 64
       · rw [if_pos c]; decide
       rw [if_neg c]; exact h1
      rw [if_pos hne] at h2
      have := (Prod.mk.inj (Option.some.inj h2)).2
      rw [← this]; exact hne
  have fold : ∀ (kids : List Int) (ts : List Tr) (L1 : List Int) (t1 : LS) (m1 : List Bool) (p : List Tr × LS), (kids ≠ [] → deep + 1 ≤ 64) → LaS l.length L1 t1 → t1.2.1 = 0 → GoS l.length (m1, L1, 0) → l.length < K + L1.length → (∀ k ∈ kids, 0 ≤ k ∧ k < (l.length : Int)) → kids.foldlM (fun (p : List Tr × LS) k => (treeO l an K k (deep + 1) p.2).map fun q => (p.1 ++ [q.1], q.2)) (ts, t1) = some p →
    ∃ us m' d' ext, kids.foldlM (fun (p : List Tr × (List Bool × Bool)) k => (refO l an K k (deep + 1) p.2).map fun q => (p.1 ++ [q.1], q.2)) (ts, (m1, false)) = some (us, (m', d')) ∧ GoS l.length (m', L1 ++ ext, 0) ∧ (p.2.2.1 = 0 → us = p.1 ∧ d' = false ∧ LaS l.length (L1 ++ ext) p.2) ∧ (p.2.2.1 ≠ 0 → d' = true) := by
   intro kids
   induction kids with
   | nil =>
    intro ts L1 t1 m1 p _ ha hw1 hg hlt _ h2
    have := Option.some.inj h2
    rw [← this]
    exact ⟨ts, m1, false, [], rfl, by simpa using hg, fun _ => ⟨rfl, rfl, by simpa using ha⟩, fun hn => absurd hw1 hn⟩
   | cons k r ih =>
    intro ts L1 t1 m1 p hdd ha hw1 hg hlt hr h2
    rw [List.foldlM_cons] at h2
    obtain ⟨p1, q1, q2⟩ := Option.bind_eq_some_iff.1 h2
    obtain ⟨q, r1, r2⟩ := Option.map_eq_some_iff.1 q1
    obtain ⟨x2, t2⟩ := q
    subst r2
    obtain ⟨y, m2, d2, e2, g1, g2, g3, g4⟩ := ref_tree l an hk hl hsc K k (deep + 1) L1 t1 m1 x2 t2 ha hw1 hg hlt (hr k (by simp)).1 (hr k (by simp)).2 (hdd (by simp)) r1
    by_cases c : t2.2.1 = 0
    rotate_left
    ·
     have hd2 := g4 c
     subst hd2
     obtain ⟨us, m3, e3, f1, f2⟩ := stuck r (ts ++ [y]) m2 (L1 ++ e2) g2 (by rw [List.length_append]; omega) (fun x hx => hr x (by simp [hx]))
     have hne := keep r _ t2 p c (fun k s x s' => why_ K k (deep + 1) s x s') q2
     exact ⟨us, m3, true, e2 ++ e3, by rw [List.foldlM_cons, g1]; exact f1, by rw [← List.append_assoc]; exact f2, fun hz => absurd hz hne, fun _ => rfl⟩
    obtain ⟨rfl, rfl, g5⟩ := g3 c
    obtain ⟨us, m3, d3, e3, f1, f2, f3, f4⟩ := ih (ts ++ [y]) (L1 ++ e2) t2 m2 p (fun _ => hdd (by simp)) g5 c g2 (by rw [List.length_append]; omega) (fun x hx => hr x (by simp [hx])) q2
    refine ⟨us, m3, d3, e2 ++ e3, by rw [List.foldlM_cons, g1]; exact f1, by rw [← List.append_assoc]; exact f2, fun hz => ?_, f4⟩
    obtain ⟨a, b, c⟩ := f3 hz
    exact ⟨a, b, by rw [← List.append_assoc]; exact c⟩
  obtain ⟨us, m', d', ext, g1, g2, g3, g4⟩ := fold n.f2 [] (L ++ [at_]) _ (m.set at_.toNat true) p hdk (hs2 0) rfl hg1 (by simp; omega) hkid hp1
  rw [g1]
  rw [← e2]
  refine ⟨_, m', d', at_ :: ext, rfl, by simpa using g2, fun hz => ?_, g4⟩
  obtain ⟨a, b, c⟩ := g3 hz
  exact ⟨by rw [← e1, a], b, by simpa using c⟩
def nmR : List Int → Nat → Int → ByteArray
 | [], _, _ => ⟨#[]⟩
 | a :: r, n, k => if a = k then nameB (n + 1) else nmR r (n + 1) k
theorem nmR_out : ∀ (L : List Int) (n : Nat) (k : Int), k ∉ L → nmR L n k = ⟨#[]⟩
 | [], _, _, _ => rfl
 | a :: r, n, k, h => by
  rw [nmR, if_neg (fun e => h (by simp [e])), nmR_out r (n + 1) k (fun e => h (by simp [e]))]
theorem anG_nm : ∀ (L : List Int) (n : Nat) (F : Int → Option ByteArray) (k : Int), L.Nodup → k ∈ L → anG L n F k = some (nmR L n k)
 | [], _, _, _, _, h => by simp at h
 | a :: r, n, F, k, hn, h => by
  obtain ⟨h1, h2⟩ := List.nodup_cons.1 hn
  rw [anG, nmR]
  by_cases e : a = k
  ·
   subst e
   rw [if_pos rfl, anG_out r _ _ a h1, if_pos rfl]
  rw [if_neg e]
  exact anG_nm r (n + 1) _ k h2 ((List.mem_cons.1 h).resolve_left (Ne.symm e))
theorem nm_an (L : List Int) (hn : L.Nodup) : nmR L 0 = anB L := by
 funext k
 by_cases h : k ∈ L
 · rw [anB, anG_nm L 0 _ k hn h]; rfl
 rw [anB, anG_out L 0 _ k h, nmR_out L 0 k h]; rfl
theorem nm_drop (L : List Int) (k : Int) (i : Nat) (h : i < L.length) : nmR (L.drop i) i k = if L[i] = k then nameB (i + 1) else nmR (L.drop (i + 1)) (i + 1) k := by
  rw [List.drop_eq_getElem_cons h, nmR]
theorem why_two (l : List Nd) (an : Int → ByteArray) : ∀ (K : Nat) (at_ deep : Int) (s : LS) (x : Tr) (s' : LS), (s.2.1 = 0 ∨ s.2.1 = 10) → treeO l an K at_ deep s = some (x, s') → (s'.2.1 = 0 ∨ s'.2.1 = 10)
 | 0, at_, deep, s, x, s', _, h => by simp [treeO] at h
 | K + 1, at_, deep, s, x, s', hs, h => by
  rw [treeO] at h
  split at h
  · rw [← (Prod.mk.inj (Option.some.inj h)).2]; exact hs
  ·
   split at h
   · cases h
   ·
    dsimp only at h
    have hw : (if 5 ≤ (rd_T45 l at_).f0 ∧ deep = 64 then (10 : Int) else s.2.1) = 0 ∨ (if 5 ≤ (rd_T45 l at_).f0 ∧ deep = 64 then (10 : Int) else s.2.1) = 10 := by
     split
     · exact .inr rfl
     · exact hs
    by_cases c : (if 5 ≤ (rd_T45 l at_).f0 ∧ deep = 64 then (10 : Int) else s.2.1) ≠ 0
    ·
     rw [if_pos c] at h
     rw [← (Prod.mk.inj (Option.some.inj h)).2]; exact hw
    rw [if_neg c] at h
    obtain ⟨p, hp1, hp2⟩ := Option.map_eq_some_iff.1 h
    rw [← (Prod.mk.inj hp2).2]
    have fold : ∀ (kids : List Int) (ts : List Tr) (t1 : LS) (p : List Tr × LS), (t1.2.1 = 0 ∨ t1.2.1 = 10) → kids.foldlM (fun (p : List Tr × LS) k => (treeO l an K k (deep + 1) p.2).map fun q => (p.1 ++ [q.1], q.2)) (ts, t1) = some p → (p.2.2.1 = 0 ∨ p.2.2.1 = 10) := by
     intro kids
     induction kids with
     | nil => intro ts t1 p h1 h2; rw [← Option.some.inj h2]; exact h1
     | cons k r ih =>
      intro ts t1 p h1 h2
      rw [List.foldlM_cons] at h2
      obtain ⟨p1, q1, q2⟩ := Option.bind_eq_some_iff.1 h2
      obtain ⟨q, r1, r2⟩ := Option.map_eq_some_iff.1 q1
      subst r2
      exact ih _ _ p (why_two l an K k (deep + 1) t1 q.1 q.2 h1 r1) q2
    exact fold _ _ _ p hw hp1
def refT (l : List Nd) (root : Int) : Option (Tr × Int) :=
 if l.all (fun n => decide (n.f2.length ≤ 1048576)) = true then
  match graph_Order.f l root, iso_Shared.f l root with
  | some (xs, e), some (sh, _) =>
   if e ≠ 0 then some (noTr, e) else
   (refO l (nmR sh 0) (l.length + 1) root 0 (List.replicate l.length false, false)).map fun p => if p.2.2 = true then (noTr, 10) else if 4096 < 1 + kidsL l xs then (noTr, 5) else (p.1, 0)
  | _, _ => none
 else none
theorem refT_lay (l : List Nd) (root : Int) (hs : sizesB l = true) (hG : RightG l root) (hk : Kin l) (h7 : ∀ n ∈ l, n.f0 ≤ 6) (hsc : ∀ n ∈ l, n.f0 ≤ 4 → n.f2 = []) (hM : ∀ n ∈ l, n.f2.length ≤ 1048576) : ∃ p, layF l root = some p ∧ refT l root = some p := by
 obtain ⟨xs, sh, t, s, hO, hS, hT, hxl, hlaw⟩ := lay_right l root hs hG hk h7
 have hA : l.all (fun n => decide (n.f2.length ≤ 1048576)) = true := List.all_eq_true.2 (fun n hn => decide_eq_true (hM n hn))
 have hnd : sh.Nodup := by
  have hS2 := hS
  unfold iso_Shared.f at hS2
  rw [hO] at hS2
  dsimp only at hS2
  rw [if_neg (by decide)] at hS2
  split at hS2
  ·
   have e := (Prod.mk.inj (Option.some.inj hS2)).1
   obtain ⟨s0, xs0, g1, g2, g3, _, _⟩ := go_some l hk (l.length + 1) root 1 _ (go_start l.length) (by simp) hG.r0 hG.r1
   have hr := (right_iff l root hs).2 hG
   have hO2 := hO
   unfold graph_Order.f at hO2
   rw [if_pos hs, if_pos hr, g1] at hO2
   have ex : s0.2.1 = xs := by simpa using hO2
   rw [← e]
   exact List.Pairwise.filter _ (by rw [← ex]; exact g2.nd)
  · cases hS2
 obtain ⟨y, m', d', ext, r1, _, r3, r4⟩ := ref_tree l (anB sh) hk hG.le hsc (l.length + 1) root 0 [] _ _ t s (la_start l.length) rfl (go_start l.length) (by simp) hG.r0 hG.r1 (by omega) hT
 have hw := why_two l (anB sh) (l.length + 1) root 0 _ t s (.inl rfl) hT
 unfold layF refT
 rw [if_pos hA, hO, hS]
 dsimp only
 rw [if_neg (by decide), if_neg (by decide), hT, nm_an sh hnd, r1]
 dsimp only
 rw [Option.map_some]
 by_cases c : s.2.1 = 0
 ·
  obtain ⟨rfl, rfl, _⟩ := r3 c
  refine ⟨_, rfl, ?_⟩
  dsimp only
  rw [if_neg (by decide), if_neg (show ¬ s.2.1 ≠ 0 from fun h => h c)]
 have hd := r4 c
 subst hd
 refine ⟨_, rfl, ?_⟩
 dsimp only
 rw [if_pos rfl, if_pos c]
 rcases hw with h | h
 · exact absurd h c
 · rw [h]
set_option maxHeartbeats 8000000 in
set_option maxRecDepth 100000 in
theorem name_is (W : World) (lb : Nat) (x0 x1 x3 x4 : Value) (A1 : Option Addr) (c1 : Nat) (sh : List Int) (at_ : Int) (hG : Glob.G W) (hb : W.heap[lb]? = some (.cells #[x0, x1, .slice A1 sh.length c1, x3, x4] 74)) (hs : Kd.C (Kd.int .i64) W A1 sh.length sh) (hl : sh.length ≤ 4096) :
  Calls Tryz.prog 46 #[.pointer (some ⟨lb, 0, none⟩), .int .i64 at_] W fun e W' => e = .returned (.string (nmR sh 0 at_)) ∧ Below W.heap.size W W' := by
 have y2 : W.cell? ⟨lb, 2, none⟩ = some (.slice A1 sh.length c1) := (blk_cell hb 2).trans rfl
 have HS := Lib.hid hs
 have HG := Lib.hid hG
 clear hb hs hG
 obtain ⟨r, hr⟩ : ∃ r, nmR sh 0 at_ = r := ⟨_, rfl⟩
 have HN0 := Lib.hid (show nmR (sh.drop 0) 0 at_ = r from hr)
 rw [hr]
 clear hr
 go_enter Tryz.func46, Tryz.ntmps46
 go_wp2
 go_loopw [5] (fun v wr => ∃ j : Nat, v = .int .i64 j ∧ j ≤ sh.length ∧ Hid (nmR (sh.drop j) j at_ = r) ∧ wr = W) (fun v _ => sh.length - (intOf v).toNat)
 case atStart => exact ⟨0, rfl, by omega, HN0, rfl⟩
 case round =>
  clear HN0
  obtain ⟨j, rfl, hj, HN, rfl⟩ := hrel
  by_cases hlt : j < sh.length
  rotate_left
  ·
   have hc : decide ((j : Int) < (sh.length : Int)) = false := decide_eq_false (by omega)
   have hn := HN.out
   rw [List.drop_of_length_le (by omega)] at hn
   have hrx : r = ⟨#[]⟩ := hn.symm
   subst hrx
   clear hn HN
   go_wp2
   go_ret
   exact ⟨rfl, Below.refl _ _⟩
  have hc : decide ((j : Int) < (sh.length : Int)) = true := decide_eq_true (by omega)
  obtain ⟨cd, eA, hx⟩ := Kd.at_int HS.out (j : Int) (by omega) (by omega)
  subst eA
  rw [rd_at sh j hlt, Int.toNat_natCast] at hx
  have hn := HN.out
  rw [nm_drop sh at_ j hlt] at hn
  have HL := Lib.hid hlt
  have p5 : (0 ≤ (j : Int)) = True := eq_true (by omega)
  have p6 : ((j : Int) < (sh.length : Int)) = True := eq_true (by omega)
  have hwd : wrap64 ((j : Int) + 1) = (j : Int) + 1 := by unfold wrap64; omega
  clear HN
  generalize sh[j] = kx at *
  by_cases he : kx = at_
  rotate_left
  ·
   replace hn : nmR (sh.drop (j + 1)) (j + 1) at_ = r := (if_neg he).symm.trans hn
   have hq : (kx == at_) = false := beq_eq_false_iff_ne.2 he
   have HNN := Lib.hid hn
   clear hn he
   go_wp2_with (fail)
   go_roundw
   case rel => exact ⟨j + 1, by go_num, HL.out, HNN, trivial⟩
   case measure => have := HL.out; simp [intOf]; omega
  replace hn : nameB (j + 1) = r := (if_pos he).symm.trans hn
  subst he
  have hq : (kx == kx) = true := beq_iff_eq.2 rfl
  obtain ⟨tx, htx⟩ : ∃ tx : ByteArray, ⟨(Lib.itoa ((j : Int) + 1)).toArray⟩ = tx := ⟨_, rfl⟩
  have hrx : r = ⟨#[97]⟩ ++ tx := by rw [← hn, ← htx]; unfold nameB; rw [show ((j + 1 : Nat) : Int) = (j : Int) + 1 by omega]
  have HT := Lib.hid (show grommetref06_Text.f (0 + 32) ((j : Int) + 1) = some tx by rw [← htx]; exact Nums.text_at _ (by omega) (by omega) 0)
  have hsz : tx.size ≤ 21 := by rw [← htx]; show (Lib.itoa ((j : Int) + 1)).toArray.size ≤ 21; rw [List.size_toArray]; exact Lib.itoa_length_le ((j : Int) + 1) (by omega) (by omega)
  have hadd : ∀ W : World, (Op.stringOp .add ⟨#[97]⟩ tx).run Tryz.prog W = .ok (.string (⟨#[97]⟩ ++ tx)) W := fun W => run_string_add_sum W _ _ (by rw [show (⟨#[97]⟩ : ByteArray).size = 1 from rfl]; omega)
  clear htx hn
  subst hrx
  go_wp2_with (go_at_call 67; refine (grommetref06_Text.calls _ _ _ _ HG.out HT.out).mono ?_; rintro e w2 ⟨rfl, hb2⟩; have HB2 := Lib.hid hb2; clear hb2)
  go_ret
  exact ⟨rfl, HB2.out⟩
structure Rl (w0 : World) (lb mb cp : Nat) (A0 A1 : Option Addr) (n0 c0 s1 c1 : Nat) (root : Int) (s : List Bool × Bool) (W : World) : Prop where
 l : W.heap[lb]? = some (.cells #[.slice A0 n0 c0, .int .i64 root, .slice A1 s1 c1, .slice (some ⟨mb, 0, none⟩) n0 cp, .bool s.2] 74)
 len : s.1.length = n0
 row : Kd.R Kd.bool 4 W w0.heap.size (fun k => k = mb) (.slice (some ⟨mb, 0, none⟩) n0 cp) s.1
 bel : Below w0.heap.size w0 W
 ge : w0.heap.size ≤ lb
section
variable {w0 W W' : World} {lb mb cp : Nat} {A0 A1 : Option Addr} {n0 c0 s1 c1 : Nat} {root : Int} {s s' : List Bool × Bool}
theorem Rl.mlt (h : Rl w0 lb mb cp A0 A1 n0 c0 s1 c1 root s W) : mb < W.heap.size ∧ w0.heap.size ≤ mb := by
 have := (Kd.R_bound h.row).1 mb rfl
 exact ⟨this.2.2.1, this.2.1⟩
theorem Rl.ne (h : Rl w0 lb mb cp A0 A1 n0 c0 s1 c1 root s W) : lb ≠ mb := fun e => Kd.R_ne h.row h.l (by decide) (by rw [e]; rfl)
theorem Rl.move (h : Rl w0 lb mb cp A0 A1 n0 c0 s1 c1 root s W) (hl : W'.heap[lb]? = W.heap[lb]?) (hm : W'.heap[mb]? = W.heap[mb]?) (hb : Below w0.heap.size w0 W') : Rl w0 lb mb cp A0 A1 n0 c0 s1 c1 root s W' :=
  ⟨hl.trans h.l, h.len, Kd.R_step h.row (fun k hk _ => by subst hk; exact hm), hb, h.ge⟩
theorem Rl.keep (h : Rl w0 lb mb cp A0 A1 n0 c0 s1 c1 root s W) (hb : Below W.heap.size W W') : Rl w0 lb mb cp A0 A1 n0 c0 s1 c1 root s W' :=
  h.move (hb.block lb (blk_lt h.l)) (hb.block mb h.mlt.1) (h.bel.trans (hb.mono h.bel.size))
theorem Rl.cells (h : Rl w0 lb mb cp A0 A1 n0 c0 s1 c1 root s W) :
  W.cell? ⟨lb, 0, none⟩ = some (.slice A0 n0 c0) ∧ W.cell? ⟨lb, 1, none⟩ = some (.int .i64 root) ∧ W.cell? ⟨lb, 2, none⟩ = some (.slice A1 s1 c1) ∧ W.cell? ⟨lb, 3, none⟩ = some (.slice (some ⟨mb, 0, none⟩) n0 cp) ∧ W.cell? ⟨lb, 4, none⟩ = some (.bool s.2) ∧ W.frozen? ⟨lb, 4, none⟩ = false :=
 ⟨(blk_cell h.l 0).trans rfl, (blk_cell h.l 1).trans rfl, (blk_cell h.l 2).trans rfl, (blk_cell h.l 3).trans rfl, (blk_cell h.l 4).trans rfl, blk_frozen h.l 4⟩
theorem Rl.at_ (h : Rl w0 lb mb cp A0 A1 n0 c0 s1 c1 root s W) (k : Int) (h0 : 0 ≤ k) (h1 : k < (n0 : Int)) : W.cell? ⟨mb, k.toNat, none⟩ = some (.bool (rdOf false s.1 k)) ∧ W.frozen? ⟨mb, k.toNat, none⟩ = false :=
  Kd.R_celln false h.row k h0 h1
theorem Rl.mark (h : Rl w0 lb mb cp A0 A1 n0 c0 s1 c1 root s W) (k : Int) : Rl w0 lb mb cp A0 A1 n0 c0 s1 c1 root (s.1.set k.toNat true, s.2) (W.setCell ⟨mb, k.toNat, none⟩ (.bool true)) ∧ W.grownBy (W.setCell ⟨mb, k.toNat, none⟩ (.bool true)) (some mb) := by
 obtain ⟨h1, hg⟩ := Kd.R_putg h.row k true
 exact ⟨⟨(hg.block lb (blk_lt h.l) (fun e => h.ne (Option.some.inj e))).trans h.l, by rw [List.length_set]; exact h.len, h1, h.bel.trans (below_of_grown hg h.mlt.2 h.bel.size), h.ge⟩, hg⟩
theorem Rl.deep (h : Rl w0 lb mb cp A0 A1 n0 c0 s1 c1 root s W) (d : Bool) : Rl w0 lb mb cp A0 A1 n0 c0 s1 c1 root (s.1, d) (W.setCell ⟨lb, 4, none⟩ (.bool d)) :=
  ⟨by simpa using blk_set h.l 4 (.bool d), h.len, Kd.R_step h.row (fun k hk _ => by subst hk; exact Below.heap_setCell W ⟨lb, 4, none⟩ _ k (Ne.symm h.ne)), h.bel.setCell (p := ⟨lb, 4, none⟩) h.ge _, h.ge⟩
theorem Rl.set (h : Rl w0 lb mb cp A0 A1 n0 c0 s1 c1 root s W) {b : Nat} (hb : w0.heap.size ≤ b) (h1 : b ≠ lb) (h2 : b ≠ mb) (i : Nat) (v : Value) : Rl w0 lb mb cp A0 A1 n0 c0 s1 c1 root s (W.setCell ⟨b, i, none⟩ v) :=
  h.move (Below.heap_setCell W ⟨b, i, none⟩ v lb (Ne.symm h1)) (Below.heap_setCell W ⟨b, i, none⟩ v mb (Ne.symm h2)) (h.bel.setCell (p := ⟨b, i, none⟩) hb v)
end
structure Rv (w0 W : World) (lb mb cp : Nat) (A0 A1 : Option Addr) (n0 c0 s1 c1 : Nat) (root : Int) (s : List Bool × Bool) (cs : Array Value) (Z : World) : Prop where
 lw : Rl w0 lb mb cp A0 A1 n0 c0 s1 c1 root s Z
 kb : KeepBut W Z lb (some mb)
 rb : Z.heap[W.heap.size]? = some (.cells cs 29)
 lt : lb < W.heap.size ∧ mb < W.heap.size ∧ w0.heap.size ≤ W.heap.size
section
variable {w0 W Z Z' : World} {lb mb cp : Nat} {A0 A1 : Option Addr} {n0 c0 s1 c1 : Nat} {root : Int} {s s' : List Bool × Bool} {cs : Array Value}
theorem Rv.below (h : Rv w0 W lb mb cp A0 A1 n0 c0 s1 c1 root s cs Z) (hb : Below Z.heap.size Z Z') : Rv w0 W lb mb cp A0 A1 n0 c0 s1 c1 root s cs Z' :=
  ⟨h.lw.keep hb, h.kb.trans (KeepBut.of_below hb lb (some mb)) (.inl rfl), (hb.block _ (blk_lt h.rb)).trans h.rb, h.lt⟩
theorem Rv.set (h : Rv w0 W lb mb cp A0 A1 n0 c0 s1 c1 root s cs Z) {b : Nat} (hb : W.heap.size < b) (i : Nat) (v : Value) : Rv w0 W lb mb cp A0 A1 n0 c0 s1 c1 root s cs (Z.setCell ⟨b, i, none⟩ v) := by
 obtain ⟨l1, l2, l3⟩ := h.lt
 exact ⟨h.lw.set (by omega) (by omega) (by omega) i v, ⟨by simpa [World.setCell] using h.kb.1, fun k hk h1 h2 => (Below.heap_setCell Z ⟨b, i, none⟩ v k (by show k ≠ b; omega)).trans (h.kb.2 k hk h1 h2)⟩, (Below.heap_setCell Z ⟨b, i, none⟩ v _ (by show W.heap.size ≠ b; omega)).trans h.rb, h.lt⟩
theorem Rv.deep (h : Rv w0 W lb mb cp A0 A1 n0 c0 s1 c1 root s cs Z) (d : Bool) : Rv w0 W lb mb cp A0 A1 n0 c0 s1 c1 root (s.1, d) cs (Z.setCell ⟨lb, 4, none⟩ (.bool d)) :=
  ⟨h.lw.deep d, h.kb.set_ 4 _, (Below.heap_setCell Z ⟨lb, 4, none⟩ _ _ (by show W.heap.size ≠ lb; have := h.lt; omega)).trans h.rb, h.lt⟩
theorem Rv.mark (h : Rv w0 W lb mb cp A0 A1 n0 c0 s1 c1 root s cs Z) (k : Int) : Rv w0 W lb mb cp A0 A1 n0 c0 s1 c1 root (s.1.set k.toNat true, s.2) cs (Z.setCell ⟨mb, k.toNat, none⟩ (.bool true)) := by
 obtain ⟨l1, l2, l3⟩ := h.lt
 obtain ⟨h1, hg⟩ := h.lw.mark k
 exact ⟨h1, h.kb.trans (KeepBut.of_grown hg lb) (.inl rfl), (hg.block _ (blk_lt h.rb) (fun e => by have := Option.some.inj e; omega)).trans h.rb, h.lt⟩
theorem Rv.put1 (h : Rv w0 W lb mb cp A0 A1 n0 c0 s1 c1 root s cs Z) (i : Nat) (y : Value) : Rv w0 W lb mb cp A0 A1 n0 c0 s1 c1 root s (cs.set! i y) (Z.setCell ⟨W.heap.size, i, none⟩ y) := by
 obtain ⟨l1, l2, l3⟩ := h.lt
 refine ⟨h.lw.set l3 (by omega) (by omega) i y, ⟨by simpa [World.setCell] using h.kb.1, fun k hk h1 h2 => (Below.heap_setCell Z ⟨W.heap.size, i, none⟩ y k (by show k ≠ W.heap.size; omega)).trans (h.kb.2 k hk h1 h2)⟩, ?_, h.lt⟩
 simpa using blk_set h.rb i y
theorem Rv.put4 {x0 x1 x2 x3 : Value} (h : Rv w0 W lb mb cp A0 A1 n0 c0 s1 c1 root s #[x0, x1, x2, x3] Z) (y0 y1 y2 y3 : Value) : Rv w0 W lb mb cp A0 A1 n0 c0 s1 c1 root s #[y0, y1, y2, y3] ((((Z.setCell ⟨W.heap.size, 0, none⟩ y0).setCell ⟨W.heap.size, 1, none⟩ y1).setCell ⟨W.heap.size, 2, none⟩ y2).setCell ⟨W.heap.size, 3, none⟩ y3) := by
  simpa using (((h.put1 0 y0).put1 1 y1).put1 2 y2).put1 3 y3
theorem Rv.res {x0 x1 x2 x3 : Value} (h : Rv w0 W lb mb cp A0 A1 n0 c0 s1 c1 root s #[x0, x1, x2, x3] Z) :
  (Z.cell? ⟨W.heap.size, 0, none⟩ = some x0 ∧ Z.cell? ⟨W.heap.size, 1, none⟩ = some x1 ∧ Z.cell? ⟨W.heap.size, 2, none⟩ = some x2 ∧ Z.cell? ⟨W.heap.size, 3, none⟩ = some x3) ∧
  Z.frozen? ⟨W.heap.size, 0, none⟩ = false ∧ Z.frozen? ⟨W.heap.size, 1, none⟩ = false ∧ Z.frozen? ⟨W.heap.size, 2, none⟩ = false ∧ Z.frozen? ⟨W.heap.size, 3, none⟩ = false :=
 ⟨⟨(blk_cell h.rb 0).trans rfl, (blk_cell h.rb 1).trans rfl, (blk_cell h.rb 2).trans rfl, (blk_cell h.rb 3).trans rfl⟩, blk_frozen h.rb 0, blk_frozen h.rb 1, blk_frozen h.rb 2, blk_frozen h.rb 3⟩
end
structure Rn (w0 W : World) (lb mb cp : Nat) (A0 A1 : Option Addr) (n0 c0 s1 c1 : Nat) (root : Int) (s : List Bool × Bool) (cs ns : Array Value) (nb : Nat) (Z : World) : Prop where
 lv : Rv w0 W lb mb cp A0 A1 n0 c0 s1 c1 root s cs Z
 n : Z.heap[nb]? = some (.cells ns 45)
 gn : W.heap.size < nb
structure Rk (w0 W : World) (lb mb cp : Nat) (A0 A1 : Option Addr) (n0 c0 s1 c1 : Nat) (root : Int) (s : List Bool × Bool) (cs ns : Array Value) (nb tb : Nat) (d1 d2 d3 u u2 : Value) (ts : List Tr) (Z : World) : Prop where
 ln : Rn w0 W lb mb cp A0 A1 n0 c0 s1 c1 root s cs ns nb Z
 t : Z.heap[tb]? = some (.cells #[d1, d2, d3, u] 29)
 row : Kd.R k29 29 Z W.heap.size (fun k => k ≠ tb ∧ k ≠ W.heap.size ∧ k ≠ nb) u2 ts
 gt : W.heap.size < tb ∧ tb ≠ nb
section
variable {w0 W Z Z' : World} {lb mb cp : Nat} {A0 A1 : Option Addr} {n0 c0 s1 c1 : Nat} {root : Int} {s s' : List Bool × Bool} {cs ns : Array Value} {nb tb : Nat} {d1 d2 d3 u u2 v1 : Value} {ts ts' : List Tr}
theorem Rn.below (h : Rn w0 W lb mb cp A0 A1 n0 c0 s1 c1 root s cs ns nb Z) (hb : Below Z.heap.size Z Z') : Rn w0 W lb mb cp A0 A1 n0 c0 s1 c1 root s cs ns nb Z' :=
  ⟨h.lv.below hb, (hb.block nb (blk_lt h.n)).trans h.n, h.gn⟩
theorem Rn.set (h : Rn w0 W lb mb cp A0 A1 n0 c0 s1 c1 root s cs ns nb Z) {b : Nat} (hb : W.heap.size < b) (hn : b ≠ nb) (i : Nat) (v : Value) : Rn w0 W lb mb cp A0 A1 n0 c0 s1 c1 root s cs ns nb (Z.setCell ⟨b, i, none⟩ v) :=
  ⟨h.lv.set hb i v, (Below.heap_setCell Z ⟨b, i, none⟩ v nb (Ne.symm hn)).trans h.n, h.gn⟩
theorem Rn.deep (h : Rn w0 W lb mb cp A0 A1 n0 c0 s1 c1 root s cs ns nb Z) (d : Bool) : Rn w0 W lb mb cp A0 A1 n0 c0 s1 c1 root (s.1, d) cs ns nb (Z.setCell ⟨lb, 4, none⟩ (.bool d)) :=
  ⟨h.lv.deep d, (Below.heap_setCell Z ⟨lb, 4, none⟩ _ nb (by show nb ≠ lb; have := h.lv.lt; have := h.gn; omega)).trans h.n, h.gn⟩
theorem Rn.tree {x0 x1 x2 x3 : Value} (h : Rn w0 W lb mb cp A0 A1 n0 c0 s1 c1 root s cs ns nb Z) (ht : Z.heap[tb]? = some (.cells #[x0, x1, x2, x3] 29)) (hg : W.heap.size < tb ∧ tb ≠ nb) (y0 y1 y2 : Value) :
  Rk w0 W lb mb cp A0 A1 n0 c0 s1 c1 root s cs ns nb tb y0 y1 y2 (.slice none 0 0) (.slice none 0 0) [] ((((Z.setCell ⟨tb, 0, none⟩ y0).setCell ⟨tb, 1, none⟩ y1).setCell ⟨tb, 2, none⟩ y2).setCell ⟨tb, 3, none⟩ (.slice none 0 0)) := by
 refine ⟨(((h.set hg.1 hg.2 0 y0).set hg.1 hg.2 1 y1).set hg.1 hg.2 2 y2).set hg.1 hg.2 3 _, ?_, Kd.R_nil _ _ _ _ _, hg⟩
 have h0 := blk_set ht 0 y0
 have h1 := blk_set h0 1 y1
 have h2 := blk_set h1 2 y2
 have h3 := blk_set h2 3 (.slice none 0 0)
 simpa using h3
theorem Rk.below (h : Rk w0 W lb mb cp A0 A1 n0 c0 s1 c1 root s cs ns nb tb d1 d2 d3 u u2 ts Z) (hb : Below Z.heap.size Z Z') : Rk w0 W lb mb cp A0 A1 n0 c0 s1 c1 root s cs ns nb tb d1 d2 d3 u u2 ts Z' :=
  ⟨h.ln.below hb, (hb.block tb (blk_lt h.t)).trans h.t, Kd.R_below h.row hb, h.gt⟩
theorem Rk.deep (h : Rk w0 W lb mb cp A0 A1 n0 c0 s1 c1 root s cs ns nb tb d1 d2 d3 u (.slice none 0 0) [] Z) (d : Bool) : Rk w0 W lb mb cp A0 A1 n0 c0 s1 c1 root (s.1, d) cs ns nb tb d1 d2 d3 u (.slice none 0 0) [] (Z.setCell ⟨lb, 4, none⟩ (.bool d)) :=
  ⟨h.ln.deep d, (Below.heap_setCell Z ⟨lb, 4, none⟩ _ tb (by show tb ≠ lb; have := h.ln.lv.lt; have := h.gt; omega)).trans h.t, Kd.R_nil _ _ _ _ _, h.gt⟩
theorem Rk.deepE {d d' : Bool} (h : Rk w0 W lb mb cp A0 A1 n0 c0 s1 c1 root s cs ns nb tb d1 d2 d3 u (.slice none 0 0) [] Z) (e : d = d') : Rk w0 W lb mb cp A0 A1 n0 c0 s1 c1 root (s.1, d') cs ns nb tb d1 d2 d3 u (.slice none 0 0) [] (Z.setCell ⟨lb, 4, none⟩ (.bool d)) := by
  subst e; exact h.deep d
theorem Rk.call (h : Rk w0 W lb mb cp A0 A1 n0 c0 s1 c1 root s cs ns nb tb d1 d2 d3 u u2 ts Z) (hl : Rl w0 lb mb cp A0 A1 n0 c0 s1 c1 root s' Z') (hk : KeepBut Z Z' lb (some mb)) : Rk w0 W lb mb cp A0 A1 n0 c0 s1 c1 root s' cs ns nb tb d1 d2 d3 u u2 ts Z' := by
 obtain ⟨l1, l2, l3⟩ := h.ln.lv.lt
 have hgt := h.gt
 have hgn := h.ln.gn
 have hB : ∀ k, k < Z.heap.size → W.heap.size ≤ k → Z'.heap[k]? = Z.heap[k]? := fun k hk2 hw => hk.2 k hk2 (by omega) (fun e => by have := Option.some.inj e; omega)
 refine ⟨⟨⟨hl, h.ln.lv.kb.trans hk (.inl rfl), (hB _ (blk_lt h.ln.lv.rb) (Nat.le_refl _)).trans h.ln.lv.rb, h.ln.lv.lt⟩, (hB _ (blk_lt h.ln.n) (by omega)).trans h.ln.n, hgn⟩, (hB _ (blk_lt h.t) (by omega)).trans h.t, ?_, h.gt⟩
 exact Kd.R_mono (Kd.R_step (Kd.R_bound h.row) (fun k hk' hlt => hB k hlt hk'.2.1)) (fun _ hk' => hk'.1)
theorem Rk.grow (h : Rk w0 W lb mb cp A0 A1 n0 c0 s1 c1 root s cs ns nb tb d1 d2 d3 u u2 ts Z) (hg : Z.grownBy Z' u2.ownBlock) (hr : Kd.R k29 29 Z' W.heap.size (fun k => k ≠ tb ∧ k ≠ W.heap.size ∧ k ≠ nb) v1 ts') : Rk w0 W lb mb cp A0 A1 n0 c0 s1 c1 root s cs ns nb tb d1 d2 d3 u v1 ts' Z' := by
 obtain ⟨l1, l2, l3⟩ := h.ln.lv.lt
 have hgt := h.gt
 have hgn := h.ln.gn
 have hO : ∀ k, u2.ownBlock = some k → (k ≠ tb ∧ k ≠ W.heap.size ∧ k ≠ nb) ∧ W.heap.size ≤ k := fun k e => ⟨((Kd.R_bound h.row).1 k e).1, ((Kd.R_bound h.row).1 k e).2.1⟩
 have hB : ∀ k, k < Z.heap.size → (k < W.heap.size ∨ k = tb ∨ k = W.heap.size ∨ k = nb) → Z'.heap[k]? = Z.heap[k]? := fun k hk hc => hg.block k hk (fun e => by have := hO k e.symm; omega)
 have hw := h.ln.lv.lw
 refine ⟨⟨⟨hw.move (hB lb (blk_lt hw.l) (.inl l1)) (hB mb hw.mlt.1 (.inl l2)) (hw.bel.trans ⟨hg.os, hg.tape, hg.output, hg.size, fun k hk => hB k (Nat.lt_of_lt_of_le hk hw.bel.size) (.inl (by omega))⟩), ?_, (hB _ (blk_lt h.ln.lv.rb) (.inr (.inr (.inl rfl)))).trans h.ln.lv.rb, h.ln.lv.lt⟩, (hB _ (blk_lt h.ln.n) (.inr (.inr (.inr rfl)))).trans h.ln.n, hgn⟩, (hB _ (blk_lt h.t) (.inr (.inl rfl))).trans h.t, hr, h.gt⟩
 exact ⟨Nat.le_trans h.ln.lv.kb.1 hg.size, fun k hk a b => (hB k (Nat.lt_of_lt_of_le hk h.ln.lv.kb.1) (.inl hk)).trans (h.ln.lv.kb.2 k hk a b)⟩
theorem Rk.store (h : Rk w0 W lb mb cp A0 A1 n0 c0 s1 c1 root s cs ns nb tb d1 d2 d3 u u2 ts Z) : Rk w0 W lb mb cp A0 A1 n0 c0 s1 c1 root s cs ns nb tb d1 d2 d3 u2 u2 ts (Z.setCell ⟨tb, 3, none⟩ u2) :=
  ⟨h.ln.set h.gt.1 h.gt.2 3 u2, by simpa using blk_set h.t 3 u2, Kd.R_far h.row (fun k hk => hk.1) u2, h.gt⟩
theorem Rk.cells (h : Rk w0 W lb mb cp A0 A1 n0 c0 s1 c1 root s cs ns nb tb d1 d2 d3 u u2 ts Z) : Z.cell? ⟨tb, 3, none⟩ = some u ∧ Z.frozen? ⟨tb, 3, none⟩ = false ∧ Z.cell? ⟨tb, 0, none⟩ = some d1 ∧ Z.cell? ⟨tb, 1, none⟩ = some d2 ∧ Z.cell? ⟨tb, 2, none⟩ = some d3 :=
  ⟨(blk_cell h.t 3).trans rfl, blk_frozen h.t 3, (blk_cell h.t 0).trans rfl, (blk_cell h.t 1).trans rfl, (blk_cell h.t 2).trans rfl⟩
theorem Rn.cells {e0 e1 e2 : Value} (h : Rn w0 W lb mb cp A0 A1 n0 c0 s1 c1 root s cs #[e0, e1, e2] nb Z) : Z.cell? ⟨nb, 0, none⟩ = some e0 ∧ Z.cell? ⟨nb, 1, none⟩ = some e1 ∧ Z.cell? ⟨nb, 2, none⟩ = some e2 :=
  ⟨(blk_cell h.n 0).trans rfl, (blk_cell h.n 1).trans rfl, (blk_cell h.n 2).trans rfl⟩
end
set_option maxHeartbeats 8000000 in
set_option maxRecDepth 100000 in
theorem rtree_is (w0 : World) (lb mb cp : Nat) (A0 A1 : Option Addr) (c0 c1 : Nat) (l : List Nd) (sh : List Int) (root : Int) (hr : Kd.C k45 w0 A0 l.length l) (hs : Kd.C (Kd.int .i64) w0 A1 sh.length sh) (hsl : sh.length ≤ 4096) (hG : Glob.G w0) (hl : l.length ≤ 4096) (hz : ∀ n ∈ l, n.f2.length ≤ 1099511627776) (hk : ∀ n ∈ l, ∀ k ∈ n.f2, 0 ≤ k ∧ k < (l.length : Int)) :
    ∀ (K : Nat) (at_ deep : Int) (s s' : List Bool × Bool) (t : Tr) (W : World), Rl w0 lb mb cp A0 A1 l.length c0 sh.length c1 root s W → refO l (nmR sh 0) K at_ deep s = some (t, s') → 0 ≤ at_ → at_ < (l.length : Int) → 0 ≤ deep → deep + K ≤ 1099511627776 →
      Calls Tryz.prog 31 #[.pointer (some ⟨lb, 0, none⟩), .int .i64 at_, .int .i64 deep] W fun e W' => ∃ v, e = .returned (.agg #[.int .i64 t.f0, .string t.f1, .string t.f2, v]) ∧ Kd.M k29 W' W.heap.size (fun _ => True) t [.int .i64 t.f0, .string t.f1, .string t.f2, v] ∧ Rl w0 lb mb cp A0 A1 l.length c0 sh.length c1 root s' W' ∧ KeepBut W W' lb (some mb) := by
  intro K
  induction K with
  | zero => intro at_ deep s s' t W _ h; simp [refO] at h
  | succ K ih =>
    intro at_ deep s s' t W hW h h0 h1 hd0 hd1
    obtain ⟨m, d⟩ := s
    rw [refO] at h
    dsimp only at h
    have HR := Lib.hid hr
    have HS := Lib.hid hs
    have HG := Lib.hid hG
    have HZ := Lib.hid hz
    have HKK := Lib.hid hk
    have IH := Lib.hid ih
    have hV1 : Rv w0 W lb mb cp A0 A1 l.length c0 sh.length c1 root (m, d) #[.int .i64 0, .string ⟨#[]⟩, .string ⟨#[]⟩, .slice none 0 0] (W.alloc (.cells #[.int .i64 0, .string ⟨#[]⟩, .string ⟨#[]⟩, .slice none 0 0] 29)) :=
      ⟨hW.keep (below_alloc (Below.refl _ _) _), KeepBut.of_below (below_alloc (Below.refl _ _) _) lb (some mb), blk_new W _, blk_lt hW.l, hW.mlt.1, hW.bel.size⟩
    obtain ⟨x0, x1, x2, x3, x4, x5⟩ := hV1.lw.cells
    obtain ⟨y0, y1⟩ := hV1.lw.at_ at_ h0 h1
    have HV1 := Lib.hid hV1
    have p1 : (0 ≤ at_) = True := eq_true h0
    have p2 : (at_ < (l.length : Int)) = True := eq_true h1
    clear hr hs hG hz hk ih hW hV1
    by_cases hm : rdOf false m at_ = true
    · rw [hm] at y0
      rw [if_pos hm] at h
      obtain ⟨e1, e2⟩ := Prod.mk.inj (Option.some.inj h)
      subst e2
      have HT := Lib.hid e1.symm
      clear h e1 hm
      go_enter Tryz.func31, Tryz.ntmps31
      go_wp2_with (go_at_call 46; refine (name_is _ lb _ _ _ _ A1 c1 sh at_ (HG.out.below HV1.out.lw.bel) HV1.out.lw.l (Kd.C_below HS.out HV1.out.lw.bel) hsl).mono ?_; rintro e w2 ⟨rfl, hb2⟩; have HV2 := Lib.hid (HV1.out.below hb2); clear hb2 x0 x1 x2 x3 x4 x5 y0 y1; obtain ⟨⟨r0, r1, r2, r3⟩, r4, r5, r6, r7⟩ := HV2.out.res)
      have HV7 := Lib.hid (HV2.out.put4 (.int .i64 7) (.string ⟨#[]⟩) (.string (nmR sh 0 at_)) (.slice none 0 0))
      refine bodyPost_ret (results_cell_row rfl _ _ W.heap.size 29 #[.int .i64 7, .string ⟨#[]⟩, .string (nmR sh 0 at_), .slice none 0 0] (0, 0) _ rfl HV7.out.rb Tryz.underlying29 rfl (by kernel_rfl)) rfl ?_
      rw [HT.out]
      exact ⟨.slice none 0 0, rfl, k29_mkM _ _ _ ⟨7, ⟨#[]⟩, _, []⟩ (Kd.R_nil _ _ _ _ _), HV7.out.lw, HV7.out.kb⟩
    · rw [if_neg hm] at h
      have hm' := Bool.eq_false_iff.2 hm
      rw [hm'] at y0
      have hV3 := HV1.out.mark at_
      obtain ⟨bd, A2, c2, eA, g0, g1, g2, hc2, hC⟩ := at_T45 HR.out at_ h0 h1
      subst eA
      have g0 := (hV3.lw.bel.cell (World.block_lt_of_cell? w0 _ g0)).trans g0
      have g1 := (hV3.lw.bel.cell (World.block_lt_of_cell? w0 _ g1)).trans g1
      have g2 := (hV3.lw.bel.cell (World.block_lt_of_cell? w0 _ g2)).trans g2
      have hzz := HZ.out _ (rd_mem l at_ h0 h1)
      have hkk := HKK.out _ (rd_mem l at_ h0 h1)
      generalize rd_T45 l at_ = n at *
      obtain ⟨kd, tx, kids⟩ := n
      dsimp only at g0 g1 g2 hc2 hC hzz hkk h
      have HC := Lib.hid hC
      have HKI := Lib.hid hkk
      have HV3 := Lib.hid hV3
      obtain ⟨z0, z1, z2, z3, z4, z5⟩ := hV3.lw.cells
      clear hC hkk hm hm' hV3
      go_enter Tryz.func31, Tryz.ntmps31
      go_wp2_with (fail)
      have HN4 := Lib.hid (show Rn w0 W lb mb cp (some bd) A1 l.length c0 sh.length c1 root (m.set at_.toNat true, d) #[.int .i64 0, .string ⟨#[]⟩, .string ⟨#[]⟩, .slice none 0 0] #[.int .i64 kd, .string tx, .slice A2 kids.length c2] (W.heap.size + 1) (((W.alloc (.cells #[.int .i64 0, .string ⟨#[]⟩, .string ⟨#[]⟩, .slice none 0 0] 29)).setCell ⟨mb, at_.toNat, none⟩ (.bool true)).alloc (.cells #[.int .i64 kd, .string tx, .slice A2 kids.length c2] 45)) from by
        have e2 := blk_new ((W.alloc (.cells #[.int .i64 0, .string ⟨#[]⟩, .string ⟨#[]⟩, .slice none 0 0] 29)).setCell ⟨mb, at_.toNat, none⟩ (.bool true)) (.cells #[.int .i64 kd, .string tx, .slice A2 kids.length c2] 45)
        have e1 : ((W.alloc (.cells #[.int .i64 0, .string ⟨#[]⟩, .string ⟨#[]⟩, .slice none 0 0] 29)).setCell ⟨mb, at_.toNat, none⟩ (.bool true)).heap.size = W.heap.size + 1 := by simp
        rw [e1] at e2
        exact ⟨HV3.out.below (below_alloc (Below.refl _ _) _), e2, by omega⟩)
      generalize World.alloc _ _ = w4 at HN4 ⊢
      generalize W.heap.size + 1 = nb at HN4 ⊢
      clear HV1 HV3 x0 x1 x2 x3 x4 x5 y0 y1 z0 z1 z2 z3 z4 z5 g0 g1 g2
      have HN5 := Lib.hid (HN4.out.below (below_drew1 (Below.refl _ _)))
      refine start_ (n := 10) (S := fun w' => w'.cell? ⟨nb, 0, none⟩ = some (.int .i64 kd) ∧ w'.cell? ⟨nb, 1, none⟩ = some (.string tx)) (ds := [9]) #[false, false, false, false, false, false, false, false, false, false] (by kernel_rfl) rfl rfl ⟨HN5.out.cells.1, HN5.out.cells.2.1⟩ (fun hHeld => ?_)
      refine pure_ (i := 0) (N := some 35) (v := ?_) (a' := ?_) #[true, false, false, false, false, false, false, false, false, false] rfl rfl (by kernel_rfl) (fun _ _ _ h => h) (Or.inl ⟨by rfl, ?_⟩) ?_ ?_
      rotate_left
      · intro w'
        go_simp
        with_reducible rfl
      rotate_left
      · simp only [Act.put, List.setIfInBounds_toArray, List.set_cons_zero, List.set_cons_succ, i64_w, i32_w]
        rfl
      refine pure_ (i := 2) (N := some 37) (v := ?_) (a' := ?_) #[true, false, true, false, false, false, false, false, false, false] rfl rfl (by kernel_rfl) (fun _ _ _ h => h) (Or.inl ⟨by rfl, ?_⟩) ?_ ?_
      rotate_left
      · intro w'
        go_simp
        with_reducible rfl
      rotate_left
      · simp only [Act.put, List.setIfInBounds_toArray, List.set_cons_zero, List.set_cons_succ, i64_w, i32_w]
        rfl
      refine pure_ (i := 4) (N := some 39) (v := ?_) (a' := ?_) #[true, false, true, false, true, false, false, false, false, false] rfl rfl (by kernel_rfl) (fun _ _ _ h => h) (Or.inl ⟨by rfl, ?_⟩) ?_ ?_
      rotate_left
      · intro w'
        go_simp
        with_reducible rfl
      rotate_left
      · simp only [Act.put, List.setIfInBounds_toArray, List.set_cons_zero, List.set_cons_succ, i64_w, i32_w]
        rfl
      refine pure_ (i := 5) (N := some 40) (v := ?_) (a' := ?_) #[true, false, true, false, true, true, false, false, false, false] rfl rfl (by kernel_rfl) (fun _ _ _ h => h) (Or.inl ⟨by rfl, ?_⟩) ?_ ?_
      rotate_left
      · intro w'
        go_simp
        with_reducible rfl
      rotate_left
      · simp only [Act.put, List.setIfInBounds_toArray, List.set_cons_zero, List.set_cons_succ, i64_w, i32_w]
        rfl
      refine take_ (i := 1) (N := some 36) (v := ?_) (a' := ?_) #[true, true, true, false, true, true, false, false, false, false] rfl rfl (by kernel_rfl) (fun _ _ _ h => h) (Or.inl ⟨by rfl, ?_⟩) hHeld ?_ ?_
      rotate_left
      · rintro w' ⟨s0, s1⟩
        go_simp
        with_reducible rfl
      rotate_left
      · simp only [Act.put, List.setIfInBounds_toArray, List.set_cons_zero, List.set_cons_succ, i64_w, i32_w]
        rfl
      refine take_ (i := 3) (N := some 38) (v := ?_) (a' := ?_) #[true, true, true, true, true, true, false, false, false, false] rfl rfl (by kernel_rfl) (fun _ _ _ h => h) (Or.inl ⟨by rfl, ?_⟩) hHeld ?_ ?_
      rotate_left
      · rintro w' ⟨s0, s1⟩
        go_simp
        with_reducible rfl
      rotate_left
      · simp only [Act.put, List.setIfInBounds_toArray, List.set_cons_zero, List.set_cons_succ, i64_w, i32_w]
        rfl
      refine join_ (σ := Nat) 1 #[true, true, true, true, true, true, true, true, true, false] (fun s => [(41, .string (nmR sh 0 at_)), (42, .agg #[.int .i64 kd, .string tx, .string (nmR sh 0 at_), .slice none 0 0]), (8, .pointer (some ⟨s, 0, none⟩))]) (fun s w' => Hid (Rn w0 W lb mb cp (some bd) A1 l.length c0 sh.length c1 root (m.set at_.toNat true, d) #[.int .i64 0, .string ⟨#[]⟩, .string ⟨#[]⟩, .slice none 0 0] #[.int .i64 kd, .string tx, .slice A2 kids.length c2] nb w' ∧ w'.heap[s]? = some (.cells #[.int .i64 0, .string ⟨#[]⟩, .string ⟨#[]⟩, .slice none 0 0] 29) ∧ W.heap.size < s ∧ s ≠ nb)) ?_ ?_
      rotate_left
      · intro hCont
        refine two_ (i := 6) (j := 8) (Ni := some 41) (Nj := some 8) #[true, true, true, true, true, true, true, false, false, false] #[true, true, true, true, true, true, false, false, true, false] rfl rfl rfl rfl (by kernel_rfl) (by decide) (by decide) (fun K hK => ?_) (fun K hK => ?_)
        · skip
          refine goes_ Tryz.func46 (by kernel_rfl) rfl #[.pointer (some ⟨lb, 0, none⟩), .int .i64 at_] (by rfl) rfl rfl (by simp only [List.map_toArray, List.map_cons, List.map_nil]; rfl) ?_
          with_reducible refine (name_is _ lb _ _ _ _ A1 c1 sh at_ (HG.out.below HN5.out.lv.lw.bel) HN5.out.lv.lw.l (Kd.C_below HS.out HN5.out.lv.lw.bel) hsl).mono ?_
          rintro e w6 ⟨rfl, hb6⟩
          refine ⟨_, rfl, ?_⟩
          have HN6 := Lib.hid (HN5.out.below hb6)
          clear hb6
          refine hK.out _ _ ⟨HN6.out.cells.1, HN6.out.cells.2.1⟩ (fun hHeld => ?_)
          clear hK K
          refine norm_ (a' := ?_) ?_ ?_
          rotate_left
          · show Act.put _ (some 41) _ = _
            simp only [Act.put, List.setIfInBounds_toArray, List.set_cons_zero, List.set_cons_succ, i64_w, i32_w]
            rfl
          refine pure_ (i := 7) (N := some 42) (v := ?_) (a' := ?_) #[true, true, true, true, true, true, true, true, false, false] rfl rfl (by kernel_rfl) (fun _ _ _ h => h) (Or.inl ⟨by rfl, ?_⟩) ?_ ?_
          rotate_left
          · intro w'
            go_simp
            with_reducible rfl
          rotate_left
          · simp only [Act.put, List.setIfInBounds_toArray, List.set_cons_zero, List.set_cons_succ, i64_w, i32_w]
            rfl
          refine one_ (i := 8) (N := some 8) #[true, true, true, true, true, true, true, true, true, false] rfl rfl (by kernel_rfl) (by decide) (fun K hK => ?_)
          refine value_ (w1 := ?_) (v := ?_) (by rfl) rfl ?_ ?_
          rotate_left 2
          · go_simp
            constructor
            · rfl
            · rfl
          have HA5 := Lib.hid (HN6.out.below (below_alloc (Below.refl _ _) (.cells #[.int .i64 0, .string ⟨#[]⟩, .string ⟨#[]⟩, .slice none 0 0] 29)))
          have HTA := Lib.hid (blk_new w6 (.cells #[.int .i64 0, .string ⟨#[]⟩, .string ⟨#[]⟩, .slice none 0 0] 29))
          refine hK.out _ _ ⟨HA5.out.cells.1, HA5.out.cells.2.1⟩ (fun hHeld => ?_)
          clear hK K
          refine norm_ (a' := ?_) ?_ ?_
          rotate_left
          · show Act.put _ (some 8) _ = _
            simp only [Act.put, List.setIfInBounds_toArray, List.set_cons_zero, List.set_cons_succ, i64_w, i32_w]
            rfl
          exact norm_ (by simp only [putAll, Act.put, List.setIfInBounds_toArray, List.set_cons_zero, List.set_cons_succ]) (hCont w6.heap.size _ (Lib.hid ⟨HA5.out, HTA.out, Nat.lt_trans HN6.out.gn (blk_lt HN6.out.n), Nat.ne_of_gt (blk_lt HN6.out.n)⟩))
        · skip
          refine value_ (w1 := ?_) (v := ?_) (by rfl) rfl ?_ ?_
          rotate_left 2
          · go_simp
            constructor
            · rfl
            · rfl
          have HA5 := Lib.hid ((HN4.out.below (below_alloc (Below.refl _ _) (.cells #[.int .i64 0, .string ⟨#[]⟩, .string ⟨#[]⟩, .slice none 0 0] 29))).below (below_drew1 (Below.refl _ _)))
          have HTA := Lib.hid (blk_drew (blk_new w4 (.cells #[.int .i64 0, .string ⟨#[]⟩, .string ⟨#[]⟩, .slice none 0 0] 29)))
          refine hK.out _ _ ⟨HA5.out.cells.1, HA5.out.cells.2.1⟩ (fun hHeld => ?_)
          clear hK K
          refine norm_ (a' := ?_) ?_ ?_
          rotate_left
          · show Act.put _ (some 8) _ = _
            simp only [Act.put, List.setIfInBounds_toArray, List.set_cons_zero, List.set_cons_succ, i64_w, i32_w]
            rfl
          refine one_ (i := 6) (N := some 41) #[true, true, true, true, true, true, true, false, true, false] rfl rfl (by kernel_rfl) (by decide) (fun K hK => ?_)
          refine goes_ Tryz.func46 (by kernel_rfl) rfl #[.pointer (some ⟨lb, 0, none⟩), .int .i64 at_] (by rfl) rfl rfl (by simp only [List.map_toArray, List.map_cons, List.map_nil]; rfl) ?_
          with_reducible refine (name_is _ lb _ _ _ _ A1 c1 sh at_ (HG.out.below HA5.out.lv.lw.bel) HA5.out.lv.lw.l (Kd.C_below HS.out HA5.out.lv.lw.bel) hsl).mono ?_
          rintro e w6 ⟨rfl, hb6⟩
          refine ⟨_, rfl, ?_⟩
          have HN6 := Lib.hid (HA5.out.below hb6)
          have HT6 := Lib.hid (blk_below HTA.out hb6)
          clear hb6
          refine hK.out _ _ ⟨HN6.out.cells.1, HN6.out.cells.2.1⟩ (fun hHeld => ?_)
          clear hK K
          refine norm_ (a' := ?_) ?_ ?_
          rotate_left
          · show Act.put _ (some 41) _ = _
            simp only [Act.put, List.setIfInBounds_toArray, List.set_cons_zero, List.set_cons_succ, i64_w, i32_w]
            rfl
          refine pure_ (i := 7) (N := some 42) (v := ?_) (a' := ?_) #[true, true, true, true, true, true, true, true, true, false] rfl rfl (by kernel_rfl) (fun _ _ _ h => h) (Or.inl ⟨by rfl, ?_⟩) ?_ ?_
          rotate_left
          · intro w'
            go_simp
            with_reducible rfl
          rotate_left
          · simp only [Act.put, List.setIfInBounds_toArray, List.set_cons_zero, List.set_cons_succ, i64_w, i32_w]
            rfl
          exact norm_ (by simp only [putAll, Act.put, List.setIfInBounds_toArray, List.set_cons_zero, List.set_cons_succ]) (hCont w4.heap.size _ (Lib.hid ⟨HN6.out, HT6.out, Nat.lt_trans HN4.out.gn (blk_lt HN4.out.n), Nat.ne_of_gt (blk_lt HN4.out.n)⟩))
      rintro tb w7 HF7
      have HN7 := Lib.hid HF7.out.1
      have HT7 := Lib.hid HF7.out.2.1
      have HX7 := Lib.hid HF7.out.2.2
      clear HF7
      have hHeld := (⟨HN7.out.cells.1, HN7.out.cells.2.1⟩ : w7.cell? ⟨nb, 0, none⟩ = some (.int .i64 kd) ∧ w7.cell? ⟨nb, 1, none⟩ = some (.string tx))
      have t0 := (blk_cell HT7.out 0).trans rfl
      have t1 := (blk_cell HT7.out 1).trans rfl
      have t2 := (blk_cell HT7.out 2).trans rfl
      have t3 := (blk_cell HT7.out 3).trans rfl
      have f0 := blk_frozen HT7.out 0
      have f1 := blk_frozen HT7.out 1
      have f2 := blk_frozen HT7.out 2
      have f3 := blk_frozen HT7.out 3
      refine norm_ (a' := ?_) ?_ ?_
      rotate_left
      · simp only [putAll, Act.put, List.setIfInBounds_toArray, List.set_cons_zero, List.set_cons_succ]
        rfl
      refine last_ (i := 9) (N := none) #[true, true, true, true, true, true, true, true, true, true] rfl rfl (by kernel_rfl) (by decide) (fun K hK => ?_)
      refine skip_ (w1 := ?_) (by rfl) rfl ?_ ?_
      rotate_left
      · go_simp
        rfl
      refine hK.out _ _ ?_
      clear hK K
      refine done_ (by kernel_rfl) ?_
      have HK8 := Lib.hid (HN7.out.tree HT7.out HX7.out (.int .i64 kd) (.string tx) (.string (nmR sh 0 at_)))
      generalize World.setCell _ _ _ = w8 at HK8 ⊢
      clear t0 t1 t2 t3 f0 f1 f2 f3 HT7 HN7 HX7 HN5 HN4 hHeld
      obtain ⟨i3, i4, i0, i1, i2⟩ := HK8.out.cells
      obtain ⟨n0, n1, n2⟩ := HK8.out.ln.cells
      obtain ⟨z0, z1, z2, z3, z4, z5⟩ := HK8.out.ln.lv.lw.cells
      obtain ⟨p, hp1, hp2⟩ := Option.map_eq_some_iff.1 h
      have HF := Lib.hid hp2
      obtain ⟨d', hd'⟩ : ∃ d', (d || (decide (5 ≤ kd) && decide (64 ≤ deep))) = d' := ⟨_, rfl⟩
      rw [hd'] at hp1
      have HP := Lib.hid hp1
      have hcase : (d = true ∧ true = d') ∨ (d = false ∧ decide (kd ≥ 5) = false ∧ false = d') ∨ (d = false ∧ decide (kd ≥ 5) = true ∧ decide (deep ≥ 64) = d') := by
        cases d with
        | true => exact .inl ⟨rfl, hd'⟩
        | false =>
          by_cases h5 : 5 ≤ kd
          · refine .inr (.inr ⟨rfl, decide_eq_true h5, ?_⟩)
            rw [← hd', decide_eq_true h5]; rfl
          · refine .inr (.inl ⟨rfl, decide_eq_false h5, ?_⟩)
            rw [← hd', decide_eq_false h5]; rfl
      clear h hp1 hp2 hd'
      rcases hcase with ⟨rfl, hd1⟩ | ⟨rfl, q1, hd1⟩ | ⟨rfl, q1, hd1⟩
      all_goals
        have HK9 := Lib.hid (HK8.out.deepE hd1)
        clear hd1
        go_wp2_with (fail)
        generalize World.setCell _ _ _ = w9 at HK9 ⊢
        clear i0 i1 i2 i3 i4 n0 n1 n2 z0 z1 z2 z3 z4 z5 HK8
        go_loopw [9] (fun v wr => ∃ (j : Nat) (ts : List Tr) (s2 : List Bool × Bool) (u : Value), v = .int .i64 j ∧ j ≤ kids.length ∧ Hid (ts.length = j) ∧ Hid ((kids.drop j).foldlM (fun (p : List Tr × (List Bool × Bool)) k => (refO l (nmR sh 0) K k (deep + 1) p.2).map fun q => (p.1 ++ [q.1], q.2)) (ts, s2) = some p) ∧ Hid (Rk w0 W lb mb cp (some bd) A1 l.length c0 sh.length c1 root s2 #[.int .i64 0, .string ⟨#[]⟩, .string ⟨#[]⟩, .slice none 0 0] #[.int .i64 kd, .string tx, .slice A2 kids.length c2] nb tb (.int .i64 kd) (.string tx) (.string (nmR sh 0 at_)) u u ts wr)) (fun v _ => kids.length - (intOf v).toNat)
        case atStart => exact ⟨0, [], _, _, rfl, by omega, Lib.hid rfl, HP, HK9⟩
        case round =>
          clear HK9 HP
          obtain ⟨j, ts, s2, u, rfl, hj, htl, HPR, HLR⟩ := hrel
          obtain ⟨_, _, n3⟩ := HLR.out.ln.cells
          by_cases hlj : j < kids.length
          · have hc : decide ((j : Int) < (kids.length : Int)) = true := decide_eq_true (by omega)
            obtain ⟨cd, eA, hx0⟩ := Kd.at_int HC.out (j : Int) (by omega) (by omega)
            subst eA
            rw [rd_at kids j hlj, Int.toNat_natCast] at hx0
            obtain ⟨k0, k1⟩ := HKI.out kids[j] (List.getElem_mem _)
            have hst := HPR.out
            rw [List.drop_eq_getElem_cons hlj, List.foldlM_cons] at hst
            obtain ⟨p1, hp1, hp2⟩ := Option.bind_eq_some_iff.1 hst
            obtain ⟨q, hq1, hq2⟩ := Option.map_eq_some_iff.1 hp1
            subst hq2
            obtain ⟨t2, s3⟩ := q
            have HPN := Lib.hid hp2
            have HQ := Lib.hid hq1
            have HLJ := Lib.hid hlj
            have p5 : (0 ≤ (j : Int)) = True := eq_true (by omega)
            have p6 : ((j : Int) < (kids.length : Int)) = True := eq_true (by omega)
            clear hst hp1 hp2 hq1 HPR
            generalize kids[j] = k at *
            obtain ⟨A7, c7, ev⟩ := Kd.R_slice HLR.out.row
            subst ev
            obtain ⟨i3, i4, _, _, _⟩ := HLR.out.cells
            have kx := (HLR.out.ln.lv.lw.bel.cell (World.block_lt_of_cell? w0 _ hx0)).trans hx0
            have HLD := Lib.hid (HLR.out.below (below_drew1 (Below.refl _ _)))
            go_wp2_with (fail)
            have hwd : wrap64 (deep + 1) = deep + 1 := by unfold wrap64; omega
            refine start_ (n := 15) (S := fun w' => w'.cell? ⟨tb, 3, none⟩ = some (.slice A7 ts.length c7) ∧ w'.cell? ⟨nb, 2, none⟩ = some (.slice (some cd) kids.length c2) ∧ w'.cell? (cd.add j) = some (.int .i64 k)) (ds := [14]) #[false, false, false, false, false, false, false, false, false, false, false, false, false, false, false] (by kernel_rfl) rfl rfl ⟨i3, n3, kx⟩ (fun hHeld => ?_)
            refine pure_ (i := 0) (N := some 66) (v := ?_) (a' := ?_) #[true, false, false, false, false, false, false, false, false, false, false, false, false, false, false] rfl rfl (by kernel_rfl) (fun _ _ _ h => h) (Or.inl ⟨by rfl, ?_⟩) ?_ ?_
            rotate_left
            · intro w'
              go_simp
              with_reducible rfl
            rotate_left
            · simp only [Act.put, List.setIfInBounds_toArray, List.set_cons_zero, List.set_cons_succ, i64_w, i32_w]
              rfl
            refine pure_ (i := 2) (N := some 68) (v := ?_) (a' := ?_) #[true, false, true, false, false, false, false, false, false, false, false, false, false, false, false] rfl rfl (by kernel_rfl) (fun _ _ _ h => h) (Or.inl ⟨by rfl, ?_⟩) ?_ ?_
            rotate_left
            · intro w'
              go_simp
              with_reducible rfl
            rotate_left
            · simp only [Act.put, List.setIfInBounds_toArray, List.set_cons_zero, List.set_cons_succ, i64_w, i32_w]
              rfl
            refine pure_ (i := 3) (N := some 69) (v := ?_) (a' := ?_) #[true, false, true, true, false, false, false, false, false, false, false, false, false, false, false] rfl rfl (by kernel_rfl) (fun _ _ _ h => h) (Or.inl ⟨by rfl, ?_⟩) ?_ ?_
            rotate_left
            · intro w'
              go_simp
              with_reducible rfl
            rotate_left
            · simp only [Act.put, List.setIfInBounds_toArray, List.set_cons_zero, List.set_cons_succ, i64_w, i32_w]
              rfl
            refine pure_ (i := 5) (N := some 71) (v := ?_) (a' := ?_) #[true, false, true, true, false, true, false, false, false, false, false, false, false, false, false] rfl rfl (by kernel_rfl) (fun _ _ _ h => h) (Or.inl ⟨by rfl, ?_⟩) ?_ ?_
            rotate_left
            · intro w'
              go_simp
              with_reducible rfl
            rotate_left
            · simp only [Act.put, List.setIfInBounds_toArray, List.set_cons_zero, List.set_cons_succ, i64_w, i32_w]
              rfl
            refine pure_ (i := 8) (N := some 74) (v := ?_) (a' := ?_) #[true, false, true, true, false, true, false, false, true, false, false, false, false, false, false] rfl rfl (by kernel_rfl) (fun _ _ _ h => h) (Or.inl ⟨by rfl, ?_⟩) ?_ ?_
            rotate_left
            · intro w'
              go_simp
              with_reducible rfl
            rotate_left
            · simp only [Act.put, List.setIfInBounds_toArray, List.set_cons_zero, List.set_cons_succ, i64_w, i32_w]
              rfl
            refine pure_ (i := 9) (N := some 75) (v := ?_) (a' := ?_) #[true, false, true, true, false, true, false, false, true, true, false, false, false, false, false] rfl rfl (by kernel_rfl) (fun _ _ _ h => h) (Or.inl ⟨by rfl, ?_⟩) ?_ ?_
            rotate_left
            · intro w'
              go_simp
              with_reducible rfl
            rotate_left
            · simp only [Act.put, List.setIfInBounds_toArray, List.set_cons_zero, List.set_cons_succ, i64_w, i32_w]
              rfl
            refine take_ (i := 1) (N := some 67) (v := ?_) (a' := ?_) #[true, true, true, true, false, true, false, false, true, true, false, false, false, false, false] rfl rfl (by kernel_rfl) (fun _ _ _ h => h) (Or.inl ⟨by rfl, ?_⟩) hHeld ?_ ?_
            rotate_left
            · rintro w' ⟨s0, s1, s2⟩
              go_simp
              with_reducible rfl
            rotate_left
            · simp only [Act.put, List.setIfInBounds_toArray, List.set_cons_zero, List.set_cons_succ, i64_w, i32_w]
              rfl
            refine take_ (i := 4) (N := some 70) (v := ?_) (a' := ?_) #[true, true, true, true, true, true, false, false, true, true, false, false, false, false, false] rfl rfl (by kernel_rfl) (fun _ _ _ h => h) (Or.inl ⟨by rfl, ?_⟩) hHeld ?_ ?_
            rotate_left
            · rintro w' ⟨s0, s1, s2⟩
              go_simp
              with_reducible rfl
            rotate_left
            · simp only [Act.put, List.setIfInBounds_toArray, List.set_cons_zero, List.set_cons_succ, i64_w, i32_w]
              rfl
            refine pure_ (i := 6) (N := some 72) (v := ?_) (a' := ?_) #[true, true, true, true, true, true, true, false, true, true, false, false, false, false, false] rfl rfl (by kernel_rfl) (fun _ _ _ h => h) (Or.inl ⟨by rfl, ?_⟩) ?_ ?_
            rotate_left
            · intro w'
              go_simp
              with_reducible rfl
            rotate_left
            · simp only [Act.put, List.setIfInBounds_toArray, List.set_cons_zero, List.set_cons_succ, i64_w, i32_w]
              rfl
            refine take_ (i := 7) (N := some 73) (v := ?_) (a' := ?_) #[true, true, true, true, true, true, true, true, true, true, false, false, false, false, false] rfl rfl (by kernel_rfl) (fun _ _ _ h => h) (Or.inl ⟨by rfl, ?_⟩) hHeld ?_ ?_
            rotate_left
            · rintro w' ⟨s0, s1, s2⟩
              go_simp
              with_reducible rfl
            rotate_left
            · simp only [Act.put, List.setIfInBounds_toArray, List.set_cons_zero, List.set_cons_succ, i64_w, i32_w]
              rfl
            refine one_ (i := 10) (N := some 76) #[true, true, true, true, true, true, true, true, true, true, true, false, false, false, false] rfl rfl (by kernel_rfl) (by decide) (fun K hK => ?_)
            refine goes_ Tryz.func31 (by kernel_rfl) rfl #[.pointer (some ⟨lb, 0, none⟩), .int .i64 k, .int .i64 (wrap64 (deep + 1))] (by rfl) rfl rfl (by simp only [List.map_toArray, List.map_cons, List.map_nil]; rfl) ?_
            rw [hwd]
            with_reducible refine (IH.out k (deep + 1) s2 s3 t2 _ HLD.out.ln.lv.lw HQ.out k0 k1 (by omega) (by omega)).mono ?_
            rintro e w9 ⟨v9, rfl, hM, hL9, hK9⟩
            refine ⟨_, rfl, ?_⟩
            have HM := Lib.hid hM
            have HL9 := Lib.hid (HLD.out.call hL9 hK9)
            have HS9 := Lib.hid hK9.1
            have HP9 := Lib.hid (Kd.M_mono k29 (ok' := fun k => wr.heap.size ≤ k) (fun k hk => hk.2.1) (Kd.M_lower k29 HLR.out.ln.lv.kb.1 (Kd.M_bound k29 HM.out)))
            have hs9 : wr.heap.size ≤ w9.heap.size := HS9.out
            have ht9 := blk_lt HLR.out.t
            have hn9 := blk_lt HLR.out.ln.n
            have hg9 := HLR.out.gt
            have hm9 := HLR.out.ln.gn
            have HOK : Hid (∀ k, wr.heap.size ≤ k → (k ≠ tb ∧ k ≠ W.heap.size ∧ k ≠ nb) ∧ some k ≠ (Value.slice A7 ts.length c7).ownBlock) := Lib.hid (fun k hk => ⟨⟨by omega, by omega, by omega⟩, fun e => by have := ((Kd.R_bound HLR.out.row).1 k e.symm).2.2.1; omega⟩)
            have HFR : Hid (∀ k, w9.heap.size ≤ k → k ≠ tb ∧ k ≠ W.heap.size ∧ k ≠ nb) := Lib.hid (fun k hk => ⟨by omega, by omega, by omega⟩)
            have HB9 : Hid (W.heap.size ≤ w9.heap.size) := Lib.hid (by omega)
            have HLEN : Hid ((ts.length + 1) * 64 ≤ 140737488355328) := Lib.hid (by have := htl.out; omega)
            clear hs9 ht9 hn9 hg9 hm9
            have c93 := HL9.out.cells.1
            have n93 := HL9.out.ln.cells.2.2
            have k93 := (HL9.out.ln.lv.lw.bel.cell (World.block_lt_of_cell? w0 _ hx0)).trans hx0
            clear hM hL9 hK9
            refine hK.out _ _ ⟨c93, n93, k93⟩ (fun hHeld => ?_)
            clear hK K
            refine norm_ (a' := ?_) ?_ ?_
            rotate_left
            · show Act.put _ (some 76) _ = _
              simp only [Act.put, List.setIfInBounds_toArray, List.set_cons_zero, List.set_cons_succ, i64_w, i32_w]
              rfl
            refine one_ (i := 11) (N := some 77) #[true, true, true, true, true, true, true, true, true, true, true, true, false, false, false] rfl rfl (by kernel_rfl) (by decide) (fun K hK => ?_)
            refine value_ (w1 := ?_) (v := ?_) (by rfl) rfl ?_ ?_
            rotate_left 2
            · go_simp
              constructor
              · rfl
              · rfl
            refine hK.out _ _ ⟨(cell_al c93), (cell_al n93), (cell_al k93)⟩ (fun hHeld => ?_)
            clear hK K
            refine norm_ (a' := ?_) ?_ ?_
            rotate_left
            · show Act.put _ (some 77) _ = _
              simp only [Act.put, List.setIfInBounds_toArray, List.set_cons_zero, List.set_cons_succ, i64_w, i32_w]
              rfl
            refine one_ (i := 12) (N := some 78) #[true, true, true, true, true, true, true, true, true, true, true, true, true, false, false] rfl rfl (by kernel_rfl) (by decide) (fun K hK => ?_)
            refine Kd.R_append_step k29 (w0 := w9) W.heap.size (by rfl) (.tmp 67) (.tmp 77) 27 29 (.agg #[.int .i64 0, .string ⟨#[]⟩, .string ⟨#[]⟩, .slice none 0 0]) 64 rfl Tryz.underlying27 info_tree rfl (by decide) (by omega) _ ts t2 [.int .i64 t2.f0, .string t2.f1, .string t2.f2, v9] (fun k => k ≠ tb ∧ k ≠ W.heap.size ∧ k ≠ nb) (fun k => wr.heap.size ≤ k) rfl rfl HP9.out HOK.out HFR.out HL9.out.row (Below.refl _ _) HB9.out HLEN.out ?_
            intro v1 w10 hR10 _ hg10 _
            have HL10 := Lib.hid (HL9.out.grow hg10 hR10)
            obtain ⟨A8, c8, ev⟩ := Kd.R_slice HL10.out.row
            obtain ⟨n8, hn8⟩ : ∃ n, (ts ++ [t2]).length = n := ⟨_, rfl⟩
            rw [hn8] at ev
            subst ev
            clear hn8
            have c103 := HL10.out.cells.1
            have f103 := HL10.out.cells.2.1
            have n103 := HL10.out.ln.cells.2.2
            have k103 := (HL10.out.ln.lv.lw.bel.cell (World.block_lt_of_cell? w0 _ hx0)).trans hx0
            clear hR10 hg10
            refine hK.out _ _ ⟨c103, n103, k103⟩ (fun hHeld => ?_)
            clear hK K
            refine norm_ (a' := ?_) ?_ ?_
            rotate_left
            · show Act.put _ (some 78) _ = _
              simp only [Act.put, List.setIfInBounds_toArray, List.set_cons_zero, List.set_cons_succ, i64_w, i32_w]
              rfl
            refine pure_ (i := 13) (N := some 79) (v := ?_) (a' := ?_) #[true, true, true, true, true, true, true, true, true, true, true, true, true, true, false] rfl rfl (by kernel_rfl) (fun _ _ _ h => h) (Or.inl ⟨by rfl, ?_⟩) ?_ ?_
            rotate_left
            · intro w'
              go_simp
              with_reducible rfl
            rotate_left
            · simp only [Act.put, List.setIfInBounds_toArray, List.set_cons_zero, List.set_cons_succ, i64_w, i32_w]
              rfl
            refine last_ (i := 14) (N := none) #[true, true, true, true, true, true, true, true, true, true, true, true, true, true, true] rfl rfl (by kernel_rfl) (by decide) (fun K hK => ?_)
            refine skip_ (w1 := ?_) (by rfl) rfl ?_ ?_
            rotate_left
            · go_simp
              rfl
            refine hK.out _ _ ?_
            clear hK K
            refine done_ (by kernel_rfl) ?_
            go_wp2_with (fail)
            go_roundw
            case rel =>
              have h1 := HLJ.out
              have h2 := htl.out
              exact ⟨j + 1, ts ++ [t2], s3, _, by go_num, by omega, Lib.hid (by rw [List.length_append, List.length_singleton]; omega), HPN, Lib.hid HL10.out.store⟩
            case measure => have := HLJ.out; simp [intOf]; omega
          · have hc : decide ((j : Int) < (kids.length : Int)) = false := decide_eq_false (by omega)
            have hje : j = kids.length := by omega
            have hpe : (ts, s2) = p := by have h := HPR.out; rw [hje, List.drop_length] at h; exact Option.some.inj h
            subst hpe
            obtain ⟨e1, e2⟩ := Prod.mk.inj HF.out
            dsimp only at e1 e2
            subst e2
            have HT := Lib.hid e1.symm
            clear e1 HPR
            obtain ⟨A7, c7, ev⟩ := Kd.R_slice HLR.out.row
            subst ev
            obtain ⟨i3, _, i0, i1, i2⟩ := HLR.out.cells
            obtain ⟨⟨r0, r1, r2, r3⟩, r4, r5, r6, r7⟩ := HLR.out.ln.lv.res
            have HV7 := Lib.hid (HLR.out.ln.lv.put4 (.int .i64 kd) (.string tx) (.string (nmR sh 0 at_)) (.slice A7 ts.length c7))
            have HR7 := Lib.hid (Kd.R_far (Kd.R_far (Kd.R_far (Kd.R_far HLR.out.row (p := ⟨W.heap.size, 0, none⟩) (fun k hk => hk.2.1) (.int .i64 kd)) (p := ⟨W.heap.size, 1, none⟩) (fun k hk => hk.2.1) (.string tx)) (p := ⟨W.heap.size, 2, none⟩) (fun k hk => hk.2.1) (.string (nmR sh 0 at_))) (p := ⟨W.heap.size, 3, none⟩) (fun k hk => hk.2.1) (.slice A7 ts.length c7))
            go_wp2_with (fail)
            refine bodyPost_ret (results_cell_row rfl _ _ W.heap.size 29 #[.int .i64 kd, .string tx, .string (nmR sh 0 at_), .slice A7 ts.length c7] (0, 0) _ rfl HV7.out.rb Tryz.underlying29 rfl (by kernel_rfl)) rfl ?_
            rw [HT.out]
            exact ⟨.slice A7 ts.length c7, rfl, k29_mkM _ _ _ ⟨kd, tx, _, ts⟩ (Kd.R_mono HR7.out (fun _ _ => trivial)), HV7.out.lw, HV7.out.kb⟩
end Go.Proofs.YtnjcpoojgmpmeaaGreatDoor.Plug
namespace Go.Proofs.YtnjcpoojgmpmeaaGreatDoor.PX
open RowKit YtnjcpoojgmpmeaaGreatDoorW.PrintWords YtnjcpoojgmpmeaaGreatDoorW.PrintLast YtnjcpoojgmpmeaaGreatDoorW.PrintMore YtnjcpoojgmpmeaaGreatDoor
attribute [local go_sem] max2_int min2_int max_two min_two max_three min_three max_four min_four   -- for this text's walks alone
set_option linter.unusedVariables false
set_option linter.unusedSimpArgs false
mutual
def grommetref13_Shared.l0 : Nat → List Int → List Int → Int → List (S45) → Int → Option (List Int × Int)
  | 0, _, _, _, _, _ => none
  | k + 1, x4, x6, x7, x102000, x102001 => if x7 < (x4.length : Int) then (if 0 ≤ x7 then (if 0 ≤ (rd x4 x7) then (if (rd x4 x7) < (x102000.length : Int) then (grommetref13_Shared.l1 k x4 x6 x7 0 x102000 x102001 ((rd_T45 x102000 (rd x4 x7)).f0) ((rd_T45 x102000 (rd x4 x7)).f1) ((rd_T45 x102000 (rd x4 x7)).f2)) else (none)) else (none)) else (none)) else (grommetref13_Shared.l2 k x4 x6 ([] : List Int) 0)
def grommetref13_Shared.l1 : Nat → List Int → List Int → Int → Int → List (S45) → Int → Int → ByteArray → List Int → Option (List Int × Int)
  | 0, _, _, _, _, _, _, _, _, _ => none
  | k + 1, x4, x6, x7, x9, x102000, x102001, x114000, x114001, x114002 => if x9 < (x114002.length : Int) then (if 0 ≤ x9 then (if 0 ≤ (rd x114002 x9) then (if (rd x114002 x9) < (x6.length : Int) then (grommetref13_Shared.l1 k x4 (x6.set ((rd x114002 x9) : Int).toNat (wrap64 ((rd x6 (rd x114002 x9)) + 1))) x7 (wrap64 (x9 + 1)) x102000 x102001 x114000 x114001 x114002) else (none)) else (none)) else (none)) else (grommetref13_Shared.l0 k x4 x6 (wrap64 (x7 + 1)) x102000 x102001)
def grommetref13_Shared.l2 : Nat → List Int → List Int → List Int → Int → Option (List Int × Int)
  | 0, _, _, _, _ => none
  | k + 1, x4, x6, x10, x11 => if x11 < (x4.length : Int) then (if 0 ≤ x11 then (if 0 ≤ (rd x4 x11) then (if (rd x4 x11) < (x6.length : Int) then (if (rd x6 (rd x4 x11)) > 1 then (if x10.length < 17592186044416 then (grommetref13_Shared.l2 k x4 x6 (x10 ++ [rd x4 x11]) (wrap64 (x11 + 1))) else (none)) else (grommetref13_Shared.l2 k x4 x6 x10 (wrap64 (x11 + 1)))) else (none)) else (none)) else (none)) else (some (x10, 0))
end
def grommetref13_Shared.f (k : Nat) (l0_0 : List (S45)) (a0_1 : Int) : Option (List Int × Int) := (grommetref12_Order.f k l0_0 a0_1).bind fun bt102 => (if bt102.2 = 0 then (if 0 ≤ (l0_0.length : Int) then (if ((l0_0.length : Int) : Int).toNat ≤ 35184372088832 then ((some (List.replicate ((l0_0.length : Int) : Int).toNat 0 : List Int)).bind fun y106 => (if 0 ≤ a0_1 then (if a0_1 < (y106.length : Int) then (grommetref13_Shared.l0 k bt102.1 (y106.set (a0_1 : Int).toNat (wrap64 ((rd y106 a0_1) + 1))) 0 l0_0 a0_1) else (none)) else (none))) else (none)) else (none)) else (some (([] : List Int), bt102.2)))
def grommetref13_Shared.T9 : Bool × List (List Nat × List Nat) := (true, [([], []), ([0], [0]), ([], []), ([], []), ([2, 3], [2, 3]), ([4], [4]), ([1, 5], [1, 5]), ([6], [6]), ([], []), ([8, 7, 0, 1, 2, 3, 4, 5, 6, 7, 8], [7, 8])])
def grommetref13_Shared.B9 : List Nat := [0, 1, 0, 0, 12, 28, 63, 127, 0, 511]
theorem grommetref13_Shared.tab9 : rtab .any (opsOf Tryz.f30 9) = grommetref13_Shared.T9 := by kernel_rfl
theorem grommetref13_Shared.bits9 : waitsOk grommetref13_Shared.T9.2 grommetref13_Shared.B9 = true := by kernel_rfl
theorem qhb0_ {P : Prop} (h_ : P := by repeat (first | (with_reducible first | exact HB.out | apply below_alloc | apply pw_below_drewN | apply below_drew1 | refine below_set ?_ GE101.out) | exact HB.out)) : P := h_
theorem qhb1_ {P : Prop} (h_ : P := by first | exact Nat.ne_of_lt (Nat.lt_of_lt_of_le (by have := World.block_lt_of_cell? _ _ hw112_2; first | rwa [add_block] at this | exact this) GW113.out) | (rw [add_block]; exact Nat.ne_of_lt (Nat.lt_of_lt_of_le (by have := World.block_lt_of_cell? _ _ hw112_2; first | rwa [add_block] at this | exact this) GW113.out)) | (show (Addr.add _ _).block ≠ _; rw [add_block]; exact Nat.ne_of_lt (Nat.lt_of_lt_of_le (by have := World.block_lt_of_cell? _ _ hw112_2; first | rwa [add_block] at this | exact this) GW113.out)) | (dsimp only; exact Nat.ne_of_lt (Nat.lt_of_lt_of_le (by have := World.block_lt_of_cell? _ _ hw112_2; first | rwa [add_block] at this | exact this) GW113.out))) : P := h_
theorem qhb2_ {P : Prop} (h_ : P := by first | exact Nat.ne_of_lt (Nat.lt_of_lt_of_le (by have := World.block_lt_of_cell? _ _ hw112_1; first | rwa [add_block] at this | exact this) GW113.out) | (rw [add_block]; exact Nat.ne_of_lt (Nat.lt_of_lt_of_le (by have := World.block_lt_of_cell? _ _ hw112_1; first | rwa [add_block] at this | exact this) GW113.out)) | (show (Addr.add _ _).block ≠ _; rw [add_block]; exact Nat.ne_of_lt (Nat.lt_of_lt_of_le (by have := World.block_lt_of_cell? _ _ hw112_1; first | rwa [add_block] at this | exact this) GW113.out)) | (dsimp only; exact Nat.ne_of_lt (Nat.lt_of_lt_of_le (by have := World.block_lt_of_cell? _ _ hw112_1; first | rwa [add_block] at this | exact this) GW113.out))) : P := h_
theorem qhb3_ {P : Prop} (h_ : P := by first | exact Nat.ne_of_lt (Nat.lt_of_lt_of_le (by have := World.block_lt_of_cell? _ _ hw112_0; first | rwa [add_block] at this | exact this) GW113.out) | (rw [add_block]; exact Nat.ne_of_lt (Nat.lt_of_lt_of_le (by have := World.block_lt_of_cell? _ _ hw112_0; first | rwa [add_block] at this | exact this) GW113.out)) | (show (Addr.add _ _).block ≠ _; rw [add_block]; exact Nat.ne_of_lt (Nat.lt_of_lt_of_le (by have := World.block_lt_of_cell? _ _ hw112_0; first | rwa [add_block] at this | exact this) GW113.out)) | (dsimp only; exact Nat.ne_of_lt (Nat.lt_of_lt_of_le (by have := World.block_lt_of_cell? _ _ hw112_0; first | rwa [add_block] at this | exact this) GW113.out))) : P := h_
theorem qhb4_ {P : Prop} (h_ : P := by first | (with_reducible assumption) | assumption) : P := h_
theorem qhb5_ {P : Prop} (h_ : P := by (with_reducible repeat (first | refine blk_drewN ?_ _ | refine blk_drew ?_ | refine blk_alloc ?_ _)); exact BK101.out) : P := h_
theorem qhb6_ {P : Prop} (h_ : P := by first | exact Kd.own_blk (Kd.R_ne HO_4.out BK113.out (by decide)) | (rw [add_block]; exact Kd.own_blk (Kd.R_ne HO_4.out BK113.out (by decide))) | (show (Addr.add _ _).block ≠ _; rw [add_block]; exact Kd.own_blk (Kd.R_ne HO_4.out BK113.out (by decide))) | (dsimp only; exact Kd.own_blk (Kd.R_ne HO_4.out BK113.out (by decide)))) : P := h_
theorem qhb7_ {P : Prop} (h_ : P := by repeat (first | (with_reducible first | exact HB.out | apply below_alloc | apply pw_below_drewN | apply below_drew1) | exact HB.out)) : P := h_
theorem qhb8_ {P : Prop} (h_ : P := by repeat (first | (with_reducible first | exact HB.out | apply below_alloc | apply pw_below_drewN | apply below_drew1 | refine below_set ?_ GE101.out | refine below_set ?_ GE113.out) | exact HB.out)) : P := h_
theorem qhb9_ {P : Prop} (h_ : P := by first | ((repeat (first | (with_reducible first | exact HB.out | apply below_alloc | apply pw_below_drewN | apply below_drew1 | (refine Glob.below_set ?_ (by assumption) _ _ _)) | exact HB.out)); done) | (refine Drawn0.below ?_; repeat (first | exact Drawn0.refl _ | assumption | apply Drawn0.step))) : P := h_
theorem qhb10_ {P : Prop} (h_ : P := by (try simp only [hl6_1]); (with_reducible repeat (first | refine blk_drewN ?_ _ | refine blk_drew ?_ | refine blk_alloc ?_ _)); exact BK101.out) : P := h_
theorem qhb11_ {P : Prop} (h_ : P := by first | rfl | (simp; done) | (simp [*]; done)) : P := h_
theorem qhb12_ {P : Prop} (h_ : P := by (with_reducible repeat (first | apply Kd.R_alloc | apply Kd.R_drewN | apply Kd.R_drew)); exact HO104.out) : P := h_
theorem qhb13_ {P : Prop} (h_ : P := by (with_reducible repeat (first | apply Kd.R_alloc | apply Kd.R_drewN | apply Kd.R_drew)); exact HO_6.out) : P := h_
theorem qhb14_ {P : Prop} (h_ : P := by (with_reducible repeat (first | apply Kd.R_alloc | apply Kd.R_drewN | apply Kd.R_drew)); exact HO_4.out) : P := h_
theorem qhb15_ {P : Prop} (h_ : P := by (try simp only [hl6_1]); (try simp only [hl6_2]); (with_reducible repeat (first | refine blk_drewN ?_ _ | refine blk_drew ?_ | refine blk_alloc ?_ _)); exact BK101.out) : P := h_
theorem qhb16_ {P : Prop} (h_ : P := by (try simp only [hl6_1]); (try simp only [hl6_2]); (with_reducible repeat (first | apply Kd.R_alloc | apply Kd.R_drewN | apply Kd.R_drew)); exact HO_6.out) : P := h_
theorem qhb17_ {P : Prop} (h_ : P := by (try simp only [List.map_toArray, List.map_cons, List.map_nil]); first | done | rfl | (simp only [List.length_drop, List.length_take]; rfl)) : P := h_
theorem qhb18_ {P : Prop} (h_ : P := by (try simp only [hl6_1]); (with_reducible repeat (first | apply Kd.R_alloc | apply Kd.R_drewN | apply Kd.R_drew)); exact HO_6.out) : P := h_
theorem qhb19_ {P : Prop} (h_ : P := by (try simp only [hl6_1]); (with_reducible repeat (first | apply Kd.R_alloc | apply Kd.R_drewN | apply Kd.R_drew)); exact HO_4.out) : P := h_
theorem qhb20_ {P : Prop} (h_ : P := by have := HK1.out; have := HK2.out; omega) : P := h_
theorem qhb21_ {P : Prop} (h_ : P := by intro w'; go_simp; with_reducible rfl) : P := h_
theorem qhb22_ {P : Prop} (h_ : P := by simp only [Act.put, List.setIfInBounds_toArray, List.set_cons_zero, List.set_cons_succ, i64_w, i32_w]; rfl) : P := h_
theorem qhb23_ {P : Prop} (h_ : P := by rintro w' ⟨s0, s1, s2, s3, s4, s5⟩; go_simp; with_reducible rfl) : P := h_
set_option maxHeartbeats 8000000 in
set_option maxRecDepth 100000 in
theorem grommetref13_Shared.calls (k : Nat) (A0_0 : Option Addr) (c0_0 : Nat) (l0_0 : List (S45)) (a0_1 : Int) (r1 : List Int) (r2 : Int) (w : World) (hr0_0 : Kd.C k45 w A0_0 l0_0.length l0_0) (hc0_0 : l0_0.length ≤ c0_0) (hG : Glob.G w) (h : grommetref13_Shared.f k l0_0 a0_1 = some (r1, r2)) :
  Calls Tryz.prog 30 #[.agg #[.slice A0_0 l0_0.length c0_0, .int .i64 a0_1]] w fun e w' => ∃ v0_ : Value, e = .returned (.tuple #[v0_, .int .i64 r2]) ∧ Kd.R (Kd.int .i64) 3 w' w.heap.size (fun _ => True) v0_ r1 ∧ Below w.heap.size w w' := by
 have hu24 := Tryz.underlying24
 have hu45 := Tryz.underlying45
 have HR0_0 := Aside0.mk hr0_0
 have HC0_0 := Aside0.mk hc0_0
 clear hr0_0 hc0_0
 have HB := Aside0.mk (Below.refl w.heap.size w)
 have H : ((grommetref12_Order.f k l0_0 a0_1).bind fun bt102 => (if bt102.2 = 0 then (if 0 ≤ (l0_0.length : Int) then (if ((l0_0.length : Int) : Int).toNat ≤ 35184372088832 then ((some (List.replicate ((l0_0.length : Int) : Int).toNat 0 : List Int)).bind fun y106 => (if 0 ≤ a0_1 then (if a0_1 < (y106.length : Int) then (grommetref13_Shared.l0 k bt102.1 (y106.set (a0_1 : Int).toNat (wrap64 ((rd y106 a0_1) + 1))) 0 l0_0 a0_1) else (none)) else (none))) else (none)) else (none)) else (some (([] : List Int), bt102.2)))) = some (r1, r2) := h
 clear h
 replace H := Option.bind_eq_some_iff.mp H
 obtain ⟨⟨t102, t105⟩, A20, H⟩ := H
 replace H : (if t105 = 0 then (if 0 ≤ (l0_0.length : Int) then (if ((l0_0.length : Int) : Int).toNat ≤ 35184372088832 then ((some (List.replicate ((l0_0.length : Int) : Int).toNat 0 : List Int)).bind fun y106 => (if 0 ≤ a0_1 then (if a0_1 < (y106.length : Int) then (grommetref13_Shared.l0 k t102 (y106.set (a0_1 : Int).toNat (wrap64 ((rd y106 a0_1) + 1))) 0 l0_0 a0_1) else (none)) else (none))) else (none)) else (none)) else (some (([] : List Int), t105))) = some (r1, r2) := H
 have A2 := Aside0.mk A20
 clear A20
 by_cases c3 : t105 = 0
 rotate_left
 ·
  rw [if_neg c3] at H
  have c3b0 : (t105 == 0) = false := beq_eq_false_iff_ne.mpr c3
  have c3b1 : (t105 != 0) = true := bne_iff_ne.mpr c3
  simp only [Option.some.injEq, Prod.mk.injEq] at H
  obtain ⟨rfl, rfl⟩ := H
  go_enter Tryz.func30, Tryz.ntmps30
  go_wp2_with (first | ((with_reducible refine gate_dst (N := 1) rfl ?_); refine box_event ?hg (N := 1) ?hd (cs := #[.slice A0_0 l0_0.length c0_0, .int .i64 a0_1]) (t := 24) ?hr ?_; (case hd => rfl); (case hg => rfl); (case hr => first | (go_simp; done) | (go_simp; rfl)); intro gb101 hg w48 hbox hb; have n0_ := Aside0.mk (below_step (qhb7_) hb); have n1_ := Aside0.mk (hbox); have n2_ := Aside0.mk ((by rw [hg]; exact (below_size (qhb7_)) : w.heap.size ≤ gb101)); have n3_ := Aside0.mk ((by rw [hg]; exact (below_size (qhb7_)) : w.heap.size ≤ gb101)); clear HB; have HB := n0_; have BK101 := n1_; have GW101 := n2_; have GE101 := n3_; clear n0_ n1_ n2_ n3_; clear hb hbox hg; have hcz49_0 : w48.cell? ⟨gb101, 0, none⟩ = some (.slice A0_0 l0_0.length c0_0) := (blk_cell BK101.out 0).trans rfl; have hcz49_1 : w48.cell? ⟨gb101, 1, none⟩ = some (.int .i64 a0_1) := (blk_cell BK101.out 1).trans rfl; have hfz49_0 := blk_frozen BK101.out 0; have hfz49_1 := blk_frozen BK101.out 1) | ((with_reducible refine gate_callee (f := 32) rfl ?_); refine goesL_ (some 14) rfl rfl Tryz.func32 (by kernel_rfl) rfl #[.agg #[.slice A0_0 l0_0.length c0_0, .int .i64 a0_1]] rfl (qhb17_) ?_; (with_reducible refine (grommetref12_Order.calls k _ _ l0_0 a0_1 t102 t105 _ ?side1 ?side2 (hG.below (qhb9_)) A2.out).mono ?_); (case side1 => repeat (first | exact (Kd.C_below HR0_0.out HB.out) | (with_reducible refine Kd.C_alloc ?_ _) | (with_reducible refine Kd.C_drewN ?_ _) | (with_reducible refine Kd.C_drew ?_))); (case side2 => exact HC0_0.out); rintro e w50 ⟨v103, rfl, ho0, hb⟩; refine ⟨_, rfl, ?_⟩; have n0_ := Aside0.mk (Kd.R_lower ho0 (below_size (qhb0_))); have n1_ := Aside0.mk (blk_below (g := gb101) (o := .cells #[.slice A0_0 l0_0.length c0_0, .int .i64 a0_1] 24 (0, 0)) (qhb5_) hb); have n2_ := Aside0.mk (below_step (qhb0_) hb); clear BK101; clear HB; have HO104 := n0_; have BK101 := n1_; have HB := n2_; clear n0_ n1_ n2_; (try clear hb); (try clear hk); (try clear ho0)))
  go_ret2
  exact ⟨_, by first | rfl | (simp [errW_none, errW_some] <;> rfl) | (simp [*, errW_none, errW_some] <;> rfl), by first | exact Kd.R_nil _ _ _ _ _ | exact Kd.N_nil _ _ _ _ _ | exact Kd.V_nil _ _ _ _ _ | exact Kd.Q_nil _ _ _ _ _ | exact Kd.S_nil _ _ _ _ _, qhb0_⟩
 rw [if_pos c3] at H
 have c3b0 : (t105 == 0) = true := beq_iff_eq.mpr c3
 have c3b1 : (t105 != 0) = false := bne_eq_false_iff_eq.mpr c3
 clear c3
 by_cases c4 : 0 ≤ (l0_0.length : Int)
 rotate_left
 ·
  rw [if_neg c4] at H
  exact absurd H (by simp)
 rw [if_pos c4] at H
 have c4b0 := eq_true c4
 have c4b1 : decide (0 ≤ (l0_0.length : Int)) = true := decide_eq_true c4
 clear c4
 by_cases c5 : ((l0_0.length : Int) : Int).toNat ≤ 35184372088832
 rotate_left
 ·
  rw [if_neg c5] at H
  exact absurd H (by simp)
 rw [if_pos c5] at H
 have c5b0 := eq_true c5
 have c5b1 : decide (((l0_0.length : Int) : Int).toNat ≤ 35184372088832) = true := decide_eq_true c5
 clear c5
 obtain ⟨y106, hy106⟩ : ∃ y_ : List Int, y_ = (List.replicate ((l0_0.length : Int) : Int).toNat 0) := ⟨_, rfl⟩
 replace H : (if 0 ≤ a0_1 then (if a0_1 < (y106.length : Int) then (grommetref13_Shared.l0 k t102 (y106.set (a0_1 : Int).toNat (wrap64 ((rd y106 a0_1) + 1))) 0 l0_0 a0_1) else (none)) else (none)) = some (r1, r2) := by first | (rw [hy106]; with_reducible exact H) | (have H2_ := (Option.bind_some _ _).symm.trans H; rw [hy106]; with_reducible exact H2_) | (have H2_ := (Option.bind_some _ _).symm.trans H; with_reducible exact H2_) | with_reducible exact H | (rw [hy106]; exact H) | exact H
 have Ny106 := Aside0.mk hy106
 clear hy106
 by_cases c6 : 0 ≤ a0_1
 rotate_left
 ·
  rw [if_neg c6] at H
  exact absurd H (by simp)
 rw [if_pos c6] at H
 have c6b0 : decide (0 ≤ a0_1) = true := decide_eq_true c6
 clear c6
 by_cases c7 : a0_1 < (y106.length : Int)
 rotate_left
 ·
  rw [if_neg c7] at H
  exact absurd H (by simp)
 rw [if_pos c7] at H
 have c7b0 : decide (a0_1 < (y106.length : Int)) = true := decide_eq_true c7
 clear c7
 obtain ⟨y110, hy110⟩ : ∃ y_ : List Int, y_ = (y106.set (a0_1 : Int).toNat (wrap64 ((rd y106 a0_1) + 1))) := ⟨_, rfl⟩
 replace H : (grommetref13_Shared.l0 k t102 y110 0 l0_0 a0_1) = some (r1, r2) := by first | (rw [hy110]; with_reducible exact H) | (have H2_ := (Option.bind_some _ _).symm.trans H; rw [hy110]; with_reducible exact H2_) | (have H2_ := (Option.bind_some _ _).symm.trans H; with_reducible exact H2_) | with_reducible exact H | (rw [hy110]; exact H) | exact H
 have Ny110 := Aside0.mk hy110
 clear hy110
 have H' := Aside0.mk H
 clear H
 go_enter Tryz.func30, Tryz.ntmps30
 go_wp2_with (first | ((with_reducible refine gate_dst (N := 1) rfl ?_); refine box_event ?hg (N := 1) ?hd (cs := #[.slice A0_0 l0_0.length c0_0, .int .i64 a0_1]) (t := 24) ?hr ?_; (case hd => rfl); (case hg => rfl); (case hr => first | (go_simp; done) | (go_simp; rfl)); intro gb101 hg w9 hbox hb; have n0_ := Aside0.mk (below_step (qhb7_) hb); have n1_ := Aside0.mk (hbox); have n2_ := Aside0.mk ((by rw [hg]; exact (below_size (qhb7_)) : w.heap.size ≤ gb101)); have n3_ := Aside0.mk ((by rw [hg]; exact (below_size (qhb7_)) : w.heap.size ≤ gb101)); clear HB; have HB := n0_; have BK101 := n1_; have GW101 := n2_; have GE101 := n3_; clear n0_ n1_ n2_ n3_; clear hb hbox hg; have hcz10_0 : w9.cell? ⟨gb101, 0, none⟩ = some (.slice A0_0 l0_0.length c0_0) := (blk_cell BK101.out 0).trans rfl; have hcz10_1 : w9.cell? ⟨gb101, 1, none⟩ = some (.int .i64 a0_1) := (blk_cell BK101.out 1).trans rfl; have hfz10_0 := blk_frozen BK101.out 0; have hfz10_1 := blk_frozen BK101.out 1) | ((with_reducible refine gate_callee (f := 32) rfl ?_); refine goesL_ (some 14) rfl rfl Tryz.func32 (by kernel_rfl) rfl #[.agg #[.slice A0_0 l0_0.length c0_0, .int .i64 a0_1]] rfl (qhb17_) ?_; (with_reducible refine (grommetref12_Order.calls k _ _ l0_0 a0_1 t102 t105 _ ?side1 ?side2 (hG.below (qhb9_)) A2.out).mono ?_); (case side1 => repeat (first | exact (Kd.C_below HR0_0.out HB.out) | (with_reducible refine Kd.C_alloc ?_ _) | (with_reducible refine Kd.C_drewN ?_ _) | (with_reducible refine Kd.C_drew ?_))); (case side2 => exact HC0_0.out); rintro e w11 ⟨v103, rfl, ho0, hb⟩; refine ⟨_, rfl, ?_⟩; have n0_ := Aside0.mk (Kd.R_lower ho0 (below_size (qhb0_))); have n1_ := Aside0.mk (blk_below (g := gb101) (o := .cells #[.slice A0_0 l0_0.length c0_0, .int .i64 a0_1] 24 (0, 0)) (qhb5_) hb); have n2_ := Aside0.mk (below_step (qhb0_) hb); clear BK101; clear HB; have HO104 := n0_; have BK101 := n1_; have HB := n2_; clear n0_ n1_ n2_; (try clear hb); (try clear hk); (try clear ho0); have hcz12_0 : w11.cell? ⟨gb101, 0, none⟩ = some (.slice A0_0 l0_0.length c0_0) := (blk_cell BK101.out 0).trans rfl; have hcz12_1 : w11.cell? ⟨gb101, 1, none⟩ = some (.int .i64 a0_1) := (blk_cell BK101.out 1).trans rfl; have hfz12_0 := blk_frozen BK101.out 0; have hfz12_1 := blk_frozen BK101.out 1) | ((with_reducible refine gate_dst (N := 23) rfl ?_); refine Kd.R_make (Kd.int .i64) _ 3 rfl (N := 23) rfl 40 _ _ rfl (l0_0.length : Int) rfl rfl Tryz.underlying40 (.int .i64 0) 8 info3 rfl (by decide) (by omega) 0 (ok := fun _ => True) (okp := fun _ => True) rfl (fun _ hk => hk) trivial (of_decide_eq_true (qhb4_)) (Nat.le_trans (Nat.mul_le_mul_right _ (of_decide_eq_true (qhb4_) : (l0_0.length : Int).toNat ≤ 35184372088832)) (by omega)) (Below.refl _ _) (Nat.le_refl _) ?_; intro v107 w13 ho14 hb hg_ hnew_; clear hg_ hnew_; (first | rw [← Ny106.out] at ho14 | (simp only [Int.reduceToNat] at ho14; rw [← Ny106.out] at ho14)); have n0_ := Aside0.mk (Kd.R_elder' (qhb12_) (Kd.R_base ho14) hb); have n1_ := Aside0.mk (Kd.R_lower (Kd.R_new' ho14 (Kd.R_lt (qhb12_))) (below_size (qhb0_))); have n2_ := Aside0.mk (blk_below (g := gb101) (o := .cells #[.slice A0_0 l0_0.length c0_0, .int .i64 a0_1] 24 (0, 0)) (qhb5_) hb); have n3_ := Aside0.mk (below_step (qhb0_) hb); clear HO104; clear BK101; clear HB; have HO104 := n0_; have HO108 := n1_; have BK101 := n2_; have HB := n3_; clear n0_ n1_ n2_ n3_; clear hb ho14; have hcz15_0 : w13.cell? ⟨gb101, 0, none⟩ = some (.slice A0_0 l0_0.length c0_0) := (blk_cell BK101.out 0).trans rfl; have hcz15_1 : w13.cell? ⟨gb101, 1, none⟩ = some (.int .i64 a0_1) := (blk_cell BK101.out 1).trans rfl; have hfz15_0 := blk_frozen BK101.out 0; have hfz15_1 := blk_frozen BK101.out 1; obtain ⟨Ao16, co16, eo16⟩ := Kd.R_slice HO108.out; subst eo16; have p109 : 0 ≤ (a0_1 : Int) := of_decide_eq_true (qhb4_); have q109 : a0_1 < (y106.length : Int) := of_decide_eq_true (qhb4_); obtain ⟨ad109, e109, hx109_0⟩ := Kd.at_int (Kd.R_reads' HO108.out).2.2 a0_1 p109 q109; cases e109; replace p109 := eq_true p109; replace q109 := eq_true q109; have p8 : 0 ≤ (a0_1 : Int) := of_decide_eq_true (qhb4_); have q8 : (a0_1 : Int) < ((y106.length : Int) : Int) := of_decide_eq_true (qhb4_); obtain ⟨go8, co8, eo8, gb8, gl8, cl8, HG8⟩ := Kd.R_form HO108.out (by omega); (first | cases eo8 | (injection eo8 with ea_ en_ ec_; (first | subst ea_ | (injection ea_ with ea_; subst ea_)); subst ec_; clear en_)); have GB8 := Aside0.mk gb8; have GG8 := Aside0.mk HG8; clear gb8 gl8 HG8; (first | simp only [add_plain] at hx109_0 | skip); obtain ⟨hx8_0, hf8_0⟩ := Kd.R_celln 0 HO108.out (a0_1 : Int) p8 q8; replace p8 := eq_true p8; replace q8 := eq_true q8; have n_ := Aside0.mk (Kd.R_mono (ok' := (fun k_ => some k_ ≠ (v103 : Value).ownBlock)) HO108.out (fun k_ hk => hk.2)); clear HO108; have HO108 := n_; clear n_; obtain ⟨hy17_, hz17_⟩ := Kd.R_celln 0 HO108.out (a0_1 : Int) (of_decide_eq_true (qhb4_)) (of_decide_eq_true (qhb4_)); have HP17 := Kd.R_putg HO108.out (a0_1 : Int) (wrap64 ((rd y106 a0_1) + 1))) | ((with_reducible refine gate_store (t := 3) (p := 30) rfl ?_); refine store_event (t := 3) (p := 30) (v := ?vo_w18) (w1 := (w13.setCell ⟨go8, (a0_1 : Int).toNat, none⟩ (.int .i64 (wrap64 ((rd y106 a0_1) + 1))))) ?hg ?ho ?hn ?hr ?_; (case ho => rfl); (case hg => rfl); (case hn => rfl); (case hr => first | (go_simp; done) | (go_simp; rfl)); intro w18 hw; have hg : w13.grownBy w18 (some go8) := (by rw [hw]; exact HP17.2); have hp_ : Kd.R (Kd.int .i64) 3 w18 w.heap.size (fun k_ => some k_ ≠ (v103 : Value).ownBlock) (.slice (some ⟨go8, 0, none⟩) y106.length co16) y110 := (by rw [hw, Ny110.out]; exact HP17.1); clear HP17; have n0_ := Aside0.mk (blk_grown (g := gb101) (o := .cells #[.slice A0_0 l0_0.length c0_0, .int .i64 a0_1] 24 (0, 0)) (qhb5_) hg (Kd.R_ne HO108.out BK101.out (by decide))); have n1_ := Aside0.mk (Kd.R_after (v := (.slice (some ⟨go8, 0, none⟩) y106.length co16)) (v1 := (.slice (some ⟨go8, 0, none⟩) y106.length co16)) (ok := (fun _ => True)) (qhb12_) hg (.inl rfl)); have n2_ := Aside0.mk (hp_); have n3_ := Aside0.mk ((by rw [hw]; exact below_set (HB.out) GB8.out : Below w.heap.size w w18)); clear BK101; clear HO104; clear HO108; clear HB; have BK101 := n0_; have HO104 := n1_; have HO108 := n2_; have HB := n3_; clear n0_ n1_ n2_ n3_; clear hg hw hp_))
 go_loopg [7] k (fun kq v7 w' => ∃ (x6_1 : List Int) (x7_1 : Int), v7 = .int .i64 x7_1 ∧ Aside0 (grommetref13_Shared.l0 kq t102 x6_1 x7_1 l0_0 a0_1 = some (r1, r2)) ∧ Aside0 (kq ≤ k) ∧ Aside0 (Kd.R (Kd.int .i64) 3 w' w.heap.size (fun k_ => some k_ ≠ ((.slice (some ⟨go8, 0, none⟩) y106.length co16) : Value).ownBlock) v103 t102) ∧ Aside0 (Kd.R (Kd.int .i64) 3 w' w.heap.size (fun k_ => some k_ ≠ (v103 : Value).ownBlock) (.slice (some ⟨go8, 0, none⟩) y106.length co16) x6_1) ∧ Aside0 (w'.heap[gb101]? = some (.cells #[(.slice A0_0 l0_0.length c0_0), .int .i64 a0_1] 24 (0, 0))) ∧ Aside0 (Below w.heap.size w w'))
 case atStart => exact ⟨(y110), (0), (qhb11_), H', ⟨Nat.le_refl _⟩, ⟨by (with_reducible repeat (first | apply Kd.R_alloc | apply Kd.R_drewN | apply Kd.R_drew)); exact Kd.R_mono HO104.out (fun _ hk => hk.2)⟩, ⟨by (with_reducible repeat (first | apply Kd.R_alloc | apply Kd.R_drewN | apply Kd.R_drew)); exact HO108.out⟩, ⟨qhb5_⟩, ⟨qhb0_⟩⟩
 case round =>
  clear H'
  try clear p1
  try clear q1
  try clear hx1
  try clear p2
  try clear c3
  try clear c3b0
  try clear c3b1
  try clear c4
  try clear c4b0
  try clear c4b1
  try clear c5
  try clear c5b0
  try clear c5b1
  try clear c6
  try clear c6b0
  try clear p6
  try clear c7
  try clear c7b0
  try clear p8
  try clear q8
  try clear hx8
  try clear hf8
  try clear p10
  try clear q10
  try clear hx10
  try clear hcz10_0
  try clear hcz10_1
  try clear hcz12_0
  try clear hcz12_1
  try clear hcz15_0
  try clear hcz15_1
  try clear hfz10_0
  try clear hfz10_1
  try clear hfz12_0
  try clear hfz12_1
  try clear hfz15_0
  try clear hfz15_1
  try clear hx109_0
  try clear hx8_0
  try clear p109
  try clear p8
  try clear q109
  try clear q8
  obtain ⟨x6_1, x7_1, rfl, HA, HK1, HO_4, HO_6, BK101, HB⟩ := hrel
  have hl6_1 := (Kd.R_reads' HO_6.out).1
  rw [hl6_1] at HO_6
  (try simp only [hl6_1])
  (try simp only [hl6_1] at BK101)
  (try simp only [hl6_1] at HO_4)
  cases gk with
  | zero => exact absurd HA.out (by simp [grommetref13_Shared.l0])
  | succ k1 =>
   have H := HA.out
   clear HA
   simp only [grommetref13_Shared.l0] at H
   by_cases c19 : x7_1 < (t102.length : Int)
   rotate_left
   ·
    rw [if_neg c19] at H
    have c19b0 : decide (x7_1 < (t102.length : Int)) = false := decide_eq_false c19
    clear c19
    have H' := Aside0.mk H
    clear H
    obtain ⟨Ao40, co40, eo40⟩ := Kd.R_slice HO_4.out
    subst eo40
    go_wp2
    go_loopg [10, 11] k1 (fun kq v10 v11 w' => ∃ (x10_2 : List Int) (x11_2 : Int), v11 = .int .i64 x11_2 ∧ Aside0 (grommetref13_Shared.l2 kq t102 x6_1 x10_2 x11_2 = some (r1, r2)) ∧ Aside0 (kq ≤ k1) ∧ Aside0 (Kd.R (Kd.int .i64) 3 w' w.heap.size (fun k_ => some k_ ≠ ((.slice (some ⟨go8, 0, none⟩) x6_1.length co16) : Value).ownBlock ∧ some k_ ≠ (v10 : Value).ownBlock) (.slice Ao40 t102.length co40) t102) ∧ Aside0 (Kd.R (Kd.int .i64) 3 w' w.heap.size (fun k_ => some k_ ≠ ((.slice Ao40 t102.length co40) : Value).ownBlock ∧ some k_ ≠ (v10 : Value).ownBlock) (.slice (some ⟨go8, 0, none⟩) x6_1.length co16) x6_1) ∧ Aside0 (Kd.R (Kd.int .i64) 3 w' w.heap.size (fun k_ => some k_ ≠ ((.slice Ao40 t102.length co40) : Value).ownBlock ∧ some k_ ≠ ((.slice (some ⟨go8, 0, none⟩) x6_1.length co16) : Value).ownBlock) v10 x10_2) ∧ Aside0 (w'.heap[gb101]? = some (.cells #[(.slice A0_0 l0_0.length c0_0), .int .i64 a0_1] 24 (0, 0))) ∧ Aside0 (Below w.heap.size w w'))
    case atStart => exact ⟨(([] : List Int)), (0), (qhb11_), H', ⟨Nat.le_refl _⟩, ⟨by (try simp only [hl6_1]); (with_reducible repeat (first | apply Kd.R_alloc | apply Kd.R_drewN | apply Kd.R_drew)); exact Kd.R_mono HO_4.out (fun _ hk => ⟨hk, (by simp [Value.ownBlock])⟩)⟩, ⟨by (try simp only [hl6_1]); (with_reducible repeat (first | apply Kd.R_alloc | apply Kd.R_drewN | apply Kd.R_drew)); exact Kd.R_mono HO_6.out (fun _ hk => ⟨hk, (by simp [Value.ownBlock])⟩)⟩, ⟨by (try simp only [hl6_1]); first | exact Kd.R_nil _ _ _ _ _ | exact Kd.N_nil _ _ _ _ _ | exact Kd.V_nil _ _ _ _ _ | exact Kd.Q_nil _ _ _ _ _ | exact Kd.S_nil _ _ _ _ _⟩, ⟨qhb10_⟩, ⟨qhb0_⟩⟩
    case round =>
     clear H'
     try clear c1
     try clear p1
     try clear q1
     try clear hx1
     try clear c2
     try clear p2
     try clear c3
     try clear c3b0
     try clear c3b1
     try clear p3
     try clear q3
     try clear hx3
     try clear hf3
     try clear c4
     try clear c4b0
     try clear c4b1
     try clear c5
     try clear c5b0
     try clear c5b1
     try clear c6
     try clear c6b0
     try clear p6
     try clear c7
     try clear c7b0
     try clear p8
     try clear q8
     try clear hx8
     try clear hf8
     try clear p10
     try clear q10
     try clear hx10
     try clear c11
     try clear p11
     try clear q11
     try clear hx11
     try clear c19
     try clear c19b0
     try clear c20
     try clear c20b0
     try clear c21
     try clear c21b0
     try clear c22
     try clear c22b0
     try clear c29
     try clear c29b0
     try clear c30
     try clear c30b0
     try clear c31
     try clear c31b0
     try clear c32
     try clear c32b0
     try clear p33
     try clear q33
     try clear hx33
     try clear hf33
     try clear c34
     try clear c38
     try clear hcz10_0
     try clear hcz10_1
     try clear hcz12_0
     try clear hcz12_1
     try clear hcz15_0
     try clear hcz15_1
     try clear hcz35_0
     try clear hcz35_1
     try clear hcz35_2
     try clear hcz39_0
     try clear hcz39_1
     try clear hcz39_2
     try clear hfz10_0
     try clear hfz10_1
     try clear hfz12_0
     try clear hfz12_1
     try clear hfz15_0
     try clear hfz15_1
     try clear hfz35_0
     try clear hfz35_1
     try clear hfz35_2
     try clear hfz39_0
     try clear hfz39_1
     try clear hfz39_2
     try clear hx109_0
     try clear hx111_0
     try clear hx112_0
     try clear hx112_1
     try clear hx112_2
     try clear hx114_0
     try clear hx115_0
     try clear hx33_0
     try clear hx8_0
     try clear p1
     try clear p10
     try clear p109
     try clear p11
     try clear p111
     try clear p112
     try clear p114
     try clear p115
     try clear p2
     try clear p33
     try clear p6
     try clear p8
     try clear q1
     try clear q10
     try clear q109
     try clear q11
     try clear q111
     try clear q112
     try clear q114
     try clear q115
     try clear q33
     try clear q8
     obtain ⟨x10_2, x11_2, rfl, HA, HK2, HO_4, HO_6, HO_10, BK101, HB⟩ := hrel
     cases gk with
     | zero => exact absurd HA.out (by simp [grommetref13_Shared.l2])
     | succ k2 =>
      have H := HA.out
      clear HA
      simp only [grommetref13_Shared.l2] at H
      by_cases c41 : x11_2 < (t102.length : Int)
      rotate_left
      ·
       rw [if_neg c41] at H
       have c41b0 : decide (x11_2 < (t102.length : Int)) = false := decide_eq_false c41
       clear c41
       simp only [Option.some.injEq, Prod.mk.injEq] at H
       obtain ⟨rfl, rfl⟩ := H
       go_wp2
       go_ret2
       exact ⟨_, by first | rfl | (simp [errW_none, errW_some] <;> rfl) | (simp [*, errW_none, errW_some] <;> rfl), by (with_reducible repeat (first | apply Kd.R_alloc | apply Kd.R_drewN | apply Kd.R_drew)); exact Kd.R_mono HO_10.out (fun _ hk => trivial), qhb0_⟩
      rw [if_pos c41] at H
      have c41b0 : decide (x11_2 < (t102.length : Int)) = true := decide_eq_true c41
      clear c41
      by_cases c42 : 0 ≤ x11_2
      rotate_left
      ·
       rw [if_neg c42] at H
       exact absurd H (by simp)
      rw [if_pos c42] at H
      have c42b0 : decide (0 ≤ x11_2) = true := decide_eq_true c42
      clear c42
      by_cases c43 : 0 ≤ (rd t102 x11_2)
      rotate_left
      ·
       rw [if_neg c43] at H
       exact absurd H (by simp)
      rw [if_pos c43] at H
      have c43b0 : decide (0 ≤ (rd t102 x11_2)) = true := decide_eq_true c43
      clear c43
      by_cases c44 : (rd t102 x11_2) < (x6_1.length : Int)
      rotate_left
      ·
       rw [if_neg c44] at H
       exact absurd H (by simp)
      rw [if_pos c44] at H
      have c44b0 : decide ((rd t102 x11_2) < (x6_1.length : Int)) = true := decide_eq_true c44
      clear c44
      by_cases c45 : (rd x6_1 (rd t102 x11_2)) > 1
      rotate_left
      ·
       rw [if_neg c45] at H
       have c45b0 : decide (1 < (rd x6_1 (rd t102 x11_2))) = false := decide_eq_false c45
       clear c45
       have H' := Aside0.mk H
       clear H
       have p117 : 0 ≤ (x11_2 : Int) := of_decide_eq_true (qhb4_)
       have q117 : x11_2 < (t102.length : Int) := of_decide_eq_true (qhb4_)
       obtain ⟨ad117, e117, hx117_0⟩ := Kd.at_int (Kd.R_reads' HO_4.out).2.2 x11_2 p117 q117
       cases e117
       replace p117 := eq_true p117
       replace q117 := eq_true q117
       have p118 : 0 ≤ ((rd t102 x11_2) : Int) := of_decide_eq_true (qhb4_)
       have q118 : (rd t102 x11_2) < (x6_1.length : Int) := of_decide_eq_true (qhb4_)
       obtain ⟨ad118, e118, hx118_0⟩ := Kd.at_int (Kd.R_reads' HO_6.out).2.2 (rd t102 x11_2) p118 q118
       obtain rfl : (⟨go8, 0, none⟩ : Addr) = ad118 := (by injection e118)
       (first | simp only [add_plain] at hx118_0 | simp only [add_at] at hx118_0 | simp only [Addr.add, Nat.zero_add] at hx118_0 | skip)
       replace p118 := eq_true p118
       replace q118 := eq_true q118
       go_wp2
       go_roundg k2
       case measure => have := HK1.out; have := HK2.out; omega
       case rel => exact ⟨(x10_2), (wrap64 (x11_2 + 1)), (qhb11_), H', ⟨qhb20_⟩, ⟨qhb19_⟩, ⟨qhb18_⟩, ⟨by (try simp only [hl6_1]); (with_reducible repeat (first | apply Kd.R_alloc | apply Kd.R_drewN | apply Kd.R_drew)); exact HO_10.out⟩, ⟨qhb10_⟩, ⟨qhb0_⟩⟩
      rw [if_pos c45] at H
      have c45b0 : decide (1 < (rd x6_1 (rd t102 x11_2))) = true := decide_eq_true c45
      clear c45
      by_cases c46 : x10_2.length < 17592186044416
      rotate_left
      ·
       rw [if_neg c46] at H
       exact absurd H (by simp)
      rw [if_pos c46] at H
      have LMc46 := Aside0.mk c46
      clear c46
      obtain ⟨y120, hy120⟩ : ∃ y_ : List Int, y_ = (x10_2 ++ [rd t102 x11_2]) := ⟨_, rfl⟩
      replace H : (grommetref13_Shared.l2 k2 t102 x6_1 y120 (wrap64 (x11_2 + 1))) = some (r1, r2) := by first | (rw [hy120]; with_reducible exact H) | (have H2_ := (Option.bind_some _ _).symm.trans H; rw [hy120]; with_reducible exact H2_) | (have H2_ := (Option.bind_some _ _).symm.trans H; with_reducible exact H2_) | with_reducible exact H | (rw [hy120]; exact H) | exact H
      have Ny120 := Aside0.mk hy120
      clear hy120
      have H' := Aside0.mk H
      clear H
      have p117 : 0 ≤ (x11_2 : Int) := of_decide_eq_true (qhb4_)
      have q117 : x11_2 < (t102.length : Int) := of_decide_eq_true (qhb4_)
      obtain ⟨ad117, e117, hx117_0⟩ := Kd.at_int (Kd.R_reads' HO_4.out).2.2 x11_2 p117 q117
      cases e117
      replace p117 := eq_true p117
      replace q117 := eq_true q117
      have p118 : 0 ≤ ((rd t102 x11_2) : Int) := of_decide_eq_true (qhb4_)
      have q118 : (rd t102 x11_2) < (x6_1.length : Int) := of_decide_eq_true (qhb4_)
      obtain ⟨ad118, e118, hx118_0⟩ := Kd.at_int (Kd.R_reads' HO_6.out).2.2 (rd t102 x11_2) p118 q118
      obtain rfl : (⟨go8, 0, none⟩ : Addr) = ad118 := (by injection e118)
      (first | simp only [add_plain] at hx118_0 | simp only [add_at] at hx118_0 | simp only [Addr.add, Nat.zero_add] at hx118_0 | skip)
      replace p118 := eq_true p118
      replace q118 := eq_true q118
      have p119 : 0 ≤ (x11_2 : Int) := of_decide_eq_true (qhb4_)
      have q119 : x11_2 < (t102.length : Int) := of_decide_eq_true (qhb4_)
      obtain ⟨ad119, e119, hx119_0⟩ := Kd.at_int (Kd.R_reads' HO_4.out).2.2 x11_2 p119 q119
      obtain rfl : ad117 = ad119 := (by injection e119)
      replace p119 := eq_true p119
      replace q119 := eq_true q119
      go_wp2_with (first | ((with_reducible refine gate_builtin (b := .append) (xs := #[.tmp 76, .tmp 81]) rfl ?_); at_builtin; refine Kd.R_append (Kd.int .i64) (w0 := w) w.heap.size rfl (.tmp 76) (.tmp 81) 40 3 (.int .i64 0) 8 rfl Tryz.underlying40 info3 rfl (by decide) (by omega) u10 x10_2 (rd t102 x11_2) [.int .i64 (rd t102 x11_2)] (fun k_ => some k_ ≠ (.slice (some ad117) t102.length co40 : Value).ownBlock ∧ some k_ ≠ (.slice (some ⟨go8, 0, none⟩) x6_1.length co16 : Value).ownBlock) (fun _ => False) rfl rfl ?aP (fun _ hk => hk.elim) ?aF ?aO ?aB ?aS ?aL ?_; (case aP => exact rfl); (case aB => exact (qhb0_)); (case aF => exact (fun k_ hk => ⟨Kd.fresh' (Kd.R_lt (qhb14_)) k_ hk, Kd.fresh' (Kd.R_lt (qhb13_)) k_ hk⟩)); (case aO => exact (by (with_reducible repeat (first | apply Kd.R_alloc | apply Kd.R_drewN | apply Kd.R_drew)); exact HO_10.out)); (case aS => exact (below_size (qhb0_))); (case aL => have := LMc46.out; omega); intro v121 w47 ho hb hg hat; rw [← Ny120.out] at ho; have n0_ := Aside0.mk (Kd.R_after (ok := (fun k_ => some k_ ≠ (.slice (some ⟨go8, 0, none⟩) x6_1.length co16 : Value).ownBlock)) (qhb14_) hg hat); have n1_ := Aside0.mk (Kd.R_after (ok := (fun k_ => some k_ ≠ (.slice (some ad117) t102.length co40 : Value).ownBlock)) (qhb13_) hg hat); have n2_ := Aside0.mk (blk_grown (g := gb101) (o := .cells #[.slice A0_0 l0_0.length c0_0, .int .i64 a0_1] 24 (0, 0)) (qhb5_) hg (Kd.R_ne HO_10.out BK101.out (by decide))); have n3_ := Aside0.mk (hb); have n4_ := Aside0.mk (ho); clear HO_4; clear HO_6; clear BK101; clear HB; clear HO_10; have HO_4 := n0_; have HO_6 := n1_; have BK101 := n2_; have HB := n3_; have HO122 := n4_; clear n0_ n1_ n2_ n3_ n4_; clear ho hb hg hat))
      go_roundg k2
      case measure => have := HK1.out; have := HK2.out; omega
      case rel => exact ⟨(y120), (wrap64 (x11_2 + 1)), (qhb11_), H', ⟨qhb20_⟩, ⟨qhb19_⟩, ⟨qhb18_⟩, ⟨by (try simp only [hl6_1]); (with_reducible repeat (first | apply Kd.R_alloc | apply Kd.R_drewN | apply Kd.R_drew)); exact HO122.out⟩, ⟨qhb10_⟩, ⟨qhb0_⟩⟩
   rw [if_pos c19] at H
   have c19b0 : decide (x7_1 < (t102.length : Int)) = true := decide_eq_true c19
   clear c19
   by_cases c20 : 0 ≤ x7_1
   rotate_left
   ·
    rw [if_neg c20] at H
    exact absurd H (by simp)
   rw [if_pos c20] at H
   have c20b0 : decide (0 ≤ x7_1) = true := decide_eq_true c20
   clear c20
   by_cases c21 : 0 ≤ (rd t102 x7_1)
   rotate_left
   ·
    rw [if_neg c21] at H
    exact absurd H (by simp)
   rw [if_pos c21] at H
   have c21b0 : decide (0 ≤ (rd t102 x7_1)) = true := decide_eq_true c21
   clear c21
   by_cases c22 : (rd t102 x7_1) < (l0_0.length : Int)
   rotate_left
   ·
    rw [if_neg c22] at H
    exact absurd H (by simp)
   rw [if_pos c22] at H
   have c22b0 : decide ((rd t102 x7_1) < (l0_0.length : Int)) = true := decide_eq_true c22
   clear c22
   have H' := Aside0.mk H
   clear H
   obtain ⟨Ao23, co23, eo23⟩ := Kd.R_slice HO_4.out
   subst eo23
   try go_wp2
   have n0_ := Aside0.mk (Kd.R_drew HO_4.out)
   have n1_ := Aside0.mk (Kd.R_drew HO_6.out)
   have n2_ := Aside0.mk (blk_drew BK101.out)
   have n3_ := Aside0.mk (below_drew1 HB.out)
   clear HO_4
   clear HO_6
   clear BK101
   clear HB
   have HO_4 := n0_
   have HO_6 := n1_
   have BK101 := n2_
   have HB := n3_
   clear n0_ n1_ n2_ n3_
   have p111 : 0 ≤ (x7_1 : Int) := of_decide_eq_true (qhb4_)
   have q111 : x7_1 < (t102.length : Int) := of_decide_eq_true (qhb4_)
   obtain ⟨ad111, e111, hx111_0⟩ := Kd.at_int (Kd.R_reads' HO_4.out).2.2 x7_1 p111 q111
   cases e111
   replace p111 := eq_true p111
   replace q111 := eq_true q111
   have p112 : 0 ≤ ((rd t102 x7_1) : Int) := of_decide_eq_true (qhb4_)
   have q112 : (rd t102 x7_1) < (l0_0.length : Int) := of_decide_eq_true (qhb4_)
   obtain ⟨ad112, A112_2, c112_2, e112, hx112_0, hx112_1, hx112_2, hl112_2, hi112_2⟩ := at_T45 HR0_0.out (rd t102 x7_1) p112 q112
   have KX112_2 := Aside0.mk hx112_2
   have hw112_2 := hx112_2
   have hw112_1 := hx112_1
   have hw112_0 := hx112_0
   cases e112
   replace hx112_0 := (HB.out.cell (World.block_lt_of_cell? w _ hx112_0)).trans hx112_0
   replace hx112_1 := (HB.out.cell (World.block_lt_of_cell? w _ hx112_1)).trans hx112_1
   replace hx112_2 := (HB.out.cell (World.block_lt_of_cell? w _ hx112_2)).trans hx112_2
   have HR112_2 := Aside0.mk hi112_2
   have HC112_2 := Aside0.mk hl112_2
   clear hi112_2 hl112_2
   replace p112 := eq_true p112
   replace q112 := eq_true q112
   refine start_ (n := 10) (S := fun w' => w'.cell? ⟨gb101, 0, none⟩ = some (.slice (some ad112) l0_0.length c0_0) ∧ w'.cell? ⟨gb101, 1, none⟩ = some (.int .i64 a0_1) ∧ w'.cell? (ad111.add (x7_1).toNat) = some (.int .i64 (rd t102 x7_1)) ∧ w'.cell? (ad112.add (((rd t102 x7_1)).toNat * 3)) = some (.int .i64 ((rd_T45 l0_0 (rd t102 x7_1)).f0)) ∧ w'.cell? ⟨(ad112.add (((rd t102 x7_1)).toNat * 3)).block, (ad112.add (((rd t102 x7_1)).toNat * 3)).off + 1, none⟩ = some (.string ((rd_T45 l0_0 (rd t102 x7_1)).f1)) ∧ w'.cell? ⟨(ad112.add (((rd t102 x7_1)).toNat * 3)).block, (ad112.add (((rd t102 x7_1)).toNat * 3)).off + 2, none⟩ = some (.slice A112_2 ((rd_T45 l0_0 (rd t102 x7_1)).f2).length c112_2)) (ds := []) #[false, false, false, false, false, false, false, false, false, false] (by kernel_rfl) rfl rfl ⟨(blk_cell BK101.out 0).trans rfl, (blk_cell BK101.out 1).trans rfl, hx111_0, ((HB.out.cell (World.block_lt_of_cell? w _ hw112_0)).trans hw112_0), ((HB.out.cell (World.block_lt_of_cell? w _ hw112_1)).trans hw112_1), ((HB.out.cell (World.block_lt_of_cell? w _ hw112_2)).trans hw112_2)⟩ (fun hHeld => ?_); refine with_tabW grommetref13_Shared.tab9 grommetref13_Shared.bits9 (fun HT_ HW_ => ?_)
   generalize wr.drew = w24 at HO_4 HO_6 BK101 HB HR112_2 hx111_0 hx112_0 hx112_1 hx112_2 hHeld ⊢
   refine pure_ (i := 0) (N := some 37) (v := ?_) (a' := ?_) #[true, false, false, false, false, false, false, false, false, false] rfl rfl (any_of HT_.out (by kernel_rfl)) (fun _ _ _ h => h) (Or.inl ⟨by rfl, ?_⟩) ?_ ?_
   rotate_left
   exact qhb21_
   rotate_left
   exact qhb22_
   refine pure_ (i := 2) (N := some 39) (v := ?_) (a' := ?_) #[true, false, true, false, false, false, false, false, false, false] rfl rfl (any_of HT_.out (by kernel_rfl)) (fun _ _ _ h => h) (Or.inl ⟨by rfl, ?_⟩) ?_ ?_
   rotate_left
   exact qhb21_
   rotate_left
   exact qhb22_
   refine pure_ (i := 3) (N := some 40) (v := ?_) (a' := ?_) #[true, false, true, true, false, false, false, false, false, false] rfl rfl (any_of HT_.out (by kernel_rfl)) (fun _ _ _ h => h) (Or.inl ⟨by rfl, ?_⟩) ?_ ?_
   rotate_left
   exact qhb21_
   rotate_left
   exact qhb22_
   refine pure_ (i := 4) (N := some 41) (v := ?_) (a' := ?_) #[true, false, true, true, true, false, false, false, false, false] rfl rfl (any_of HT_.out (by kernel_rfl)) (fun _ _ _ h => h) (Or.inl ⟨by rfl, ?_⟩) ?_ ?_
   rotate_left
   exact qhb21_
   rotate_left
   exact qhb22_
   refine take_ (i := 1) (N := some 38) (v := ?_) (a' := ?_) #[true, true, true, true, true, false, false, false, false, false] rfl rfl (take_ofW HT_.out HW_.out (by kernel_rfl)) (fun _ _ _ h => h) (Or.inl ⟨by rfl, ?_⟩) hHeld ?_ ?_
   rotate_left
   exact qhb23_
   rotate_left
   exact qhb22_
   refine take_ (i := 5) (N := some 42) (v := ?_) (a' := ?_) #[true, true, true, true, true, true, false, false, false, false] rfl rfl (take_ofW HT_.out HW_.out (by kernel_rfl)) (fun _ _ _ h => h) (Or.inl ⟨by rfl, ?_⟩) hHeld ?_ ?_
   rotate_left
   exact qhb23_
   rotate_left
   exact qhb22_
   refine pure_ (i := 6) (N := some 43) (v := ?_) (a' := ?_) #[true, true, true, true, true, true, true, false, false, false] rfl rfl (any_of HT_.out (by kernel_rfl)) (fun _ _ _ h => h) (Or.inl ⟨by rfl, ?_⟩) ?_ ?_
   rotate_left
   exact qhb21_
   rotate_left
   exact qhb22_
   refine take_ (i := 7) (N := some 44) (v := ?_) (a' := ?_) #[true, true, true, true, true, true, true, true, false, false] rfl rfl (take_ofW HT_.out HW_.out (by kernel_rfl)) (fun _ _ _ h => h) (Or.inl ⟨by rfl, ?_⟩) hHeld ?_ ?_
   rotate_left
   exact qhb23_
   rotate_left
   exact qhb22_
   refine one_ (i := 8) (N := some 8) #[true, true, true, true, true, true, true, true, true, false] rfl rfl (one_of HT_.out (by kernel_rfl)) (by decide) (fun K hK => ?_)
   refine box_step ?hg (N := 8) ?hd (cs := #[.int .i64 0, .string (⟨#[]⟩ : ByteArray), .slice none 0 0]) (t := 45) ?hr ?_; (case hd => rfl); (case hg => rfl); (case hr => first | (go_simp; done) | (go_simp; rfl))
   intro gb113 hg w25 hbox hb
   have HS2_ := (hb.cell (World.block_lt_of_cell? _ _ (hHeld.2.2.1))).trans (hHeld.2.2.1)
   have n0_ := Aside0.mk (Kd.R_below (qhb14_) hb)
   have n1_ := Aside0.mk (Kd.R_below (qhb13_) hb)
   have n2_ := Aside0.mk (blk_below (g := gb101) (o := .cells #[.slice (some ad112) l0_0.length c0_0, .int .i64 a0_1] 24 (0, 0)) (qhb5_) hb)
   have n3_ := Aside0.mk (below_step (qhb0_) hb)
   have n4_ := Aside0.mk (hbox)
   have n5_ := Aside0.mk ((by rw [hg]; exact (below_size (qhb0_)) : w.heap.size ≤ gb113))
   have n6_ := Aside0.mk ((by rw [hg]; exact (below_size (qhb0_)) : w.heap.size ≤ gb113))
   have n7_ := Aside0.mk ((by rw [hg]; exact Nat.ne_of_lt (blk_lt (g := gb101) (o := .cells #[.slice (some ad112) l0_0.length c0_0, .int .i64 a0_1] 24 (0, 0)) (qhb5_)) : gb101 ≠ gb113))
   have n8_ := Aside0.mk ((by rw [hg]; exact Nat.ne_of_gt (blk_lt (g := gb101) (o := .cells #[.slice (some ad112) l0_0.length c0_0, .int .i64 a0_1] 24 (0, 0)) (qhb5_)) : gb113 ≠ gb101))
   clear HO_4
   clear HO_6
   clear BK101
   clear HB
   have HO_4 := n0_
   have HO_6 := n1_
   have BK101 := n2_
   have HB := n3_
   have BK113 := n4_
   have GW113 := n5_
   have GE113 := n6_
   have NB101_113 := n7_
   have NB113_101 := n8_
   clear n0_ n1_ n2_ n3_ n4_ n5_ n6_ n7_ n8_
   clear hb hbox hg
   refine hK.out _ _ ⟨(blk_cell BK101.out 0).trans rfl, (blk_cell BK101.out 1).trans rfl, HS2_, ((HB.out.cell (World.block_lt_of_cell? w _ hw112_0)).trans hw112_0), ((HB.out.cell (World.block_lt_of_cell? w _ hw112_1)).trans hw112_1), ((HB.out.cell (World.block_lt_of_cell? w _ hw112_2)).trans hw112_2)⟩ (fun hHeld => ?_)
   clear hK K
   refine norm_ (a' := ?_) ?_ ?_
   rotate_left
   ·
    show Act.put _ (some 8) _ = _
    simp only [Act.put, List.setIfInBounds_toArray, List.set_cons_zero, List.set_cons_succ, i64_w, i32_w]
    rfl
   refine one_ (i := 9) (N := none) #[true, true, true, true, true, true, true, true, true, true] rfl rfl (one_of HT_.out (by kernel_rfl)) (by decide) (fun K hK => ?_)
   have hs26 : w25.cell? ⟨gb113, 0, none⟩ = some (.int .i64 0) := (blk_cell BK113.out 0).trans rfl
   have hfs26 := blk_frozen BK113.out 0
   have hns26_0 := NB101_113.out
   have hms26_0 := NB113_101.out
   have hs27 : w25.cell? ⟨gb113, 1, none⟩ = some (.string (⟨#[]⟩ : ByteArray)) := (blk_cell BK113.out 1).trans rfl
   have hfs27 := blk_frozen BK113.out 1
   have hns27_0 := NB101_113.out
   have hms27_0 := NB113_101.out
   have hs28 : w25.cell? ⟨gb113, 2, none⟩ = some (.slice none 0 0) := (blk_cell BK113.out 2).trans rfl
   have hfs28 := blk_frozen BK113.out 2
   have hns28_0 := NB101_113.out
   have hms28_0 := NB113_101.out
   refine skip_ (w1 := ?_) (by rfl) rfl ?_ ?_
   rotate_left
   ·
    go_simp
    rfl
   refine hK.out _ _ ⟨((cell_far (p := ⟨gb113, _, none⟩) NB101_113.out _).trans (((cell_far (p := ⟨gb113, _, none⟩) NB101_113.out _).trans (((cell_far (p := ⟨gb113, _, none⟩) NB101_113.out _).trans (hHeld.1)))))), ((cell_far (p := ⟨gb113, _, none⟩) NB101_113.out _).trans (((cell_far (p := ⟨gb113, _, none⟩) NB101_113.out _).trans (((cell_far (p := ⟨gb113, _, none⟩) NB101_113.out _).trans (hHeld.2.1)))))), ((cell_far (p := ⟨gb113, _, none⟩) (qhb6_) _).trans (((cell_far (p := ⟨gb113, _, none⟩) (qhb6_) _).trans (((cell_far (p := ⟨gb113, _, none⟩) (qhb6_) _).trans (hHeld.2.2.1)))))), ((cell_far (p := ⟨gb113, _, none⟩) (qhb3_) _).trans (((cell_far (p := ⟨gb113, _, none⟩) (qhb3_) _).trans (((cell_far (p := ⟨gb113, _, none⟩) (qhb3_) _).trans (hHeld.2.2.2.1)))))), ((cell_far (p := ⟨gb113, _, none⟩) (qhb2_) _).trans (((cell_far (p := ⟨gb113, _, none⟩) (qhb2_) _).trans (((cell_far (p := ⟨gb113, _, none⟩) (qhb2_) _).trans (hHeld.2.2.2.2.1)))))), ((cell_far (p := ⟨gb113, _, none⟩) (qhb1_) _).trans (((cell_far (p := ⟨gb113, _, none⟩) (qhb1_) _).trans (((cell_far (p := ⟨gb113, _, none⟩) (qhb1_) _).trans (hHeld.2.2.2.2.2))))))⟩ (fun hHeld => ?_)
   clear hK K
   refine done_ (done_of HT_.out (by kernel_rfl)) ?_
   try go_wp2
   go_loopg [9] k1 (fun kq v9 w' => ∃ (x6_2 : List Int) (x9_2 : Int), v9 = .int .i64 x9_2 ∧ Aside0 (grommetref13_Shared.l1 kq t102 x6_2 x7_1 x9_2 l0_0 a0_1 ((rd_T45 l0_0 (rd t102 x7_1)).f0) ((rd_T45 l0_0 (rd t102 x7_1)).f1) ((rd_T45 l0_0 (rd t102 x7_1)).f2) = some (r1, r2)) ∧ Aside0 (kq ≤ k1) ∧ Aside0 (Kd.R (Kd.int .i64) 3 w' w.heap.size (fun k_ => some k_ ≠ ((.slice (some ⟨go8, 0, none⟩) x6_1.length co16) : Value).ownBlock) (.slice (some ad111) t102.length co23) t102) ∧ Aside0 (Kd.R (Kd.int .i64) 3 w' w.heap.size (fun k_ => some k_ ≠ ((.slice (some ad111) t102.length co23) : Value).ownBlock) (.slice (some ⟨go8, 0, none⟩) x6_1.length co16) x6_2) ∧ Aside0 (w'.heap[gb101]? = some (.cells #[(.slice (some ad112) l0_0.length c0_0), .int .i64 a0_1] 24 (0, 0))) ∧ Aside0 (w'.heap[gb113]? = some (.cells #[.int .i64 ((rd_T45 l0_0 (rd t102 x7_1)).f0), .string ((rd_T45 l0_0 (rd t102 x7_1)).f1), (.slice A112_2 ((rd_T45 l0_0 (rd t102 x7_1)).f2).length c112_2)] 45 (0, 0))) ∧ Aside0 (Below w.heap.size w w'))
   case atStart => exact ⟨(x6_1), (0), (qhb11_), H', ⟨Nat.le_refl _⟩, ⟨by (try simp only [hl6_1]); (with_reducible repeat (first | apply Kd.R_alloc | apply Kd.R_drewN | apply Kd.R_drew)); exact Kd.R_mono (Kd.R_far (p := ⟨gb113, 2, none⟩) (Kd.R_far (p := ⟨gb113, 1, none⟩) (Kd.R_far (p := ⟨gb113, 0, none⟩) (Kd.R_types HO_4.out BK113.out (by decide)) (fun _ hk => hk.2) (.int .i64 ((rd_T45 l0_0 (rd t102 x7_1)).f0))) (fun _ hk => hk.2) (.string ((rd_T45 l0_0 (rd t102 x7_1)).f1))) (fun _ hk => hk.2) (.slice A112_2 ((rd_T45 l0_0 (rd t102 x7_1)).f2).length c112_2)) (fun _ hk => hk.1)⟩, ⟨by (try simp only [hl6_1]); (with_reducible repeat (first | apply Kd.R_alloc | apply Kd.R_drewN | apply Kd.R_drew)); exact Kd.R_mono (Kd.R_far (p := ⟨gb113, 2, none⟩) (Kd.R_far (p := ⟨gb113, 1, none⟩) (Kd.R_far (p := ⟨gb113, 0, none⟩) (Kd.R_types HO_6.out BK113.out (by decide)) (fun _ hk => hk.2) (.int .i64 ((rd_T45 l0_0 (rd t102 x7_1)).f0))) (fun _ hk => hk.2) (.string ((rd_T45 l0_0 (rd t102 x7_1)).f1))) (fun _ hk => hk.2) (.slice A112_2 ((rd_T45 l0_0 (rd t102 x7_1)).f2).length c112_2)) (fun _ hk => hk.1)⟩, ⟨by (try simp only [hl6_1]); (with_reducible repeat (first | refine blk_drewN ?_ _ | refine blk_drew ?_ | refine blk_alloc ?_ _)); refine blk_far ?_ NB101_113.out _; (with_reducible repeat (first | refine blk_drewN ?_ _ | refine blk_drew ?_ | refine blk_alloc ?_ _)); refine blk_far ?_ NB101_113.out _; (with_reducible repeat (first | refine blk_drewN ?_ _ | refine blk_drew ?_ | refine blk_alloc ?_ _)); refine blk_far ?_ NB101_113.out _; (with_reducible repeat (first | refine blk_drewN ?_ _ | refine blk_drew ?_ | refine blk_alloc ?_ _)); exact BK101.out⟩, ⟨by (try simp only [hl6_1]); (with_reducible repeat (first | refine blk_drewN ?_ _ | refine blk_drew ?_ | refine blk_alloc ?_ _)); refine blk_put (cs := #[.int .i64 ((rd_T45 l0_0 (rd t102 x7_1)).f0), .string ((rd_T45 l0_0 (rd t102 x7_1)).f1), .slice none 0 0]) ?_ 2 _ rfl; (with_reducible repeat (first | refine blk_drewN ?_ _ | refine blk_drew ?_ | refine blk_alloc ?_ _)); refine blk_put (cs := #[.int .i64 ((rd_T45 l0_0 (rd t102 x7_1)).f0), .string (⟨#[]⟩ : ByteArray), .slice none 0 0]) ?_ 1 _ rfl; (with_reducible repeat (first | refine blk_drewN ?_ _ | refine blk_drew ?_ | refine blk_alloc ?_ _)); refine blk_put (cs := #[.int .i64 0, .string (⟨#[]⟩ : ByteArray), .slice none 0 0]) ?_ 0 _ rfl; (with_reducible repeat (first | refine blk_drewN ?_ _ | refine blk_drew ?_ | refine blk_alloc ?_ _)); exact BK113.out⟩, ⟨qhb8_⟩⟩
   case round =>
    clear H'
    try clear c1
    try clear p1
    try clear q1
    try clear hx1
    try clear c2
    try clear p2
    try clear c3
    try clear c3b0
    try clear c3b1
    try clear c4
    try clear c4b0
    try clear c4b1
    try clear c5
    try clear c5b0
    try clear c5b1
    try clear c6
    try clear c6b0
    try clear p6
    try clear c7
    try clear c7b0
    try clear p8
    try clear q8
    try clear hx8
    try clear hf8
    try clear p10
    try clear q10
    try clear hx10
    try clear c11
    try clear p11
    try clear q11
    try clear hx11
    try clear c19
    try clear c19b0
    try clear c20
    try clear c20b0
    try clear c21
    try clear c21b0
    try clear c22
    try clear c22b0
    try clear hcz10_0
    try clear hcz10_1
    try clear hcz12_0
    try clear hcz12_1
    try clear hcz15_0
    try clear hcz15_1
    try clear hfz10_0
    try clear hfz10_1
    try clear hfz12_0
    try clear hfz12_1
    try clear hfz15_0
    try clear hfz15_1
    try clear hx109_0
    try clear hx111_0
    try clear hx112_0
    try clear hx112_1
    try clear hx112_2
    try clear hx8_0
    try clear p1
    try clear p10
    try clear p109
    try clear p111
    try clear p112
    try clear p2
    try clear p6
    try clear p8
    try clear q1
    try clear q10
    try clear q109
    try clear q111
    try clear q112
    try clear q8
    obtain ⟨x6_2, x9_2, rfl, HA, HK2, HO_4, HO_6, BK101, BK113, HB⟩ := hrel
    have hl6_2 := (Kd.R_reads' HO_6.out).1
    rw [hl6_2] at HO_6
    (try simp only [hl6_2])
    (try simp only [hl6_2] at BK101)
    (try simp only [hl6_2] at BK113)
    (try simp only [hl6_2] at HO_4)
    cases gk with
    | zero => exact absurd HA.out (by simp [grommetref13_Shared.l1])
    | succ k2 =>
     have H := HA.out
     clear HA
     simp only [grommetref13_Shared.l1] at H
     by_cases c29 : x9_2 < (((rd_T45 l0_0 (rd t102 x7_1)).f2).length : Int)
     rotate_left
     ·
      rw [if_neg c29] at H
      have c29b0 : decide (x9_2 < (((rd_T45 l0_0 (rd t102 x7_1)).f2).length : Int)) = false := decide_eq_false c29
      clear c29
      have H' := Aside0.mk H
      clear H
      have hnb38 := NB113_101.out
      have hnc38 := NB101_113.out
      have hcz39_0 : wr.cell? ⟨gb113, 0, none⟩ = some (.int .i64 ((rd_T45 l0_0 (rd t102 x7_1)).f0)) := (blk_cell BK113.out 0).trans rfl
      have hcz39_1 : wr.cell? ⟨gb113, 1, none⟩ = some (.string ((rd_T45 l0_0 (rd t102 x7_1)).f1)) := (blk_cell BK113.out 1).trans rfl
      have hcz39_2 : wr.cell? ⟨gb113, 2, none⟩ = some (.slice A112_2 ((rd_T45 l0_0 (rd t102 x7_1)).f2).length c112_2) := (blk_cell BK113.out 2).trans rfl
      have hfz39_0 := blk_frozen BK113.out 0
      have hfz39_1 := blk_frozen BK113.out 1
      have hfz39_2 := blk_frozen BK113.out 2
      go_wp2
      (try simp only [← hl6_1, ← hl6_2])
      go_roundg k2
      case measure => have := HK1.out; have := HK2.out; omega
      case rel => exact ⟨(x6_2), (wrap64 (x7_1 + 1)), (qhb11_), H', ⟨qhb20_⟩, ⟨by (try simp only [hl6_1]); (try simp only [hl6_2]); (with_reducible repeat (first | apply Kd.R_alloc | apply Kd.R_drewN | apply Kd.R_drew)); exact HO_4.out⟩, ⟨qhb16_⟩, ⟨qhb15_⟩, ⟨qhb8_⟩⟩
     rw [if_pos c29] at H
     have c29b0 : decide (x9_2 < (((rd_T45 l0_0 (rd t102 x7_1)).f2).length : Int)) = true := decide_eq_true c29
     clear c29
     by_cases c30 : 0 ≤ x9_2
     rotate_left
     ·
      rw [if_neg c30] at H
      exact absurd H (by simp)
     rw [if_pos c30] at H
     have c30b0 : decide (0 ≤ x9_2) = true := decide_eq_true c30
     clear c30
     by_cases c31 : 0 ≤ (rd ((rd_T45 l0_0 (rd t102 x7_1)).f2) x9_2)
     rotate_left
     ·
      rw [if_neg c31] at H
      exact absurd H (by simp)
     rw [if_pos c31] at H
     have c31b0 : decide (0 ≤ (rd ((rd_T45 l0_0 (rd t102 x7_1)).f2) x9_2)) = true := decide_eq_true c31
     clear c31
     by_cases c32 : (rd ((rd_T45 l0_0 (rd t102 x7_1)).f2) x9_2) < (x6_2.length : Int)
     rotate_left
     ·
      rw [if_neg c32] at H
      exact absurd H (by simp)
     rw [if_pos c32] at H
     have c32b0 : decide ((rd ((rd_T45 l0_0 (rd t102 x7_1)).f2) x9_2) < (x6_2.length : Int)) = true := decide_eq_true c32
     clear c32
     obtain ⟨y116, hy116⟩ : ∃ y_ : List Int, y_ = (x6_2.set ((rd ((rd_T45 l0_0 (rd t102 x7_1)).f2) x9_2) : Int).toNat (wrap64 ((rd x6_2 (rd ((rd_T45 l0_0 (rd t102 x7_1)).f2) x9_2)) + 1))) := ⟨_, rfl⟩
     replace H : (grommetref13_Shared.l1 k2 t102 y116 x7_1 (wrap64 (x9_2 + 1)) l0_0 a0_1 ((rd_T45 l0_0 (rd t102 x7_1)).f0) ((rd_T45 l0_0 (rd t102 x7_1)).f1) ((rd_T45 l0_0 (rd t102 x7_1)).f2)) = some (r1, r2) := by first | (rw [hy116]; with_reducible exact H) | (have H2_ := (Option.bind_some _ _).symm.trans H; rw [hy116]; with_reducible exact H2_) | (have H2_ := (Option.bind_some _ _).symm.trans H; with_reducible exact H2_) | with_reducible exact H | (rw [hy116]; exact H) | exact H
     have Ny116 := Aside0.mk hy116
     clear hy116
     have H' := Aside0.mk H
     clear H
     have hnb34 := NB113_101.out
     have hnc34 := NB101_113.out
     have hcz35_0 : wr.cell? ⟨gb113, 0, none⟩ = some (.int .i64 ((rd_T45 l0_0 (rd t102 x7_1)).f0)) := (blk_cell BK113.out 0).trans rfl
     have hcz35_1 : wr.cell? ⟨gb113, 1, none⟩ = some (.string ((rd_T45 l0_0 (rd t102 x7_1)).f1)) := (blk_cell BK113.out 1).trans rfl
     have hcz35_2 : wr.cell? ⟨gb113, 2, none⟩ = some (.slice A112_2 ((rd_T45 l0_0 (rd t102 x7_1)).f2).length c112_2) := (blk_cell BK113.out 2).trans rfl
     have hfz35_0 := blk_frozen BK113.out 0
     have hfz35_1 := blk_frozen BK113.out 1
     have hfz35_2 := blk_frozen BK113.out 2
     have p114 : 0 ≤ (x9_2 : Int) := of_decide_eq_true (qhb4_)
     have q114 : x9_2 < (((rd_T45 l0_0 (rd t102 x7_1)).f2).length : Int) := of_decide_eq_true (qhb4_)
     obtain ⟨ad114, e114, hx114_0⟩ := Kd.at_int HR112_2.out x9_2 p114 q114
     cases e114
     replace hx114_0 := (HB.out.cell (World.block_lt_of_cell? w _ hx114_0)).trans hx114_0
     replace p114 := eq_true p114
     replace q114 := eq_true q114
     have p115 : 0 ≤ ((rd ((rd_T45 l0_0 (rd t102 x7_1)).f2) x9_2) : Int) := of_decide_eq_true (qhb4_)
     have q115 : (rd ((rd_T45 l0_0 (rd t102 x7_1)).f2) x9_2) < (x6_2.length : Int) := of_decide_eq_true (qhb4_)
     obtain ⟨ad115, e115, hx115_0⟩ := Kd.at_int (Kd.R_reads' HO_6.out).2.2 (rd ((rd_T45 l0_0 (rd t102 x7_1)).f2) x9_2) p115 q115
     obtain rfl : (⟨go8, 0, none⟩ : Addr) = ad115 := (by injection e115)
     (first | simp only [add_plain] at hx115_0 | simp only [add_at] at hx115_0 | simp only [Addr.add, Nat.zero_add] at hx115_0 | skip)
     replace p115 := eq_true p115
     replace q115 := eq_true q115
     have p33 : 0 ≤ ((rd ((rd_T45 l0_0 (rd t102 x7_1)).f2) x9_2) : Int) := of_decide_eq_true (qhb4_)
     have q33 : ((rd ((rd_T45 l0_0 (rd t102 x7_1)).f2) x9_2) : Int) < ((x6_2.length : Int) : Int) := of_decide_eq_true (qhb4_)
     obtain ⟨hx33_0, hf33_0⟩ := Kd.R_celln 0 HO_6.out ((rd ((rd_T45 l0_0 (rd t102 x7_1)).f2) x9_2) : Int) p33 q33
     replace p33 := eq_true p33
     replace q33 := eq_true q33
     have HP36 := Kd.R_putg HO_6.out ((rd ((rd_T45 l0_0 (rd t102 x7_1)).f2) x9_2) : Int) (wrap64 ((rd x6_2 (rd ((rd_T45 l0_0 (rd t102 x7_1)).f2) x9_2)) + 1))
     go_wp2_with (first | ((with_reducible refine gate_store (t := 3) (p := 61) rfl ?_); refine store_event (t := 3) (p := 61) (v := ?vo_w37) (w1 := (wr.setCell ⟨go8, ((rd ((rd_T45 l0_0 (rd t102 x7_1)).f2) x9_2) : Int).toNat, none⟩ (.int .i64 (wrap64 ((rd x6_2 (rd ((rd_T45 l0_0 (rd t102 x7_1)).f2) x9_2)) + 1))))) ?hg ?ho ?hn ?hr ?_; (case ho => rfl); (case hg => rfl); (case hn => rfl); (case hr => first | (go_simp; done) | (go_simp; rfl)); intro w37 hw; have hg : wr.grownBy w37 (some go8) := (by rw [hw]; exact HP36.2); have hp_ : Kd.R (Kd.int .i64) 3 w37 w.heap.size (fun k_ => some k_ ≠ (.slice (some ad111) t102.length co23 : Value).ownBlock) (.slice (some ⟨go8, 0, none⟩) x6_2.length co16) y116 := (by rw [hw, Ny116.out]; exact HP36.1); clear HP36; have n0_ := Aside0.mk (Kd.R_after (v := (.slice (some ⟨go8, 0, none⟩) x6_2.length co16)) (v1 := (.slice (some ⟨go8, 0, none⟩) x6_2.length co16)) (ok := (fun _ => True)) (by (with_reducible repeat (first | apply Kd.R_alloc | apply Kd.R_drewN | apply Kd.R_drew)); exact Kd.R_mono HO_4.out (fun _ hk => ⟨trivial, hk⟩)) hg (.inl rfl)); have n1_ := Aside0.mk (hp_); have n2_ := Aside0.mk (blk_grown (g := gb101) (o := .cells #[.slice (some ad112) l0_0.length c0_0, .int .i64 a0_1] 24 (0, 0)) (qhb5_) hg (Kd.R_ne HO_6.out BK101.out (by decide))); have n3_ := Aside0.mk (blk_grown (g := gb113) (o := .cells #[.int .i64 ((rd_T45 l0_0 (rd t102 x7_1)).f0), .string ((rd_T45 l0_0 (rd t102 x7_1)).f1), .slice (some ad114) ((rd_T45 l0_0 (rd t102 x7_1)).f2).length c112_2] 45 (0, 0)) (by (with_reducible repeat (first | refine blk_drewN ?_ _ | refine blk_drew ?_ | refine blk_alloc ?_ _)); exact BK113.out) hg (Kd.R_ne HO_6.out BK113.out (by decide))); have n4_ := Aside0.mk ((by rw [hw]; exact below_set (HB.out) GB8.out : Below w.heap.size w w37)); clear HO_4; clear HO_6; clear BK101; clear BK113; clear HB; have HO_4 := n0_; have HO_6 := n1_; have BK101 := n2_; have BK113 := n3_; have HB := n4_; clear n0_ n1_ n2_ n3_ n4_; clear hg hw hp_))
     (try simp only [← hl6_2])
     go_roundg k2
     case measure => have := HK1.out; have := HK2.out; omega
     case rel => exact ⟨(y116), (wrap64 (x9_2 + 1)), (qhb11_), H', ⟨qhb20_⟩, ⟨by (try simp only [hl6_1]); (try simp only [hl6_2]); (with_reducible repeat (first | apply Kd.R_alloc | apply Kd.R_drewN | apply Kd.R_drew)); exact Kd.R_mono HO_4.out (fun _ hk => hk.2)⟩, ⟨qhb16_⟩, ⟨qhb15_⟩, ⟨by (try simp only [hl6_1]); (try simp only [hl6_2]); (with_reducible repeat (first | refine blk_drewN ?_ _ | refine blk_drew ?_ | refine blk_alloc ?_ _)); exact BK113.out⟩, ⟨qhb8_⟩⟩
end Go.Proofs.YtnjcpoojgmpmeaaGreatDoor.PX
namespace Go.Proofs.YtnjcpoojgmpmeaaGreatDoor.Plug
open Go.Maps RowKit YtnjcpoojgmpmeaaGreatDoor YtnjcpoojgmpmeaaGreatDoor.PX YtnjcpoojgmpmeaaGreatDoor.Utf YtnjcpoojgmpmeaaGreatDoor.Mapk YtnjcpoojgmpmeaaGreatDoor.Graphs YtnjcpoojgmpmeaaGreatDoorW.PrintWords YtnjcpoojgmpmeaaGreatDoorW.PrintLast YtnjcpoojgmpmeaaGreatDoorW.PrintMore
set_option linter.unusedVariables false
set_option linter.unusedSimpArgs false
theorem rd_last (xs : List Int) (a : Int) : rd (xs ++ [a]) (xs.length : Int) = a := by
 unfold rd
 rw [Int.toNat_natCast, List.getD_eq_getElem?_getD, List.getElem?_append_right (Nat.le_refl _), Nat.sub_self]; rfl
theorem take_last (xs : List Int) (a : Int) : (xs ++ [a]).take xs.length = xs := by simp
theorem walk_push (l : List Nd) (root : Int) (m : List Bool) (most dp : Int) (out kids : List Int) (hk : kids.length ≤ 1048576) : ∀ (i : Nat) (x7 x8 : List Int), i ≤ kids.length → x7.length = x8.length → x7.length + i ≤ 17592186044415 →
  ∃ ds : List Int, ds.length = x8.length + i ∧ ds.take x8.length = x8 ∧ ∀ k, grommetref12_walk.l1 (k + (i + 1)) m x7 x8 most out dp kids ((i : Int) - 1) l root = grommetref12_walk.l0 k m (x7 ++ (kids.take i).reverse) ds most out l root
 | 0, x7, x8, _, h2, _ => by
  refine ⟨x8, by simp, by simp, fun k => ?_⟩
  rw [show k + (0 + 1) = k + 1 by omega, grommetref12_walk.l1, if_neg (by omega)]
  simp
 | i + 1, x7, x8, h1, h2, h3 => by
  obtain ⟨ds, g1, gt, g2⟩ := walk_push l root m most dp out kids hk i (x7 ++ [rd kids (i : Int)]) (x8 ++ [wrap64 (dp + 1)]) (by omega) (by simp [h2]) (by simp; omega)
  refine ⟨ds, by rw [g1]; simp; omega, ?_, fun k => ?_⟩
  ·
   have h := congrArg (List.take x8.length) gt
   rw [List.take_take, List.length_append, List.length_singleton, Nat.min_eq_left (by omega), take_last] at h
   exact h
  have e1 : (((i + 1 : Nat) : Int) - 1) = (i : Int) := by omega
  have e2 : wrap64 ((i : Int) - 1) = (i : Int) - 1 := by unfold wrap64; omega
  rw [show k + (i + 1 + 1) = (k + (i + 1)) + 1 by omega, grommetref12_walk.l1, e1, if_pos (by omega), if_pos (by omega), if_pos (by omega), if_pos (by omega), if_pos (by omega), e2, g2 k]
  have e3 : (kids.take (i + 1)).reverse = rd kids (i : Int) :: (kids.take i).reverse := by
   rw [List.take_add_one, List.reverse_append]
   unfold rd
   rw [Int.toNat_natCast, List.getD_eq_getElem?_getD, List.getElem?_eq_getElem (by omega : i < kids.length)]
   rfl
  rw [e3, List.append_assoc]; rfl
theorem walk_at (l : List Nd) (root : Int) (hk : Kin l) (hM : ∀ n ∈ l, n.f2.length ≤ 1048576) : ∀ (K : Nat) (at_ deep : Int) (s : WS), GoS l.length s → l.length < K + s.2.1.length → l.length ≤ 4096 → 0 ≤ at_ → at_ < (l.length : Int) →
  ∃ s' ext, goO l K at_ deep s = some s' ∧ GoS l.length s' ∧ s'.2.1 = s.2.1 ++ ext ∧
   ∀ (rest restd : List Int) (d most : Int), rest.length = restd.length → rest.length + 1 + K * 1048576 ≤ 17592186044415 →
    ∃ F most', ∀ k, grommetref12_walk.l0 (k + F) s.1 (rest ++ [at_]) (restd ++ [d]) most s.2.1 l root = grommetref12_walk.l0 k s'.1 rest restd most' s'.2.1 l root
 | 0, at_, deep, s, hs, hK, _, _, _ => absurd hs.le (by omega)
 | K + 1, at_, deep, s, hs, hK, hl, h0, h1 => by
  rw [goO]
  have pop : ∀ (rest restd : List Int) (d most : Int) (k : Nat), rest.length = restd.length → rest.length + 1 ≤ 17592186044415 → grommetref12_walk.l0 (k + 1) s.1 (rest ++ [at_]) (restd ++ [d]) most s.2.1 l root =
    (if rdOf false s.1 at_ = true then (grommetref12_walk.l0 k s.1 rest restd most s.2.1 l root) else (if s.2.1.length < 17592186044416 then (if at_ < (l.length : Int) then (grommetref12_walk.l1 k (s.1.set at_.toNat true) rest restd (mx most d) (s.2.1 ++ [at_]) d ((rd_T45 l at_).f2) (wrap64 (((rd_T45 l at_).f2.length : Int) - 1)) l root) else none) else none)) := by
   intro rest restd d most k hr hb
   have e1 : wrap64 (((rest ++ [at_]).length : Int) - 1) = (rest.length : Int) := by
    rw [List.length_append, List.length_singleton]; unfold wrap64; omega
   have e2 : wrap64 (((restd ++ [d]).length : Int) - 1) = (restd.length : Int) := by
    rw [List.length_append, List.length_singleton]; unfold wrap64; omega
   have l1 : ((rest ++ [at_]).length : Int) = (rest.length : Int) + 1 := by simp
   have l2 : ((restd ++ [d]).length : Int) = (restd.length : Int) + 1 := by simp
   have hlen := hs.len
   rw [grommetref12_walk.l0, e1, e2, rd_last, rd_last, Int.toNat_natCast, Int.toNat_natCast, take_last, take_last, l1, l2, if_pos (by omega), if_pos (by omega), if_pos (by omega), if_pos (by omega), if_pos (by omega), if_pos (by omega), Option.bind_some, if_pos (by omega), Option.bind_some, if_pos h0, if_pos (by omega)]
  by_cases hm : rdOf false s.1 at_ = true
  ·
   rw [if_pos hm]
   refine ⟨s, [], rfl, hs, by simp, fun rest restd d most hr hb => ⟨1, most, fun k => ?_⟩⟩
   rw [pop rest restd d most k hr (by omega), if_pos hm]
  rw [if_neg hm]
  have hs1 := hs.add at_ (if s.2.2 < deep then deep else s.2.2) h0 h1 hm
  have hkid := hk _ (rd_mem l at_ h0 h1)
  have hkM := hM _ (rd_mem l at_ h0 h1)
  have hle := hs.le
  generalize rd_T45 l at_ = n at *
  have fold : ∀ (kids : List Int) (s1 : WS), GoS l.length s1 → l.length < K + s1.2.1.length → (∀ k ∈ kids, 0 ≤ k ∧ k < (l.length : Int)) →
    ∃ s' ext, kids.foldlM (fun s x => goO l K x (deep + 1) s) s1 = some s' ∧ GoS l.length s' ∧ s'.2.1 = s1.2.1 ++ ext ∧
     ∀ (rest ds : List Int) (most : Int), ds.length = rest.length + kids.length → rest.length + kids.length + K * 1048576 ≤ 17592186044415 →
      ∃ F most' restd, restd.length = rest.length ∧ restd = ds.take rest.length ∧ ∀ k, grommetref12_walk.l0 (k + F) s1.1 (rest ++ kids.reverse) ds most s1.2.1 l root = grommetref12_walk.l0 k s'.1 rest restd most' s'.2.1 l root := by
   intro kids
   induction kids with
   | nil =>
    intro s1 h _ _
    refine ⟨s1, [], rfl, h, by simp, fun rest ds most hd _ => ⟨0, most, ds, by simpa using hd, ?_, fun k => by simp⟩⟩
    rw [List.take_of_length_le (by simp at hd; omega)]
   | cons x r ih =>
    intro s1 h hlt hr
    obtain ⟨s2, e2, g1, g2, g3, g4⟩ := walk_at l root hk hM K x (deep + 1) s1 h hlt hl (hr x (by simp)).1 (hr x (by simp)).2
    obtain ⟨s3, e3, f1, f2, f3, f4⟩ := ih s2 g2 (by rw [g3, List.length_append]; omega) (fun y hy => hr y (by simp [hy]))
    refine ⟨s3, e2 ++ e3, by rw [List.foldlM_cons, g1]; exact f1, f2, by rw [f3, g3, List.append_assoc], fun rest ds most hd hb => ?_⟩
    rw [List.length_cons] at hd hb
    have hne : ds ≠ [] := by intro e; rw [e] at hd; simp at hd
    obtain ⟨d0, dl, rfl⟩ : ∃ d0 dl, ds = d0 ++ [dl] := ⟨ds.dropLast, ds.getLast hne, (List.dropLast_concat_getLast hne).symm⟩
    rw [List.length_append, List.length_singleton] at hd
    obtain ⟨F1, m1, p1⟩ := g4 (rest ++ r.reverse) d0 dl most (by rw [List.length_append, List.length_reverse]; omega) (by rw [List.length_append, List.length_reverse]; omega)
    obtain ⟨F2, m2, rd2, q1, q2, q3⟩ := f4 rest d0 m1 (by omega) (by omega)
    refine ⟨F2 + F1, m2, rd2, q1, by rw [q2, List.take_append_of_le_length (by omega)], fun k => ?_⟩
    rw [List.reverse_cons, ← List.append_assoc, ← Nat.add_assoc, p1, q3]
  obtain ⟨s', ext, g1, g2, g3, g4⟩ := fold n.f2 _ hs1 (by simp; omega) hkid
  refine ⟨s', at_ :: ext, g1, g2, by rw [g3]; simp, fun rest restd d most hr hb => ?_⟩
  obtain ⟨ds, p1, pt, p2⟩ := walk_push l root (s.1.set at_.toNat true) (mx most d) d (s.2.1 ++ [at_]) n.f2 hkM n.f2.length rest restd (Nat.le_refl _) hr (by omega)
  obtain ⟨F, m2, rd2, q1, q2, q3⟩ := g4 rest ds (mx most d) (by rw [p1]; omega) (by omega)
  have e5 : wrap64 ((n.f2.length : Int) - 1) = (n.f2.length : Int) - 1 := by unfold wrap64; omega
  refine ⟨F + (n.f2.length + 1) + 1, m2, fun k => ?_⟩
  rw [← Nat.add_assoc, ← Nat.add_assoc, pop rest restd d most _ hr (by omega), if_neg hm, if_pos (by omega), if_pos h1, e5, p2, List.take_of_length_le (Nat.le_refl _)]
  rw [show restd = rd2 by rw [q2, hr, pt]]
  exact q3 k
theorem ref_walk (l : List Nd) (root : Int) (hk : Kin l) (hM : ∀ n ∈ l, n.f2.length ≤ 1048576) (hl : l.length ≤ 4096) (h0 : 0 ≤ root) (h1 : root < (l.length : Int)) :
  ∃ s F most, goO l (l.length + 1) root 1 (List.replicate l.length false, [], 0) = some s ∧ ∀ K, F ≤ K → grommetref12_walk.f K l root root = some (s.2.1, most) := by
 obtain ⟨s, ext, g1, g2, g3, g4⟩ := walk_at l root hk hM (l.length + 1) root 1 _ (go_start l.length) (by simp) hl h0 h1
 obtain ⟨F, most, g5⟩ := g4 [] [] 1 0 rfl (by simp; omega)
 refine ⟨s, F + 1, most, g1, fun K hK => ?_⟩
 obtain ⟨k, rfl⟩ : ∃ k, K = k + 1 + F := ⟨K - 1 - F, by omega⟩
 unfold grommetref12_walk.f
 rw [if_pos (by omega), Int.toNat_natCast, if_pos (by omega)]
 have h := g5 (k + 1)
 simp only [List.nil_append] at h
 rw [h, grommetref12_walk.l0, if_neg (by simp)]
theorem ref_order (l : List Nd) (root : Int) (hs : sizesB l = true) (hM : ∀ n ∈ l, n.f2.length ≤ 1048576) (KR : Nat) (hR : ∀ K, KR ≤ K → grommetref12_Right.f K l root = some (rightB l root)) (hkin : rightB l root = true → Kin l) :
  ∃ p F, graph_Order.f l root = some p ∧ ∀ K, F ≤ K → grommetref12_Order.f K l root = some p := by
 unfold graph_Order.f grommetref12_Order.f
 rw [if_pos hs]
 cases hr : rightB l root with
 | false =>
  refine ⟨([], 1), KR, by simp, fun K hK => ?_⟩
  rw [hR K hK, hr, Option.bind_some, if_neg (by decide)]
 | true =>
  have hG := (right_iff l root hs).1 hr
  obtain ⟨s, F, most, g1, g2⟩ := ref_walk l root (hkin hr) hM hG.le hG.r0 hG.r1
  refine ⟨(s.2.1, 0), F + KR, by rw [if_pos rfl, g1]; rfl, fun K hK => ?_⟩
  rw [hR K (by omega), hr, Option.bind_some, if_pos rfl, g2 K (by omega), Option.bind_some]
theorem rd_nth_ (xs : List Int) (i : Nat) (h : i < xs.length) : rd xs (i : Int) = xs[i] := by
 unfold rd
 rw [Int.toNat_natCast, List.getD_eq_getElem?_getD, List.getElem?_eq_getElem h]; rfl
theorem ref_size_l0 (l : List Nd) (root : Int) (xs : List Int) (hin : ∀ x ∈ xs, 0 ≤ x ∧ x < (l.length : Int)) (hz : ∀ n ∈ l, n.f2.length ≤ 1048576) (hx : xs.length ≤ 4096) :
  ∀ (d i K acc : Nat), xs.length = i + d → d + 1 ≤ K → acc ≤ 1 + i * 1048576 → grommetref14_Size.l0 K xs (acc : Int) (i : Int) l root = some (((acc + kidsL l (xs.drop i) : Nat) : Int), 0)
 | 0, i, K + 1, acc, h, _, _ => by
  rw [grommetref14_Size.l0, if_neg (by omega), List.drop_of_length_le (by omega)]
  simp [kidsL]
 | d + 1, i, K + 1, acc, h, hK, ha => by
  have hi : i < xs.length := by omega
  obtain ⟨j0, j1⟩ := hin xs[i] (List.getElem_mem hi)
  have hk := hz _ (rd_mem l xs[i] j0 j1)
  rw [grommetref14_Size.l0, if_pos (by omega), if_pos (by omega), rd_nth_ xs i hi, if_pos j0, if_pos j1]
  have e1 : wrap64 ((acc : Int) + ((rd_T45 l xs[i]).f2.length : Int)) = ((acc + (rd_T45 l xs[i]).f2.length : Nat) : Int) := by
   unfold wrap64
   have : i * 1048576 ≤ 4096 * 1048576 := Nat.mul_le_mul_right _ (by omega)
   omega
  have e2 : wrap64 ((i : Int) + 1) = ((i + 1 : Nat) : Int) := by unfold wrap64; omega
  rw [e1, e2, ref_size_l0 l root xs hin hz hx d (i + 1) K _ (by omega) (by omega) (by omega), List.drop_eq_getElem_cons hi]
  refine congrArg some (congrArg (·, (0 : Int)) ?_)
  simp only [kidsL, List.map_cons, List.sum_cons]
  omega
 | d, i, 0, acc, _, h, _ => absurd h (by omega)
def CntOf (n : Nat) (u : List Int) (c : Int → Nat) : Prop := u.length = n ∧ ∀ k, 0 ≤ k → k < (n : Int) → rd u k = (c k : Int)
theorem rd_put (u : List Int) (k j v : Int) (hk0 : 0 ≤ k) (hk1 : k < (u.length : Int)) (hj : 0 ≤ j) : rd (u.set k.toNat v) j = if j = k then v else rd u j := by
 unfold rd
 rw [List.getD_eq_getElem?_getD, List.getD_eq_getElem?_getD, List.getElem?_set]
 by_cases h : j = k
 rotate_left
 · rw [if_neg (by omega), if_neg h]
 subst h; rw [if_pos rfl, if_pos rfl, if_pos (by omega)]; rfl
theorem cnt_bump {n : Nat} {u : List Int} {c : Int → Nat} (h : CntOf n u c) (k : Int) (h0 : 0 ≤ k) (h1 : k < (n : Int)) (hb : c k ≤ 4611686018427387904) : CntOf n (u.set k.toNat (wrap64 (rd u k + 1))) (bumpC c k) := by
 refine ⟨by rw [List.length_set]; exact h.1, fun j j0 j1 => ?_⟩
 rw [rd_put u k j _ h0 (by rw [h.1]; exact h1) j0, h.2 k h0 h1]
 unfold bumpC
 by_cases e : j = k
 rotate_left
 · rw [if_neg e, if_neg e]; exact h.2 j j0 j1
 rw [if_pos e, if_pos e]; unfold wrap64; omega
theorem ref_sh_l1 (l : List Nd) (root : Int) (xs : List Int) (x7 : Int) (f0 : Int) (f1 : ByteArray) (kids : List Int) (hr : ∀ k ∈ kids, 0 ≤ k ∧ k < (l.length : Int)) (hkl : kids.length ≤ 1048576) : ∀ (d i : Nat) (u : List Int) (c : Int → Nat) (B : Nat), kids.length = i + d → CntOf l.length u c → (∀ k, c k ≤ B) → B + d ≤ 4611686018427387904 →
  ∃ u', CntOf l.length u' ((kids.drop i).foldl bumpC c) ∧ ∀ k, grommetref13_Shared.l1 (k + (d + 1)) xs u x7 (i : Int) l root f0 f1 kids = grommetref13_Shared.l0 k xs u' (wrap64 (x7 + 1)) l root
 | 0, i, u, c, B, h, hu, _, _ => by
  refine ⟨u, by rw [List.drop_of_length_le (by omega)]; exact hu, fun k => ?_⟩
  rw [show k + (0 + 1) = k + 1 by omega, grommetref13_Shared.l1, if_neg (by omega)]
 | d + 1, i, u, c, B, h, hu, hc, hB => by
  have hi : i < kids.length := by omega
  obtain ⟨j0, j1⟩ := hr kids[i] (List.getElem_mem hi)
  obtain ⟨u', g1, g2⟩ := ref_sh_l1 l root xs x7 f0 f1 kids hr hkl d (i + 1) _ (bumpC c kids[i]) (B + 1) (by omega) (cnt_bump hu kids[i] j0 j1 (by have := hc kids[i]; omega)) (fun k => by have h1 := hc k; have h2 := hc kids[i]; unfold bumpC; split <;> omega) (by omega)
  refine ⟨u', by rw [List.drop_eq_getElem_cons hi, List.foldl_cons]; exact g1, fun k => ?_⟩
  have e2 : wrap64 ((i : Int) + 1) = ((i + 1 : Nat) : Int) := by unfold wrap64; omega
  have hul := hu.1
  rw [show k + (d + 1 + 1) = (k + (d + 1)) + 1 by omega, grommetref13_Shared.l1, if_pos (by omega), if_pos (by omega), rd_nth_ kids i hi, if_pos j0, if_pos (by omega), e2, g2 k]
theorem ref_sh_l0 (l : List Nd) (root : Int) (xs : List Int) (hin : ∀ x ∈ xs, 0 ≤ x ∧ x < (l.length : Int)) (hk : Kin l) (hz : ∀ n ∈ l, n.f2.length ≤ 1048576) (hx : xs.length ≤ 4096) : ∀ (d i : Nat) (u : List Int) (c : Int → Nat) (B : Nat), xs.length = i + d → CntOf l.length u c → (∀ k, c k ≤ B) → B + d * 1048576 ≤ 4611686018427387904 →
  ∃ u' F, CntOf l.length u' (usesC l (xs.drop i) c) ∧ ∀ k, grommetref13_Shared.l0 (k + F) xs u (i : Int) l root = grommetref13_Shared.l2 k xs u' [] 0
 | 0, i, u, c, B, h, hu, _, _ => by
  refine ⟨u, 1, by rw [List.drop_of_length_le (by omega)]; exact hu, fun k => ?_⟩
  rw [grommetref13_Shared.l0, if_neg (by omega)]
 | d + 1, i, u, c, B, h, hu, hc, hB => by
  have hi : i < xs.length := by omega
  obtain ⟨j0, j1⟩ := hin xs[i] (List.getElem_mem hi)
  have hn := rd_mem l xs[i] j0 j1
  have hkl := hz _ hn
  obtain ⟨u1, g1, g2⟩ := ref_sh_l1 l root xs (i : Int) (rd_T45 l xs[i]).f0 (rd_T45 l xs[i]).f1 (rd_T45 l xs[i]).f2 (hk _ hn) hkl (rd_T45 l xs[i]).f2.length 0 u c B (by omega) hu hc (by omega)
  rw [List.drop_zero] at g1
  have hc1 : ∀ k, ((rd_T45 l xs[i]).f2.foldl bumpC c) k ≤ B + 1048576 := fun k => by
   rw [bumps_cnt]
   have h1 := hc k
   have h2 : (rd_T45 l xs[i]).f2.count k ≤ (rd_T45 l xs[i]).f2.length := List.count_le_length
   omega
  obtain ⟨u', F, f1, f2⟩ := ref_sh_l0 l root xs hin hk hz hx d (i + 1) u1 _ (B + 1048576) (by omega) g1 hc1 (by omega)
  refine ⟨u', F + ((rd_T45 l xs[i]).f2.length + 1) + 1, by rw [List.drop_eq_getElem_cons hi, usesC]; exact f1, fun k => ?_⟩
  have e2 : wrap64 ((i : Int) + 1) = ((i + 1 : Nat) : Int) := by unfold wrap64; omega
  have hg := g2 (k + F)
  rw [← Nat.add_assoc, ← Nat.add_assoc, grommetref13_Shared.l0, if_pos (by omega), if_pos (by omega), rd_nth_ xs i hi, if_pos j0, if_pos j1]
  refine Eq.trans hg ?_
  rw [e2, f2 k]
theorem ref_sh_l2 (xs u : List Int) (n : Nat) (c : Int → Nat) (hu : CntOf n u c) (hin : ∀ x ∈ xs, 0 ≤ x ∧ x < (n : Int)) (hx : xs.length ≤ 4096) : ∀ (d i K : Nat) (acc : List Int), xs.length = i + d → d + 1 ≤ K → acc.length ≤ i →
  grommetref13_Shared.l2 K xs u acc (i : Int) = some (acc ++ (xs.drop i).filter (fun x => !decide ((c x : Int) < 2)), 0)
 | 0, i, K + 1, acc, h, _, _ => by
  rw [grommetref13_Shared.l2, if_neg (by omega), List.drop_of_length_le (by omega)]; simp
 | d + 1, i, K + 1, acc, h, hK, ha => by
  have hi : i < xs.length := by omega
  obtain ⟨j0, j1⟩ := hin xs[i] (List.getElem_mem hi)
  have e2 : wrap64 ((i : Int) + 1) = ((i + 1 : Nat) : Int) := by unfold wrap64; omega
  have hul := hu.1
  rw [grommetref13_Shared.l2, if_pos (by omega), if_pos (by omega), rd_nth_ xs i hi, if_pos j0, if_pos (by omega), hu.2 _ j0 j1, e2, List.drop_eq_getElem_cons hi]
  by_cases e : (c xs[i] : Int) > 1
  rotate_left
  · rw [if_neg e, ref_sh_l2 xs u n c hu hin hx d (i + 1) K _ (by omega) (by omega) (by omega), List.filter_cons_of_neg (by rw [decide_eq_true (by omega)]; decide)]
  rw [if_pos e, if_pos (by omega), ref_sh_l2 xs u n c hu hin hx d (i + 1) K _ (by omega) (by omega) (by simp; omega), List.filter_cons_of_pos (by rw [decide_eq_false (by omega)]; rfl), List.append_assoc]; rfl
 | d, i, 0, acc, _, h, _ => absurd h (by omega)
theorem ref_shared (l : List Nd) (root : Int) (xs : List Int) (hk : Kin l) (hz : ∀ n ∈ l, n.f2.length ≤ 1048576) (hl : l.length ≤ 4096) (h0 : 0 ≤ root) (h1 : root < (l.length : Int)) (hin : ∀ x ∈ xs, 0 ≤ x ∧ x < (l.length : Int)) (hx : xs.length ≤ 4096) (KO : Nat) (hO : ∀ K, KO ≤ K → grommetref12_Order.f K l root = some (xs, 0)) :
  ∃ F, ∀ K, F ≤ K → grommetref13_Shared.f K l root = some (xs.filter (fun x => !decide ((usesC l xs (bumpC (fun _ => 0) root) x : Int) < 2)), 0) := by
 have hu0 : CntOf l.length (List.replicate l.length 0) (fun _ => 0) := ⟨by simp, fun k k0 k1 => by unfold rd; rw [List.getD_eq_getElem?_getD, List.getElem?_replicate]; split <;> rfl⟩
 have hu1 := cnt_bump hu0 root h0 h1 (by omega)
 obtain ⟨u', F, g1, g2⟩ := ref_sh_l0 l root xs hin hk hz hx xs.length 0 _ _ 1 (by omega) hu1 (fun k => by show (if k = root then (0 : Nat) + 1 else 0) ≤ 1; split <;> omega) (by omega)
 rw [List.drop_zero] at g1
 refine ⟨KO + F + xs.length + 1, fun K hK => ?_⟩
 unfold grommetref13_Shared.f
 rw [hO K (by omega), Option.bind_some, if_pos rfl, if_pos (by omega), Int.toNat_natCast, if_pos (by omega), Option.bind_some, if_pos h0, if_pos (by simpa using h1)]
 obtain ⟨k, rfl⟩ : ∃ k, K = k + F := ⟨K - F, by omega⟩
 have h := g2 k
 rw [show ((0 : Nat) : Int) = 0 from rfl] at h
 rw [h]
 have h3 := ref_sh_l2 xs u' l.length _ g1 hin hx xs.length 0 k [] (by omega) (by omega) (by simp)
 rw [List.drop_zero, List.nil_append] at h3
 exact h3
end Go.Proofs.YtnjcpoojgmpmeaaGreatDoor.Plug
namespace Go.Proofs.YtnjcpoojgmpmeaaGreatDoor.Graphs
open RowKit YtnjcpoojgmpmeaaGreatDoor YtnjcpoojgmpmeaaGreatDoor.PX YtnjcpoojgmpmeaaGreatDoor.Plug YtnjcpoojgmpmeaaGreatDoor.Mapk YtnjcpoojgmpmeaaGreatDoorW.PrintWords YtnjcpoojgmpmeaaGreatDoorW.PrintLast YtnjcpoojgmpmeaaGreatDoorW.PrintMore
theorem w1 (a : Nat) (h : a ≤ 2199023255552) : wrap64 ((a : Int) + 1) = ((a + 1 : Nat) : Int) := by unfold wrap64; omega
theorem rdT_at (l : List Nd) (i : Nat) (h : i < l.length) : rd_T45 l (i : Int) = l[i] := by
 unfold rd_T45
 rw [Int.toNat_natCast, List.getD_eq_getElem?_getD, List.getElem?_eq_getElem h]; rfl
theorem rdOf_set (d : Bool) (u : List Bool) (k : Int) (j : Int) (v : Bool) (hk0 : 0 ≤ k) (hk1 : k < (u.length : Int)) (hj : 0 ≤ j) : rdOf d (u.set k.toNat v) j = if j = k then v else rdOf d u j := by
 unfold rdOf
 rw [List.getD_eq_getElem?_getD, List.getD_eq_getElem?_getD, List.getElem?_set]
 by_cases h : j = k
 rotate_left
 · rw [if_neg (by omega), if_neg h]
 subst h; rw [if_pos rfl, if_pos rfl, if_pos (by omega)]; rfl
structure Cnt (n : Nat) (u : List Int) (f : List Bool) (c : Int → Nat) (m : Int → Bool) (T : Nat) : Prop where
 lu : u.length = n
 lf : f.length = n
 u : ∀ j : Int, 0 ≤ j → j < (n : Int) → rd u j = (c j : Nat)
 f : ∀ j : Int, 0 ≤ j → j < (n : Int) → rdOf false f j = m j
 c : ∀ j : Int, c j ≤ T
theorem Cnt.kid {n : Nat} {u : List Int} {f : List Bool} {c : Int → Nat} {m : Int → Bool} {T : Nat} (h : Cnt n u f c m T) (hT : T < 1152921504606846976) (k : Int) (k0 : 0 ≤ k) (k1 : k < (n : Int)) :
  Cnt n (u.set k.toNat (wrap64 (rd u k + 1))) f (fun j => c j + if j = k then 1 else 0) m (T + 1) := by
 refine ⟨by rw [List.length_set]; exact h.lu, h.lf, fun j j0 j1 => ?_, h.f, fun j => ?_⟩
 ·
  rw [rd_set_ u k j _ k0 (by rw [h.lu]; exact k1) j0]
  have := h.u j j0 j1
  have := h.c j
  by_cases e : j = k
  rotate_left
  · rw [if_neg e, if_neg e, Nat.add_zero]; exact h.u j j0 j1
  subst e; rw [if_pos rfl, if_pos rfl, h.u j j0 j1]; unfold wrap64; omega
 ·
  have := h.c j
  split <;> omega
theorem Cnt.key {n : Nat} {u : List Int} {f : List Bool} {c : Int → Nat} {m : Int → Bool} {T : Nat} (h : Cnt n u f c m T) (k : Int) (k0 : 0 ≤ k) (k1 : k < (n : Int)) :
  Cnt n u (f.set k.toNat true) c (fun j => m j || decide (j = k)) T := by
 refine ⟨h.lu, by rw [List.length_set]; exact h.lf, h.u, fun j j0 j1 => ?_, h.c⟩
 rw [rdOf_set false f k j true k0 (by rw [h.lf]; exact k1) j0, h.f j j0 j1]
 by_cases e : j = k
 · rw [if_pos e, decide_eq_true e, Bool.or_true]
 rw [if_neg e, decide_eq_false e, Bool.or_false]
def markK (isMap : Bool) : Bool → List Int → Int → Bool
 | _, [], _ => false
 | b, k :: r, j => (isMap && b && decide (j = k)) || markK isMap (!b) r j
theorem markK_evens : ∀ (l : List Int) (j : Int), l.length % 2 = 0 → markK true true l j = (evens l).contains j
 | [], j, _ => rfl
 | [_], j, h => by simp at h
 | a :: b :: r, j, h => by
  have := markK_evens r j (by simp only [List.length_cons] at h; omega)
  simp [markK, evens, this]
theorem markK_no : ∀ (l : List Int) (b : Bool) (j : Int), markK false b l j = false
 | [], _, _ => rfl
 | a :: r, b, j => by simp [markK, markK_no r]
theorem uses_l1 (l : List Nd) (root : Int) (hl : l.length ≤ 4096) (kd : Int) (tt : ByteArray) (kids : List Int) (hk : kids.length ≤ 1099511627776) (hr : ∀ k ∈ kids, 0 ≤ k ∧ k < (l.length : Int)) (x6 : Int) :
  ∀ (d i K : Nat) (u : List Int) (f : List Bool) (c : Int → Nat) (m : Int → Bool) (T : Nat), kids.length = i + d → Cnt l.length u f c m T → T + d < 1152921504606846976 →
   ∃ u' f', grommetref12_uses.l1 (K + d + 1) u f x6 (i : Int) l root kd tt kids = grommetref12_uses.l0 K u' f' (wrap64 (x6 + 1)) l root ∧ Cnt l.length u' f' (fun j => c j + (kids.drop i).count j) (fun j => m j || markK (decide (kd = 6)) (decide (i % 2 = 0)) (kids.drop i) j) (T + d)
 | 0, i, K, u, f, c, m, T, hi, h, _ => by
  refine ⟨u, f, ?_, ?_⟩
  · rw [grommetref12_uses.l1, if_neg (by omega)]
  · rw [List.drop_of_length_le (by omega)]; simpa [markK] using h
 | d + 1, i, K, u, f, c, m, T, hi, h, hT => by
  have hlt : i < kids.length := by omega
  obtain ⟨k0, k1⟩ := hr kids[i] (List.getElem_mem hlt)
  have hdr : kids.drop i = kids[i] :: kids.drop (i + 1) := List.drop_eq_getElem_cons hlt
  have h1 := h.kid (by omega) kids[i] k0 k1
  have e1 : rd kids (i : Int) = kids[i] := rd_at kids i hlt
  have hm : Int.tmod (i : Int) 2 = ((i % 2 : Nat) : Int) := by rw [Int.tmod_eq_emod_of_nonneg (by omega)]; omega
  have fin : ∀ (f2 : List Bool) (m2 : Int → Bool), Cnt l.length (u.set kids[i].toNat (wrap64 (rd u kids[i] + 1))) f2 (fun j => c j + if j = kids[i] then 1 else 0) m2 (T + 1) → (∀ j, m2 j = (m j || (decide (kd = 6) && decide (i % 2 = 0) && decide (j = kids[i])))) →
    ∃ u' f', grommetref12_uses.l1 (K + d + 1) (u.set kids[i].toNat (wrap64 (rd u kids[i] + 1))) f2 x6 ((i + 1 : Nat) : Int) l root kd tt kids = grommetref12_uses.l0 K u' f' (wrap64 (x6 + 1)) l root ∧ Cnt l.length u' f' (fun j => c j + (kids.drop i).count j) (fun j => m j || markK (decide (kd = 6)) (decide (i % 2 = 0)) (kids.drop i) j) (T + (d + 1)) := fun f2 m2 h2 hm2 => by
   obtain ⟨u', f', e2, h3⟩ := uses_l1 l root hl kd tt kids hk hr x6 d (i + 1) K _ _ _ _ _ (by omega) h2 (by omega)
   refine ⟨u', f', e2, ?_⟩
   have eT : T + 1 + d = T + (d + 1) := by omega
   rw [eT] at h3
   have ec : (fun j => (c j + if j = kids[i] then 1 else 0) + (kids.drop (i + 1)).count j) = fun j => c j + (kids.drop i).count j := by
    funext j
    rw [hdr, List.count_cons]
    by_cases e : j = kids[i]
    · subst e; simp; omega
    have : (kids[i] == j) = false := beq_eq_false_iff_ne.2 (fun q => e q.symm)
    simp [e, this]
   have em : (fun j => m2 j || markK (decide (kd = 6)) (decide ((i + 1) % 2 = 0)) (kids.drop (i + 1)) j) = fun j => m j || markK (decide (kd = 6)) (decide (i % 2 = 0)) (kids.drop i) j := by
    funext j
    have : decide ((i + 1) % 2 = 0) = !decide (i % 2 = 0) := by
     by_cases e : i % 2 = 0
     · rw [decide_eq_true e, decide_eq_false (by omega)]; rfl
     rw [decide_eq_false e, decide_eq_true (by omega)]; rfl
    rw [hm2, hdr, markK, this, Bool.or_assoc]
   rw [ec, em] at h3
   exact h3
  rw [show K + (d + 1) + 1 = (K + d + 1) + 1 by omega, grommetref12_uses.l1, if_pos (by omega), if_pos (by omega), e1, if_pos k0, if_pos (by rw [h.lu]; exact k1), Option.bind_some, w1 i (by omega)]
  by_cases h6 : kd = 6
  rotate_left
  ·
   rw [if_neg h6]
   exact fin _ _ h1 (fun j => by rw [decide_eq_false h6]; simp)
  rw [if_pos h6]
  by_cases he : i % 2 = 0
  rotate_left
  ·
   rw [if_neg (by rw [hm]; omega)]
   exact fin _ _ h1 (fun j => by rw [decide_eq_false he]; simp)
  rw [if_pos (by rw [hm, he]; rfl), if_pos (by rw [h.lf]; exact k1)]
  refine fin _ _ (h1.key kids[i] k0 k1) (fun j => by rw [decide_eq_true h6, decide_eq_true he]; simp)
theorem allL_cons (n : Nd) (r : List Nd) : allL (n :: r) = n.f2.length + allL r := by simp [allL]
theorem cntL_cons (n : Nd) (r : List Nd) (j : Int) : cntL (n :: r) j = n.f2.count j + cntL r j := by simp [cntL]
def keyL (r : List Nd) (j : Int) : Bool := r.any fun n => (keysB n.f0 n.f2).contains j
theorem uses_l0 (l : List Nd) (root : Int) (hl : l.length ≤ 4096) (hz : ∀ n ∈ l, n.f2.length ≤ 1099511627776) (hn : ∀ n ∈ l, NodeG l n) :
  ∀ (d i K : Nat) (u : List Int) (f : List Bool) (c : Int → Nat) (m : Int → Bool) (T : Nat), l.length = i + d → Cnt l.length u f c m T → T + allL (l.drop i) < 1152921504606846976 → allL (l.drop i) + 2 * d + 1 ≤ K →
   ∃ u' f', grommetref12_uses.l0 K u f (i : Int) l root = some (u', f') ∧ Cnt l.length u' f' (fun j => c j + cntL (l.drop i) j) (fun j => m j || keyL (l.drop i) j) (T + allL (l.drop i))
 | 0, i, K, u, f, c, m, T, hi, h, _, hK => by
  obtain ⟨K, rfl⟩ : ∃ k, K = k + 1 := ⟨K - 1, by omega⟩
  refine ⟨u, f, ?_, ?_⟩
  · rw [grommetref12_uses.l0, if_neg (by omega)]
  · rw [List.drop_of_length_le (by omega)]; simpa [cntL, keyL, allL] using h
 | d + 1, i, K, u, f, c, m, T, hi, h, hT, hK => by
  have hlt : i < l.length := by omega
  have hdr : l.drop i = l[i] :: l.drop (i + 1) := List.drop_eq_getElem_cons hlt
  have hal : allL (l.drop i) = l[i].f2.length + allL (l.drop (i + 1)) := by rw [hdr, allL_cons]
  obtain ⟨K, rfl⟩ : ∃ k, K = (k + l[i].f2.length + 1) + 1 := ⟨K - l[i].f2.length - 2, by omega⟩
  rw [grommetref12_uses.l0, if_pos (by omega), if_pos (by omega), rdT_at l i hlt]
  have hN := hn l[i] (List.getElem_mem hlt)
  obtain ⟨u1, f1, e1, h1⟩ := uses_l1 l root hl l[i].f0 l[i].f1 l[i].f2 (hz _ (List.getElem_mem hlt)) hN.range (i : Int) l[i].f2.length 0 K u f c m T (by omega) h (by omega)
  rw [show ((0 : Nat) : Int) = 0 from rfl] at e1
  rw [e1, w1 i (by omega)]
  obtain ⟨u2, f2, e2, h2⟩ := uses_l0 l root hl hz hn d (i + 1) K u1 f1 _ _ _ (by omega) h1 (by omega) (by omega)
  refine ⟨u2, f2, e2, ?_⟩
  have eT : T + l[i].f2.length + allL (l.drop (i + 1)) = T + allL (l.drop i) := by omega
  rw [eT] at h2
  have ec : (fun j => (c j + (l[i].f2.drop 0).count j) + cntL (l.drop (i + 1)) j) = fun j => c j + cntL (l.drop i) j := by
   funext j; rw [hdr, cntL_cons, List.drop_zero]; omega
  have em : (fun j => (m j || markK (decide (l[i].f0 = 6)) (decide (0 % 2 = 0)) (l[i].f2.drop 0) j) || keyL (l.drop (i + 1)) j) = fun j => m j || keyL (l.drop i) j := by
   funext j
   rw [hdr]
   have : markK (decide (l[i].f0 = 6)) (decide (0 % 2 = 0)) (l[i].f2.drop 0) j = (keysB l[i].f0 l[i].f2).contains j := by
    unfold keysB
    by_cases e : l[i].f0 = 6
    rotate_left
    · rw [if_neg e, decide_eq_false e, markK_no]; rfl
    rw [if_pos e, decide_eq_true e]; exact markK_evens _ j (hN.even e)
   rw [this, Bool.or_assoc]; rfl
  rw [ec, em] at h2
  exact h2
theorem uses_of (l : List Nd) (root : Int) (hl : l.length ≤ 4096) (hz : ∀ n ∈ l, n.f2.length ≤ 1099511627776) (hn : ∀ n ∈ l, NodeG l n) (K : Nat) (hK : allL l + 2 * l.length + 1 ≤ K) :
  ∃ u f, grommetref12_uses.f K l root = some (u, f) ∧ Cnt l.length u f (cntL l) (keyL l) (allL l) := by
 have hal : allL l ≤ 4096 * 1099511627776 := Nat.le_trans (all_le l _ hz) (Nat.mul_le_mul_right _ (by omega))
 have h0 : Cnt l.length (List.replicate l.length 0) (List.replicate l.length false) (fun _ => 0) (fun _ => false) 0 := by
  refine ⟨List.length_replicate, List.length_replicate, fun j _ _ => ?_, fun j _ _ => ?_, fun _ => Nat.le_refl _⟩
  · unfold rd; simp [List.getD_eq_getElem?_getD, List.getElem?_replicate]; split <;> simp
  · unfold rdOf; simp [List.getD_eq_getElem?_getD, List.getElem?_replicate]; split <;> simp
 obtain ⟨u, f, e, h⟩ := uses_l0 l root hl hz hn l.length 0 K _ _ _ _ _ (by omega) h0 (by simp; omega) (by simpa using hK)
 refine ⟨u, f, ?_, by simpa using h⟩
 unfold grommetref12_uses.f
 rw [if_pos (by omega), if_pos (by omega), if_pos (by omega), Int.toNat_natCast]
 exact e
def badJ (l : List Nd) (root : Int) (j : Nat) : Bool := keyL l j && (decide (1 < cntL l j) || decide ((j : Int) = root))
theorem right_l1 (l : List Nd) (root : Int) (hl : l.length ≤ 4096) (u : List Int) (f : List Bool) (T : Nat) (h : Cnt l.length u f (cntL l) (keyL l) T) : ∀ (d i K : Nat), l.length = i + d → d + 1 ≤ K →
  grommetref12_Right.l1 K u f (i : Int) l root = some ((List.range' i d).all fun j => !badJ l root j)
 | 0, i, K, hi, hK => by
  obtain ⟨K, rfl⟩ : ∃ k, K = k + 1 := ⟨K - 1, by omega⟩
  rw [grommetref12_Right.l1, if_neg (by omega)]; rfl
 | d + 1, i, K, hi, hK => by
  obtain ⟨K, rfl⟩ : ∃ k, K = k + 1 := ⟨K - 1, by omega⟩
  have hlu := h.lu
  have hlf := h.lf
  have ih := right_l1 l root hl u f T h d (i + 1) K (by omega) (by omega)
  rw [List.range'_succ, List.all_cons]
  rw [grommetref12_Right.l1, if_pos (by omega), if_pos (by omega), if_pos (by rw [hlf]; omega), h.f i (by omega) (by omega), h.u i (by omega) (by omega), w1 i (by omega), ih]
  unfold badJ
  by_cases hk : keyL l (i : Int) = true
  rotate_left
  · rw [if_neg hk, Bool.eq_false_iff.2 hk]; rfl
  rw [if_pos hk, if_pos (by rw [hlu]; omega), hk]
  by_cases hc : 1 < cntL l (i : Int)
  · rw [if_pos (by omega), decide_eq_true hc]; rfl
  rw [if_neg (by omega), decide_eq_false hc]
  by_cases hr : (i : Int) = root
  · rw [if_pos hr, decide_eq_true hr]; rfl
  rw [if_neg hr, decide_eq_false hr]; rfl
theorem right_l0 (l : List Nd) (root : Int) (hl : l.length ≤ 4096) (hs : sizesB l = true) : ∀ (d i K : Nat), l.length = i + d →
  grommetref12_Right.l0 (K + d + 1) (i : Int) l root = if (l.drop i).all (isN l) = true then ((grommetref12_uses.f K l root).bind fun bt104 => (grommetref12_Right.l1 K bt104.1 bt104.2 0 l root)) else some false
 | 0, i, K, hi => by
  rw [grommetref12_Right.l0, if_neg (by omega), List.drop_of_length_le (by omega)]; rfl
 | d + 1, i, K, hi => by
  have hlt : i < l.length := by omega
  have hsz := sizes_iff hs l[i] (List.getElem_mem hlt)
  rw [show K + (d + 1) + 1 = (K + d + 1) + 1 by omega, grommetref12_Right.l0, if_pos (by omega), if_pos (by omega), rdT_at l i hlt, List.drop_eq_getElem_cons hlt, List.all_cons]
  have hnd : grommetref12_node.f l root l[i].f0 l[i].f1 l[i].f2 = some (isN l l[i]) := by unfold grommetref12_node.f; rw [if_pos hsz]
  rw [hnd, Option.bind_some, w1 i (by omega)]
  by_cases c : isN l l[i] = true
  rotate_left
  · rw [if_neg c, Bool.eq_false_iff.2 c]; rfl
  rw [if_pos c, right_l0 l root hl hs d (i + 1) K (by omega), c, Bool.true_and]
theorem ref_right (l : List Nd) (root : Int) (hs : sizesB l = true) (K : Nat) (hK : allL l + 4 * l.length + 10 ≤ K) : grommetref12_Right.f K l root = some (rightB l root) := by
 obtain ⟨K, rfl⟩ : ∃ k, K = k + 1 := ⟨K - 1, by omega⟩
 unfold grommetref12_Right.f
 have hj : grommetref12_Right.j0 (K + 1) true l root = some false := by rw [grommetref12_Right.j0, if_pos rfl]
 by_cases k0 : l.length = 0
 · rw [if_pos (by omega), hj]; unfold rightB; rw [if_pos k0]
 rw [if_neg (by omega)]
 by_cases k1 : 4096 < l.length
 · rw [if_pos (by omega), hj]; unfold rightB; rw [if_neg k0, if_pos k1]
 rw [if_neg (by omega)]
 by_cases k2 : root < 0
 · rw [if_pos k2, hj]; unfold rightB; rw [if_neg k0, if_neg k1, if_pos k2]
 rw [if_neg k2]
 by_cases k3 : (l.length : Int) ≤ root
 · rw [show decide (root ≥ (l.length : Int)) = true from decide_eq_true k3, hj]; unfold rightB; rw [if_neg k0, if_neg k1, if_neg k2, if_pos k3]
 rw [show decide (root ≥ (l.length : Int)) = false from decide_eq_false k3, grommetref12_Right.j0, if_neg Bool.false_ne_true]
 obtain ⟨K2, e2⟩ : ∃ k, K = k + l.length + 1 := ⟨K - l.length - 1, by omega⟩
 rw [e2, show (0 : Int) = ((0 : Nat) : Int) from rfl, right_l0 l root (by omega) hs l.length 0 K2 (by omega), List.drop_zero]
 by_cases ha : l.all (isN l) = true
 rotate_left
 ·
  rw [if_neg ha]
  refine congrArg some ?_
  cases hr : rightB l root with
  | false => rfl
  | true => exact absurd (List.all_eq_true.2 ((right_iff l root hs).1 hr).is) ha
 rw [if_pos ha]
 have hall : ∀ n ∈ l, isN l n = true := List.all_eq_true.1 ha
 obtain ⟨u, f, e, hc⟩ := uses_of l root (by omega) (fun n hn => (sizes_iff hs n hn).2) (fun n hn => isN_node (hall n hn)) K2 (by omega)
 have e3 := right_l1 l root (by omega) u f _ hc l.length 0 K2 (by omega) (by omega)
 rw [e, Option.bind_some, show (0 : Int) = ((0 : Nat) : Int) from rfl, e3]
 refine congrArg some (Bool.eq_iff_iff.2 ?_)
 rw [right_iff l root hs, List.all_eq_true]
 constructor
 ·
  intro h
  refine ⟨k0, by omega, by omega, by omega, hall, fun n hn k hk => ?_⟩
  have hr := isN_range (hall n hn) k (keys_sub _ _ k hk)
  have hb := h k.toNat (by rw [List.mem_range']; exact ⟨k.toNat, by omega, by omega⟩)
  have hkl : keyL l k = true := List.any_eq_true.2 ⟨n, hn, by rw [List.contains_iff_mem]; exact hk⟩
  unfold badJ at hb
  rw [show ((k.toNat : Nat) : Int) = k by omega, hkl, Bool.true_and, Bool.not_eq_true', Bool.or_eq_false_iff, decide_eq_false_iff_not, decide_eq_false_iff_not] at hb
  rw [if_neg hb.2]; omega
 ·
  intro h j hj
  rw [List.mem_range'] at hj
  obtain ⟨i, hi, rfl⟩ := hj
  unfold badJ
  cases hkl : keyL l ((0 + 1 * i : Nat) : Int) with
  | false => rfl
  | true =>
   obtain ⟨n, hn, hk⟩ := List.any_eq_true.1 hkl
   have := h.sole n hn _ (List.contains_iff_mem.1 hk)
   split at this <;> rename_i hr
   ·
    have h1 := sum_mem (f := fun n => (keysB n.f0 n.f2).count ((0 + 1 * i : Nat) : Int)) l n hn
    have h2 := List.count_pos_iff.2 (List.contains_iff_mem.1 hk)
    have h3 := cnt_split l ((0 + 1 * i : Nat) : Int) (fun n hn => (h.node hn).even)
    omega
   · rw [Bool.true_and, decide_eq_false (by omega), decide_eq_false hr]; rfl
theorem bytes_eq {a b : ByteArray} : a.toList = b.toList ↔ a = b := by
  refine ⟨fun h => ByteArray.ext (by rw [Lib.toList_data, Lib.toList_data] at h; have := congrArg List.toArray h; simpa using this), fun h => by rw [h]⟩
end Go.Proofs.YtnjcpoojgmpmeaaGreatDoor.Graphs
namespace Go.Proofs.YtnjcpoojgmpmeaaGreatDoor.Plug
open Go.Maps RowKit YtnjcpoojgmpmeaaGreatDoor YtnjcpoojgmpmeaaGreatDoor.PX YtnjcpoojgmpmeaaGreatDoor.Utf YtnjcpoojgmpmeaaGreatDoor.Mapk YtnjcpoojgmpmeaaGreatDoor.Graphs YtnjcpoojgmpmeaaGreatDoorW.PrintWords YtnjcpoojgmpmeaaGreatDoorW.PrintLast YtnjcpoojgmpmeaaGreatDoorW.PrintMore
set_option linter.unusedVariables false
set_option linter.unusedSimpArgs false
theorem ref_bad (l : List Nd) (root : Int) (hs : sizesB l = true) (hM : ∀ n ∈ l, n.f2.length ≤ 1048576) (hr : rightB l root = false) :
  graph_Order.f l root = some ([], 1) ∧ iso_Shared.f l root = some ([], 1) ∧ ∃ F, ∀ K, F ≤ K → grommetref12_Order.f K l root = some ([], 1) ∧ grommetref14_Size.f K l root = some (0, 1) := by
 have hO : graph_Order.f l root = some ([], 1) := by unfold graph_Order.f; rw [if_pos hs, if_neg (by rw [hr]; decide)]
 obtain ⟨p, F, g1, g2⟩ := ref_order l root hs hM (allL l + 4 * l.length + 10) (fun K hK => ref_right l root hs K hK) (fun h => by rw [hr] at h; cases h)
 rw [hO] at g1
 have hp := Option.some.inj g1
 subst hp
 refine ⟨hO, by unfold iso_Shared.f; rw [hO]; rfl, F, fun K hK => ⟨g2 K hK, ?_⟩⟩
 unfold grommetref14_Size.f
 rw [g2 K hK, Option.bind_some, if_neg (by decide)]
theorem ref_good (l : List Nd) (root : Int) (hs : sizesB l = true) (hM : ∀ n ∈ l, n.f2.length ≤ 1048576) (hG : RightG l root) (hk : Kin l) :
  ∃ xs sh F, graph_Order.f l root = some (xs, 0) ∧ iso_Shared.f l root = some (sh, 0) ∧ xs.length ≤ l.length ∧ sh.length ≤ 4096 ∧ (∀ x ∈ xs, 0 ≤ x ∧ x < (l.length : Int)) ∧
   ∀ K, F ≤ K → grommetref14_Size.f K l root = some (((1 + kidsL l xs : Nat) : Int), 0) ∧ grommetref13_Shared.f K l root = some (sh, 0) := by
 have hr := (right_iff l root hs).2 hG
 obtain ⟨s0, xs, g1, g2, g3, g4, g5⟩ := go_some l hk (l.length + 1) root 1 _ (go_start l.length) (by simp) hG.r0 hG.r1
 have gx : s0.2.1 = xs := by rw [g3]; rfl
 rw [gx] at g4 g5
 have hrg := g2.rng
 rw [gx] at hrg
 have hle := g2.le
 rw [gx] at hle
 have hgl := hG.le
 have hO : graph_Order.f l root = some (xs, 0) := by
  unfold graph_Order.f
  rw [if_pos hs, if_pos hr, g1]
  simp [gx]
 have hS : iso_Shared.f l root = some (xs.filter (fun x => !decide ((usesC l xs (bumpC (fun _ => 0) root) x : Int) < 2)), 0) := by
  unfold iso_Shared.f
  rw [hO]
  dsimp only
  rw [if_neg (by simp), if_pos ⟨fun e => by rw [e] at g4; simp at g4, by omega, List.all_eq_true.2 (fun x hx => by have := hrg x hx; simp; omega)⟩]
 obtain ⟨p, F, h1, h2⟩ := ref_order l root hs hM (allL l + 4 * l.length + 10) (fun K hK => ref_right l root hs K hK) (fun _ => hk)
 rw [hO] at h1
 have hp := Option.some.inj h1
 subst hp
 obtain ⟨F2, h3⟩ := ref_shared l root xs hk hM hgl hG.r0 hG.r1 hrg (by omega) F h2
 refine ⟨xs, _, F + F2 + xs.length + 1, hO, hS, hle, Nat.le_trans (List.length_filter_le _ _) (by omega), hrg, fun K hK => ⟨?_, h3 K (by omega)⟩⟩
 unfold grommetref14_Size.f
 rw [h2 K (by omega), Option.bind_some, if_pos rfl]
 have h := ref_size_l0 l root xs hrg hM (by omega) xs.length 0 K 1 (by omega) (by omega) (by omega)
 rw [List.drop_zero] at h
 exact h
set_option maxHeartbeats 8000000 in
set_option maxRecDepth 100000 in
theorem refT_calls (A0 : Option Addr) (c0 : Nat) (l : List Nd) (root : Int) (t : Tr) (e : Int) (w : World) (hr0 : Kd.C k45 w A0 l.length l) (hc0 : l.length ≤ c0) (hG : Glob.G w) (h : refT l root = some (t, e)) :
  Calls Tryz.prog 12 #[.agg #[.slice A0 l.length c0, .int .i64 root]] w fun e' w' => ∃ v : Value, e' = .returned (.tuple #[.agg #[.int .i64 t.f0, .string t.f1, .string t.f2, v], .int .i64 e]) ∧ Kd.M k29 w' w.heap.size (fun _ => True) t [.int .i64 t.f0, .string t.f1, .string t.f2, v] ∧ Below w.heap.size w w' := by
 unfold refT at h
 by_cases hA : l.all (fun n => decide (n.f2.length ≤ 1048576)) = true
 case neg => rw [if_neg hA] at h; cases h
 rw [if_pos hA] at h
 have hM : ∀ n ∈ l, n.f2.length ≤ 1048576 := fun n hn => of_decide_eq_true (List.all_eq_true.1 hA n hn)
 have HR := Lib.hid hr0
 clear hr0 hA
 cases ho : graph_Order.f l root with
 | none => rw [ho] at h; cases h
 | some p =>
  obtain ⟨xs, e0⟩ := p
  cases hsh : iso_Shared.f l root with
  | none => rw [ho, hsh] at h; cases h
  | some q =>
   obtain ⟨sh, e1⟩ := q
   rw [ho, hsh] at h
   dsimp only at h
   have hs : sizesB l = true := by
    unfold graph_Order.f at ho
    by_cases hs : sizesB l = true
    · exact hs
    rw [if_neg hs] at ho; cases ho
   by_cases hr : rightB l root = true
   case neg =>
    obtain ⟨hO, hS, F, hF⟩ := ref_bad l root hs hM (Bool.eq_false_iff.2 hr)
    rw [ho] at hO
    obtain ⟨_, rfl⟩ := Prod.mk.inj (Option.some.inj hO)
    rw [if_pos (by decide)] at h
    have HF := Lib.hid (show t = noTr ∧ e = 1 from ⟨(Prod.mk.inj (Option.some.inj h)).1.symm, (Prod.mk.inj (Option.some.inj h)).2.symm⟩)
    have HSZ := Lib.hid (hF F (Nat.le_refl _)).2
    clear h ho hsh hO hS hF hr hs hM
    go_enter Tryz.func12, Tryz.ntmps12
    go_wp2_with (first | ((with_reducible refine gate_dst (N := 1) rfl ?_); refine box_event ?hg (N := 1) ?hd (cs := #[.slice A0 l.length c0, .int .i64 root]) (t := 24) ?hr ?_; (case hd => rfl); (case hg => rfl); (case hr => first | (go_simp; done) | (go_simp; rfl)); intro gb hg w1 hgb hb1; have HG := Lib.hid hgb; have HB := Lib.hid hb1; have HE := Lib.hid hg; clear hgb hb1 hg; have x0 := cell_al (o := .cells #[.int .i64 0, .string ⟨#[]⟩, .string ⟨#[]⟩, .slice none 0 0] 29) ((blk_cell HG.out 0).trans rfl); have x1 := cell_al (o := .cells #[.int .i64 0, .string ⟨#[]⟩, .string ⟨#[]⟩, .slice none 0 0] 29) ((blk_cell HG.out 1).trans rfl)) | (go_at_call 14; refine (grommetref14_Size.calls _ A0 c0 l root _ _ _ (Kd.C_below HR.out (below_alloc HB.out _)) hc0 (hG.below (below_alloc HB.out _)) HSZ.out).mono ?_; rintro ee w2 ⟨rfl, hb2⟩; have HB2 := Lib.hid ((below_alloc HB.out (.cells #[.int .i64 0, .string ⟨#[]⟩, .string ⟨#[]⟩, .slice none 0 0] 29)).trans (hb2.mono (below_alloc HB.out _).size)); have HG2 := Lib.hid ((hb2.block gb (blk_lt (show (w1.alloc (.cells #[.int .i64 0, .string ⟨#[]⟩, .string ⟨#[]⟩, .slice none 0 0] 29)).heap[gb]? = _ from (Lib.alloc_old _ _ _ (blk_lt HG.out)).trans HG.out))).trans ((Lib.alloc_old _ _ _ (blk_lt HG.out)).trans HG.out)); have HR2 := Lib.hid ((hb2.block w1.heap.size (blk_lt (blk_new w1 _))).trans (blk_new w1 (.cells #[.int .i64 0, .string ⟨#[]⟩, .string ⟨#[]⟩, .slice none 0 0] 29))); have hs1 := HB.out.size; have y0 := (blk_cell HG2.out 0).trans rfl; have y1 := (blk_cell HG2.out 1).trans rfl; have z0 := (blk_cell HR2.out 0).trans rfl; have z1 := (blk_cell HR2.out 1).trans rfl; have z2 := (blk_cell HR2.out 2).trans rfl; have z3 := (blk_cell HR2.out 3).trans rfl; have f0 := blk_frozen HR2.out 0; have f1 := blk_frozen HR2.out 1; have f2 := blk_frozen HR2.out 2; have f3 := blk_frozen HR2.out 3; clear hb2 x0 x1))
    refine bodyPost_ret (results_ct rfl _ _ w1.heap.size 29 #[.int .i64 0, .string ⟨#[]⟩, .string ⟨#[]⟩, .slice none 0 0] (0, 0) _ rfl (blk_put4 HR2.out _ _ _ _) Tryz.underlying29 rfl (by kernel_rfl)) rfl ?_
    rw [HF.out.1, HF.out.2]
    exact ⟨.slice none 0 0, by first | done | rfl, k29_mkM _ _ _ noTr (Kd.R_nil _ _ _ _ _), below_put4 HB2.out hs1 _ _ _ _⟩
   case pos =>
    have hgood := (right_iff l root hs).1 hr
    have hkin : Kin l := fun n hn => (hgood.node hn).range
    obtain ⟨xs2, sh2, F, hO, hS, hxl, hshl, hin, hF⟩ := ref_good l root hs hM hgood hkin
    rw [ho] at hO
    obtain ⟨rfl, rfl⟩ := Prod.mk.inj (Option.some.inj hO)
    rw [hsh] at hS
    obtain ⟨rfl, _⟩ := Prod.mk.inj (Option.some.inj hS)
    rw [if_neg (by decide)] at h
    obtain ⟨q, hq1, hq2⟩ := Option.map_eq_some_iff.1 h
    obtain ⟨tt, m', d'⟩ := q
    dsimp only at hq2
    obtain ⟨g1, g2⟩ := hF F (Nat.le_refl _)
    have HSZ := Lib.hid g1
    have HSH := Lib.hid g2
    have HTO := Lib.hid hq1
    have HF := Lib.hid hq2
    have HZ := Lib.hid (show ∀ n ∈ l, n.f2.length ≤ 1099511627776 from fun n hn => (sizes_iff hs n hn).2)
    have HKI := Lib.hid hkin
    have hr0 := hgood.r0
    have hr1 := hgood.r1
    have hll := hgood.le
    have hkb : 1 + kidsL l xs ≤ 4503599627370497 := by
     have : ∀ L : List Int, (∀ x ∈ L, 0 ≤ x ∧ x < (l.length : Int)) → kidsL l L ≤ L.length * 1099511627776 := by
      intro L
      induction L with
      | nil => intro _; simp [kidsL]
      | cons a r ih =>
       intro hL
       have h1 := ih (fun x hx => hL x (by simp [hx]))
       have h2 := HZ.out _ (rd_mem l a (hL a (by simp)).1 (hL a (by simp)).2)
       simp only [kidsL, List.map_cons, List.sum_cons, List.length_cons] at h1 ⊢
       omega
     have h1 := this xs hin
     have h2 : xs.length * 1099511627776 ≤ 4096 * 1099511627776 := Nat.mul_le_mul_right _ (by omega)
     omega
    obtain ⟨N, hN⟩ : ∃ N, 1 + kidsL l xs = N := ⟨_, rfl⟩
    rw [hN] at HSZ HF hkb
    obtain ⟨C, hmk, hrow⟩ := make_bools l.length hll
    have HMR := Lib.hid hrow
    clear h ho hsh hO hS hF hr hs hM hgood hkin hin hq1 hq2 g1 g2 hN hxl hrow
    go_enter Tryz.func12, Tryz.ntmps12
    go_wp2_with (first | ((with_reducible refine gate_dst (N := 1) rfl ?_); refine box_event ?hg (N := 1) ?hd (cs := #[.slice A0 l.length c0, .int .i64 root]) (t := 24) ?hr ?_; (case hd => rfl); (case hg => rfl); (case hr => first | (go_simp; done) | (go_simp; rfl)); intro gb hg w1 hgb hb1; have HG := Lib.hid hgb; have HB := Lib.hid hb1; have HE := Lib.hid hg; clear hgb hb1 hg; have x0 := cell_al (o := .cells #[.int .i64 0, .string ⟨#[]⟩, .string ⟨#[]⟩, .slice none 0 0] 29) ((blk_cell HG.out 0).trans rfl); have x1 := cell_al (o := .cells #[.int .i64 0, .string ⟨#[]⟩, .string ⟨#[]⟩, .slice none 0 0] 29) ((blk_cell HG.out 1).trans rfl)) | (go_at_call 14; refine (grommetref14_Size.calls _ A0 c0 l root _ _ _ (Kd.C_below HR.out (below_alloc HB.out _)) hc0 (hG.below (below_alloc HB.out _)) HSZ.out).mono ?_; rintro ee w2 ⟨rfl, hb2⟩; have HB2 := Lib.hid ((below_alloc HB.out (.cells #[.int .i64 0, .string ⟨#[]⟩, .string ⟨#[]⟩, .slice none 0 0] 29)).trans (hb2.mono (below_alloc HB.out _).size)); have HG2 := Lib.hid ((hb2.block gb (blk_lt (show (w1.alloc (.cells #[.int .i64 0, .string ⟨#[]⟩, .string ⟨#[]⟩, .slice none 0 0] 29)).heap[gb]? = _ from (Lib.alloc_old _ _ _ (blk_lt HG.out)).trans HG.out))).trans ((Lib.alloc_old _ _ _ (blk_lt HG.out)).trans HG.out)); have HR2 := Lib.hid ((hb2.block w1.heap.size (blk_lt (blk_new w1 _))).trans (blk_new w1 (.cells #[.int .i64 0, .string ⟨#[]⟩, .string ⟨#[]⟩, .slice none 0 0] 29))); have hs1 := HB.out.size; have y0 := (blk_cell HG2.out 0).trans rfl; have y1 := (blk_cell HG2.out 1).trans rfl; have z0 := (blk_cell HR2.out 0).trans rfl; have z1 := (blk_cell HR2.out 1).trans rfl; have z2 := (blk_cell HR2.out 2).trans rfl; have z3 := (blk_cell HR2.out 3).trans rfl; have f0 := blk_frozen HR2.out 0; have f1 := blk_frozen HR2.out 1; have f2 := blk_frozen HR2.out 2; have f3 := blk_frozen HR2.out 3; clear hb2 x0 x1) | (go_at_call 30; refine (grommetref13_Shared.calls _ A0 c0 l root _ _ _ (Kd.C_below HR.out HB2.out) hc0 (hG.below HB2.out) HSH.out).mono ?_; rintro ee w3 ⟨v, rfl, hrow, hb3⟩; obtain ⟨A5, c5, ev⟩ := Kd.R_slice hrow; subst ev; have HROW := Lib.hid (Kd.R_lower hrow HB2.out.size); have HB3 := Lib.hid (HB2.out.trans (hb3.mono HB2.out.size)); have HG3 := Lib.hid ((hb3.block gb (blk_lt HG2.out)).trans HG2.out); have HR3 := Lib.hid ((hb3.block w1.heap.size (blk_lt HR2.out)).trans HR2.out); clear hrow hb3 y0 y1 z0 z1 z2 z3 f0 f1 f2 f3; have y0 := (blk_cell HG3.out 0).trans rfl; have y1 := (blk_cell HG3.out 1).trans rfl))
    apply merge_
    ·
     intro hXm
     go_region_held3 (fun W' => W'.cell? ⟨gb, 0, none⟩ = some (.slice A0 l.length c0) ∧ W'.cell? ⟨gb, 1, none⟩ = some (.int .i64 root))
      (first | exact ⟨y0, y1⟩ | exact ⟨cell_al y0, cell_al y1⟩ | exact ⟨cell_al (cell_al y0), cell_al (cell_al y1)⟩)
      (first | fail)
     ·
      have HRL := Lib.hid (show Rl w3 (w3.heap.size + 1) w3.heap.size l.length A0 A5 l.length c0 sh.length c5 root (List.replicate l.length false, false) ((w3.alloc (.cells C 4)).alloc (.cells #[.slice A0 l.length c0, .int .i64 root, .slice A5 sh.length c5, .slice (some ⟨w3.heap.size, 0, none⟩) l.length l.length, .bool false] 74)).drew from ⟨by have h := blk_new (w3.alloc (.cells C 4)) (.cells #[.slice A0 l.length c0, .int .i64 root, .slice A5 sh.length c5, .slice (some ⟨w3.heap.size, 0, none⟩) l.length l.length, .bool false] 74); rw [show (w3.alloc (.cells C 4)).heap.size = w3.heap.size + 1 by simp] at h; exact h, by simp, Kd.R_mono (Kd.R_tight rfl (Kd.R_drew (Kd.R_alloc (HMR.out w3 w3.heap.size (Nat.le_refl _)) (.cells #[.slice A0 l.length c0, .int .i64 root, .slice A5 sh.length c5, .slice (some ⟨w3.heap.size, 0, none⟩) l.length l.length, .bool false] 74)))) (fun k hk => Option.some.inj hk), below_drew1 (below_alloc (below_alloc (Below.refl _ _) _) _), by omega⟩)
      have HB4 := Lib.hid (HRL.out.bel)
      have HLT := Lib.hid (show (gb < (w3.heap.size + 1) ∧ gb < w3.heap.size) ∧ w1.heap.size < (w3.heap.size + 1) ∧ w1.heap.size < w3.heap.size from by have h1 := blk_lt HG3.out; have h2 := blk_lt HR3.out; omega)
      generalize World.drew _ = w4 at HRL HB4 ⊢
      generalize w3.heap.size + 1 = lb at HRL HLT ⊢
      generalize w3.heap.size = mb at HRL HLT ⊢
      revert HLT
      revert HB4
      revert HRL
      revert w4
      revert mb
      revert lb
      exact hXm.out
     ·
      have HRL := Lib.hid (show Rl w3 w3.heap.size (w3.heap.size + 1) l.length A0 A5 l.length c0 sh.length c5 root (List.replicate l.length false, false) ((w3.alloc (.cells #[.slice A0 l.length c0, .int .i64 root, .slice A5 sh.length c5, .slice (some ⟨(w3.heap.size + 1), 0, none⟩) l.length l.length, .bool false] 74)).alloc (.cells C 4)).drew from ⟨(Lib.alloc_old _ _ _ (by simp)).trans (blk_new w3 (.cells #[.slice A0 l.length c0, .int .i64 root, .slice A5 sh.length c5, .slice (some ⟨(w3.heap.size + 1), 0, none⟩) l.length l.length, .bool false] 74)), by simp, Kd.R_mono (Kd.R_tight rfl (Kd.R_drew (show Kd.R Kd.bool 4 ((w3.alloc (.cells #[.slice A0 l.length c0, .int .i64 root, .slice A5 sh.length c5, .slice (some ⟨(w3.heap.size + 1), 0, none⟩) l.length l.length, .bool false] 74)).alloc (.cells C 4)) w3.heap.size (fun _ => True) (.slice (some ⟨w3.heap.size + 1, 0, none⟩) l.length l.length) (List.replicate l.length false) from by have h := HMR.out (w3.alloc (.cells #[.slice A0 l.length c0, .int .i64 root, .slice A5 sh.length c5, .slice (some ⟨(w3.heap.size + 1), 0, none⟩) l.length l.length, .bool false] 74)) w3.heap.size (by simp); rw [show (w3.alloc (.cells #[.slice A0 l.length c0, .int .i64 root, .slice A5 sh.length c5, .slice (some ⟨(w3.heap.size + 1), 0, none⟩) l.length l.length, .bool false] 74)).heap.size = w3.heap.size + 1 by simp] at h; exact h))) (fun k hk => Option.some.inj hk), below_drew1 (below_alloc (below_alloc (Below.refl _ _) _) _), by omega⟩)
      have HB4 := Lib.hid (HRL.out.bel)
      have HLT := Lib.hid (show (gb < w3.heap.size ∧ gb < (w3.heap.size + 1)) ∧ w1.heap.size < w3.heap.size ∧ w1.heap.size < (w3.heap.size + 1) from by have h1 := blk_lt HG3.out; have h2 := blk_lt HR3.out; omega)
      generalize World.drew _ = w4 at HRL HB4 ⊢
      generalize w3.heap.size + 1 = mb at HRL HLT ⊢
      generalize w3.heap.size = lb at HRL HLT ⊢
      revert HLT
      revert HB4
      revert HRL
      revert w4
      revert mb
      revert lb
      exact hXm.out
    ·
     intro lb mb w4 HRL HB4 HLT
     have HG4 := Lib.hid ((HB4.out.block gb (blk_lt HG3.out)).trans HG3.out)
     have HR4 := Lib.hid ((HB4.out.block w1.heap.size (blk_lt HR3.out)).trans HR3.out)
     have HS1 := Lib.hid hs1
     clear y0 y1 hmk HMR
     have y0 := (blk_cell HG4.out 0).trans rfl
     have y1 := (blk_cell HG4.out 1).trans rfl
     have hq2 := HF.out
     clear HF
     cases d' with
     | true =>
      rw [if_pos rfl] at hq2
      have HF := Lib.hid (show t = noTr ∧ e = 10 from ⟨(Prod.mk.inj hq2).1.symm, (Prod.mk.inj hq2).2.symm⟩)
      clear hq2
      go_wp2_with (first | (go_at_call 31; refine (rtree_is w3 lb mb l.length A0 A5 c0 c5 l sh root (Kd.C_below HR.out HB3.out) (Kd.R_reads' HROW.out).2.2 hshl (hG.below HB3.out) hll HZ.out HKI.out (l.length + 1) root 0 _ _ tt w4 HRL.out HTO.out hr0 hr1 (by omega) (by omega)).mono ?_; rintro ee w7 ⟨v7, rfl, hM, hL, hK⟩; obtain ⟨v9, ev, hRR⟩ := k29_openM hM; obtain ⟨A7, c7, ev2⟩ := Kd.R_slice hRR; have e7 : v7 = .slice A7 tt.f3.length c7 := by { rw [← ev2]; simpa using ev }; subst e7; clear ev ev2 hRR; have HM := Lib.hid hM; have HR7 := Lib.hid ((hK.2 w1.heap.size (blk_lt HR4.out) (by have := HLT.out; omega) (fun e => by have := HLT.out; have := Option.some.inj e; omega)).trans HR4.out); have HB7 := Lib.hid (HB3.out.trans (hL.bel.mono HB3.out.size)); have HR8 := Lib.hid ((Lib.alloc_old w7 (.cells #[.int .i64 tt.f0, .string tt.f1, .string tt.f2, .slice A7 tt.f3.length c7] 29) _ (blk_lt HR7.out)).trans HR7.out); have HB8 := Lib.hid (below_alloc HB7.out (.cells #[.int .i64 tt.f0, .string tt.f1, .string tt.f2, .slice A7 tt.f3.length c7] 29)); have y3 := cell_al (o := .cells #[.int .i64 tt.f0, .string tt.f1, .string tt.f2, .slice A7 tt.f3.length c7] 29) hL.cells.2.2.2.2.1; clear hM hL hK y0 y1; have r0 := (blk_cell HR8.out 0).trans rfl; have r1 := (blk_cell HR8.out 1).trans rfl; have r2 := (blk_cell HR8.out 2).trans rfl; have r3 := (blk_cell HR8.out 3).trans rfl; have f0 := blk_frozen HR8.out 0; have f1 := blk_frozen HR8.out 1; have f2 := blk_frozen HR8.out 2; have f3 := blk_frozen HR8.out 3))
      refine bodyPost_ret (results_ct rfl _ _ w1.heap.size 29 #[.int .i64 0, .string ⟨#[]⟩, .string ⟨#[]⟩, .slice none 0 0] (0, 0) _ rfl (blk_put4 HR8.out _ _ _ _) Tryz.underlying29 rfl (by kernel_rfl)) rfl ?_
      rw [HF.out.1, HF.out.2]
      exact ⟨.slice none 0 0, by first | done | rfl, k29_mkM _ _ _ noTr (Kd.R_nil _ _ _ _ _), below_put4 HB8.out HS1.out _ _ _ _⟩
     | false =>
      rw [if_neg (by decide)] at hq2
      by_cases hn : 4096 < N
      ·
       rw [if_pos hn] at hq2
       have HF := Lib.hid (show t = noTr ∧ e = 5 from ⟨(Prod.mk.inj hq2).1.symm, (Prod.mk.inj hq2).2.symm⟩)
       have q1 : decide ((N : Int) > 4096) = true := decide_eq_true (by omega)
       clear hq2 hn
       go_wp2_with (first | (go_at_call 31; refine (rtree_is w3 lb mb l.length A0 A5 c0 c5 l sh root (Kd.C_below HR.out HB3.out) (Kd.R_reads' HROW.out).2.2 hshl (hG.below HB3.out) hll HZ.out HKI.out (l.length + 1) root 0 _ _ tt w4 HRL.out HTO.out hr0 hr1 (by omega) (by omega)).mono ?_; rintro ee w7 ⟨v7, rfl, hM, hL, hK⟩; obtain ⟨v9, ev, hRR⟩ := k29_openM hM; obtain ⟨A7, c7, ev2⟩ := Kd.R_slice hRR; have e7 : v7 = .slice A7 tt.f3.length c7 := by { rw [← ev2]; simpa using ev }; subst e7; clear ev ev2 hRR; have HM := Lib.hid hM; have HR7 := Lib.hid ((hK.2 w1.heap.size (blk_lt HR4.out) (by have := HLT.out; omega) (fun e => by have := HLT.out; have := Option.some.inj e; omega)).trans HR4.out); have HB7 := Lib.hid (HB3.out.trans (hL.bel.mono HB3.out.size)); have HR8 := Lib.hid ((Lib.alloc_old w7 (.cells #[.int .i64 tt.f0, .string tt.f1, .string tt.f2, .slice A7 tt.f3.length c7] 29) _ (blk_lt HR7.out)).trans HR7.out); have HB8 := Lib.hid (below_alloc HB7.out (.cells #[.int .i64 tt.f0, .string tt.f1, .string tt.f2, .slice A7 tt.f3.length c7] 29)); have y3 := cell_al (o := .cells #[.int .i64 tt.f0, .string tt.f1, .string tt.f2, .slice A7 tt.f3.length c7] 29) hL.cells.2.2.2.2.1; clear hM hL hK y0 y1; have r0 := (blk_cell HR8.out 0).trans rfl; have r1 := (blk_cell HR8.out 1).trans rfl; have r2 := (blk_cell HR8.out 2).trans rfl; have r3 := (blk_cell HR8.out 3).trans rfl; have f0 := blk_frozen HR8.out 0; have f1 := blk_frozen HR8.out 1; have f2 := blk_frozen HR8.out 2; have f3 := blk_frozen HR8.out 3))
       refine bodyPost_ret (results_ct rfl _ _ w1.heap.size 29 #[.int .i64 0, .string ⟨#[]⟩, .string ⟨#[]⟩, .slice none 0 0] (0, 0) _ rfl (blk_put4 HR8.out _ _ _ _) Tryz.underlying29 rfl (by kernel_rfl)) rfl ?_
       rw [HF.out.1, HF.out.2]
       exact ⟨.slice none 0 0, by first | done | rfl, k29_mkM _ _ _ noTr (Kd.R_nil _ _ _ _ _), below_put4 HB8.out HS1.out _ _ _ _⟩
      rw [if_neg hn] at hq2
      have HF := Lib.hid (show t = tt ∧ e = 0 from ⟨(Prod.mk.inj hq2).1.symm, (Prod.mk.inj hq2).2.symm⟩)
      have q1 : decide ((N : Int) > 4096) = false := decide_eq_false (by omega)
      clear hq2 hn
      have hwx : w.heap.size ≤ w4.heap.size := by have h1 := HB3.out.size; have h2 := HB4.out.size; omega
      have HWX := Lib.hid hwx
      clear hwx
      go_wp2_with (first | (go_at_call 31; refine (rtree_is w3 lb mb l.length A0 A5 c0 c5 l sh root (Kd.C_below HR.out HB3.out) (Kd.R_reads' HROW.out).2.2 hshl (hG.below HB3.out) hll HZ.out HKI.out (l.length + 1) root 0 _ _ tt w4 HRL.out HTO.out hr0 hr1 (by omega) (by omega)).mono ?_; rintro ee w7 ⟨v7, rfl, hM, hL, hK⟩; obtain ⟨v9, ev, hRR⟩ := k29_openM hM; obtain ⟨A7, c7, ev2⟩ := Kd.R_slice hRR; have e7 : v7 = .slice A7 tt.f3.length c7 := by { rw [← ev2]; simpa using ev }; subst e7; clear ev ev2 hRR; have HM := Lib.hid hM; have HR7 := Lib.hid ((hK.2 w1.heap.size (blk_lt HR4.out) (by have := HLT.out; omega) (fun e => by have := HLT.out; have := Option.some.inj e; omega)).trans HR4.out); have HB7 := Lib.hid (HB3.out.trans (hL.bel.mono HB3.out.size)); have HR8 := Lib.hid ((Lib.alloc_old w7 (.cells #[.int .i64 tt.f0, .string tt.f1, .string tt.f2, .slice A7 tt.f3.length c7] 29) _ (blk_lt HR7.out)).trans HR7.out); have HB8 := Lib.hid (below_alloc HB7.out (.cells #[.int .i64 tt.f0, .string tt.f1, .string tt.f2, .slice A7 tt.f3.length c7] 29)); have y3 := cell_al (o := .cells #[.int .i64 tt.f0, .string tt.f1, .string tt.f2, .slice A7 tt.f3.length c7] 29) hL.cells.2.2.2.2.1; clear hM hL hK y0 y1; have r0 := (blk_cell HR8.out 0).trans rfl; have r1 := (blk_cell HR8.out 1).trans rfl; have r2 := (blk_cell HR8.out 2).trans rfl; have r3 := (blk_cell HR8.out 3).trans rfl; have f0 := blk_frozen HR8.out 0; have f1 := blk_frozen HR8.out 1; have f2 := blk_frozen HR8.out 2; have f3 := blk_frozen HR8.out 3))
      refine bodyPost_ret (results_ct rfl _ _ w1.heap.size 29 #[.int .i64 tt.f0, .string tt.f1, .string tt.f2, .slice A7 tt.f3.length c7] (0, 0) _ rfl (blk_put4 HR8.out _ _ _ _) Tryz.underlying29 rfl (by kernel_rfl)) rfl ?_
      rw [HF.out.1, HF.out.2]
      refine ⟨.slice A7 tt.f3.length c7, by first | done | rfl, ?_, below_put4 HB8.out HS1.out _ _ _ _⟩
      exact Kd.M_lower k29 HWX.out (Kd.M_mono k29 (fun _ _ => trivial) (Kd.M_step (Kd.M_bound k29 HM.out) (fun k hk hl => (far_put4 w1.heap.size _ _ _ _ (by have := hk.2.1; have := blk_lt HR4.out; omega)).trans (Lib.alloc_old w7 _ k hl))))
def grommetref14_Tree.f (l : List Nd) (root : Int) : Option (Int × ByteArray × ByteArray × List Tr × Int) := (refT l root).map fun p => (p.1.f0, p.1.f1, p.1.f2, p.1.f3, p.2)
theorem grommetref14_Tree.calls (A0 : Option Addr) (c0 : Nat) (l : List Nd) (root : Int) (r1 : Int) (r2 r3 : ByteArray) (r4 : List Tr) (r5 : Int) (w : World) (hr0 : Kd.C k45 w A0 l.length l) (hc0 : l.length ≤ c0) (hG : Glob.G w) (h : grommetref14_Tree.f l root = some (r1, r2, r3, r4, r5)) :
  Calls Tryz.prog 12 #[.agg #[.slice A0 l.length c0, .int .i64 root]] w fun e' w' => ∃ v : Value, e' = .returned (.tuple #[.agg #[.int .i64 r1, .string r2, .string r3, v], .int .i64 r5]) ∧ Kd.R k29 29 w' w.heap.size (fun _ => True) v r4 ∧ Below w.heap.size w w' := by
 obtain ⟨p, hp1, hp2⟩ := Option.map_eq_some_iff.1 h
 obtain ⟨t, e⟩ := p
 obtain ⟨t0, t1, t2, t3⟩ := t
 obtain ⟨rfl, rfl, rfl, rfl, rfl⟩ : t0 = r1 ∧ t1 = r2 ∧ t2 = r3 ∧ t3 = r4 ∧ e = r5 := by
  simp only [Prod.mk.injEq] at hp2
  exact hp2
 refine (refT_calls A0 c0 l root _ _ w hr0 hc0 hG hp1).mono ?_
 rintro e' w' ⟨v, rfl, hM, hb⟩
 obtain ⟨v3, ev, hR⟩ := k29_openM hM
 have e7 : v = v3 := by simpa using ev
 subst e7
 exact ⟨v, rfl, hR, hb⟩
end Go.Proofs.YtnjcpoojgmpmeaaGreatDoor.Plug
