/- Texts that stand behind one another, laid into one: what this claim needs of them. -/
import Derived.Test.YtiooacmplmcphaaGreatDoorBP4
import Derived.Test.YtiooacmplmcphaaGreatDoorBP0
import Derived.Test.YtiooacmplmcphaaGreatDoorBP5
namespace Go.Proofs.YtiooacmplmcphaaGreatDoor.Pure
open RowKit YtiooacmplmcphaaGreatDoor.PX YtiooacmplmcphaaGreatDoor.Plug YtiooacmplmcphaaGreatDoor.Graphs YtiooacmplmcphaaGreatDoor.Paths YtiooacmplmcphaaGreatDoorW.PrintWords YtiooacmplmcphaaGreatDoorW.PrintLast
theorem fmt_apart (A B : List S98) (h : (fmtB (A ++ B)).2 = 0) : (fmtB A).2 = 0 ∧ (fmtB B).2 = 0 := by
 obtain ⟨h1, h2, h3, _⟩ := fmtB_ok _ h
 rw [List.length_append] at h1
 constructor
 · rw [fmtB_of A (by omega) (fun x hx => h2 x (List.mem_append_left _ hx)) (fun x hx => h3 x (List.mem_append_left _ hx))]
 · rw [fmtB_of B (by omega) (fun x hx => h2 x (List.mem_append_right _ hx)) (fun x hx => h3 x (List.mem_append_right _ hx))]
theorem fmt_both (A B : List S98) (hl : A.length + B.length ≤ 64) (hA : (fmtB A).2 = 0) (hB : (fmtB B).2 = 0) : (fmtB (A ++ B)).2 = 0 := by
 obtain ⟨_, a2, a3, _⟩ := fmtB_ok _ hA
 obtain ⟨_, b2, b3, _⟩ := fmtB_ok _ hB
 rw [fmtB_of (A ++ B) (by rw [List.length_append]; exact hl) (fun x hx => (List.mem_append.1 hx).elim (a2 x) (b2 x)) (fun x hx => (List.mem_append.1 hx).elim (a3 x) (b3 x))]
theorem walk_err (l : List Nd) : ∀ (k : List S98) (at_ : Int), (walkG l k at_).2 ≠ 0 → (walkG l k at_).1 = 0
 | [], at_, h => absurd rfl h
 | x :: k, at_, h => by
  rw [walkG] at h ⊢
  split
  · rename_i c; rw [if_pos c] at h; exact walk_err l k _ h
  · rfl
theorem get_on (l : List Nd) (root : Int) (A B : List S98) (hs : sizesB l = true) (hl : A.length + B.length ≤ 64) :
  ((fmtB B).2 ≠ 0 → (getG l root (A ++ B)).2 = 1) ∧ ((fmtB B).2 = 0 → (getG l root A).2 ≠ 0 → (getG l root A).2 = (getG l root (A ++ B)).2 ∧ (getG l root A).1 = 0 ∧ (getG l root (A ++ B)).1 = 0) ∧
  ((fmtB B).2 = 0 → (getG l root A).2 = 0 → rightB l (getG l root A).1 = true ∧ getG l (getG l root A).1 B = getG l root (A ++ B)) := by
 refine ⟨fun h => ?_, fun hB h => ?_, fun hB h => ?_⟩
 ·
  unfold getG
  rw [if_neg (fun e => h (fmt_apart A B e).2)]
 ·
  by_cases hA : (fmtB A).2 = 0
  rotate_left
  ·
   unfold getG
   rw [if_neg hA, if_neg (fun e => hA (fmt_apart A B e).1)]
   exact ⟨rfl, rfl, rfl⟩
  have hAB := fmt_both A B hl hA hB
  unfold getG at h ⊢
  rw [if_pos hA] at h ⊢
  rw [if_pos hAB]
  by_cases hr : rightB l root = true
  rotate_left
  · rw [if_neg hr, if_neg hr]; exact ⟨rfl, rfl, rfl⟩
  rw [if_pos hr] at h ⊢
  rw [if_pos hr, walkG_append, if_neg h]
  exact ⟨rfl, walk_err l A root h, rfl⟩
 ·
  by_cases hA : (fmtB A).2 = 0
  rotate_left
  ·
   unfold getG at h
   rw [if_neg hA] at h; cases h
  have hAB := fmt_both A B hl hA hB
  unfold getG at h ⊢
  rw [if_pos hA] at h ⊢
  by_cases hr : rightB l root = true
  rotate_left
  · rw [if_neg hr] at h; cases h
  rw [if_pos hr] at h ⊢
  have hok := (fmtB_ok A hA).2.1
  have hrg := walkG_right A root ((right_iff l root hs).1 hr) (fun x hx e => by have ho := hok x hx; unfold okStep at ho; rw [e] at ho; simp at ho; exact ho.1) h
  have hrr := (right_iff l _ hs).2 hrg
  refine ⟨hrr, ?_⟩
  rw [if_pos hB, if_pos hrr, if_pos hAB, if_pos hr, walkG_append, if_pos h]
theorem PathOn (l : List S45) (root : Int) (a b : List Sr) (_hg : Opened.goodGraph (l, root)) (_ha : ∀ x ∈ a, Opened.goodStep x) (_hb : ∀ x ∈ b, Opened.goodStep x) (hbk : Opened.bulkGraph (l, root) + Opened.bulkL Opened.bulkStep a + Opened.bulkL Opened.bulkStep b ≤ 1048576) : ∃ K, grommetlaw16_PathOn.f K l root a b = some true := by
 have la := Opened.steps_len a
 have lb := Opened.steps_len b
 have hb : Opened.bulkGraph (l, root) = Opened.bulkL Opened.bulkNode l + 2 := rfl
 obtain ⟨hs, hal⟩ := sizes_of l (by omega)
 refine ⟨8000000 + 1, ?_⟩
 obtain ⟨p, hp⟩ := large_of l root (8000000 + 1) (by omega)
 obtain ⟨q, hq, _⟩ := long_of a (by omega) (8000000 + 1) (by omega)
 obtain ⟨q2, hq2, _⟩ := long_of b (by omega) (8000000 + 1) (by omega)
 have h1 : grommetlaw16_PathOn.j0 (8000000 + 1) a b true l root = some true := by
  rw [grommetlaw16_PathOn.j0, if_pos rfl, alive16]; rfl
 have h2 : a.length + b.length ≤ 64 → grommetlaw16_PathOn.j0 (8000000 + 1) a b false l root = some true := fun hl => by
  have tA := theirs_of a (by omega) 8000000 (by omega)
  have tB := theirs_of b (by omega) 8000000 (by omega)
  have tAB := theirs_of ([] ++ a ++ b) (by rw [List.length_append, List.length_append]; simp; omega) 8000000 (by rw [List.length_append, List.length_append]; simp; omega)
  have eAB : ([] ++ a ++ b).map conv = a.map conv ++ b.map conv := by simp
  rw [eAB] at tAB
  have hFB : path_Format.f (b.map conv) = some (⟨(fmtB (b.map conv)).1.toArray⟩, (fmtB (b.map conv)).2) := rfl
  obtain ⟨g1, g2, g3⟩ := get_on l root (a.map conv) (b.map conv) hs (by rw [List.length_map, List.length_map]; exact hl)
  rw [grommetlaw16_PathOn.j0, if_neg Bool.false_ne_true, tA, Option.bind_some, prog_get l root _ hs 8000000 (by omega), Option.bind_some, if_pos (by simp; omega), Option.bind_some, if_pos (by rw [List.length_append]; simp; omega), tAB, Option.bind_some, prog_get l root _ hs 8000000 (by omega), Option.bind_some, tB, Option.bind_some, hFB, Option.bind_some]
  by_cases c : (fmtB (b.map conv)).2 = 0
  rotate_left
  · rw [if_neg c, if_pos (g1 c), alive16]; rfl
  rw [if_pos c]
  by_cases d : (getG l root (a.map conv)).2 = 0
  rotate_left
  ·
   obtain ⟨e1, e2, e3⟩ := g2 c d
   rw [if_neg d, if_pos e1, if_pos e2, if_pos e3, alive16]; rfl
  obtain ⟨hr, he⟩ := g3 c d
  rw [if_pos d, show graph_Right.f l (getG l root (a.map conv)).1 = some true by unfold graph_Right.f; rw [if_pos hs, hr], Option.bind_some, if_pos rfl, Option.bind_some, prog_get l _ _ hs 8000000 (by omega), Option.bind_some, he, if_pos rfl, if_pos rfl, alive16]; rfl
 unfold grommetlaw16_PathOn.f
 rw [hp, Option.bind_some]
 cases p with
 | true => rw [if_pos rfl]; exact h1
 | false =>
  rw [if_neg Bool.false_ne_true, hq, Option.bind_some]
  cases q with
  | true => rw [if_pos rfl]; exact h1
  | false =>
   rw [if_neg Bool.false_ne_true, hq2, Option.bind_some]
   cases q2 with
   | true => rw [if_pos rfl]; exact h1
   | false =>
    rw [if_neg Bool.false_ne_true]
    by_cases hl : a.length + b.length ≤ 64
    rotate_left
    · rw [decide_eq_true (by unfold wrap64; omega)]; exact h1
    rw [decide_eq_false (by unfold wrap64; omega)]; exact h2 hl
end Go.Proofs.YtiooacmplmcphaaGreatDoor.Pure
