/- Texts that stand behind one another, laid into one: what this claim needs of them. -/
import Derived.Test.YtmkdjgmdfhagfaaGreatDoorBS3
import Derived.Test.YtmkdjgmdfhagfaaGreatDoorBS4
import Derived.Test.YtmkdjgmdfhagfaaGreatDoorBS0
import Derived.KernelRfl
import Derived.Deep.Slices
import Derived.Deep.Fields
import Derived.ChangeSame
import Derived.Test.YtmkdjgmdfhagfaaGreatDoorBS1

/- Paths' texts, in plain terms: what is formatted is parsed, and what is parsed can be formatted; conditions: texts of at most 2^40 bytes. -/
namespace Go.Proofs.YtmkdjgmdfhagfaaGreatDoor.Paths
open Go.RowKit Go.Proofs.YtmkdjgmdfhagfaaGreatDoor.PX Go.Proofs.YtmkdjgmdfhagfaaGreatDoor.Plug Go.Proofs.YtmkdjgmdfhagfaaGreatDoor.Utf Go.Proofs.YtmkdjgmdfhagfaaGreatDoor.Nums Go.Proofs.YtmkdjgmdfhagfaaGreatDoorW.PrintWords Go.Proofs.YtmkdjgmdfhagfaaGreatDoorW.PrintLast

abbrev St := S73
/-- A step without what does not count. -/
def cleanS (x : St) : St := if x.f2 = true then ⟨⟨#[]⟩, x.f1, true⟩ else ⟨x.f0, 0, false⟩
def keyOk (x : St) : Prop := x.f2 = false → (keyT x.f0.data.toList).2 = 0
def stepT (f : Bool) (x : St) : List UInt8 := if x.f2 = true then 91 :: (Lib.itoa x.f1 ++ [93]) else (if f then [] else [46]) ++ (keyT x.f0.data.toList).1
def rend : Bool → List St → List UInt8
  | _, [] => []
  | f, x :: xs => stepT f x ++ rend false xs

theorem fmtF_iff : ∀ (l : List St) (f : Bool) (acc : List UInt8), (fmtF f l acc).2 = 0 → (∀ x ∈ l, keyOk x) ∧ fmtF f l acc = (acc ++ rend f l, 0)
  | [], f, acc, _ => ⟨by simp, by simp [fmtF, rend]⟩
  | x :: l, f, acc, h => by
    rw [fmtF] at h ⊢
    by_cases c : x.f2 = true
    · rw [if_pos c] at h ⊢
      obtain ⟨h1, h2⟩ := fmtF_iff l false _ h
      refine ⟨fun y hy => ?_, by rw [h2, rend, stepT, if_pos c, List.append_assoc]⟩
      rcases List.mem_cons.1 hy with rfl | hy
      · intro e; rw [e] at c; cases c
      · exact h1 y hy
    · rw [if_neg c] at h ⊢
      by_cases k : (keyT x.f0.data.toList).2 ≠ 0
      · rw [if_pos k] at h; exact absurd h k
      · rw [if_neg k] at h ⊢
        obtain ⟨h1, h2⟩ := fmtF_iff l false _ h
        refine ⟨fun y hy => ?_, by rw [h2, rend, stepT, if_neg c, List.append_assoc]⟩
        rcases List.mem_cons.1 hy with rfl | hy
        · intro _; exact Classical.not_not.1 k
        · exact h1 y hy
theorem fmtF_of : ∀ (l : List St) (f : Bool) (acc : List UInt8), (∀ x ∈ l, keyOk x) → fmtF f l acc = (acc ++ rend f l, 0)
  | [], f, acc, _ => by simp [fmtF, rend]
  | x :: l, f, acc, h => by
    have h1 := fmtF_of l false
    have h2 := h x (by simp)
    rw [fmtF]
    by_cases c : x.f2 = true
    · rw [if_pos c, h1 _ (fun y hy => h y (by simp [hy])), rend, stepT, if_pos c, List.append_assoc]
    · rw [if_neg c, if_neg (fun e => e (h2 (Bool.eq_false_iff.2 c))), h1 _ (fun y hy => h y (by simp [hy])), rend, stepT, if_neg c, List.append_assoc]
theorem fmtF_bad : ∀ (l : List St) (f : Bool) (acc : List UInt8), (fmtF f l acc).2 ≠ 0 → (fmtF f l acc).1 = []
  | [], f, acc, h => by simp [fmtF] at h
  | x :: l, f, acc, h => by
    rw [fmtF] at h ⊢
    split
    · rename_i c; rw [if_pos c] at h; exact fmtF_bad l _ _ h
    · rename_i c
      rw [if_neg c] at h
      split
      · rfl
      · rename_i k; rw [if_neg k] at h; exact fmtF_bad l _ _ h
theorem fmtB_bad (l : List St) (h : (fmtB l).2 ≠ 0) : (fmtB l).1 = [] := by
  unfold fmtB at h ⊢
  repeat' split
  · rfl
  · rename_i a b; rw [if_neg a, if_pos b] at h; exact fmtF_bad _ _ _ h
  · rfl
theorem fmtB_ok (l : List St) (h : (fmtB l).2 = 0) : l.length ≤ 64 ∧ (∀ x ∈ l, okStep x = true) ∧ (∀ x ∈ l, keyOk x) ∧ fmtB l = (rend true l, 0) := by
  unfold fmtB at h ⊢
  by_cases a : 64 < l.length
  · rw [if_pos a] at h; cases h
  rw [if_neg a] at h ⊢
  by_cases b : l.all okStep = true
  · rw [if_pos b] at h ⊢
    obtain ⟨h1, h2⟩ := fmtF_iff _ _ _ h
    exact ⟨by omega, List.all_eq_true.1 b, h1, h2⟩
  · rw [if_neg b] at h; cases h
theorem fmtB_of (l : List St) (h0 : l.length ≤ 64) (h1 : ∀ x ∈ l, okStep x = true) (h2 : ∀ x ∈ l, keyOk x) : fmtB l = (rend true l, 0) := by
  unfold fmtB
  rw [if_neg (by omega), if_pos (List.all_eq_true.2 h1), fmtF_of _ _ _ h2]; rfl

/-! ### numbers -/
theorem dec_len : ∀ (k u : Nat), u < 10 ^ (k + 1) → (Lib.decDigits u).length ≤ k + 1
  | 0, u, h => by rw [Lib.decDigits, dif_pos (by simpa using h)]; simp
  | k + 1, u, h => by
    rw [Lib.decDigits]
    by_cases c : u < 10
    · rw [dif_pos c]; simp
    · rw [dif_neg c, List.length_append, List.length_singleton]
      have := dec_len k (u / 10) (by rw [Nat.div_lt_iff_lt_mul (by decide), ← Nat.pow_succ]; exact h)
      omega
theorem dec_head (u : Nat) : 0 < u → at_ (Lib.decDigits u) 0 ≠ 48 := by
  induction u using Nat.strongRecOn with
  | _ u ih =>
    intro hu
    rw [Lib.decDigits]
    by_cases c : u < 10
    · rw [dif_pos c]
      have := digit_nat u c
      show (UInt8.ofNat (48 + u)).toNat ≠ 48
      omega
    · rw [dif_neg c]
      have hn := dec_ne (u / 10)
      have h2 := ih (u / 10) (by omega) (by omega)
      cases hd : Lib.decDigits (u / 10) with
      | nil => exact absurd hd hn
      | cons a t => rw [hd] at h2; exact h2
theorem isDig_iff (c : UInt8) : isDig c = true ↔ 48 ≤ c.toNat ∧ c.toNat ≤ 57 := by unfold isDig; simp
theorem itoa_pos (n : Int) (h : 0 ≤ n) : Lib.itoa n = Lib.decDigits n.toNat := by unfold Lib.itoa; rw [if_neg (by omega)]
theorem digN_app (l r : List UInt8) (h : ∀ c ∈ l, isDig c = true) (hr : ∀ c, r.head? = some c → isDig c = false) : digN (l ++ r) = l.length := by
  unfold digN
  rw [List.takeWhile_append_of_pos h]
  cases r with
  | nil => simp
  | cons a r => rw [List.takeWhile_cons_of_neg (by rw [hr a rfl]; decide)]; simp

theorem index_of (a : Int) (n : Int) (h0 : 0 ≤ n) (h1 : n ≤ 999999) (s : ByteArray) (r : List UInt8) (hs : s.size ≤ 1099511627775) (hl : s.data.toList = Lib.itoa n ++ 93 :: r) :
    path_reader_index.f a s 0 0 = some ((⟨#[]⟩ : ByteArray), n, true, a, (⟨r.toArray⟩ : ByteArray), 0, 0) := by
  have hL := size_list s
  have hd : ∀ c ∈ Lib.itoa n, isDig c = true := fun c hc => (isDig_iff c).2 (dec_digit n.toNat c (by rw [← itoa_pos n h0]; exact hc))
  have hN : digN s.data.toList = (Lib.itoa n).length := by
    rw [hl]; exact digN_app _ _ hd (fun c hc => by cases Option.some.inj hc; rfl)
  have hne : (Lib.itoa n).length ≠ 0 := by rw [itoa_pos n h0]; have := dec_ne n.toNat; intro e; exact this (List.eq_nil_of_length_eq_zero e)
  have hlen : (Lib.itoa n).length ≤ 6 := by rw [itoa_pos n h0]; exact dec_len 5 n.toNat (by omega)
  have hm : ¬ mostOf (Lib.itoa n) < ((Lib.itoa n).length : Int) := by
    unfold mostOf
    by_cases z : n = 0
    · subst z; rw [itoa_pos 0 (by omega), show Lib.decDigits (0 : Int).toNat = [48] from by rw [Lib.decDigits, dif_pos (by decide)]; rfl]; decide
    · rw [if_neg (by rw [itoa_pos n h0]; exact dec_head _ (by omega))]; omega
  have hsz : s.size = (Lib.itoa n).length + (1 + r.length) := by rw [hL, hl, List.length_append, List.length_cons]; omega
  have hat : at_ s.data.toList (Lib.itoa n).length = 93 := by
    rw [hl]; unfold at_; rw [List.getD_eq_getElem?_getD, List.getElem?_append_right (Nat.le_refl _), Nat.sub_self]; rfl
  have htk : s.data.toList.take (Lib.itoa n).length = Lib.itoa n := by rw [hl, List.take_left]
  unfold path_reader_index.f
  rw [if_pos (by omega), hN, htk, if_neg hm, Option.bind_some, if_neg (by rintro (e | e | e) <;> omega)]
  have hx : s.extract ((Lib.itoa n).length + 1) s.size = ⟨r.toArray⟩ := of_bytes (by rw [drop_list, hl, ← List.drop_drop, List.drop_left]; rfl)
  have hv : numOf (Lib.itoa n) = n := by unfold numOf; rw [itoa_back n (by omega) (by omega)]
  dsimp only
  rw [hx, hv]

/-! ### keys -/
/-- What may stand behind a key. -/
def endOk (r : List UInt8) : Prop := ∀ c, r.head? = some c → isLet c = false
theorem letN_app (l r : List UInt8) (h : l.all isLet = true) (hr : endOk r) : letN (l ++ r) = l.length := by
  unfold letN
  rw [List.takeWhile_append_of_pos (fun x hx => List.all_eq_true.1 h x hx)]
  cases r with
  | nil => simp
  | cons a r => rw [List.takeWhile_cons_of_neg (by rw [hr a rfl]; decide)]; simp
theorem let_ne34 (c : UInt8) (h : isLet c = true) : c.toNat ≠ 34 ∧ c.toNat ≠ 91 ∧ c.toNat ≠ 46 := by
  unfold isLet at h; simp at h; omega
theorem key_of (a : Int) (k t r : List UInt8) (begin : Int) (s : ByteArray) (hs : s.size ≤ 1099511627775) (hk : keyT k = (t, 0)) (hl : s.data.toList = t ++ r) (hr : endOk r) (h256 : k.length ≤ 256) :
    path_reader_key.f a s 0 0 begin = some ((⟨k.toArray⟩ : ByteArray), 0, false, a, (⟨r.toArray⟩ : ByteArray), 0, 0) := by
  have hL := size_list s
  have hks : (⟨k.toArray⟩ : ByteArray).size = k.length := rfl
  unfold path_reader_key.f
  rw [if_pos hs]
  unfold keyT at hk
  by_cases c : k ≠ [] ∧ k.all isLet = true
  · rw [if_pos c] at hk
    obtain ⟨rfl, _⟩ := Prod.mk.inj hk
    have h34 : ¬ at_ s.data.toList 0 = 34 := by
      rw [hl]
      cases k with
      | nil => exact absurd rfl c.1
      | cons b k => exact (let_ne34 b (List.all_eq_true.1 c.2 b (by simp))).1
    have hn : letN s.data.toList = k.length := by rw [hl]; exact letN_app _ _ c.2 hr
    have h0 : k.length ≠ 0 := fun e => c.1 (List.eq_nil_of_length_eq_zero e)
    have hx : s.extract 0 k.length = ⟨k.toArray⟩ := of_bytes (by rw [extract_list, List.drop_zero, hl, Nat.sub_zero, List.take_left])
    have hx2 : s.extract k.length s.size = ⟨r.toArray⟩ := of_bytes (by rw [drop_list, hl, List.drop_left])
    rw [if_neg h34, hn, if_neg h0, Option.bind_some, Option.bind_some]
    dsimp only
    rw [hx, hx2, if_neg (by omega), Option.bind_some]
  · rw [if_neg c] at hk
    unfold doubleOf at hk
    cases hz : signs k with
    | none => rw [hz] at hk; cases hk
    | some zs =>
      rw [hz] at hk
      obtain ⟨rfl, _⟩ := Prod.mk.inj hk
      obtain ⟨e1, e2⟩ := signs_some hz
      have h34 : at_ s.data.toList 0 = 34 := by rw [hl]; rfl
      have hrd := read_double zs e2 r
      rw [← hl, ← e1] at hrd
      have hx2 : s.extract (doubleB zs).length s.size = ⟨r.toArray⟩ := of_bytes (by rw [drop_list, hl, List.drop_left])
      rw [if_pos h34, hrd]
      dsimp only
      rw [if_pos ⟨rfl, rfl⟩, Option.bind_some, Option.bind_some]
      dsimp only
      rw [hx2, if_neg (by omega), Option.bind_some]
theorem keyT_head (k t r : List UInt8) (hk : keyT k = (t, 0)) : 0 < t.length ∧ at_ (t ++ r) 0 ≠ 91 ∧ at_ (t ++ r) 0 ≠ 46 := by
  unfold keyT at hk
  by_cases c : k ≠ [] ∧ k.all isLet = true
  · rw [if_pos c] at hk
    obtain ⟨rfl, _⟩ := Prod.mk.inj hk
    cases k with
    | nil => exact absurd rfl c.1
    | cons b k => exact ⟨by simp, (let_ne34 b (List.all_eq_true.1 c.2 b (by simp))).2⟩
  · rw [if_neg c] at hk
    unfold doubleOf at hk
    cases hz : signs k with
    | none => rw [hz] at hk; cases hk
    | some zs =>
      rw [hz] at hk
      obtain ⟨rfl, _⟩ := Prod.mk.inj hk
      exact ⟨by unfold doubleB; simp, by show (34 : Nat) ≠ 91; decide, by show (34 : Nat) ≠ 46; decide⟩
theorem rend_end (l : List St) : endOk (rend false l) := by
  intro c hc
  cases l with
  | nil => cases hc
  | cons x l =>
    rw [rend, stepT] at hc
    by_cases a : x.f2 = true
    · rw [if_pos a] at hc; cases Option.some.inj hc; rfl
    · rw [if_neg a] at hc; cases Option.some.inj hc; rfl

theorem step_of (a : Nat) (ha : a ≤ 1099511627775) (f : Bool) (x : St) (ho : okStep x = true) (hk : keyOk x) (r : List UInt8) (hr : endOk r) (s : ByteArray) (hs : s.size ≤ a) (hf : f = true ↔ s.size = a) (hl : s.data.toList = stepT f x ++ r) :
    path_reader_step.f (a : Int) s 0 0 = some ((cleanS x).f0, (cleanS x).f1, (cleanS x).f2, (a : Int), (⟨r.toArray⟩ : ByteArray), 0, 0) := by
  have hL := size_list s
  have hb := bt_at_ s 0
  rw [show ((0 : Nat) : Int) = 0 from rfl] at hb
  have hex : ∀ (b : UInt8) (l : List UInt8), s.data.toList = b :: l → (s.extract 1 s.size).data.toList = l ∧ (s.extract 1 s.size).size ≤ s.size := fun b l e => by
    refine ⟨by rw [drop_list, e]; rfl, ?_⟩
    rw [size_list, drop_list, List.length_drop, ← size_list]; omega
  unfold path_reader_step.f cleanS
  rw [hb]
  obtain ⟨k, n, g⟩ := x
  cases g with
  | true =>
    have hn : 0 ≤ n ∧ n ≤ 999999 := by simpa [okStep] using ho
    have hl2 : s.data.toList = 91 :: (Lib.itoa n ++ 93 :: r) := by rw [hl]; simp [stepT]
    have h0 : 0 < s.size := by rw [hL, hl2]; simp
    obtain ⟨e1, e2⟩ := hex _ _ hl2
    rw [if_pos (by omega), if_pos (by rw [hl2]; rfl), if_pos (by omega), index_of (a : Int) n hn.1 hn.2 _ r (by omega) e1, Option.bind_some]
    rfl
  | false =>
    have hkl : k.size ≤ 256 := by simpa [okStep] using ho
    have hkt : keyT k.data.toList = ((keyT k.data.toList).1, 0) := by rw [← hk rfl]
    have hs2 := size_list k
    have hK : (⟨k.data.toList.toArray⟩ : ByteArray) = k := (of_bytes rfl).symm
    obtain ⟨p0, p1, p2⟩ := keyT_head _ _ r hkt
    cases f with
    | true =>
      have hl2 : s.data.toList = (keyT k.data.toList).1 ++ r := by rw [hl]; simp [stepT]
      have hsa := hf.1 rfl
      have h0 : 0 < s.size := by rw [hL, hl2, List.length_append]; omega
      have hw : wrap64 ((a : Int) - (s.size : Int)) = 0 := by rw [hsa]; unfold wrap64; omega
      rw [if_pos (by omega), if_neg (by rw [hl2]; omega), hw, if_pos rfl, key_of (a : Int) k.data.toList _ r 0 s (by omega) hkt hl2 hr (by omega), Option.bind_some, hK]
      rfl
    | false =>
      have hl2 : s.data.toList = 46 :: ((keyT k.data.toList).1 ++ r) := by rw [hl]; simp [stepT]
      have hsa : s.size ≠ a := fun e => by have := hf.2 e; cases this
      have h0 : 0 < s.size := by rw [hL, hl2]; simp
      have hw : wrap64 ((a : Int) - (s.size : Int)) ≠ 0 := by unfold wrap64; omega
      obtain ⟨e1, e2⟩ := hex _ _ hl2
      rw [if_pos (by omega), if_neg (by rw [hl2]; show ¬ ((46 : Nat) : Int) = 91; decide), if_neg hw, if_pos (by rw [hl2]; rfl), if_pos (by omega), key_of (a : Int) k.data.toList _ r _ _ (by omega) hkt e1 hr (by omega), Option.bind_some, hK]
      rfl
theorem stepT_pos (f : Bool) (x : St) (hk : keyOk x) : 0 < (stepT f x).length := by
  unfold stepT
  by_cases c : x.f2 = true
  · rw [if_pos c]; simp
  · rw [if_neg c]
    have hkt : keyT x.f0.data.toList = ((keyT x.f0.data.toList).1, 0) := by rw [← hk (Bool.eq_false_iff.2 c)]
    have := (keyT_head _ _ [] hkt).1
    rw [List.length_append]; omega
theorem parse_rend (a : Nat) (ha : a ≤ 1099511627775) : ∀ (l : List St) (f : Bool) (acc : List St) (K : Nat) (s : ByteArray), (∀ x ∈ l, okStep x = true) → (∀ x ∈ l, keyOk x) → s.data.toList = rend f l → s.size ≤ a → (f = true ↔ s.size = a) → acc.length + l.length ≤ 64 → l.length + 1 ≤ K →
    parseL K acc (a : Int) s = some (acc ++ l.map cleanS, 0, 0)
  | [], f, acc, K, s, _, _, hl, _, _, _, hK => by
    obtain ⟨K, rfl⟩ : ∃ m, K = m + 1 := ⟨K - 1, by omega⟩
    rw [parseL, if_pos (show s.data.toList = [] from hl), List.map_nil, List.append_nil]
  | x :: l, f, acc, K, s, h1, h2, hl, hs, hf, hal, hK => by
    obtain ⟨K, rfl⟩ : ∃ m, K = m + 1 := ⟨K - 1, by simp at hK; omega⟩
    rw [rend] at hl
    have hp := stepT_pos f x (h2 x (by simp))
    have hne : ¬ s.data.toList = [] := fun e => by rw [hl] at e; have := congrArg List.length e; rw [List.length_append, List.length_nil] at this; omega
    simp only [List.length_cons] at hal hK
    rw [parseL, if_neg hne, if_neg (by omega), step_of a ha f x (h1 x (by simp)) (h2 x (by simp)) (rend false l) (rend_end l) s hs hf hl, Option.bind_some]
    dsimp only
    have hsz : (⟨(rend false l).toArray⟩ : ByteArray).size < s.size := by
      rw [size_list s, hl, List.length_append]; show (rend false l).length < _; omega
    rw [if_pos (by rfl), parse_rend a ha l false _ K ⟨(rend false l).toArray⟩ (fun y hy => h1 y (by simp [hy])) (fun y hy => h2 y (by simp [hy])) rfl (by omega) ⟨(fun e => by cases e), (fun e => by omega)⟩ (by rw [List.length_append, List.length_singleton]; omega) (by omega)]
    rw [List.append_assoc]; rfl
theorem stepT_len (f : Bool) (x : St) (ho : okStep x = true) : (stepT f x).length ≤ 3000 := by
  unfold stepT
  obtain ⟨k, n, g⟩ := x
  cases g with
  | true =>
    have hn : 0 ≤ n ∧ n ≤ 999999 := by simpa [okStep] using ho
    have := Lib.itoa_length_le n (by omega) (by omega)
    rw [if_pos rfl]; simp; omega
  | false =>
    have hkl : k.size ≤ 256 := by simpa [okStep] using ho
    have := keyT_len k.data.toList
    rw [← size_list] at this
    rw [if_neg Bool.false_ne_true, List.length_append]
    cases f <;> simp <;> omega
theorem rend_len : ∀ (l : List St) (f : Bool), (∀ x ∈ l, okStep x = true) → (rend f l).length ≤ 3000 * l.length
  | [], _, _ => by simp [rend]
  | x :: l, f, h => by
    have h1 := stepT_len f x (h x (by simp))
    have h2 := rend_len l false (fun y hy => h y (by simp [hy]))
    rw [rend, List.length_append, List.length_cons]; omega
/-- What is formatted is parsed. -/
theorem parse_fmt (l : List St) (h : (fmtB l).2 = 0) : path_Parse.f ⟨(fmtB l).1.toArray⟩ = some (l.map cleanS, 0, 0) := by
  obtain ⟨h0, h1, h2, h3⟩ := fmtB_ok l h
  have hln := rend_len l true h1
  rw [h3]
  have hsz : (⟨(rend true l).toArray⟩ : ByteArray).size = (rend true l).length := rfl
  unfold path_Parse.f
  dsimp only
  rw [if_pos (by omega), parse_rend _ (by omega) l true [] 66 _ h1 h2 rfl (Nat.le_refl _) (by simp) (by simp; omega) (by omega)]
  rfl

/-! ### sameness -/
theorem clean_of (x : St) : path_clean.f x.f0 x.f1 x.f2 = some ((cleanS x).f0, (cleanS x).f1, (cleanS x).f2) := by
  unfold path_clean.f cleanS
  by_cases c : x.f2 = true
  · rw [if_pos c, if_pos c]
  · rw [if_neg c, if_neg c]
theorem rd_steps (l : List St) (i : Nat) (h : i < l.length) : rd_T73 l (i : Int) = l[i] := by
  unfold rd_T73; rw [Int.toNat_natCast, List.getD_eq_getElem?_getD, List.getElem?_eq_getElem h]; rfl
def sameB (x y : St) : Bool := (cleanS x).f0.toList == (cleanS y).f0.toList && ((cleanS x).f1 == (cleanS y).f1 && ((cleanS x).f2 == (cleanS y).f2))
theorem same_l0 (l m : List St) (hl : l.length ≤ 1099511627775) (hlm : l.length = m.length) : ∀ (d i K : Nat), l.length = i + d → d + 1 ≤ K →
    path_Same.l0 K l m (l.length : Int) (i : Int) = some (((l.drop i).zip (m.drop i)).all fun p => sameB p.1 p.2)
  | 0, i, K, hd, hK => by
    obtain ⟨K, rfl⟩ : ∃ m, K = m + 1 := ⟨K - 1, by omega⟩
    rw [path_Same.l0, if_neg (by omega), List.drop_of_length_le (by omega)]; rfl
  | d + 1, i, K, hd, hK => by
    obtain ⟨K, rfl⟩ : ∃ m, K = m + 1 := ⟨K - 1, by omega⟩
    have h1 : i < l.length := by omega
    have h2 : i < m.length := by omega
    have hw : wrap64 ((i : Int) + 1) = ((i + 1 : Nat) : Int) := by unfold wrap64; omega
    rw [path_Same.l0, if_pos (by omega), if_pos (by omega), if_pos (by omega), rd_steps l i h1, rd_steps m i h2, clean_of, Option.bind_some, if_pos (by omega), clean_of, Option.bind_some, hw, same_l0 l m hl hlm d (i + 1) K (by omega) (by omega)]
    rw [List.drop_eq_getElem_cons h1, List.drop_eq_getElem_cons h2, List.zip_cons_cons, List.all_cons]
    unfold sameB
    dsimp only
    generalize ((cleanS l[i]).f0.toList == (cleanS m[i]).f0.toList) = p
    generalize ((cleanS l[i]).f1 == (cleanS m[i]).f1) = q
    generalize ((cleanS l[i]).f2 == (cleanS m[i]).f2) = r
    cases p <;> cases q <;> cases r <;> rfl
theorem same_of (l m : List St) (hl : l.length ≤ 1099511627775) (K : Nat) (hK : l.length + 1 ≤ K) : path_Same.f K l m = some (decide (l.length = m.length) && ((l.zip m).all fun p => sameB p.1 p.2)) := by
  unfold path_Same.f
  by_cases c : l.length = m.length
  · rw [if_pos (by omega), show (0 : Int) = ((0 : Nat) : Int) from rfl, same_l0 l m hl c l.length 0 K (by omega) hK, decide_eq_true c]; rfl
  · rw [if_neg (by omega), decide_eq_false c]; rfl
theorem clean_clean (x : St) : cleanS (cleanS x) = cleanS x := by
  unfold cleanS
  by_cases c : x.f2 = true
  · rw [if_pos c, if_pos rfl]
  · rw [if_neg c, if_neg Bool.false_ne_true]
theorem same_clean (l : List St) (hl : l.length ≤ 1099511627775) (K : Nat) (hK : l.length + 1 ≤ K) : path_Same.f K (l.map cleanS) l = some true := by
  rw [same_of _ _ (by simpa using hl) K (by simpa using hK), List.length_map, decide_eq_true rfl, Bool.true_and]
  congr 1
  rw [List.all_eq_true]
  intro p hp
  obtain ⟨i, hi, e⟩ := List.getElem_of_mem hp
  rw [List.length_zip, List.length_map, Nat.min_self] at hi
  rw [List.getElem_zip, List.getElem_map] at e
  subst e
  unfold sameB
  rw [clean_clean]; simp
end Go.Proofs.YtmkdjgmdfhagfaaGreatDoor.Paths

/- What is parsed out of a path's text can be formatted, and no text is without an answer; conditions: texts of at most 2^40 bytes. -/
namespace Go.Proofs.YtmkdjgmdfhagfaaGreatDoor.Paths
open Go.RowKit Go.Proofs.YtmkdjgmdfhagfaaGreatDoor.PX Go.Proofs.YtmkdjgmdfhagfaaGreatDoor.Plug Go.Proofs.YtmkdjgmdfhagfaaGreatDoor.Utf Go.Proofs.YtmkdjgmdfhagfaaGreatDoor.Nums Go.Proofs.YtmkdjgmdfhagfaaGreatDoorW.PrintWords Go.Proofs.YtmkdjgmdfhagfaaGreatDoorW.PrintLast

theorem fail_eq (a : Int) (b : ByteArray) (c d m n : Int) : path_reader_fail.f a b c d m n = some (if (c == 0 && (d == 0)) = true then (a, b, m, n) else (a, b, c, d)) := by
  unfold path_reader_fail.f; split <;> rfl
/-- A fault was told. -/
def bad (c d : Int) : Prop := (c == 0 && (d == 0)) = false
theorem fail_bad (a : Int) (b : ByteArray) (c d m n : Int) (h : bad c d ∨ m ≠ 0) : ∃ c' d', path_reader_fail.f a b c d m n = some (a, b, c', d') ∧ bad c' d' := by
  rw [fail_eq]
  by_cases z : (c == 0 && (d == 0)) = true
  · rw [if_pos z]
    rcases h with h | h
    · unfold bad at h; rw [z] at h; cases h
    · exact ⟨m, n, rfl, by unfold bad; rw [beq_eq_false_iff_ne.2 h]; rfl⟩
  · rw [if_neg z]; exact ⟨c, d, rfl, Bool.eq_false_iff.2 z⟩
theorem wrong_bad (a : Int) (b : ByteArray) (c d n : Int) : ∃ c' d', path_reader_wrong.f a b c d n = some (a, b, c', d') ∧ bad c' d' := by
  unfold path_reader_wrong.f
  exact fail_bad a b c d _ _ (.inr (by split <;> decide))

theorem parse_small : ∀ (l : List UInt8) (acc : Nat), (∀ c ∈ l, isDig c = true) → (acc + 1) * 10 ^ l.length ≤ 10000000 → ∃ u, Lib.parseUint10 acc l = .ok u ∧ u < (acc + 1) * 10 ^ l.length
  | [], acc, _, h => ⟨acc, by simp [Lib.parseUint10], by simp⟩
  | c :: l, acc, hd, h => by
    have hc := (isDig_iff c).1 (hd c (by simp))
    rw [List.length_cons, Nat.pow_succ] at h ⊢
    have hp : 0 < 10 ^ l.length := Nat.pow_pos (by decide)
    have h2 : (acc * 10 + (c.toNat - 48) + 1) * 10 ^ l.length ≤ (acc + 1) * (10 ^ l.length * 10) := by
      have : acc * 10 + (c.toNat - 48) + 1 ≤ (acc + 1) * 10 := by omega
      calc (acc * 10 + (c.toNat - 48) + 1) * 10 ^ l.length ≤ ((acc + 1) * 10) * 10 ^ l.length := Nat.mul_le_mul_right _ this
        _ = (acc + 1) * (10 ^ l.length * 10) := by rw [Nat.mul_assoc, Nat.mul_comm 10]
    obtain ⟨u, e, hu⟩ := parse_small l (acc * 10 + (c.toNat - 48)) (fun x hx => hd x (by simp [hx])) (by omega)
    have h3 : acc + 1 ≤ 10000000 := by
      calc acc + 1 ≤ (acc + 1) * (10 ^ l.length * 10) := Nat.le_mul_of_pos_right _ (by omega)
        _ ≤ 10000000 := h
    refine ⟨u, ?_, by omega⟩
    rw [Lib.parseUint10, if_pos hc, if_neg (by omega), if_neg (by omega), e]
theorem num_small (l : List UInt8) (hd : ∀ c ∈ l, isDig c = true) (h0 : l ≠ []) (h6 : l.length ≤ 6) : 0 ≤ numOf l ∧ numOf l ≤ 999999 := by
  have hp : 10 ^ l.length ≤ 1000000 := Nat.le_trans (Nat.pow_le_pow_right (by decide) h6) (by decide)
  obtain ⟨u, e, hu⟩ := parse_small l 0 hd (by omega)
  cases l with
  | nil => exact absurd rfl h0
  | cons c r =>
    have hc := (isDig_iff c).1 (hd c (by simp))
    have hA : Lib.atoiAll (c :: r) = .ok (u : Int) := by
      rw [Lib.atoiAll_plain c r (by omega) (by omega)]
      unfold Lib.parseMag
      rw [if_neg (by simp), e]
      unfold Lib.signless
      simp only
      rw [if_neg (by omega)]
    unfold numOf
    rw [hA]
    dsimp only
    omega

def goodS (x : St) : Prop := okStep x = true ∧ keyOk x ∧ cleanS x = x
/-- What taking a step comes to: the rest is no longer; and if no fault is told, the step can be formatted. -/
def Took (b : ByteArray) (o : Option (ByteArray × Int × Bool × Int × ByteArray × Int × Int)) : Prop :=
  ∃ r, o = some r ∧ r.2.2.2.2.1.size ≤ b.size ∧ (bad r.2.2.2.2.2.1 r.2.2.2.2.2.2 ∨ goodS ⟨r.1, r.2.1, r.2.2.1⟩)
theorem ext_le (s : ByteArray) (n : Nat) : (s.extract n s.size).size ≤ s.size := by
  rw [size_list, drop_list, List.length_drop, ← size_list]; omega

theorem index_took (a : Int) (s : ByteArray) (hs : s.size ≤ 1099511627775) (c d : Int) : Took s (path_reader_index.f a s c d) := by
  have hL := size_list s
  have hdn := digN_le s.data.toList
  unfold path_reader_index.f
  rw [if_pos (by omega)]
  have hdig : ∀ x ∈ s.data.toList.take (digN s.data.toList), isDig x = true := by
    unfold digN; rw [← takeWhile_len]; intro x hx; exact tw_all _ _ x hx
  have hlen : (s.data.toList.take (digN s.data.toList)).length = digN s.data.toList := by rw [List.length_take]; omega
  by_cases m : mostOf (s.data.toList.take (digN s.data.toList)) < (digN s.data.toList : Int)
  · obtain ⟨c1, d1, e1, b1⟩ := wrong_bad a s c d (mostOf (s.data.toList.take (digN s.data.toList)))
    rw [if_pos m, e1, Option.bind_some]
    dsimp only
    split
    · obtain ⟨c2, d2, e2, b2⟩ := wrong_bad a s c1 d1 (digN s.data.toList : Int)
      rw [e2, Option.bind_some]
      exact ⟨_, rfl, Nat.le_refl _, .inl b2⟩
    · exact ⟨_, rfl, ext_le _ _, .inl b1⟩
  · rw [if_neg m, Option.bind_some]
    dsimp only
    split
    · obtain ⟨c2, d2, e2, b2⟩ := wrong_bad a s c d (digN s.data.toList : Int)
      rw [e2, Option.bind_some]
      exact ⟨_, rfl, Nat.le_refl _, .inl b2⟩
    · rename_i hn
      have hm6 : mostOf (s.data.toList.take (digN s.data.toList)) ≤ 6 := by unfold mostOf; split <;> omega
      have hb := num_small _ hdig (fun e => hn (.inl (by rw [← hlen, e]; rfl))) (by omega)
      refine ⟨_, rfl, ext_le _ _, .inr ⟨?_, (fun e => by cases e), by unfold cleanS; rw [if_pos rfl]⟩⟩
      simp [okStep]; exact hb

theorem key_took (a : Int) (s : ByteArray) (hs : s.size ≤ 1099511627775) (c d begin : Int) (_hcd : bad c d ∨ (c = 0 ∧ d = 0)) : Took s (path_reader_key.f a s c d begin) := by
  have hL := size_list s
  unfold path_reader_key.f
  rw [if_pos hs]
  -- a key that was taken, and its length
  have last : ∀ (k : ByteArray) (b : ByteArray) (c d : Int), b.size ≤ s.size → (bad c d ∨ (keyT k.data.toList).2 = 0) →
      Took s ((if 256 < k.size then path_reader_fail.f a b c d 5 begin else some (a, b, c, d)).bind fun q => some (k, 0, false, q.1, q.2.1, q.2.2.1, q.2.2.2)) := by
    intro k b c d hb hg
    by_cases z : 256 < k.size
    · obtain ⟨c2, d2, e2, b2⟩ := fail_bad a b c d 5 begin (.inr (by decide))
      rw [if_pos z, e2, Option.bind_some]
      exact ⟨_, rfl, hb, .inl b2⟩
    · rw [if_neg z, Option.bind_some]
      refine ⟨_, rfl, hb, hg.imp (fun h => h) (fun h => ⟨?_, fun _ => h, by unfold cleanS; rw [if_neg Bool.false_ne_true]⟩)⟩
      simp [okStep]; omega
  by_cases q : at_ s.data.toList 0 = 34
  · rw [if_pos q]
    cases hrd : readB s.data.toList with
    | mk t r =>
      obtain ⟨n, e, p⟩ := r
      dsimp only
      by_cases z : e = 0 ∧ p = 0
      · rw [if_pos z, Option.bind_some, Option.bind_some]
        dsimp only
        obtain ⟨rfl, rfl⟩ := z
        obtain ⟨_, ⟨zs, hz, rfl⟩, _, _⟩ := readB_means _ _ _ _ hrd
        refine last _ _ c d (ext_le _ _) (.inr ?_)
        unfold keyT
        split
        · rfl
        · unfold doubleOf; rw [show (⟨(zs.flatMap enc).toArray⟩ : ByteArray).data.toList = zs.flatMap enc from rfl, signs_of zs hz]
      · rw [if_neg z]
        have hm : bad c d ∨ e ≠ 0 := .inr (fun h0 => z ⟨h0, by subst h0; exact (readB_means _ _ _ _ hrd).1⟩)
        obtain ⟨c2, d2, e2, b2⟩ := fail_bad a s c d e (wrap64 (wrap64 (a - (s.size : Int)) + (p : Int))) hm
        rw [e2, Option.bind_some, Option.bind_some]
        exact last _ _ c2 d2 (ext_le _ _) (.inl b2)
  · rw [if_neg q]
    by_cases z : letN s.data.toList = 0
    · obtain ⟨c2, d2, e2, b2⟩ := wrong_bad a s c d 0
      rw [if_pos z, e2, Option.bind_some, Option.bind_some]
      exact last _ _ c2 d2 (ext_le _ _) (.inl b2)
    · rw [if_neg z, Option.bind_some, Option.bind_some]
      dsimp only
      refine last _ _ c d (ext_le _ _) (.inr ?_)
      have hln := letN_le s.data.toList
      have hx : (s.extract 0 (letN s.data.toList)).data.toList = s.data.toList.take (letN s.data.toList) := by rw [extract_list, List.drop_zero, Nat.sub_zero]
      rw [hx]
      unfold keyT
      rw [if_pos ⟨fun e => z (by have := congrArg List.length e; rw [List.length_take, List.length_nil] at this; omega), List.all_eq_true.2 (fun x hx => by unfold letN at hx; rw [← takeWhile_len] at hx; exact tw_all _ _ x hx)⟩]

theorem step_took (a : Int) (s : ByteArray) (hs : s.size ≤ 1099511627775) (h0 : 0 < s.size) : Took s (path_reader_step.f a s 0 0) := by
  have hx := ext_le s 1
  have up : ∀ o, Took (s.extract 1 s.size) o → Took s o := fun o ⟨r, e, h1, h2⟩ => ⟨r, e, Nat.le_trans h1 hx, h2⟩
  unfold path_reader_step.f
  rw [if_pos (by omega)]
  have same : ∀ o : Option (ByteArray × Int × Bool × Int × ByteArray × Int × Int), Took s o → Took s (o.bind fun bt => some (bt.1, bt.2.1, bt.2.2.1, bt.2.2.2.1, bt.2.2.2.2.1, bt.2.2.2.2.2.1, bt.2.2.2.2.2.2)) := fun o ⟨r, e, h1, h2⟩ => ⟨r, by rw [e, Option.bind_some], h1, h2⟩
  split
  · rw [if_pos (by omega)]
    exact same _ (up _ (index_took a _ (by omega) 0 0))
  · split
    · exact same _ (key_took a s hs 0 0 _ (.inr ⟨rfl, rfl⟩))
    · split
      · rw [if_pos (by omega)]
        exact same _ (up _ (key_took a _ (by omega) 0 0 _ (.inr ⟨rfl, rfl⟩)))
      · obtain ⟨c2, d2, e2, b2⟩ := wrong_bad a s 0 0 0
        rw [e2, Option.bind_some]
        exact same _ (key_took a s hs c2 d2 _ (.inl b2))

/-- No text is without an answer; what is parsed can be formatted. -/
theorem parse_took : ∀ (K : Nat) (acc : List St) (a : Int) (s : ByteArray), s.size ≤ 1099511627775 → 66 ≤ acc.length + K → acc.length ≤ 64 → (∀ x ∈ acc, goodS x) →
    ∃ l e p, parseL K acc a s = some (l, e, p) ∧ ((bad e p ∧ l = []) ∨ (e = 0 ∧ p = 0 ∧ l.length ≤ 64 ∧ ∀ x ∈ l, goodS x))
  | 0, acc, a, s, _, h1, h2, _ => by omega
  | K + 1, acc, a, s, hs, h1, h2, hg => by
    rw [parseL]
    by_cases z : s.data.toList = []
    · rw [if_pos z]; exact ⟨_, _, _, rfl, .inr ⟨rfl, rfl, h2, hg⟩⟩
    · rw [if_neg z]
      by_cases y : acc.length = 64
      · rw [if_pos y]; exact ⟨_, _, _, rfl, .inl ⟨rfl, rfl⟩⟩
      · rw [if_neg y]
        have h0 : 0 < s.size := by rw [size_list]; exact List.length_pos_iff.2 z
        obtain ⟨r, e, hle, hr⟩ := step_took a s hs h0
        rw [e, Option.bind_some]
        by_cases w : (r.2.2.2.2.2.1 == 0 && (r.2.2.2.2.2.2 == 0)) = true
        · rw [if_pos w]
          have hgd : goodS ⟨r.1, r.2.1, r.2.2.1⟩ := by
            rcases hr with h | h
            · unfold bad at h; rw [w] at h; cases h
            · exact h
          exact parse_took K _ _ _ (by omega) (by rw [List.length_append, List.length_singleton]; omega) (by rw [List.length_append, List.length_singleton]; omega) (fun x hx => by
            rcases List.mem_append.1 hx with hx | hx
            · exact hg x hx
            · rw [List.mem_singleton.1 hx]; exact hgd)
        · rw [if_neg w]; exact ⟨_, _, _, rfl, .inl ⟨Bool.eq_false_iff.2 w, rfl⟩⟩
end Go.Proofs.YtmkdjgmdfhagfaaGreatDoor.Paths

/- YtmkdjgmdfhagfaaGreatDoorFGrommetlaw16Long: what print.py told of Go functions, for this claim. -/
namespace Go.Proofs.YtmkdjgmdfhagfaaGreatDoor.PX
open Go.RowKit Go.Proofs.YtmkdjgmdfhagfaaGreatDoorW.PrintWords Go.Proofs.YtmkdjgmdfhagfaaGreatDoorW.PrintLast Go.Proofs.YtmkdjgmdfhagfaaGreatDoorW.PrintMore Go.Proofs.YtmkdjgmdfhagfaaGreatDoor
attribute [local go_sem] max2_int min2_int max_two min_two max_three min_three max_four min_four   -- for this text's walks alone
set_option linter.unusedVariables false
set_option linter.unusedSimpArgs false

/-! ### grommetlaw16_long: function 17 -/
def grommetlaw16_long.l0 : Nat → List (S52) → Int → List (S52) → Int → Int → Option (Bool)
  | 0, _, _, _, _, _ => none
  | k + 1, x0, x3, x10, x11, x12 => if x12 < x11 then (if 0 ≤ x12 then (if x12 < (x10.length : Int) then (grommetlaw16_long.l0 k x0 (wrap64 (x3 + (((rd_T52 x10 x12).f0).size : Int))) x10 x11 (wrap64 (x12 + 1))) else (none)) else (none)) else (if (x0.length : Int) > 100 then (some true) else (some (decide (x3 > 20000))))
def grommetlaw16_long.f (k : Nat) (l0 : List (S52)) : Option (Bool) := if 0 ≤ (mn (l0.length : Int) 100) then (if (mn (l0.length : Int) 100) ≤ (l0.length : Int) then ((some (l0.take ((mn (l0.length : Int) 100) : Int).toNat : List (S52))).bind fun y101 => (grommetlaw16_long.l0 k l0 0 y101 (y101.length : Int) 0)) else (none)) else (none)
set_option maxHeartbeats 8000000 in
set_option maxRecDepth 100000 in
theorem grommetlaw16_long.calls (k : Nat) (A0 : Option Addr) (c0 : Nat) (l0 : List (S52)) (r : Bool) (w : World) (hr0 : Kd.C k52 w A0 l0.length l0) (hc0 : l0.length ≤ c0) (hG : Glob.G w) (h : grommetlaw16_long.f k l0 = some r) :
    Calls Tryz.prog 17 #[.slice A0 l0.length c0] w fun e w' => e = .returned (.bool r) ∧ Below w.heap.size w w' := by
  have hu52 := Tryz.underlying52
  have HR0 := Aside0.mk hr0
  have HC0 := Aside0.mk hc0
  clear hr0 hc0
  have HB := Aside0.mk (Below.refl w.heap.size w)
  have H : (if 0 ≤ (mn (l0.length : Int) 100) then (if (mn (l0.length : Int) 100) ≤ (l0.length : Int) then ((some (l0.take ((mn (l0.length : Int) 100) : Int).toNat : List (S52))).bind fun y101 => (grommetlaw16_long.l0 k l0 0 y101 (y101.length : Int) 0)) else (none)) else (none)) = some r := h
  clear h
  obtain ⟨ji2, hji2⟩ : ∃ j_ : Int, (mn (l0.length : Int) 100) = j_ := ⟨_, rfl⟩
  replace H : (if 0 ≤ (ji2) then (if (ji2) ≤ (l0.length : Int) then ((some (l0.take ((ji2) : Int).toNat : List (S52))).bind fun y101 => (grommetlaw16_long.l0 k l0 0 y101 (y101.length : Int) 0)) else (none)) else (none)) = some r := by first | (rw [hji2] at H; exact H) | (simp only [hji2] at H ⊢; exact H)
  (try (have hji2h : ji2 ≤ 100 := by (rw [← hji2]; unfold mn; (repeat' split) <;> omega)))
  (try (have hji2g : ji2 ≤ 64 := by omega))
  (try (have hji2l : 0 ≤ ji2 := by (rw [← hji2]; unfold mn; (repeat' split) <;> omega)))
  (try (have hji2m : 0 ≤ ji2 := by omega))
  have hji2_ : (if 100 < (l0.length : Int) then 100 else (l0.length : Int)) = ji2 := hji2
  by_cases c3 : 0 ≤ (ji2)
  · rw [if_pos c3] at H
    have c3b0 := eq_true c3
    have c3b1 : decide (0 ≤ (ji2)) = true := decide_eq_true c3
    clear c3
    by_cases c4 : (ji2) ≤ (l0.length : Int)
    · rw [if_pos c4] at H
      have c4b0 := eq_true c4
      have c4b1 : decide ((ji2) ≤ (l0.length : Int)) = true := decide_eq_true c4
      clear c4
      obtain ⟨y101, hy101⟩ : ∃ y_ : List (S52), y_ = (l0.take ((ji2) : Int).toNat) := ⟨_, rfl⟩
      replace H : (grommetlaw16_long.l0 k l0 0 y101 (y101.length : Int) 0) = some r := by first | (rw [hy101]; with_reducible exact H) | (have H2_ := (Option.bind_some _ _).symm.trans H; rw [hy101]; with_reducible exact H2_) | (have H2_ := (Option.bind_some _ _).symm.trans H; with_reducible exact H2_) | with_reducible exact H | (rw [hy101]; exact H) | exact H
      have Ny101 := Aside0.mk hy101
      clear hy101
      have H' := Aside0.mk H
      clear H
      have q5 : ((ji2) : Int) ≤ ((l0.length : Int) : Int) := of_decide_eq_true (by first | (with_reducible assumption) | assumption)
      obtain ⟨i05, hi05, _, hsz5, _⟩ := info_parts info52
      have hroom5 : l0.length ≤ c0 := HC0.out
      have hC5 : Kd.C k52 _ A0 l0.length l0 := HR0.out
      have hcut5 := cut_to (P := Tryz.prog) 29 52 .i64 Tryz.underlying29 hi05 A0 l0.length c0 (ji2) (of_decide_eq_true (by first | (with_reducible assumption) | assumption)) q5 hroom5
      have hr5 := Kd.C_take (m := ((ji2) : Int).toNat) hC5 (by omega)
      have hy5 : y101.length = ((ji2) : Int).toNat := (by rw [Ny101.out, List.length_take]; omega)
      rw [← Ny101.out] at hr5
      rw [← hy5] at hcut5
      have HR104 := Aside0.mk hr5
      have HC104 := Aside0.mk (show y101.length ≤ c0 from by omega)
      clear hr5 hC5 hroom5 hi05 hsz5
      have KY5 := Aside0.mk hy5
      clear hy5
      replace q5 := eq_true q5
      go_enter Tryz.func17, Tryz.ntmps17
      go_wp2
      go_loopg [3, 12] k (fun kq v3 v12 w' => ∃ (x3_1 : Int) (x12_1 : Int), v3 = .int .i64 x3_1 ∧ v12 = .int .i64 x12_1 ∧ Aside0 (grommetlaw16_long.l0 kq l0 x3_1 y101 (y101.length : Int) x12_1 = some r) ∧ Aside0 (kq ≤ k) ∧ Aside0 (Below w.heap.size w w'))
      case atStart => exact ⟨(0), (0), (by first | rfl | (simp; done) | (simp [*]; done)), (by first | rfl | (simp; done) | (simp [*]; done)), H', ⟨Nat.le_refl _⟩, ⟨by repeat (first | (with_reducible first | exact HB.out | apply below_alloc | apply pw_below_drewN | apply below_drew1) | exact HB.out)⟩⟩
      case round =>
        clear H'
        try clear c1
        try clear p2
        try clear c3
        try clear c3b0
        try clear c3b1
        try clear c4
        try clear c4b0
        try clear c4b1
        try clear q5
        try clear q5
        obtain ⟨x3_1, x12_1, rfl, rfl, HA, HK1, HB⟩ := hrel
        cases gk with
        | zero => exact absurd HA.out (by simp [grommetlaw16_long.l0])
        | succ k1 =>
          have H := HA.out
          clear HA
          simp only [grommetlaw16_long.l0] at H
          by_cases c6 : x12_1 < (y101.length : Int)
          · rw [if_pos c6] at H
            have c6b0 : decide (x12_1 < (y101.length : Int)) = true := decide_eq_true c6
            clear c6
            by_cases c7 : 0 ≤ x12_1
            · rw [if_pos c7] at H
              have c7b0 : decide (0 ≤ x12_1) = true := decide_eq_true c7
              clear c7
              by_cases c8 : x12_1 < (y101.length : Int)
              · rw [if_pos c8] at H
                have c8b0 : decide (x12_1 < (y101.length : Int)) = true := decide_eq_true c8
                clear c8
                have H' := Aside0.mk H
                clear H
                have p105 : 0 ≤ (x12_1 : Int) := of_decide_eq_true (by first | (with_reducible assumption) | assumption)
                have q105 : x12_1 < (y101.length : Int) := of_decide_eq_true (by first | (with_reducible assumption) | assumption)
                obtain ⟨ad105, e105, hx105_0, hx105_1, hx105_2⟩ := at_T52 HR104.out x12_1 p105 q105
                cases e105
                replace hx105_0 := (HB.out.cell (World.block_lt_of_cell? w _ hx105_0)).trans hx105_0
                replace hx105_1 := (HB.out.cell (World.block_lt_of_cell? w _ hx105_1)).trans hx105_1
                replace hx105_2 := (HB.out.cell (World.block_lt_of_cell? w _ hx105_2)).trans hx105_2
                replace p105 := eq_true p105
                replace q105 := eq_true q105
                go_wp2_with (first | ((with_reducible refine gate_dst (N := 5) rfl ?_); refine box_event ?hg (N := 5) ?hd (cs := #[.string (⟨#[]⟩ : ByteArray), .int .i64 0, .bool false]) (t := 52) ?hr ?_; (case hd => rfl); (case hg => rfl); (case hr => first | (go_simp; done) | (go_simp; rfl)); intro gb106 hg w9 hbox hb; have n0_ := Aside0.mk (below_step (by repeat (first | (with_reducible first | exact HB.out | apply below_alloc | apply pw_below_drewN | apply below_drew1) | exact HB.out)) hb); have n1_ := Aside0.mk (hbox); have n2_ := Aside0.mk ((by rw [hg]; exact (below_size (by repeat (first | (with_reducible first | exact HB.out | apply below_alloc | apply pw_below_drewN | apply below_drew1) | exact HB.out))) : w.heap.size ≤ gb106)); have n3_ := Aside0.mk ((by rw [hg]; exact (below_size (by repeat (first | (with_reducible first | exact HB.out | apply below_alloc | apply pw_below_drewN | apply below_drew1) | exact HB.out))) : w.heap.size ≤ gb106)); clear HB; have HB := n0_; have BK106 := n1_; have GW106 := n2_; have GE106 := n3_; clear n0_ n1_ n2_ n3_; clear hb hbox hg; have hcz10_0 : w9.cell? ⟨gb106, 0, none⟩ = some (.string (⟨#[]⟩ : ByteArray)) := (blk_cell BK106.out 0).trans rfl; have hcz10_1 : w9.cell? ⟨gb106, 1, none⟩ = some (.int .i64 0) := (blk_cell BK106.out 1).trans rfl; have hcz10_2 : w9.cell? ⟨gb106, 2, none⟩ = some (.bool false) := (blk_cell BK106.out 2).trans rfl; have hfz10_0 := blk_frozen BK106.out 0; have hfz10_1 := blk_frozen BK106.out 1; have hfz10_2 := blk_frozen BK106.out 2))
                go_roundg k1
                case measure => have := HK1.out; omega
                case rel => exact ⟨(wrap64 (x3_1 + (((rd_T52 y101 x12_1).f0).size : Int))), (wrap64 (x12_1 + 1)), (by first | rfl | (simp; done) | (simp [*]; done)), (by first | rfl | (simp; done) | (simp [*]; done)), H', ⟨by have := HK1.out; omega⟩, ⟨by repeat (first | (with_reducible first | exact HB.out | apply below_alloc | apply pw_below_drewN | apply below_drew1 | refine below_set ?_ GE106.out) | exact HB.out)⟩⟩
              · rw [if_neg c8] at H
                exact absurd H (by simp)
            · rw [if_neg c7] at H
              exact absurd H (by simp)
          · rw [if_neg c6] at H
            have c6b0 : decide (x12_1 < (y101.length : Int)) = false := decide_eq_false c6
            clear c6
            by_cases c11 : (l0.length : Int) > 100
            · rw [if_pos c11] at H
              have c11b0 : decide (100 < (l0.length : Int)) = true := decide_eq_true c11
              have c11b1 : decide (100 < l0.length) = true := decide_eq_true (by omega)
              clear c11
              obtain rfl := Option.some.inj H
              go_wp2
              go_ret
              exact ⟨by first | rfl | (simp [errW_none, errW_some] <;> rfl) | (simp only [← hji2]; first | rfl | (simp [errW_none, errW_some] <;> rfl)) | (simp [*, errW_none, errW_some] <;> rfl), by repeat (first | (with_reducible first | exact HB.out | apply below_alloc | apply pw_below_drewN | apply below_drew1) | exact HB.out)⟩
            · rw [if_neg c11] at H
              have c11b0 : decide (100 < (l0.length : Int)) = false := decide_eq_false c11
              have c11b1 : decide (100 < l0.length) = false := decide_eq_false (by omega)
              clear c11
              obtain rfl := Option.some.inj H
              go_wp2
              go_ret
              exact ⟨by first | rfl | (simp [errW_none, errW_some] <;> rfl) | (simp only [← hji2]; first | rfl | (simp [errW_none, errW_some] <;> rfl)) | (simp [*, errW_none, errW_some] <;> rfl), by repeat (first | (with_reducible first | exact HB.out | apply below_alloc | apply pw_below_drewN | apply below_drew1) | exact HB.out)⟩
    · rw [if_neg c4] at H
      exact absurd H (by simp)
  · rw [if_neg c3] at H
    exact absurd H (by simp)

end Go.Proofs.YtmkdjgmdfhagfaaGreatDoor.PX

/- YtmkdjgmdfhagfaaGreatDoorFGrommetlaw16Theirs: what print.py told of Go functions, for this claim. -/
namespace Go.Proofs.YtmkdjgmdfhagfaaGreatDoor.PX
open Go.RowKit Go.Proofs.YtmkdjgmdfhagfaaGreatDoorW.PrintWords Go.Proofs.YtmkdjgmdfhagfaaGreatDoorW.PrintLast Go.Proofs.YtmkdjgmdfhagfaaGreatDoorW.PrintMore Go.Proofs.YtmkdjgmdfhagfaaGreatDoor
attribute [local go_sem] max2_int min2_int max_two min_two max_three min_three max_four min_four   -- for this text's walks alone
set_option linter.unusedVariables false
set_option linter.unusedSimpArgs false

/-! ### grommetlaw16_theirs: function 20 -/
def grommetlaw16_theirs.l0 : Nat → List (S73) → List (S52) → Int → Int → Option ((List (S73)))
  | 0, _, _, _, _ => none
  | k + 1, x3, x6, x7, x8 => if x8 < x7 then (if 0 ≤ x8 then (if x8 < (x6.length : Int) then (if x3.length < 4398046511104 then (grommetlaw16_theirs.l0 k (x3 ++ [(⟨(rd_T52 x6 x8).f0, (rd_T52 x6 x8).f1, (rd_T52 x6 x8).f2⟩ : S73)]) x6 x7 (wrap64 (x8 + 1))) else (none)) else (none)) else (none)) else (some x3)
def grommetlaw16_theirs.f (k : Nat) (l0 : List (S52)) : Option ((List (S73))) := grommetlaw16_theirs.l0 k ([] : List (S73)) l0 (l0.length : Int) 0
set_option maxHeartbeats 8000000 in
set_option maxRecDepth 100000 in
theorem grommetlaw16_theirs.calls (k : Nat) (A0 : Option Addr) (c0 : Nat) (l0 : List (S52)) (r : List (S73)) (w : World) (hr0 : Kd.C k52 w A0 l0.length l0) (hc0 : l0.length ≤ c0) (hG : Glob.G w) (h : grommetlaw16_theirs.f k l0 = some r) :
    Calls Tryz.prog 20 #[.slice A0 l0.length c0] w fun e w' => ∃ v0_ : Value, e = .returned (v0_) ∧ Kd.R k73 73 w' w.heap.size (fun _ => True) v0_ r ∧ Below w.heap.size w w' := by
  have hu52 := Tryz.underlying52
  have hu73 := Tryz.underlying73
  have HR0 := Aside0.mk hr0
  have HC0 := Aside0.mk hc0
  clear hr0 hc0
  have HB := Aside0.mk (Below.refl w.heap.size w)
  have H : (grommetlaw16_theirs.l0 k ([] : List (S73)) l0 (l0.length : Int) 0) = some r := h
  clear h
  have H' := Aside0.mk H
  clear H
  go_enter Tryz.func20, Tryz.ntmps20
  go_wp2
  go_loopg [3, 8] k (fun kq v3 v8 w' => ∃ (x3_1 : List (S73)) (x8_1 : Int), v8 = .int .i64 x8_1 ∧ Aside0 (grommetlaw16_theirs.l0 kq x3_1 l0 (l0.length : Int) x8_1 = some r) ∧ Aside0 (kq ≤ k) ∧ Aside0 (Kd.R k73 73 w' w.heap.size (fun _ => True) v3 x3_1) ∧ Aside0 (Below w.heap.size w w'))
  case atStart => exact ⟨(([] : List (S73))), (0), (by first | rfl | (simp; done) | (simp [*]; done)), H', ⟨Nat.le_refl _⟩, ⟨by first | exact Kd.R_nil _ _ _ _ _ | exact Kd.N_nil _ _ _ _ _ | exact Kd.V_nil _ _ _ _ _ | exact Kd.Q_nil _ _ _ _ _ | exact Kd.S_nil _ _ _ _ _⟩, ⟨by repeat (first | (with_reducible first | exact HB.out | apply below_alloc | apply pw_below_drewN | apply below_drew1) | exact HB.out)⟩⟩
  case round =>
    clear H'
    obtain ⟨x3_1, x8_1, rfl, HA, HK1, HO_3, HB⟩ := hrel
    cases gk with
    | zero => exact absurd HA.out (by simp [grommetlaw16_theirs.l0])
    | succ k1 =>
      have H := HA.out
      clear HA
      simp only [grommetlaw16_theirs.l0] at H
      by_cases c2 : x8_1 < (l0.length : Int)
      · rw [if_pos c2] at H
        have c2b0 : decide (x8_1 < (l0.length : Int)) = true := decide_eq_true c2
        clear c2
        by_cases c3 : 0 ≤ x8_1
        · rw [if_pos c3] at H
          have c3b0 : decide (0 ≤ x8_1) = true := decide_eq_true c3
          clear c3
          by_cases c4 : x8_1 < (l0.length : Int)
          · rw [if_pos c4] at H
            have c4b0 : decide (x8_1 < (l0.length : Int)) = true := decide_eq_true c4
            clear c4
            by_cases c5 : x3_1.length < 4398046511104
            · rw [if_pos c5] at H
              have LMc5 := Aside0.mk c5
              clear c5
              obtain ⟨y103, hy103⟩ : ∃ y_ : List (S73), y_ = (x3_1 ++ [(⟨(rd_T52 l0 x8_1).f0, (rd_T52 l0 x8_1).f1, (rd_T52 l0 x8_1).f2⟩ : S73)]) := ⟨_, rfl⟩
              replace H : (grommetlaw16_theirs.l0 k1 y103 l0 (l0.length : Int) (wrap64 (x8_1 + 1))) = some r := by first | (rw [hy103]; with_reducible exact H) | (have H2_ := (Option.bind_some _ _).symm.trans H; rw [hy103]; with_reducible exact H2_) | (have H2_ := (Option.bind_some _ _).symm.trans H; with_reducible exact H2_) | with_reducible exact H | (rw [hy103]; exact H) | exact H
              have Ny103 := Aside0.mk hy103
              clear hy103
              have H' := Aside0.mk H
              clear H
              have p101 : 0 ≤ (x8_1 : Int) := of_decide_eq_true (by first | (with_reducible assumption) | assumption)
              have q101 : x8_1 < (l0.length : Int) := of_decide_eq_true (by first | (with_reducible assumption) | assumption)
              obtain ⟨ad101, e101, hx101_0, hx101_1, hx101_2⟩ := at_T52 HR0.out x8_1 p101 q101
              cases e101
              replace hx101_0 := (HB.out.cell (World.block_lt_of_cell? w _ hx101_0)).trans hx101_0
              replace hx101_1 := (HB.out.cell (World.block_lt_of_cell? w _ hx101_1)).trans hx101_1
              replace hx101_2 := (HB.out.cell (World.block_lt_of_cell? w _ hx101_2)).trans hx101_2
              replace p101 := eq_true p101
              replace q101 := eq_true q101
              go_wp2_with (first | ((with_reducible refine gate_dst (N := 5) rfl ?_); refine box_event ?hg (N := 5) ?hd (cs := #[.string (⟨#[]⟩ : ByteArray), .int .i64 0, .bool false]) (t := 52) ?hr ?_; (case hd => rfl); (case hg => rfl); (case hr => first | (go_simp; done) | (go_simp; rfl)); intro gb102 hg w6 hbox hb; have n0_ := Aside0.mk (Kd.R_below (by (with_reducible repeat (first | apply Kd.R_alloc | apply Kd.R_drewN | apply Kd.R_drew)); exact HO_3.out) hb); have n1_ := Aside0.mk (below_step (by repeat (first | (with_reducible first | exact HB.out | apply below_alloc | apply pw_below_drewN | apply below_drew1) | exact HB.out)) hb); have n2_ := Aside0.mk (hbox); have n3_ := Aside0.mk ((by rw [hg]; exact (below_size (by repeat (first | (with_reducible first | exact HB.out | apply below_alloc | apply pw_below_drewN | apply below_drew1) | exact HB.out))) : w.heap.size ≤ gb102)); have n4_ := Aside0.mk ((by rw [hg]; exact (below_size (by repeat (first | (with_reducible first | exact HB.out | apply below_alloc | apply pw_below_drewN | apply below_drew1) | exact HB.out))) : w.heap.size ≤ gb102)); clear HO_3; clear HB; have HO_3 := n0_; have HB := n1_; have BK102 := n2_; have GW102 := n3_; have GE102 := n4_; clear n0_ n1_ n2_ n3_ n4_; clear hb hbox hg; have hcz7_0 : w6.cell? ⟨gb102, 0, none⟩ = some (.string (⟨#[]⟩ : ByteArray)) := (blk_cell BK102.out 0).trans rfl; have hcz7_1 : w6.cell? ⟨gb102, 1, none⟩ = some (.int .i64 0) := (blk_cell BK102.out 1).trans rfl; have hcz7_2 : w6.cell? ⟨gb102, 2, none⟩ = some (.bool false) := (blk_cell BK102.out 2).trans rfl; have hfz7_0 := blk_frozen BK102.out 0; have hfz7_1 := blk_frozen BK102.out 1; have hfz7_2 := blk_frozen BK102.out 2) | ((with_reducible refine gate_builtin (b := .append) (xs := #[.tmp 12, .tmp 20]) rfl ?_); at_builtin; refine Kd.R_append k73 (w0 := w) w.heap.size rfl (.tmp 12) (.tmp 20) 32 73 (.agg #[(.string ⟨#[]⟩), (.int .i64 0), (.bool false)]) 32 rfl Tryz.underlying32 info73 rfl (by decide) (by omega) u3 x3_1 (⟨(rd_T52 l0 x8_1).f0, (rd_T52 l0 x8_1).f1, (rd_T52 l0 x8_1).f2⟩ : S73) [.string ((rd_T52 l0 x8_1).f0), .int .i64 ((rd_T52 l0 x8_1).f1), .bool ((rd_T52 l0 x8_1).f2)] (fun _ => True) (fun _ => False) rfl (by first | (go_simp; done) | (go_simp; rfl)) ?aP (fun _ hk => hk.elim) ?aF ?aO ?aB ?aS ?aL ?_; (case aP => exact k73_mkM _ _ _ (⟨(rd_T52 l0 x8_1).f0, (rd_T52 l0 x8_1).f1, (rd_T52 l0 x8_1).f2⟩ : S73)); (case aB => exact (by repeat (first | (with_reducible first | exact HB.out | apply below_alloc | apply pw_below_drewN | apply below_drew1 | refine below_set ?_ GE102.out) | exact HB.out))); (case aF => exact (fun _ _ => trivial)); (case aO => exact (by (with_reducible repeat (first | apply Kd.R_alloc | apply Kd.R_drewN | apply Kd.R_drew)); exact Kd.R_mono (Kd.R_far (p := ⟨gb102, 2, none⟩) (Kd.R_far (p := ⟨gb102, 1, none⟩) (Kd.R_far (p := ⟨gb102, 0, none⟩) (Kd.R_types HO_3.out BK102.out (by decide)) (fun _ hk => hk.2) (.string ((rd_T52 l0 x8_1).f0))) (fun _ hk => hk.2) (.int .i64 ((rd_T52 l0 x8_1).f1))) (fun _ hk => hk.2) (.bool ((rd_T52 l0 x8_1).f2))) (fun _ hk => trivial))); (case aS => exact (below_size (by repeat (first | (with_reducible first | exact HB.out | apply below_alloc | apply pw_below_drewN | apply below_drew1 | refine below_set ?_ GE102.out) | exact HB.out)))); (case aL => have := LMc5.out; omega); intro v104 w8 ho hb hg hat; rw [← Ny103.out] at ho; have n0_ := Aside0.mk (blk_grown (g := gb102) (o := .cells #[.string ((rd_T52 l0 x8_1).f0), .int .i64 ((rd_T52 l0 x8_1).f1), .bool ((rd_T52 l0 x8_1).f2)] 52 (0, 0)) (by (with_reducible repeat (first | refine blk_drewN ?_ _ | refine blk_drew ?_ | refine blk_alloc ?_ _)); refine blk_put (cs := #[.string ((rd_T52 l0 x8_1).f0), .int .i64 ((rd_T52 l0 x8_1).f1), .bool false]) ?_ 2 _ rfl; (with_reducible repeat (first | refine blk_drewN ?_ _ | refine blk_drew ?_ | refine blk_alloc ?_ _)); refine blk_put (cs := #[.string ((rd_T52 l0 x8_1).f0), .int .i64 0, .bool false]) ?_ 1 _ rfl; (with_reducible repeat (first | refine blk_drewN ?_ _ | refine blk_drew ?_ | refine blk_alloc ?_ _)); refine blk_put (cs := #[.string (⟨#[]⟩ : ByteArray), .int .i64 0, .bool false]) ?_ 0 _ rfl; (with_reducible repeat (first | refine blk_drewN ?_ _ | refine blk_drew ?_ | refine blk_alloc ?_ _)); exact BK102.out) hg (Kd.R_ne HO_3.out BK102.out (by decide))); have n1_ := Aside0.mk (hb); have n2_ := Aside0.mk (ho); clear BK102; clear HB; clear HO_3; have BK102 := n0_; have HB := n1_; have HO105 := n2_; clear n0_ n1_ n2_; clear ho hb hg hat))
              go_roundg k1
              case measure => have := HK1.out; omega
              case rel => exact ⟨(y103), (wrap64 (x8_1 + 1)), (by first | rfl | (simp; done) | (simp [*]; done)), H', ⟨by have := HK1.out; omega⟩, ⟨by (with_reducible repeat (first | apply Kd.R_alloc | apply Kd.R_drewN | apply Kd.R_drew)); exact HO105.out⟩, ⟨by repeat (first | (with_reducible first | exact HB.out | apply below_alloc | apply pw_below_drewN | apply below_drew1 | refine below_set ?_ GE102.out) | exact HB.out)⟩⟩
            · rw [if_neg c5] at H
              exact absurd H (by simp)
          · rw [if_neg c4] at H
            exact absurd H (by simp)
        · rw [if_neg c3] at H
          exact absurd H (by simp)
      · rw [if_neg c2] at H
        have c2b0 : decide (x8_1 < (l0.length : Int)) = false := decide_eq_false c2
        clear c2
        obtain rfl := Option.some.inj H
        go_wp2
        go_ret
        exact ⟨_, by first | rfl | (simp [errW_none, errW_some] <;> rfl) | (simp [*, errW_none, errW_some] <;> rfl), by (with_reducible repeat (first | apply Kd.R_alloc | apply Kd.R_drewN | apply Kd.R_drew)); exact HO_3.out, by repeat (first | (with_reducible first | exact HB.out | apply below_alloc | apply pw_below_drewN | apply below_drew1) | exact HB.out)⟩

end Go.Proofs.YtmkdjgmdfhagfaaGreatDoor.PX

/- That the program is alive (chapter 16's probe), and what the law's own small functions come to. -/
namespace Go.Proofs.YtmkdjgmdfhagfaaGreatDoor.Paths
open Go.RowKit Go.Proofs.YtmkdjgmdfhagfaaGreatDoor.PX Go.Proofs.YtmkdjgmdfhagfaaGreatDoor.Plug Go.Proofs.YtmkdjgmdfhagfaaGreatDoor.Utf Go.Proofs.YtmkdjgmdfhagfaaGreatDoorW.PrintWords Go.Proofs.YtmkdjgmdfhagfaaGreatDoorW.PrintLast

set_option maxRecDepth 100000 in
theorem alive16 : grommetlaw16_alive.f = some true := by kernel_rfl

abbrev Sr := S52
def conv (x : Sr) : St := ⟨x.f0, x.f1, x.f2⟩
theorem rd_ref (l : List Sr) (i : Nat) (h : i < l.length) : rd_T52 l (i : Int) = l[i] := by
  unfold rd_T52; rw [Int.toNat_natCast, List.getD_eq_getElem?_getD, List.getElem?_eq_getElem h]; rfl
theorem theirs_l0 (l : List Sr) (hl : l.length ≤ 1099511627775) : ∀ (d i K : Nat), l.length = i + d → d + 1 ≤ K →
    grommetlaw16_theirs.l0 K ((l.take i).map conv) l (l.length : Int) (i : Int) = some (l.map conv)
  | 0, i, K, hd, hK => by
    obtain ⟨K, rfl⟩ : ∃ m, K = m + 1 := ⟨K - 1, by omega⟩
    rw [grommetlaw16_theirs.l0, if_neg (by omega), List.take_of_length_le (by omega)]
  | d + 1, i, K, hd, hK => by
    obtain ⟨K, rfl⟩ : ∃ m, K = m + 1 := ⟨K - 1, by omega⟩
    have h1 : i < l.length := by omega
    have hw : wrap64 ((i : Int) + 1) = ((i + 1 : Nat) : Int) := by unfold wrap64; omega
    rw [grommetlaw16_theirs.l0, if_pos (by omega), if_pos (by omega), if_pos (by omega), if_pos (by rw [List.length_map, List.length_take]; omega), rd_ref l i h1, hw]
    have : (l.take i).map conv ++ [(⟨l[i].f0, l[i].f1, l[i].f2⟩ : St)] = (l.take (i + 1)).map conv := by
      rw [List.take_succ_eq_append_getElem h1, List.map_append]; rfl
    rw [this]
    exact theirs_l0 l hl d (i + 1) K (by omega) (by omega)
theorem theirs_of (l : List Sr) (hl : l.length ≤ 1099511627775) (K : Nat) (hK : l.length + 1 ≤ K) : grommetlaw16_theirs.f K l = some (l.map conv) := by
  unfold grommetlaw16_theirs.f
  exact theirs_l0 l hl l.length 0 K (by omega) hK
/-- long answers. -/
theorem long_l0 (x0 m : List Sr) (hm : m.length ≤ 1099511627775) : ∀ (d i K : Nat) (x3 : Int), m.length = i + d → d + 1 ≤ K → ∃ b, grommetlaw16_long.l0 K x0 x3 m (m.length : Int) (i : Int) = some b ∧ (b = false → x0.length ≤ 100)
  | 0, i, K, x3, hd, hK => by
    obtain ⟨K, rfl⟩ : ∃ m, K = m + 1 := ⟨K - 1, by omega⟩
    rw [grommetlaw16_long.l0, if_neg (by omega)]
    by_cases c : (x0.length : Int) > 100
    · rw [if_pos c]; exact ⟨true, rfl, fun e => by cases e⟩
    · rw [if_neg c]; exact ⟨_, rfl, fun _ => by omega⟩
  | d + 1, i, K, x3, hd, hK => by
    obtain ⟨K, rfl⟩ : ∃ m, K = m + 1 := ⟨K - 1, by omega⟩
    have hw : wrap64 ((i : Int) + 1) = ((i + 1 : Nat) : Int) := by unfold wrap64; omega
    rw [grommetlaw16_long.l0, if_pos (by omega), if_pos (by omega), if_pos (by omega), hw]
    exact long_l0 x0 m hm d (i + 1) K _ (by omega) (by omega)
theorem long_of (l : List Sr) (hl : l.length ≤ 1099511627775) (K : Nat) (hK : 102 ≤ K) : ∃ b, grommetlaw16_long.f K l = some b ∧ (b = false → l.length ≤ 100) := by
  unfold grommetlaw16_long.f
  have h0 : 0 ≤ mn (l.length : Int) 100 := by unfold mn; split <;> omega
  have h1 : mn (l.length : Int) 100 ≤ (l.length : Int) := by unfold mn; split <;> omega
  have h2 : mn (l.length : Int) 100 ≤ 100 := by unfold mn; split <;> omega
  rw [if_pos h0, if_pos h1, Option.bind_some]
  exact long_l0 l _ (by rw [List.length_take]; omega) (l.take (mn (l.length : Int) 100).toNat).length 0 K 0 (by omega) (by rw [List.length_take]; omega)
end Go.Proofs.YtmkdjgmdfhagfaaGreatDoor.Paths

/- PathAgain's pure statement: for every text of at most a million bytes the law's Lean function answers true. -/
namespace Go.Proofs.YtmkdjgmdfhagfaaGreatDoor.Pure
open Go.RowKit Go.Proofs.YtmkdjgmdfhagfaaGreatDoor.PX Go.Proofs.YtmkdjgmdfhagfaaGreatDoor.Plug Go.Proofs.YtmkdjgmdfhagfaaGreatDoor.Utf Go.Proofs.YtmkdjgmdfhagfaaGreatDoor.Paths Go.Proofs.YtmkdjgmdfhagfaaGreatDoorW.PrintWords Go.Proofs.YtmkdjgmdfhagfaaGreatDoorW.PrintLast
theorem PathAgain (s : ByteArray) (_hs : s.size ≤ 140737488351232) (hb : s.size ≤ 1048576) : ∃ k, grommetlaw16_PathAgain.f k s = some true := by
  refine ⟨70, ?_⟩
  obtain ⟨l, e, p, hp, hr⟩ := parse_took 66 [] (s.size : Int) s (by omega) (by simp) (by simp) (by simp)
  have hP : path_Parse.f s = some (l, e, p) := by unfold path_Parse.f; rw [if_pos (by omega)]; exact hp
  unfold grommetlaw16_PathAgain.f
  rw [hP, Option.bind_some]
  dsimp only
  rcases hr with ⟨hbad, rfl⟩ | ⟨rfl, rfl, h64, hg⟩
  · unfold bad at hbad
    rw [if_pos (by revert hbad; cases (e == 0) <;> cases (p == 0) <;> simp), if_pos (by rfl), alive16]; rfl
  · have hF : fmtB l = (rend true l, 0) := fmtB_of l h64 (fun x hx => (hg x hx).1) (fun x hx => (hg x hx).2.1)
    have hc : l.map cleanS = l := by
      have : ∀ m : List St, (∀ x ∈ m, goodS x) → m.map cleanS = m := fun m hm => by
        induction m with
        | nil => rfl
        | cons x m ih => rw [List.map_cons, (hm x (by simp)).2.2, ih (fun y hy => hm y (by simp [hy]))]
      exact this l hg
    have hPF := parse_fmt l (by rw [hF])
    rw [hc] at hPF
    have hS := same_clean l (by omega) 70 (by omega)
    rw [hc] at hS
    have hFF : path_Format.f l = some (⟨(fmtB l).1.toArray⟩, (fmtB l).2) := rfl
    rw [if_neg (by decide), hFF, Option.bind_some]
    dsimp only
    rw [hPF, Option.bind_some]
    dsimp only
    rw [if_pos (by rw [hF]), if_pos (by decide), hS, Option.bind_some, if_pos rfl, if_pos (by omega), alive16]; rfl
end Go.Proofs.YtmkdjgmdfhagfaaGreatDoor.Pure

/- What a claim's form reads as data (numbers, bools, texts, lists, structs) is of the kind in which the printed functions take it, and no greater; by combination, a type at a time. -/
namespace Go.Proofs.YtmkdjgmdfhagfaaGreatDoor.Opened
open Go.ChangeShapes Go.WideShapes Go.Deep Go.RowKit Go.Proofs.YtmkdjgmdfhagfaaGreatDoor.PX Go.Proofs.YtmkdjgmdfhagfaaGreatDoorW.PrintWords Go.Proofs.YtmkdjgmdfhagfaaGreatDoorW.PrintLast

/-- Whatever reads as a datum of type t is of kind d, of a value that is good, and of such a bulk. -/
def Opens {α : Type} (d : Kd α) (t : TypeId) (good : α → Prop) (bulk : α → Nat) : Prop :=
  ∀ (H : Type) (enc : TypeId × Value → H) (w : World) (base : Nat) (sp : Nat → Bool) (held : Bool) (fuel : Nat) (cs : List Value) (x : DataW H × List MemPlace), DataW.trod enc Tryz.prog w base sp held fuel t cs = some x → ∃ a, d.K w a cs ∧ good a ∧ bulk a ≤ Rows.uptoBulk x.1

theorem choose_list {α : Type} {Q : Nat → α → Prop} : ∀ n : Nat, (∀ i, i < n → ∃ x, Q i x) → ∃ xs : List α, xs.length = n ∧ ∀ i x, xs[i]? = some x → Q i x
  | 0, _ => ⟨[], rfl, fun i x h => by simp at h⟩
  | n + 1, h => by
    obtain ⟨xs, hl, hq⟩ := choose_list n (fun i hi => h i (by omega))
    obtain ⟨y, hy⟩ := h n (by omega)
    refine ⟨xs ++ [y], by simp [hl], fun i x hx => ?_⟩
    by_cases hi : i < n
    · rw [List.getElem?_append_left (by omega)] at hx; exact hq i x hx
    · rw [List.getElem?_append_right (by omega)] at hx
      have : i - xs.length = 0 := by
        by_cases h0 : i - xs.length = 0
        · exact h0
        · rw [List.getElem?_eq_none (by simp; omega)] at hx; cases hx
      rw [this] at hx
      cases Option.some.inj hx
      rw [show i = n by omega]; exact hy
def bulkL {α : Type} (bulk : α → Nat) : List α → Nat
  | [] => 0
  | x :: xs => bulk x + bulkL bulk xs
theorem bulkAll_append {H : Type} : ∀ a b : List (DataW H), Rows.uptoBulkAll (a ++ b) = Rows.uptoBulkAll a + Rows.uptoBulkAll b
  | [], b => by simp [Rows.uptoBulkAll]
  | x :: a, b => by rw [List.cons_append, Rows.uptoBulkAll, Rows.uptoBulkAll, bulkAll_append a b]; omega
theorem bulkL_append {α : Type} (bulk : α → Nat) : ∀ a b : List α, bulkL bulk (a ++ b) = bulkL bulk a + bulkL bulk b
  | [], b => by simp [bulkL]
  | x :: a, b => by rw [List.cons_append, bulkL, bulkL, bulkL_append bulk a b]; omega
theorem bulk_range {α H : Type} (bulk : α → Nat) (D : Nat → DataW H) : ∀ (n : Nat) (xs : List α), xs.length = n → (∀ i x, xs[i]? = some x → bulk x ≤ Rows.uptoBulk (D i)) → bulkL bulk xs ≤ Rows.uptoBulkAll ((List.range n).map D)
  | 0, xs, hl, _ => by have : xs = [] := List.eq_nil_of_length_eq_zero hl; subst this; simp [bulkL]
  | n + 1, xs, hl, h => by
    have hne : xs ≠ [] := fun e => by subst e; simp at hl
    have hx := List.dropLast_concat_getLast hne
    have h1 := bulk_range bulk D n xs.dropLast (by simp [hl]) (fun i x hi => h i x (by
      have := List.getElem?_eq_some_iff.1 hi
      obtain ⟨hlt, e⟩ := this
      rw [List.getElem_dropLast] at e
      rw [List.getElem?_eq_getElem (by simp at hlt; omega), e]))
    have h2 := h n (xs.getLast hne) (by rw [List.getLast_eq_getElem, List.getElem?_eq_getElem (by omega)]; simp [hl])
    rw [← hx, bulkL_append, List.range_succ, List.map_append, bulkAll_append]
    simp only [bulkL, List.map_cons, List.map_nil, Rows.uptoBulkAll]
    omega
theorem opens_slice {α : Type} {d : Kd α} {e t : TypeId} {good : α → Prop} {bulk : α → Nat} (hd : Opens d e good bulk) (ht : Tryz.prog.underlying t = some (.slice e)) (hs : Tryz.prog.cellsOf e = d.sz) :
    Opens (Kd.slice e d) t (fun xs => ∀ x ∈ xs, good x) (fun xs => bulkL bulk xs + 1) := by
  intro H enc w base sp held fuel cs x h
  rcases open_slice ht h with ⟨rfl, rfl⟩ | ⟨a, len, cap, m, n, D, Pl, rfl, hb, hl, hm, hmm, rfl, hi⟩
  · exact ⟨[], ⟨none, 0, rfl, Nat.le_refl _, Kd.C_nil _ _⟩, by simp, by simp [bulkL, Rows.uptoBulk]⟩
  · have hlm : len ≤ m := by rw [hmm]; split <;> omega
    obtain ⟨xs, hxl, hxs⟩ := choose_list (Q := fun i x => ∃ cs', w.cells? base (a.add (i * Tryz.prog.cellsOf e)) (Tryz.prog.cellsOf e) = some cs' ∧ d.K w x cs' ∧ good x ∧ bulk x ≤ Rows.uptoBulk (D i)) len (fun i hil => by
      obtain ⟨cs', hc, htr⟩ := hi i (by omega)
      obtain ⟨y, hy, hg, hbk⟩ := hd H enc w base sp held n cs' _ htr
      exact ⟨y, cs', hc, hy, hg, hbk⟩)
    refine ⟨xs, ⟨some a, cap, by rw [hxl], by omega, ⟨rfl, by unfold maxLen at hm; omega, fun _ => ⟨a, rfl, fun j p hj => ?_⟩⟩⟩, fun y hy => ?_, ?_⟩
    · obtain ⟨cs', hc, hk, _, _⟩ := hxs j p hj
      rw [hs] at hc
      obtain ⟨_, hcl, hat⟩ := World.cells?_some hc
      refine ⟨cs', hcl, hk, fun i u hu => ?_⟩
      have hlt : i < d.sz := by rw [← hcl]; exact (List.getElem?_eq_some_iff.1 hu).1
      rw [← Go.Deep.add_add, hat i hlt]; exact hu
    · obtain ⟨i, hil, e1⟩ := List.getElem_of_mem hy
      obtain ⟨_, _, _, hg, _⟩ := hxs i y (by rw [List.getElem?_eq_getElem hil, e1])
      exact hg
    · have := bulk_range bulk D len xs hxl (fun i y hy => (hxs i y hy).choose_spec.2.2.2)
      simp only [Rows.uptoBulk]
      omega

/-! ### structs -/
theorem three_cells {α : Type} {cs : List α} {a b c : α} (hl : cs.length = 3) (h0 : (cs.drop 0).take 1 = [a]) (h1 : (cs.drop 1).take 1 = [b]) (h2 : (cs.drop 2).take 1 = [c]) : cs = [a, b, c] := by
  match cs, hl with
  | [x, y, z], _ => simp at h0 h1 h2; rw [h0, h1, h2]

abbrev goodStep (x : S52) : Prop := (Lit.int .i64 x.f1).wf = true
abbrev bulkStep (x : S52) : Nat := x.f0.size + 4
set_option maxRecDepth 100000 in
theorem opens_step : Opens k52 52 goodStep bulkStep := by
  intro H enc w base sp held fuel cs x h
  obtain ⟨xs, n, _, rfl, hl, hlen, hf⟩ := DataW.trod_struct Tryz.underlying52 h
  have h0 := hf 0 _ rfl
  have h1 := hf 1 _ rfl
  have h2 := hf 2 _ rfl
  match xs, hlen with
  | [y0, y1, y2], _ =>
    obtain ⟨s, e0, rfl, _⟩ := DataW.trod_string Tryz.underlying9 h0
    obtain ⟨i, e1, rfl, hw⟩ := DataW.trod_int Tryz.underlying3 h1
    obtain ⟨b, e2, rfl⟩ := DataW.trod_bool Tryz.underlying4 h2
    obtain rfl := three_cells (hl.trans (by kernel_rfl)) e0 e1 e2
    exact ⟨⟨s, i, b⟩, k52_mk w ⟨s, i, b⟩, hw, by simp [Rows.uptoBulk, Rows.uptoBulkAll]⟩
theorem steps_len : ∀ l : List S52, l.length ≤ bulkL bulkStep l
  | [] => Nat.zero_le _
  | x :: l => by have := steps_len l; have h2 : bulkStep x = x.f0.size + 4 := rfl; rw [List.length_cons, bulkL]; omega
theorem opens_steps : Opens (Kd.slice 52 k52) 29 (fun xs => ∀ x ∈ xs, goodStep x) (fun xs => bulkL bulkStep xs + 1) :=
  opens_slice opens_step Tryz.underlying29 (by kernel_rfl)
end Go.Proofs.YtmkdjgmdfhagfaaGreatDoor.Opened

/- YtmkdjgmdfhagfaaGreatDoorFGrommetlaw16PathBack: what print.py told of Go functions, for this claim. -/
namespace Go.Proofs.YtmkdjgmdfhagfaaGreatDoor.PX
open Go.RowKit Go.Proofs.YtmkdjgmdfhagfaaGreatDoorW.PrintWords Go.Proofs.YtmkdjgmdfhagfaaGreatDoorW.PrintLast Go.Proofs.YtmkdjgmdfhagfaaGreatDoorW.PrintMore Go.Proofs.YtmkdjgmdfhagfaaGreatDoor Go.Proofs.YtmkdjgmdfhagfaaGreatDoor.Plug
attribute [local go_sem] max2_int min2_int max_two min_two max_three min_three max_four min_four   -- for this text's walks alone
set_option linter.unusedVariables false
set_option linter.unusedSimpArgs false

attribute [local go_sem high] eqA38
/-! ### grommetlaw16_PathBack: function 5 -/
def grommetlaw16_PathBack.f (k : Nat) (l0 : List (S52)) : Option (Bool) := (grommetlaw16_long.f k l0).bind fun t101 => (if t101 = true then ((grommetlaw16_alive.f).bind fun t102 => (some t102)) else ((grommetlaw16_theirs.f k l0).bind fun t103 => ((path_Format.f t103).bind fun bt106 => (if bt106.2 = 0 then ((path_Parse.f bt106.1).bind fun bt109 => (if (bt109.2.1 == 0 && (bt109.2.2 == 0)) = true then ((grommetlaw16_theirs.f k l0).bind fun t115 => ((path_Same.f k bt109.1 t115).bind fun t118 => (if t118 = true then ((grommetlaw16_alive.f).bind fun t119 => (some t119)) else (some false)))) else (some false))) else (if bt106.1.toList = ([] : List UInt8) then ((grommetlaw16_alive.f).bind fun t108 => (some t108)) else (some false))))))
set_option maxHeartbeats 8000000 in
set_option maxRecDepth 100000 in
theorem grommetlaw16_PathBack.calls (k : Nat) (A0 : Option Addr) (c0 : Nat) (l0 : List (S52)) (r : Bool) (w : World) (hr0 : Kd.C k52 w A0 l0.length l0) (hc0 : l0.length ≤ c0) (hG : Glob.G w) (h : grommetlaw16_PathBack.f k l0 = some r) :
    Calls Tryz.prog 5 #[.slice A0 l0.length c0] w fun e w' => e = .returned (.bool r) ∧ Below w.heap.size w w' := by
  have hu38 := Tryz.underlying38
  have HR0 := Aside0.mk hr0
  have HC0 := Aside0.mk hc0
  clear hr0 hc0
  have HB := Aside0.mk (Below.refl w.heap.size w)
  have H : ((grommetlaw16_long.f k l0).bind fun t101 => (if t101 = true then ((grommetlaw16_alive.f).bind fun t102 => (some t102)) else ((grommetlaw16_theirs.f k l0).bind fun t103 => ((path_Format.f t103).bind fun bt106 => (if bt106.2 = 0 then ((path_Parse.f bt106.1).bind fun bt109 => (if (bt109.2.1 == 0 && (bt109.2.2 == 0)) = true then ((grommetlaw16_theirs.f k l0).bind fun t115 => ((path_Same.f k bt109.1 t115).bind fun t118 => (if t118 = true then ((grommetlaw16_alive.f).bind fun t119 => (some t119)) else (some false)))) else (some false))) else (if bt106.1.toList = ([] : List UInt8) then ((grommetlaw16_alive.f).bind fun t108 => (some t108)) else (some false))))))) = some r := h
  clear h
  replace H := Option.bind_eq_some_iff.mp H
  obtain ⟨t101, A20, H⟩ := H
  replace H : (if t101 = true then ((grommetlaw16_alive.f).bind fun t102 => (some t102)) else ((grommetlaw16_theirs.f k l0).bind fun t103 => ((path_Format.f t103).bind fun bt106 => (if bt106.2 = 0 then ((path_Parse.f bt106.1).bind fun bt109 => (if (bt109.2.1 == 0 && (bt109.2.2 == 0)) = true then ((grommetlaw16_theirs.f k l0).bind fun t115 => ((path_Same.f k bt109.1 t115).bind fun t118 => (if t118 = true then ((grommetlaw16_alive.f).bind fun t119 => (some t119)) else (some false)))) else (some false))) else (if bt106.1.toList = ([] : List UInt8) then ((grommetlaw16_alive.f).bind fun t108 => (some t108)) else (some false)))))) = some r := H
  have A2 := Aside0.mk A20
  clear A20
  by_cases c3 : t101 = true
  · subst c3
    have H1 : ((grommetlaw16_alive.f).bind fun t102 => (some t102)) = some r := by rw [if_pos rfl] at H; exact H
    clear H
    have H := H1
    clear H1
    replace H := Option.bind_eq_some_iff.mp H
    obtain ⟨t102, A40, H⟩ := H
    replace H : (some t102) = some r := H
    have A4 := Aside0.mk A40
    clear A40
    obtain rfl := Option.some.inj H
    go_enter Tryz.func5, Tryz.ntmps5
    go_wp2_with (first | ((with_reducible refine gate_callee (f := 17) rfl ?_); refine goesL_ (some 8) rfl rfl Tryz.func17 (by kernel_rfl) rfl #[.slice A0 l0.length c0] rfl (by (try simp only [List.map_toArray, List.map_cons, List.map_nil]); first | done | rfl | (simp only [List.length_drop, List.length_take]; rfl)) ?_; (with_reducible refine (grommetlaw16_long.calls k _ _ l0 true _ ?side1 ?side2 (hG.below (by first | ((repeat (first | (with_reducible first | exact HB.out | apply below_alloc | apply pw_below_drewN | apply below_drew1 | (refine Glob.below_set ?_ (by assumption) _ _ _)) | exact HB.out)); done) | (refine Drawn0.below ?_; repeat (first | exact Drawn0.refl _ | assumption | apply Drawn0.step)))) A2.out).mono ?_); (case side1 => repeat (first | exact HR0.out | (with_reducible refine Kd.C_alloc ?_ _) | (with_reducible refine Kd.C_drewN ?_ _) | (with_reducible refine Kd.C_drew ?_))); (case side2 => exact HC0.out); rintro e w5 ⟨rfl, hb⟩; refine ⟨_, rfl, ?_⟩; have n0_ := Aside0.mk (below_step (by repeat (first | (with_reducible first | exact HB.out | apply below_alloc | apply pw_below_drewN | apply below_drew1) | exact HB.out)) hb); clear HB; have HB := n0_; clear n0_; (try clear hb); (try clear hb2); (try clear hk); (try clear hi)) | ((with_reducible refine gate_callee (f := 18) rfl ?_); refine goesL_ (some 9) rfl rfl Tryz.func18 (by kernel_rfl) rfl #[] rfl (by (try simp only [List.map_toArray, List.map_cons, List.map_nil]); first | done | rfl | (simp only [List.length_drop, List.length_take]; rfl)) ?_; (with_reducible refine (grommetlaw16_alive.calls  t102 _ (hG.below (by first | ((repeat (first | (with_reducible first | exact HB.out | apply below_alloc | apply pw_below_drewN | apply below_drew1 | (refine Glob.below_set ?_ (by assumption) _ _ _)) | exact HB.out)); done) | (refine Drawn0.below ?_; repeat (first | exact Drawn0.refl _ | assumption | apply Drawn0.step)))) A4.out).mono ?_); rintro e w6 ⟨rfl, hb⟩; refine ⟨_, rfl, ?_⟩; have n0_ := Aside0.mk (below_step (by repeat (first | (with_reducible first | exact HB.out | apply below_alloc | apply pw_below_drewN | apply below_drew1) | exact HB.out)) hb); clear HB; have HB := n0_; clear n0_; (try clear hb); (try clear hb2); (try clear hk); (try clear hi)))
    go_ret
    exact ⟨by first | rfl | (simp [errW_none, errW_some] <;> rfl) | (simp [*, errW_none, errW_some] <;> rfl), by repeat (first | (with_reducible first | exact HB.out | apply below_alloc | apply pw_below_drewN | apply below_drew1) | exact HB.out)⟩
  · replace c3 := Bool.eq_false_iff.mpr c3
    subst c3
    have H1 : ((grommetlaw16_theirs.f k l0).bind fun t103 => ((path_Format.f t103).bind fun bt106 => (if bt106.2 = 0 then ((path_Parse.f bt106.1).bind fun bt109 => (if (bt109.2.1 == 0 && (bt109.2.2 == 0)) = true then ((grommetlaw16_theirs.f k l0).bind fun t115 => ((path_Same.f k bt109.1 t115).bind fun t118 => (if t118 = true then ((grommetlaw16_alive.f).bind fun t119 => (some t119)) else (some false)))) else (some false))) else (if bt106.1.toList = ([] : List UInt8) then ((grommetlaw16_alive.f).bind fun t108 => (some t108)) else (some false))))) = some r := by rw [if_neg (show ¬ (false = true) by decide)] at H; exact H
    clear H
    have H := H1
    clear H1
    replace H := Option.bind_eq_some_iff.mp H
    obtain ⟨t103, A70, H⟩ := H
    replace H : ((path_Format.f t103).bind fun bt106 => (if bt106.2 = 0 then ((path_Parse.f bt106.1).bind fun bt109 => (if (bt109.2.1 == 0 && (bt109.2.2 == 0)) = true then ((grommetlaw16_theirs.f k l0).bind fun t115 => ((path_Same.f k bt109.1 t115).bind fun t118 => (if t118 = true then ((grommetlaw16_alive.f).bind fun t119 => (some t119)) else (some false)))) else (some false))) else (if bt106.1.toList = ([] : List UInt8) then ((grommetlaw16_alive.f).bind fun t108 => (some t108)) else (some false)))) = some r := H
    have A7 := Aside0.mk A70
    clear A70
    replace H := Option.bind_eq_some_iff.mp H
    obtain ⟨⟨t106, t107⟩, A80, H⟩ := H
    replace H : (if t107 = 0 then ((path_Parse.f t106).bind fun bt109 => (if (bt109.2.1 == 0 && (bt109.2.2 == 0)) = true then ((grommetlaw16_theirs.f k l0).bind fun t115 => ((path_Same.f k bt109.1 t115).bind fun t118 => (if t118 = true then ((grommetlaw16_alive.f).bind fun t119 => (some t119)) else (some false)))) else (some false))) else (if t106.toList = ([] : List UInt8) then ((grommetlaw16_alive.f).bind fun t108 => (some t108)) else (some false))) = some r := H
    have A8 := Aside0.mk A80
    clear A80
    by_cases c9 : t107 = 0
    · rw [if_pos c9] at H
      have c9b0 : (t107 == 0) = true := beq_iff_eq.mpr c9
      have c9b1 : (t107 != 0) = false := bne_eq_false_iff_eq.mpr c9
      clear c9
      replace H := Option.bind_eq_some_iff.mp H
      obtain ⟨⟨t109, t112, t113⟩, A100, H⟩ := H
      replace H : (if (t112 == 0 && (t113 == 0)) = true then ((grommetlaw16_theirs.f k l0).bind fun t115 => ((path_Same.f k t109 t115).bind fun t118 => (if t118 = true then ((grommetlaw16_alive.f).bind fun t119 => (some t119)) else (some false)))) else (some false)) = some r := H
      have A10 := Aside0.mk A100
      clear A100
      by_cases c11 : (t112 == 0 && (t113 == 0)) = true
      · rw [if_pos c11] at H
        have c11b0 : (t112 == 0 && (t113 == 0)) = true := c11
        (try (have c11b1 : decide (t112 = 0 && (t113 == 0)) = true := by simpa using c11))
        (try (have c11b2 : (t112 == 0 && (t113 == 0)) = true := by simpa using c11))
        clear c11
        replace H := Option.bind_eq_some_iff.mp H
        obtain ⟨t115, A120, H⟩ := H
        replace H : ((path_Same.f k t109 t115).bind fun t118 => (if t118 = true then ((grommetlaw16_alive.f).bind fun t119 => (some t119)) else (some false))) = some r := H
        have A12 := Aside0.mk A120
        clear A120
        replace H := Option.bind_eq_some_iff.mp H
        obtain ⟨t118, A130, H⟩ := H
        replace H : (if t118 = true then ((grommetlaw16_alive.f).bind fun t119 => (some t119)) else (some false)) = some r := H
        have A13 := Aside0.mk A130
        clear A130
        by_cases c14 : t118 = true
        · subst c14
          have H1 : ((grommetlaw16_alive.f).bind fun t119 => (some t119)) = some r := by rw [if_pos rfl] at H; exact H
          clear H
          have H := H1
          clear H1
          replace H := Option.bind_eq_some_iff.mp H
          obtain ⟨t119, A150, H⟩ := H
          replace H : (some t119) = some r := H
          have A15 := Aside0.mk A150
          clear A150
          obtain rfl := Option.some.inj H
          go_enter Tryz.func5, Tryz.ntmps5
          go_wp2_with (first | ((with_reducible refine gate_callee (f := 17) rfl ?_); refine goesL_ (some 8) rfl rfl Tryz.func17 (by kernel_rfl) rfl #[.slice A0 l0.length c0] rfl (by (try simp only [List.map_toArray, List.map_cons, List.map_nil]); first | done | rfl | (simp only [List.length_drop, List.length_take]; rfl)) ?_; (with_reducible refine (grommetlaw16_long.calls k _ _ l0 false _ ?side1 ?side2 (hG.below (by first | ((repeat (first | (with_reducible first | exact HB.out | apply below_alloc | apply pw_below_drewN | apply below_drew1 | (refine Glob.below_set ?_ (by assumption) _ _ _)) | exact HB.out)); done) | (refine Drawn0.below ?_; repeat (first | exact Drawn0.refl _ | assumption | apply Drawn0.step)))) A2.out).mono ?_); (case side1 => repeat (first | exact HR0.out | (with_reducible refine Kd.C_alloc ?_ _) | (with_reducible refine Kd.C_drewN ?_ _) | (with_reducible refine Kd.C_drew ?_))); (case side2 => exact HC0.out); rintro e w16 ⟨rfl, hb⟩; refine ⟨_, rfl, ?_⟩; have n0_ := Aside0.mk (below_step (by repeat (first | (with_reducible first | exact HB.out | apply below_alloc | apply pw_below_drewN | apply below_drew1) | exact HB.out)) hb); clear HB; have HB := n0_; clear n0_; (try clear hb); (try clear hb2); (try clear hk); (try clear hi)) | ((with_reducible refine gate_callee (f := 20) rfl ?_); refine goesL_ (some 12) rfl rfl Tryz.func20 (by kernel_rfl) rfl #[.slice A0 l0.length c0] rfl (by (try simp only [List.map_toArray, List.map_cons, List.map_nil]); first | done | rfl | (simp only [List.length_drop, List.length_take]; rfl)) ?_; (with_reducible refine (grommetlaw16_theirs.calls k _ _ l0 t103 _ ?side1 ?side2 (hG.below (by first | ((repeat (first | (with_reducible first | exact HB.out | apply below_alloc | apply pw_below_drewN | apply below_drew1 | (refine Glob.below_set ?_ (by assumption) _ _ _)) | exact HB.out)); done) | (refine Drawn0.below ?_; repeat (first | exact Drawn0.refl _ | assumption | apply Drawn0.step)))) A7.out).mono ?_); (case side1 => repeat (first | exact (Kd.C_below HR0.out HB.out) | (with_reducible refine Kd.C_alloc ?_ _) | (with_reducible refine Kd.C_drewN ?_ _) | (with_reducible refine Kd.C_drew ?_))); (case side2 => exact HC0.out); rintro e w17 ⟨v104, rfl, ho0, hb⟩; refine ⟨_, rfl, ?_⟩; have n0_ := Aside0.mk (Kd.R_lower ho0 (below_size (by repeat (first | (with_reducible first | exact HB.out | apply below_alloc | apply pw_below_drewN | apply below_drew1) | exact HB.out)))); have n1_ := Aside0.mk (below_step (by repeat (first | (with_reducible first | exact HB.out | apply below_alloc | apply pw_below_drewN | apply below_drew1) | exact HB.out)) hb); clear HB; have HO105 := n0_; have HB := n1_; clear n0_ n1_; (try clear hb); (try clear hb2); (try clear hk); (try clear hi); (try clear ho0); obtain ⟨Ao18, co18, eo18⟩ := Kd.R_slice HO105.out; subst eo18) | ((with_reducible refine gate_callee (f := 19) rfl ?_); refine goesL_ (some 13) rfl rfl Tryz.func19 (by kernel_rfl) rfl #[.slice Ao18 t103.length co18] rfl (by (try simp only [List.map_toArray, List.map_cons, List.map_nil]); first | done | rfl | (simp only [List.length_drop, List.length_take]; rfl)) ?_; (with_reducible refine (path_Format.calls _ _ t103 t106 t107 _ ?side1 ?side2 (hG.below (by first | ((repeat (first | (with_reducible first | exact HB.out | apply below_alloc | apply pw_below_drewN | apply below_drew1 | (refine Glob.below_set ?_ (by assumption) _ _ _)) | exact HB.out)); done) | (refine Drawn0.below ?_; repeat (first | exact Drawn0.refl _ | assumption | apply Drawn0.step)))) A8.out).mono ?_); (case side1 => repeat (first | exact (Kd.R_reads' HO105.out).2.2 | (with_reducible refine Kd.C_alloc ?_ _) | (with_reducible refine Kd.C_drewN ?_ _) | (with_reducible refine Kd.C_drew ?_))); (case side2 => exact (Kd.R_reads' HO105.out).2.1); rintro e w19 ⟨rfl, hb⟩; refine ⟨_, rfl, ?_⟩; have n0_ := Aside0.mk (Kd.R_below (by (with_reducible repeat (first | apply Kd.R_alloc | apply Kd.R_drewN | apply Kd.R_drew)); exact HO105.out) hb); have n1_ := Aside0.mk (below_step (by repeat (first | (with_reducible first | exact HB.out | apply below_alloc | apply pw_below_drewN | apply below_drew1) | exact HB.out)) hb); clear HO105; clear HB; have HO105 := n0_; have HB := n1_; clear n0_ n1_; (try clear hb); (try clear hb2); (try clear hk); (try clear hi)) | ((with_reducible refine gate_callee (f := 24) rfl ?_); refine goesL_ (some 25) rfl rfl Tryz.func24 (by kernel_rfl) rfl #[.string t106] rfl (by (try simp only [List.map_toArray, List.map_cons, List.map_nil]); first | done | rfl | (simp only [List.length_drop, List.length_take]; rfl)) ?_; (with_reducible refine (path_Parse.calls t106 t109 t112 t113 _ (hG.below (by first | ((repeat (first | (with_reducible first | exact HB.out | apply below_alloc | apply pw_below_drewN | apply below_drew1 | (refine Glob.below_set ?_ (by assumption) _ _ _)) | exact HB.out)); done) | (refine Drawn0.below ?_; repeat (first | exact Drawn0.refl _ | assumption | apply Drawn0.step)))) A10.out).mono ?_); rintro e w20 ⟨v110, rfl, ho0, hb⟩; refine ⟨_, rfl, ?_⟩; have n0_ := Aside0.mk (Kd.R_elder' (by (with_reducible repeat (first | apply Kd.R_alloc | apply Kd.R_drewN | apply Kd.R_drew)); exact HO105.out) (Kd.R_base ho0) hb); have n1_ := Aside0.mk (Kd.R_lower (Kd.R_new' ho0 (Kd.R_lt (by (with_reducible repeat (first | apply Kd.R_alloc | apply Kd.R_drewN | apply Kd.R_drew)); exact HO105.out))) (below_size (by repeat (first | (with_reducible first | exact HB.out | apply below_alloc | apply pw_below_drewN | apply below_drew1) | exact HB.out)))); have n2_ := Aside0.mk (below_step (by repeat (first | (with_reducible first | exact HB.out | apply below_alloc | apply pw_below_drewN | apply below_drew1) | exact HB.out)) hb); clear HO105; clear HB; have HO105 := n0_; have HO111 := n1_; have HB := n2_; clear n0_ n1_ n2_; (try clear hb); (try clear hb2); (try clear hk); (try clear hi); (try clear ho0)) | ((with_reducible refine gate_dst (N := 6) rfl ?_); refine box_event ?hg (N := 6) ?hd (cs := #[.int .i64 0, .int .i64 0]) (t := 38) ?hr ?_; (case hd => rfl); (case hg => rfl); (case hr => first | (go_simp; done) | (go_simp; rfl)); intro gb114 hg w21 hbox hb; have n0_ := Aside0.mk (Kd.R_below (by (with_reducible repeat (first | apply Kd.R_alloc | apply Kd.R_drewN | apply Kd.R_drew)); exact HO105.out) hb); have n1_ := Aside0.mk (Kd.R_below (by (with_reducible repeat (first | apply Kd.R_alloc | apply Kd.R_drewN | apply Kd.R_drew)); exact HO111.out) hb); have n2_ := Aside0.mk (below_step (by repeat (first | (with_reducible first | exact HB.out | apply below_alloc | apply pw_below_drewN | apply below_drew1) | exact HB.out)) hb); have n3_ := Aside0.mk (hbox); have n4_ := Aside0.mk ((by rw [hg]; exact (below_size (by repeat (first | (with_reducible first | exact HB.out | apply below_alloc | apply pw_below_drewN | apply below_drew1) | exact HB.out))) : w.heap.size ≤ gb114)); have n5_ := Aside0.mk ((by rw [hg]; exact (below_size (by repeat (first | (with_reducible first | exact HB.out | apply below_alloc | apply pw_below_drewN | apply below_drew1) | exact HB.out))) : w.heap.size ≤ gb114)); clear HO105; clear HO111; clear HB; have HO105 := n0_; have HO111 := n1_; have HB := n2_; have BK114 := n3_; have GW114 := n4_; have GE114 := n5_; clear n0_ n1_ n2_ n3_ n4_ n5_; clear hb hbox hg; have hcz22_0 : w21.cell? ⟨gb114, 0, none⟩ = some (.int .i64 0) := (blk_cell BK114.out 0).trans rfl; have hcz22_1 : w21.cell? ⟨gb114, 1, none⟩ = some (.int .i64 0) := (blk_cell BK114.out 1).trans rfl; have hfz22_0 := blk_frozen BK114.out 0; have hfz22_1 := blk_frozen BK114.out 1) | (go_at_call 20; (with_reducible refine (grommetlaw16_theirs.calls k _ _ l0 t115 _ ?side1 ?side2 (hG.below (by first | ((repeat (first | (with_reducible first | exact HB.out | apply below_alloc | apply pw_below_drewN | apply below_drew1 | (refine Glob.below_set ?_ (by assumption) _ _ _)) | exact HB.out)); done) | (refine Drawn0.below ?_; repeat (first | exact Drawn0.refl _ | assumption | apply Drawn0.step)))) A12.out).mono ?_); (case side1 => exact Kd.C_below HR0.out (by repeat (first | (with_reducible first | exact HB.out | apply below_alloc | apply pw_below_drewN | apply below_drew1 | refine below_set ?_ GE114.out) | exact HB.out))); (case side2 => exact HC0.out); rintro e w23 ⟨v116, rfl, ho0, hb⟩; have n0_ := Aside0.mk (Kd.R_elder' (by (with_reducible repeat (first | apply Kd.R_alloc | apply Kd.R_drewN | apply Kd.R_drew)); exact (Kd.R_mono (Kd.R_far (p := ⟨gb114, 1, none⟩) (Kd.R_far (p := ⟨gb114, 0, none⟩) (Kd.R_types HO105.out BK114.out (by decide)) (fun _ hk => hk.2) (.int .i64 t112)) (fun _ hk => hk.2) (.int .i64 t113)) (fun _ h_ => h_.1))) (Kd.R_base ho0) hb); have n1_ := Aside0.mk (Kd.R_elder' (by (with_reducible repeat (first | apply Kd.R_alloc | apply Kd.R_drewN | apply Kd.R_drew)); exact (Kd.R_mono (Kd.R_far (p := ⟨gb114, 1, none⟩) (Kd.R_far (p := ⟨gb114, 0, none⟩) (Kd.R_types HO111.out BK114.out (by decide)) (fun _ hk => hk.2) (.int .i64 t112)) (fun _ hk => hk.2) (.int .i64 t113)) (fun _ h_ => h_.1))) (Kd.R_base ho0) hb); have n2_ := Aside0.mk (Kd.R_lower (Kd.R_new' (Kd.R_new' ho0 (Kd.R_lt (by (with_reducible repeat (first | apply Kd.R_alloc | apply Kd.R_drewN | apply Kd.R_drew)); exact (Kd.R_mono (Kd.R_far (p := ⟨gb114, 1, none⟩) (Kd.R_far (p := ⟨gb114, 0, none⟩) (Kd.R_types HO105.out BK114.out (by decide)) (fun _ hk => hk.2) (.int .i64 t112)) (fun _ hk => hk.2) (.int .i64 t113)) (fun _ h_ => h_.1))))) (Kd.R_lt (by (with_reducible repeat (first | apply Kd.R_alloc | apply Kd.R_drewN | apply Kd.R_drew)); exact (Kd.R_mono (Kd.R_far (p := ⟨gb114, 1, none⟩) (Kd.R_far (p := ⟨gb114, 0, none⟩) (Kd.R_types HO111.out BK114.out (by decide)) (fun _ hk => hk.2) (.int .i64 t112)) (fun _ hk => hk.2) (.int .i64 t113)) (fun _ h_ => h_.1))))) (below_size (by repeat (first | (with_reducible first | exact HB.out | apply below_alloc | apply pw_below_drewN | apply below_drew1 | refine below_set ?_ GE114.out) | exact HB.out)))); have n3_ := Aside0.mk (blk_below (g := gb114) (o := .cells #[.int .i64 t112, .int .i64 t113] 38 (0, 0)) (by (with_reducible repeat (first | refine blk_drewN ?_ _ | refine blk_drew ?_ | refine blk_alloc ?_ _)); refine blk_put (cs := #[.int .i64 t112, .int .i64 0]) ?_ 1 _ rfl; (with_reducible repeat (first | refine blk_drewN ?_ _ | refine blk_drew ?_ | refine blk_alloc ?_ _)); refine blk_put (cs := #[.int .i64 0, .int .i64 0]) ?_ 0 _ rfl; (with_reducible repeat (first | refine blk_drewN ?_ _ | refine blk_drew ?_ | refine blk_alloc ?_ _)); exact BK114.out) hb); have n4_ := Aside0.mk (below_step (by repeat (first | (with_reducible first | exact HB.out | apply below_alloc | apply pw_below_drewN | apply below_drew1 | refine below_set ?_ GE114.out) | exact HB.out)) hb); clear HO105; clear HO111; clear BK114; clear HB; have HO105 := n0_; have HO111 := n1_; have HO117 := n2_; have BK114 := n3_; have HB := n4_; clear n0_ n1_ n2_ n3_ n4_; (try clear hb); (try clear hb2); (try clear hk); (try clear hi); (try clear ho0); obtain ⟨Ao24, co24, eo24⟩ := Kd.R_slice HO111.out; subst eo24; obtain ⟨Ao25, co25, eo25⟩ := Kd.R_slice HO117.out; subst eo25) | (go_at_call 22; (with_reducible refine (path_Same.calls k _ _ t109 _ _ t115 true _ ?side1 ?side2 ?side3 ?side4 (hG.below (by first | ((repeat (first | (with_reducible first | exact HB.out | apply below_alloc | apply pw_below_drewN | apply below_drew1 | (refine Glob.below_set ?_ (by assumption) _ _ _)) | exact HB.out)); done) | (refine Drawn0.below ?_; repeat (first | exact Drawn0.refl _ | assumption | apply Drawn0.step)))) A13.out).mono ?_); (case side1 => repeat (first | exact (Kd.R_reads' HO111.out).2.2 | (with_reducible refine Kd.C_alloc ?_ _) | (with_reducible refine Kd.C_drewN ?_ _) | (with_reducible refine Kd.C_drew ?_))); (case side2 => exact (Kd.R_reads' HO111.out).2.1); (case side3 => repeat (first | exact (Kd.R_reads' HO117.out).2.2 | (with_reducible refine Kd.C_alloc ?_ _) | (with_reducible refine Kd.C_drewN ?_ _) | (with_reducible refine Kd.C_drew ?_))); (case side4 => exact (Kd.R_reads' HO117.out).2.1); rintro e w26 ⟨rfl, hb⟩; have n0_ := Aside0.mk (Kd.R_below (by (with_reducible repeat (first | apply Kd.R_alloc | apply Kd.R_drewN | apply Kd.R_drew)); exact HO105.out) hb); have n1_ := Aside0.mk (Kd.R_below (by (with_reducible repeat (first | apply Kd.R_alloc | apply Kd.R_drewN | apply Kd.R_drew)); exact HO111.out) hb); have n2_ := Aside0.mk (Kd.R_below (by (with_reducible repeat (first | apply Kd.R_alloc | apply Kd.R_drewN | apply Kd.R_drew)); exact HO117.out) hb); have n3_ := Aside0.mk (blk_below (g := gb114) (o := .cells #[.int .i64 t112, .int .i64 t113] 38 (0, 0)) (by (with_reducible repeat (first | refine blk_drewN ?_ _ | refine blk_drew ?_ | refine blk_alloc ?_ _)); exact BK114.out) hb); have n4_ := Aside0.mk (below_step (by repeat (first | (with_reducible first | exact HB.out | apply below_alloc | apply pw_below_drewN | apply below_drew1 | refine below_set ?_ GE114.out) | exact HB.out)) hb); clear HO105; clear HO111; clear HO117; clear BK114; clear HB; have HO105 := n0_; have HO111 := n1_; have HO117 := n2_; have BK114 := n3_; have HB := n4_; clear n0_ n1_ n2_ n3_ n4_; (try clear hb); (try clear hb2); (try clear hk); (try clear hi)) | (go_at_call 18; (with_reducible refine (grommetlaw16_alive.calls  t119 _ (hG.below (by first | ((repeat (first | (with_reducible first | exact HB.out | apply below_alloc | apply pw_below_drewN | apply below_drew1 | (refine Glob.below_set ?_ (by assumption) _ _ _)) | exact HB.out)); done) | (refine Drawn0.below ?_; repeat (first | exact Drawn0.refl _ | assumption | apply Drawn0.step)))) A15.out).mono ?_); rintro e w27 ⟨rfl, hb⟩; have n0_ := Aside0.mk (Kd.R_below (by (with_reducible repeat (first | apply Kd.R_alloc | apply Kd.R_drewN | apply Kd.R_drew)); exact HO105.out) hb); have n1_ := Aside0.mk (Kd.R_below (by (with_reducible repeat (first | apply Kd.R_alloc | apply Kd.R_drewN | apply Kd.R_drew)); exact HO111.out) hb); have n2_ := Aside0.mk (Kd.R_below (by (with_reducible repeat (first | apply Kd.R_alloc | apply Kd.R_drewN | apply Kd.R_drew)); exact HO117.out) hb); have n3_ := Aside0.mk (blk_below (g := gb114) (o := .cells #[.int .i64 t112, .int .i64 t113] 38 (0, 0)) (by (with_reducible repeat (first | refine blk_drewN ?_ _ | refine blk_drew ?_ | refine blk_alloc ?_ _)); exact BK114.out) hb); have n4_ := Aside0.mk (below_step (by repeat (first | (with_reducible first | exact HB.out | apply below_alloc | apply pw_below_drewN | apply below_drew1 | refine below_set ?_ GE114.out) | exact HB.out)) hb); clear HO105; clear HO111; clear HO117; clear BK114; clear HB; have HO105 := n0_; have HO111 := n1_; have HO117 := n2_; have BK114 := n3_; have HB := n4_; clear n0_ n1_ n2_ n3_ n4_; (try clear hb); (try clear hb2); (try clear hk); (try clear hi)))
          go_ret
          exact ⟨by first | rfl | (simp [errW_none, errW_some] <;> rfl) | (simp [*, errW_none, errW_some] <;> rfl), by repeat (first | (with_reducible first | exact HB.out | apply below_alloc | apply pw_below_drewN | apply below_drew1 | refine below_set ?_ GE114.out) | exact HB.out)⟩
        · replace c14 := Bool.eq_false_iff.mpr c14
          subst c14
          have H1 : (some false) = some r := by rw [if_neg (show ¬ (false = true) by decide)] at H; exact H
          clear H
          have H := H1
          clear H1
          obtain rfl := Option.some.inj H
          go_enter Tryz.func5, Tryz.ntmps5
          go_wp2_with (first | ((with_reducible refine gate_callee (f := 17) rfl ?_); refine goesL_ (some 8) rfl rfl Tryz.func17 (by kernel_rfl) rfl #[.slice A0 l0.length c0] rfl (by (try simp only [List.map_toArray, List.map_cons, List.map_nil]); first | done | rfl | (simp only [List.length_drop, List.length_take]; rfl)) ?_; (with_reducible refine (grommetlaw16_long.calls k _ _ l0 false _ ?side1 ?side2 (hG.below (by first | ((repeat (first | (with_reducible first | exact HB.out | apply below_alloc | apply pw_below_drewN | apply below_drew1 | (refine Glob.below_set ?_ (by assumption) _ _ _)) | exact HB.out)); done) | (refine Drawn0.below ?_; repeat (first | exact Drawn0.refl _ | assumption | apply Drawn0.step)))) A2.out).mono ?_); (case side1 => repeat (first | exact HR0.out | (with_reducible refine Kd.C_alloc ?_ _) | (with_reducible refine Kd.C_drewN ?_ _) | (with_reducible refine Kd.C_drew ?_))); (case side2 => exact HC0.out); rintro e w28 ⟨rfl, hb⟩; refine ⟨_, rfl, ?_⟩; have n0_ := Aside0.mk (below_step (by repeat (first | (with_reducible first | exact HB.out | apply below_alloc | apply pw_below_drewN | apply below_drew1) | exact HB.out)) hb); clear HB; have HB := n0_; clear n0_; (try clear hb); (try clear hb2); (try clear hk); (try clear hi)) | ((with_reducible refine gate_callee (f := 20) rfl ?_); refine goesL_ (some 12) rfl rfl Tryz.func20 (by kernel_rfl) rfl #[.slice A0 l0.length c0] rfl (by (try simp only [List.map_toArray, List.map_cons, List.map_nil]); first | done | rfl | (simp only [List.length_drop, List.length_take]; rfl)) ?_; (with_reducible refine (grommetlaw16_theirs.calls k _ _ l0 t103 _ ?side1 ?side2 (hG.below (by first | ((repeat (first | (with_reducible first | exact HB.out | apply below_alloc | apply pw_below_drewN | apply below_drew1 | (refine Glob.below_set ?_ (by assumption) _ _ _)) | exact HB.out)); done) | (refine Drawn0.below ?_; repeat (first | exact Drawn0.refl _ | assumption | apply Drawn0.step)))) A7.out).mono ?_); (case side1 => repeat (first | exact (Kd.C_below HR0.out HB.out) | (with_reducible refine Kd.C_alloc ?_ _) | (with_reducible refine Kd.C_drewN ?_ _) | (with_reducible refine Kd.C_drew ?_))); (case side2 => exact HC0.out); rintro e w29 ⟨v104, rfl, ho0, hb⟩; refine ⟨_, rfl, ?_⟩; have n0_ := Aside0.mk (Kd.R_lower ho0 (below_size (by repeat (first | (with_reducible first | exact HB.out | apply below_alloc | apply pw_below_drewN | apply below_drew1) | exact HB.out)))); have n1_ := Aside0.mk (below_step (by repeat (first | (with_reducible first | exact HB.out | apply below_alloc | apply pw_below_drewN | apply below_drew1) | exact HB.out)) hb); clear HB; have HO105 := n0_; have HB := n1_; clear n0_ n1_; (try clear hb); (try clear hb2); (try clear hk); (try clear hi); (try clear ho0); obtain ⟨Ao30, co30, eo30⟩ := Kd.R_slice HO105.out; subst eo30) | ((with_reducible refine gate_callee (f := 19) rfl ?_); refine goesL_ (some 13) rfl rfl Tryz.func19 (by kernel_rfl) rfl #[.slice Ao30 t103.length co30] rfl (by (try simp only [List.map_toArray, List.map_cons, List.map_nil]); first | done | rfl | (simp only [List.length_drop, List.length_take]; rfl)) ?_; (with_reducible refine (path_Format.calls _ _ t103 t106 t107 _ ?side1 ?side2 (hG.below (by first | ((repeat (first | (with_reducible first | exact HB.out | apply below_alloc | apply pw_below_drewN | apply below_drew1 | (refine Glob.below_set ?_ (by assumption) _ _ _)) | exact HB.out)); done) | (refine Drawn0.below ?_; repeat (first | exact Drawn0.refl _ | assumption | apply Drawn0.step)))) A8.out).mono ?_); (case side1 => repeat (first | exact (Kd.R_reads' HO105.out).2.2 | (with_reducible refine Kd.C_alloc ?_ _) | (with_reducible refine Kd.C_drewN ?_ _) | (with_reducible refine Kd.C_drew ?_))); (case side2 => exact (Kd.R_reads' HO105.out).2.1); rintro e w31 ⟨rfl, hb⟩; refine ⟨_, rfl, ?_⟩; have n0_ := Aside0.mk (Kd.R_below (by (with_reducible repeat (first | apply Kd.R_alloc | apply Kd.R_drewN | apply Kd.R_drew)); exact HO105.out) hb); have n1_ := Aside0.mk (below_step (by repeat (first | (with_reducible first | exact HB.out | apply below_alloc | apply pw_below_drewN | apply below_drew1) | exact HB.out)) hb); clear HO105; clear HB; have HO105 := n0_; have HB := n1_; clear n0_ n1_; (try clear hb); (try clear hb2); (try clear hk); (try clear hi)) | ((with_reducible refine gate_callee (f := 24) rfl ?_); refine goesL_ (some 25) rfl rfl Tryz.func24 (by kernel_rfl) rfl #[.string t106] rfl (by (try simp only [List.map_toArray, List.map_cons, List.map_nil]); first | done | rfl | (simp only [List.length_drop, List.length_take]; rfl)) ?_; (with_reducible refine (path_Parse.calls t106 t109 t112 t113 _ (hG.below (by first | ((repeat (first | (with_reducible first | exact HB.out | apply below_alloc | apply pw_below_drewN | apply below_drew1 | (refine Glob.below_set ?_ (by assumption) _ _ _)) | exact HB.out)); done) | (refine Drawn0.below ?_; repeat (first | exact Drawn0.refl _ | assumption | apply Drawn0.step)))) A10.out).mono ?_); rintro e w32 ⟨v110, rfl, ho0, hb⟩; refine ⟨_, rfl, ?_⟩; have n0_ := Aside0.mk (Kd.R_elder' (by (with_reducible repeat (first | apply Kd.R_alloc | apply Kd.R_drewN | apply Kd.R_drew)); exact HO105.out) (Kd.R_base ho0) hb); have n1_ := Aside0.mk (Kd.R_lower (Kd.R_new' ho0 (Kd.R_lt (by (with_reducible repeat (first | apply Kd.R_alloc | apply Kd.R_drewN | apply Kd.R_drew)); exact HO105.out))) (below_size (by repeat (first | (with_reducible first | exact HB.out | apply below_alloc | apply pw_below_drewN | apply below_drew1) | exact HB.out)))); have n2_ := Aside0.mk (below_step (by repeat (first | (with_reducible first | exact HB.out | apply below_alloc | apply pw_below_drewN | apply below_drew1) | exact HB.out)) hb); clear HO105; clear HB; have HO105 := n0_; have HO111 := n1_; have HB := n2_; clear n0_ n1_ n2_; (try clear hb); (try clear hb2); (try clear hk); (try clear hi); (try clear ho0)) | ((with_reducible refine gate_dst (N := 6) rfl ?_); refine box_event ?hg (N := 6) ?hd (cs := #[.int .i64 0, .int .i64 0]) (t := 38) ?hr ?_; (case hd => rfl); (case hg => rfl); (case hr => first | (go_simp; done) | (go_simp; rfl)); intro gb114 hg w33 hbox hb; have n0_ := Aside0.mk (Kd.R_below (by (with_reducible repeat (first | apply Kd.R_alloc | apply Kd.R_drewN | apply Kd.R_drew)); exact HO105.out) hb); have n1_ := Aside0.mk (Kd.R_below (by (with_reducible repeat (first | apply Kd.R_alloc | apply Kd.R_drewN | apply Kd.R_drew)); exact HO111.out) hb); have n2_ := Aside0.mk (below_step (by repeat (first | (with_reducible first | exact HB.out | apply below_alloc | apply pw_below_drewN | apply below_drew1) | exact HB.out)) hb); have n3_ := Aside0.mk (hbox); have n4_ := Aside0.mk ((by rw [hg]; exact (below_size (by repeat (first | (with_reducible first | exact HB.out | apply below_alloc | apply pw_below_drewN | apply below_drew1) | exact HB.out))) : w.heap.size ≤ gb114)); have n5_ := Aside0.mk ((by rw [hg]; exact (below_size (by repeat (first | (with_reducible first | exact HB.out | apply below_alloc | apply pw_below_drewN | apply below_drew1) | exact HB.out))) : w.heap.size ≤ gb114)); clear HO105; clear HO111; clear HB; have HO105 := n0_; have HO111 := n1_; have HB := n2_; have BK114 := n3_; have GW114 := n4_; have GE114 := n5_; clear n0_ n1_ n2_ n3_ n4_ n5_; clear hb hbox hg; have hcz34_0 : w33.cell? ⟨gb114, 0, none⟩ = some (.int .i64 0) := (blk_cell BK114.out 0).trans rfl; have hcz34_1 : w33.cell? ⟨gb114, 1, none⟩ = some (.int .i64 0) := (blk_cell BK114.out 1).trans rfl; have hfz34_0 := blk_frozen BK114.out 0; have hfz34_1 := blk_frozen BK114.out 1) | (go_at_call 20; (with_reducible refine (grommetlaw16_theirs.calls k _ _ l0 t115 _ ?side1 ?side2 (hG.below (by first | ((repeat (first | (with_reducible first | exact HB.out | apply below_alloc | apply pw_below_drewN | apply below_drew1 | (refine Glob.below_set ?_ (by assumption) _ _ _)) | exact HB.out)); done) | (refine Drawn0.below ?_; repeat (first | exact Drawn0.refl _ | assumption | apply Drawn0.step)))) A12.out).mono ?_); (case side1 => exact Kd.C_below HR0.out (by repeat (first | (with_reducible first | exact HB.out | apply below_alloc | apply pw_below_drewN | apply below_drew1 | refine below_set ?_ GE114.out) | exact HB.out))); (case side2 => exact HC0.out); rintro e w35 ⟨v116, rfl, ho0, hb⟩; have n0_ := Aside0.mk (Kd.R_elder' (by (with_reducible repeat (first | apply Kd.R_alloc | apply Kd.R_drewN | apply Kd.R_drew)); exact (Kd.R_mono (Kd.R_far (p := ⟨gb114, 1, none⟩) (Kd.R_far (p := ⟨gb114, 0, none⟩) (Kd.R_types HO105.out BK114.out (by decide)) (fun _ hk => hk.2) (.int .i64 t112)) (fun _ hk => hk.2) (.int .i64 t113)) (fun _ h_ => h_.1))) (Kd.R_base ho0) hb); have n1_ := Aside0.mk (Kd.R_elder' (by (with_reducible repeat (first | apply Kd.R_alloc | apply Kd.R_drewN | apply Kd.R_drew)); exact (Kd.R_mono (Kd.R_far (p := ⟨gb114, 1, none⟩) (Kd.R_far (p := ⟨gb114, 0, none⟩) (Kd.R_types HO111.out BK114.out (by decide)) (fun _ hk => hk.2) (.int .i64 t112)) (fun _ hk => hk.2) (.int .i64 t113)) (fun _ h_ => h_.1))) (Kd.R_base ho0) hb); have n2_ := Aside0.mk (Kd.R_lower (Kd.R_new' (Kd.R_new' ho0 (Kd.R_lt (by (with_reducible repeat (first | apply Kd.R_alloc | apply Kd.R_drewN | apply Kd.R_drew)); exact (Kd.R_mono (Kd.R_far (p := ⟨gb114, 1, none⟩) (Kd.R_far (p := ⟨gb114, 0, none⟩) (Kd.R_types HO105.out BK114.out (by decide)) (fun _ hk => hk.2) (.int .i64 t112)) (fun _ hk => hk.2) (.int .i64 t113)) (fun _ h_ => h_.1))))) (Kd.R_lt (by (with_reducible repeat (first | apply Kd.R_alloc | apply Kd.R_drewN | apply Kd.R_drew)); exact (Kd.R_mono (Kd.R_far (p := ⟨gb114, 1, none⟩) (Kd.R_far (p := ⟨gb114, 0, none⟩) (Kd.R_types HO111.out BK114.out (by decide)) (fun _ hk => hk.2) (.int .i64 t112)) (fun _ hk => hk.2) (.int .i64 t113)) (fun _ h_ => h_.1))))) (below_size (by repeat (first | (with_reducible first | exact HB.out | apply below_alloc | apply pw_below_drewN | apply below_drew1 | refine below_set ?_ GE114.out) | exact HB.out)))); have n3_ := Aside0.mk (blk_below (g := gb114) (o := .cells #[.int .i64 t112, .int .i64 t113] 38 (0, 0)) (by (with_reducible repeat (first | refine blk_drewN ?_ _ | refine blk_drew ?_ | refine blk_alloc ?_ _)); refine blk_put (cs := #[.int .i64 t112, .int .i64 0]) ?_ 1 _ rfl; (with_reducible repeat (first | refine blk_drewN ?_ _ | refine blk_drew ?_ | refine blk_alloc ?_ _)); refine blk_put (cs := #[.int .i64 0, .int .i64 0]) ?_ 0 _ rfl; (with_reducible repeat (first | refine blk_drewN ?_ _ | refine blk_drew ?_ | refine blk_alloc ?_ _)); exact BK114.out) hb); have n4_ := Aside0.mk (below_step (by repeat (first | (with_reducible first | exact HB.out | apply below_alloc | apply pw_below_drewN | apply below_drew1 | refine below_set ?_ GE114.out) | exact HB.out)) hb); clear HO105; clear HO111; clear BK114; clear HB; have HO105 := n0_; have HO111 := n1_; have HO117 := n2_; have BK114 := n3_; have HB := n4_; clear n0_ n1_ n2_ n3_ n4_; (try clear hb); (try clear hb2); (try clear hk); (try clear hi); (try clear ho0); obtain ⟨Ao36, co36, eo36⟩ := Kd.R_slice HO111.out; subst eo36; obtain ⟨Ao37, co37, eo37⟩ := Kd.R_slice HO117.out; subst eo37) | (go_at_call 22; (with_reducible refine (path_Same.calls k _ _ t109 _ _ t115 false _ ?side1 ?side2 ?side3 ?side4 (hG.below (by first | ((repeat (first | (with_reducible first | exact HB.out | apply below_alloc | apply pw_below_drewN | apply below_drew1 | (refine Glob.below_set ?_ (by assumption) _ _ _)) | exact HB.out)); done) | (refine Drawn0.below ?_; repeat (first | exact Drawn0.refl _ | assumption | apply Drawn0.step)))) A13.out).mono ?_); (case side1 => repeat (first | exact (Kd.R_reads' HO111.out).2.2 | (with_reducible refine Kd.C_alloc ?_ _) | (with_reducible refine Kd.C_drewN ?_ _) | (with_reducible refine Kd.C_drew ?_))); (case side2 => exact (Kd.R_reads' HO111.out).2.1); (case side3 => repeat (first | exact (Kd.R_reads' HO117.out).2.2 | (with_reducible refine Kd.C_alloc ?_ _) | (with_reducible refine Kd.C_drewN ?_ _) | (with_reducible refine Kd.C_drew ?_))); (case side4 => exact (Kd.R_reads' HO117.out).2.1); rintro e w38 ⟨rfl, hb⟩; have n0_ := Aside0.mk (Kd.R_below (by (with_reducible repeat (first | apply Kd.R_alloc | apply Kd.R_drewN | apply Kd.R_drew)); exact HO105.out) hb); have n1_ := Aside0.mk (Kd.R_below (by (with_reducible repeat (first | apply Kd.R_alloc | apply Kd.R_drewN | apply Kd.R_drew)); exact HO111.out) hb); have n2_ := Aside0.mk (Kd.R_below (by (with_reducible repeat (first | apply Kd.R_alloc | apply Kd.R_drewN | apply Kd.R_drew)); exact HO117.out) hb); have n3_ := Aside0.mk (blk_below (g := gb114) (o := .cells #[.int .i64 t112, .int .i64 t113] 38 (0, 0)) (by (with_reducible repeat (first | refine blk_drewN ?_ _ | refine blk_drew ?_ | refine blk_alloc ?_ _)); exact BK114.out) hb); have n4_ := Aside0.mk (below_step (by repeat (first | (with_reducible first | exact HB.out | apply below_alloc | apply pw_below_drewN | apply below_drew1 | refine below_set ?_ GE114.out) | exact HB.out)) hb); clear HO105; clear HO111; clear HO117; clear BK114; clear HB; have HO105 := n0_; have HO111 := n1_; have HO117 := n2_; have BK114 := n3_; have HB := n4_; clear n0_ n1_ n2_ n3_ n4_; (try clear hb); (try clear hb2); (try clear hk); (try clear hi)))
          go_ret
          exact ⟨by first | rfl | (simp [errW_none, errW_some] <;> rfl) | (simp [*, errW_none, errW_some] <;> rfl), by repeat (first | (with_reducible first | exact HB.out | apply below_alloc | apply pw_below_drewN | apply below_drew1 | refine below_set ?_ GE114.out) | exact HB.out)⟩
      · rw [if_neg c11] at H
        have c11b0 : (t112 == 0 && (t113 == 0)) = false := by simpa using c11
        (try (have c11b1 : decide (t112 = 0 && (t113 == 0)) = false := by simpa using c11))
        (try (have c11b2 : (t112 == 0 && (t113 == 0)) = false := by simpa using c11))
        (try (have c11b3 : ¬ (t112 = 0 && (t113 == 0)) := by simpa using c11))
        clear c11
        obtain rfl := Option.some.inj H
        go_enter Tryz.func5, Tryz.ntmps5
        go_wp2_with (first | ((with_reducible refine gate_callee (f := 17) rfl ?_); refine goesL_ (some 8) rfl rfl Tryz.func17 (by kernel_rfl) rfl #[.slice A0 l0.length c0] rfl (by (try simp only [List.map_toArray, List.map_cons, List.map_nil]); first | done | rfl | (simp only [List.length_drop, List.length_take]; rfl)) ?_; (with_reducible refine (grommetlaw16_long.calls k _ _ l0 false _ ?side1 ?side2 (hG.below (by first | ((repeat (first | (with_reducible first | exact HB.out | apply below_alloc | apply pw_below_drewN | apply below_drew1 | (refine Glob.below_set ?_ (by assumption) _ _ _)) | exact HB.out)); done) | (refine Drawn0.below ?_; repeat (first | exact Drawn0.refl _ | assumption | apply Drawn0.step)))) A2.out).mono ?_); (case side1 => repeat (first | exact HR0.out | (with_reducible refine Kd.C_alloc ?_ _) | (with_reducible refine Kd.C_drewN ?_ _) | (with_reducible refine Kd.C_drew ?_))); (case side2 => exact HC0.out); rintro e w39 ⟨rfl, hb⟩; refine ⟨_, rfl, ?_⟩; have n0_ := Aside0.mk (below_step (by repeat (first | (with_reducible first | exact HB.out | apply below_alloc | apply pw_below_drewN | apply below_drew1) | exact HB.out)) hb); clear HB; have HB := n0_; clear n0_; (try clear hb); (try clear hb2); (try clear hk); (try clear hi)) | ((with_reducible refine gate_callee (f := 20) rfl ?_); refine goesL_ (some 12) rfl rfl Tryz.func20 (by kernel_rfl) rfl #[.slice A0 l0.length c0] rfl (by (try simp only [List.map_toArray, List.map_cons, List.map_nil]); first | done | rfl | (simp only [List.length_drop, List.length_take]; rfl)) ?_; (with_reducible refine (grommetlaw16_theirs.calls k _ _ l0 t103 _ ?side1 ?side2 (hG.below (by first | ((repeat (first | (with_reducible first | exact HB.out | apply below_alloc | apply pw_below_drewN | apply below_drew1 | (refine Glob.below_set ?_ (by assumption) _ _ _)) | exact HB.out)); done) | (refine Drawn0.below ?_; repeat (first | exact Drawn0.refl _ | assumption | apply Drawn0.step)))) A7.out).mono ?_); (case side1 => repeat (first | exact (Kd.C_below HR0.out HB.out) | (with_reducible refine Kd.C_alloc ?_ _) | (with_reducible refine Kd.C_drewN ?_ _) | (with_reducible refine Kd.C_drew ?_))); (case side2 => exact HC0.out); rintro e w40 ⟨v104, rfl, ho0, hb⟩; refine ⟨_, rfl, ?_⟩; have n0_ := Aside0.mk (Kd.R_lower ho0 (below_size (by repeat (first | (with_reducible first | exact HB.out | apply below_alloc | apply pw_below_drewN | apply below_drew1) | exact HB.out)))); have n1_ := Aside0.mk (below_step (by repeat (first | (with_reducible first | exact HB.out | apply below_alloc | apply pw_below_drewN | apply below_drew1) | exact HB.out)) hb); clear HB; have HO105 := n0_; have HB := n1_; clear n0_ n1_; (try clear hb); (try clear hb2); (try clear hk); (try clear hi); (try clear ho0); obtain ⟨Ao41, co41, eo41⟩ := Kd.R_slice HO105.out; subst eo41) | ((with_reducible refine gate_callee (f := 19) rfl ?_); refine goesL_ (some 13) rfl rfl Tryz.func19 (by kernel_rfl) rfl #[.slice Ao41 t103.length co41] rfl (by (try simp only [List.map_toArray, List.map_cons, List.map_nil]); first | done | rfl | (simp only [List.length_drop, List.length_take]; rfl)) ?_; (with_reducible refine (path_Format.calls _ _ t103 t106 t107 _ ?side1 ?side2 (hG.below (by first | ((repeat (first | (with_reducible first | exact HB.out | apply below_alloc | apply pw_below_drewN | apply below_drew1 | (refine Glob.below_set ?_ (by assumption) _ _ _)) | exact HB.out)); done) | (refine Drawn0.below ?_; repeat (first | exact Drawn0.refl _ | assumption | apply Drawn0.step)))) A8.out).mono ?_); (case side1 => repeat (first | exact (Kd.R_reads' HO105.out).2.2 | (with_reducible refine Kd.C_alloc ?_ _) | (with_reducible refine Kd.C_drewN ?_ _) | (with_reducible refine Kd.C_drew ?_))); (case side2 => exact (Kd.R_reads' HO105.out).2.1); rintro e w42 ⟨rfl, hb⟩; refine ⟨_, rfl, ?_⟩; have n0_ := Aside0.mk (Kd.R_below (by (with_reducible repeat (first | apply Kd.R_alloc | apply Kd.R_drewN | apply Kd.R_drew)); exact HO105.out) hb); have n1_ := Aside0.mk (below_step (by repeat (first | (with_reducible first | exact HB.out | apply below_alloc | apply pw_below_drewN | apply below_drew1) | exact HB.out)) hb); clear HO105; clear HB; have HO105 := n0_; have HB := n1_; clear n0_ n1_; (try clear hb); (try clear hb2); (try clear hk); (try clear hi)) | ((with_reducible refine gate_callee (f := 24) rfl ?_); refine goesL_ (some 25) rfl rfl Tryz.func24 (by kernel_rfl) rfl #[.string t106] rfl (by (try simp only [List.map_toArray, List.map_cons, List.map_nil]); first | done | rfl | (simp only [List.length_drop, List.length_take]; rfl)) ?_; (with_reducible refine (path_Parse.calls t106 t109 t112 t113 _ (hG.below (by first | ((repeat (first | (with_reducible first | exact HB.out | apply below_alloc | apply pw_below_drewN | apply below_drew1 | (refine Glob.below_set ?_ (by assumption) _ _ _)) | exact HB.out)); done) | (refine Drawn0.below ?_; repeat (first | exact Drawn0.refl _ | assumption | apply Drawn0.step)))) A10.out).mono ?_); rintro e w43 ⟨v110, rfl, ho0, hb⟩; refine ⟨_, rfl, ?_⟩; have n0_ := Aside0.mk (Kd.R_elder' (by (with_reducible repeat (first | apply Kd.R_alloc | apply Kd.R_drewN | apply Kd.R_drew)); exact HO105.out) (Kd.R_base ho0) hb); have n1_ := Aside0.mk (Kd.R_lower (Kd.R_new' ho0 (Kd.R_lt (by (with_reducible repeat (first | apply Kd.R_alloc | apply Kd.R_drewN | apply Kd.R_drew)); exact HO105.out))) (below_size (by repeat (first | (with_reducible first | exact HB.out | apply below_alloc | apply pw_below_drewN | apply below_drew1) | exact HB.out)))); have n2_ := Aside0.mk (below_step (by repeat (first | (with_reducible first | exact HB.out | apply below_alloc | apply pw_below_drewN | apply below_drew1) | exact HB.out)) hb); clear HO105; clear HB; have HO105 := n0_; have HO111 := n1_; have HB := n2_; clear n0_ n1_ n2_; (try clear hb); (try clear hb2); (try clear hk); (try clear hi); (try clear ho0)) | ((with_reducible refine gate_dst (N := 6) rfl ?_); refine box_event ?hg (N := 6) ?hd (cs := #[.int .i64 0, .int .i64 0]) (t := 38) ?hr ?_; (case hd => rfl); (case hg => rfl); (case hr => first | (go_simp; done) | (go_simp; rfl)); intro gb114 hg w44 hbox hb; have n0_ := Aside0.mk (Kd.R_below (by (with_reducible repeat (first | apply Kd.R_alloc | apply Kd.R_drewN | apply Kd.R_drew)); exact HO105.out) hb); have n1_ := Aside0.mk (Kd.R_below (by (with_reducible repeat (first | apply Kd.R_alloc | apply Kd.R_drewN | apply Kd.R_drew)); exact HO111.out) hb); have n2_ := Aside0.mk (below_step (by repeat (first | (with_reducible first | exact HB.out | apply below_alloc | apply pw_below_drewN | apply below_drew1) | exact HB.out)) hb); have n3_ := Aside0.mk (hbox); have n4_ := Aside0.mk ((by rw [hg]; exact (below_size (by repeat (first | (with_reducible first | exact HB.out | apply below_alloc | apply pw_below_drewN | apply below_drew1) | exact HB.out))) : w.heap.size ≤ gb114)); have n5_ := Aside0.mk ((by rw [hg]; exact (below_size (by repeat (first | (with_reducible first | exact HB.out | apply below_alloc | apply pw_below_drewN | apply below_drew1) | exact HB.out))) : w.heap.size ≤ gb114)); clear HO105; clear HO111; clear HB; have HO105 := n0_; have HO111 := n1_; have HB := n2_; have BK114 := n3_; have GW114 := n4_; have GE114 := n5_; clear n0_ n1_ n2_ n3_ n4_ n5_; clear hb hbox hg; have hcz45_0 : w44.cell? ⟨gb114, 0, none⟩ = some (.int .i64 0) := (blk_cell BK114.out 0).trans rfl; have hcz45_1 : w44.cell? ⟨gb114, 1, none⟩ = some (.int .i64 0) := (blk_cell BK114.out 1).trans rfl; have hfz45_0 := blk_frozen BK114.out 0; have hfz45_1 := blk_frozen BK114.out 1))
        go_ret
        exact ⟨by first | rfl | (simp [errW_none, errW_some] <;> rfl) | (simp [*, errW_none, errW_some] <;> rfl), by repeat (first | (with_reducible first | exact HB.out | apply below_alloc | apply pw_below_drewN | apply below_drew1 | refine below_set ?_ GE114.out) | exact HB.out)⟩
    · rw [if_neg c9] at H
      have c9b0 : (t107 == 0) = false := beq_eq_false_iff_ne.mpr c9
      have c9b1 : (t107 != 0) = true := bne_iff_ne.mpr c9
      by_cases c46 : t106.toList = ([] : List UInt8)
      · rw [if_pos c46] at H
        have c46b0 : (t106.toList == ([] : List UInt8)) = true := beq_iff_eq.mpr c46
        have c46b1 : (t106.toList != ([] : List UInt8)) = false := bne_eq_false_iff_eq.mpr c46
        clear c46
        replace H := Option.bind_eq_some_iff.mp H
        obtain ⟨t108, A470, H⟩ := H
        replace H : (some t108) = some r := H
        have A47 := Aside0.mk A470
        clear A470
        obtain rfl := Option.some.inj H
        go_enter Tryz.func5, Tryz.ntmps5
        go_wp2_with (first | ((with_reducible refine gate_callee (f := 17) rfl ?_); refine goesL_ (some 8) rfl rfl Tryz.func17 (by kernel_rfl) rfl #[.slice A0 l0.length c0] rfl (by (try simp only [List.map_toArray, List.map_cons, List.map_nil]); first | done | rfl | (simp only [List.length_drop, List.length_take]; rfl)) ?_; (with_reducible refine (grommetlaw16_long.calls k _ _ l0 false _ ?side1 ?side2 (hG.below (by first | ((repeat (first | (with_reducible first | exact HB.out | apply below_alloc | apply pw_below_drewN | apply below_drew1 | (refine Glob.below_set ?_ (by assumption) _ _ _)) | exact HB.out)); done) | (refine Drawn0.below ?_; repeat (first | exact Drawn0.refl _ | assumption | apply Drawn0.step)))) A2.out).mono ?_); (case side1 => repeat (first | exact HR0.out | (with_reducible refine Kd.C_alloc ?_ _) | (with_reducible refine Kd.C_drewN ?_ _) | (with_reducible refine Kd.C_drew ?_))); (case side2 => exact HC0.out); rintro e w48 ⟨rfl, hb⟩; refine ⟨_, rfl, ?_⟩; have n0_ := Aside0.mk (below_step (by repeat (first | (with_reducible first | exact HB.out | apply below_alloc | apply pw_below_drewN | apply below_drew1) | exact HB.out)) hb); clear HB; have HB := n0_; clear n0_; (try clear hb); (try clear hb2); (try clear hk); (try clear hi)) | ((with_reducible refine gate_callee (f := 20) rfl ?_); refine goesL_ (some 12) rfl rfl Tryz.func20 (by kernel_rfl) rfl #[.slice A0 l0.length c0] rfl (by (try simp only [List.map_toArray, List.map_cons, List.map_nil]); first | done | rfl | (simp only [List.length_drop, List.length_take]; rfl)) ?_; (with_reducible refine (grommetlaw16_theirs.calls k _ _ l0 t103 _ ?side1 ?side2 (hG.below (by first | ((repeat (first | (with_reducible first | exact HB.out | apply below_alloc | apply pw_below_drewN | apply below_drew1 | (refine Glob.below_set ?_ (by assumption) _ _ _)) | exact HB.out)); done) | (refine Drawn0.below ?_; repeat (first | exact Drawn0.refl _ | assumption | apply Drawn0.step)))) A7.out).mono ?_); (case side1 => repeat (first | exact (Kd.C_below HR0.out HB.out) | (with_reducible refine Kd.C_alloc ?_ _) | (with_reducible refine Kd.C_drewN ?_ _) | (with_reducible refine Kd.C_drew ?_))); (case side2 => exact HC0.out); rintro e w49 ⟨v104, rfl, ho0, hb⟩; refine ⟨_, rfl, ?_⟩; have n0_ := Aside0.mk (Kd.R_lower ho0 (below_size (by repeat (first | (with_reducible first | exact HB.out | apply below_alloc | apply pw_below_drewN | apply below_drew1) | exact HB.out)))); have n1_ := Aside0.mk (below_step (by repeat (first | (with_reducible first | exact HB.out | apply below_alloc | apply pw_below_drewN | apply below_drew1) | exact HB.out)) hb); clear HB; have HO105 := n0_; have HB := n1_; clear n0_ n1_; (try clear hb); (try clear hb2); (try clear hk); (try clear hi); (try clear ho0); obtain ⟨Ao50, co50, eo50⟩ := Kd.R_slice HO105.out; subst eo50) | ((with_reducible refine gate_callee (f := 19) rfl ?_); refine goesL_ (some 13) rfl rfl Tryz.func19 (by kernel_rfl) rfl #[.slice Ao50 t103.length co50] rfl (by (try simp only [List.map_toArray, List.map_cons, List.map_nil]); first | done | rfl | (simp only [List.length_drop, List.length_take]; rfl)) ?_; (with_reducible refine (path_Format.calls _ _ t103 t106 t107 _ ?side1 ?side2 (hG.below (by first | ((repeat (first | (with_reducible first | exact HB.out | apply below_alloc | apply pw_below_drewN | apply below_drew1 | (refine Glob.below_set ?_ (by assumption) _ _ _)) | exact HB.out)); done) | (refine Drawn0.below ?_; repeat (first | exact Drawn0.refl _ | assumption | apply Drawn0.step)))) A8.out).mono ?_); (case side1 => repeat (first | exact (Kd.R_reads' HO105.out).2.2 | (with_reducible refine Kd.C_alloc ?_ _) | (with_reducible refine Kd.C_drewN ?_ _) | (with_reducible refine Kd.C_drew ?_))); (case side2 => exact (Kd.R_reads' HO105.out).2.1); rintro e w51 ⟨rfl, hb⟩; refine ⟨_, rfl, ?_⟩; have n0_ := Aside0.mk (Kd.R_below (by (with_reducible repeat (first | apply Kd.R_alloc | apply Kd.R_drewN | apply Kd.R_drew)); exact HO105.out) hb); have n1_ := Aside0.mk (below_step (by repeat (first | (with_reducible first | exact HB.out | apply below_alloc | apply pw_below_drewN | apply below_drew1) | exact HB.out)) hb); clear HO105; clear HB; have HO105 := n0_; have HB := n1_; clear n0_ n1_; (try clear hb); (try clear hb2); (try clear hk); (try clear hi)) | (go_at_call 18; (with_reducible refine (grommetlaw16_alive.calls  t108 _ (hG.below (by first | ((repeat (first | (with_reducible first | exact HB.out | apply below_alloc | apply pw_below_drewN | apply below_drew1 | (refine Glob.below_set ?_ (by assumption) _ _ _)) | exact HB.out)); done) | (refine Drawn0.below ?_; repeat (first | exact Drawn0.refl _ | assumption | apply Drawn0.step)))) A47.out).mono ?_); rintro e w52 ⟨rfl, hb⟩; have n0_ := Aside0.mk (Kd.R_below (by (with_reducible repeat (first | apply Kd.R_alloc | apply Kd.R_drewN | apply Kd.R_drew)); exact HO105.out) hb); have n1_ := Aside0.mk (below_step (by repeat (first | (with_reducible first | exact HB.out | apply below_alloc | apply pw_below_drewN | apply below_drew1) | exact HB.out)) hb); clear HO105; clear HB; have HO105 := n0_; have HB := n1_; clear n0_ n1_; (try clear hb); (try clear hb2); (try clear hk); (try clear hi)))
        go_ret
        exact ⟨by first | rfl | (simp [errW_none, errW_some] <;> rfl) | (simp [*, errW_none, errW_some] <;> rfl), by repeat (first | (with_reducible first | exact HB.out | apply below_alloc | apply pw_below_drewN | apply below_drew1) | exact HB.out)⟩
      · rw [if_neg c46] at H
        have c46b0 : (t106.toList == ([] : List UInt8)) = false := beq_eq_false_iff_ne.mpr c46
        have c46b1 : (t106.toList != ([] : List UInt8)) = true := bne_iff_ne.mpr c46
        obtain rfl := Option.some.inj H
        go_enter Tryz.func5, Tryz.ntmps5
        go_wp2_with (first | ((with_reducible refine gate_callee (f := 17) rfl ?_); refine goesL_ (some 8) rfl rfl Tryz.func17 (by kernel_rfl) rfl #[.slice A0 l0.length c0] rfl (by (try simp only [List.map_toArray, List.map_cons, List.map_nil]); first | done | rfl | (simp only [List.length_drop, List.length_take]; rfl)) ?_; (with_reducible refine (grommetlaw16_long.calls k _ _ l0 false _ ?side1 ?side2 (hG.below (by first | ((repeat (first | (with_reducible first | exact HB.out | apply below_alloc | apply pw_below_drewN | apply below_drew1 | (refine Glob.below_set ?_ (by assumption) _ _ _)) | exact HB.out)); done) | (refine Drawn0.below ?_; repeat (first | exact Drawn0.refl _ | assumption | apply Drawn0.step)))) A2.out).mono ?_); (case side1 => repeat (first | exact HR0.out | (with_reducible refine Kd.C_alloc ?_ _) | (with_reducible refine Kd.C_drewN ?_ _) | (with_reducible refine Kd.C_drew ?_))); (case side2 => exact HC0.out); rintro e w53 ⟨rfl, hb⟩; refine ⟨_, rfl, ?_⟩; have n0_ := Aside0.mk (below_step (by repeat (first | (with_reducible first | exact HB.out | apply below_alloc | apply pw_below_drewN | apply below_drew1) | exact HB.out)) hb); clear HB; have HB := n0_; clear n0_; (try clear hb); (try clear hb2); (try clear hk); (try clear hi)) | ((with_reducible refine gate_callee (f := 20) rfl ?_); refine goesL_ (some 12) rfl rfl Tryz.func20 (by kernel_rfl) rfl #[.slice A0 l0.length c0] rfl (by (try simp only [List.map_toArray, List.map_cons, List.map_nil]); first | done | rfl | (simp only [List.length_drop, List.length_take]; rfl)) ?_; (with_reducible refine (grommetlaw16_theirs.calls k _ _ l0 t103 _ ?side1 ?side2 (hG.below (by first | ((repeat (first | (with_reducible first | exact HB.out | apply below_alloc | apply pw_below_drewN | apply below_drew1 | (refine Glob.below_set ?_ (by assumption) _ _ _)) | exact HB.out)); done) | (refine Drawn0.below ?_; repeat (first | exact Drawn0.refl _ | assumption | apply Drawn0.step)))) A7.out).mono ?_); (case side1 => repeat (first | exact (Kd.C_below HR0.out HB.out) | (with_reducible refine Kd.C_alloc ?_ _) | (with_reducible refine Kd.C_drewN ?_ _) | (with_reducible refine Kd.C_drew ?_))); (case side2 => exact HC0.out); rintro e w54 ⟨v104, rfl, ho0, hb⟩; refine ⟨_, rfl, ?_⟩; have n0_ := Aside0.mk (Kd.R_lower ho0 (below_size (by repeat (first | (with_reducible first | exact HB.out | apply below_alloc | apply pw_below_drewN | apply below_drew1) | exact HB.out)))); have n1_ := Aside0.mk (below_step (by repeat (first | (with_reducible first | exact HB.out | apply below_alloc | apply pw_below_drewN | apply below_drew1) | exact HB.out)) hb); clear HB; have HO105 := n0_; have HB := n1_; clear n0_ n1_; (try clear hb); (try clear hb2); (try clear hk); (try clear hi); (try clear ho0); obtain ⟨Ao55, co55, eo55⟩ := Kd.R_slice HO105.out; subst eo55) | ((with_reducible refine gate_callee (f := 19) rfl ?_); refine goesL_ (some 13) rfl rfl Tryz.func19 (by kernel_rfl) rfl #[.slice Ao55 t103.length co55] rfl (by (try simp only [List.map_toArray, List.map_cons, List.map_nil]); first | done | rfl | (simp only [List.length_drop, List.length_take]; rfl)) ?_; (with_reducible refine (path_Format.calls _ _ t103 t106 t107 _ ?side1 ?side2 (hG.below (by first | ((repeat (first | (with_reducible first | exact HB.out | apply below_alloc | apply pw_below_drewN | apply below_drew1 | (refine Glob.below_set ?_ (by assumption) _ _ _)) | exact HB.out)); done) | (refine Drawn0.below ?_; repeat (first | exact Drawn0.refl _ | assumption | apply Drawn0.step)))) A8.out).mono ?_); (case side1 => repeat (first | exact (Kd.R_reads' HO105.out).2.2 | (with_reducible refine Kd.C_alloc ?_ _) | (with_reducible refine Kd.C_drewN ?_ _) | (with_reducible refine Kd.C_drew ?_))); (case side2 => exact (Kd.R_reads' HO105.out).2.1); rintro e w56 ⟨rfl, hb⟩; refine ⟨_, rfl, ?_⟩; have n0_ := Aside0.mk (Kd.R_below (by (with_reducible repeat (first | apply Kd.R_alloc | apply Kd.R_drewN | apply Kd.R_drew)); exact HO105.out) hb); have n1_ := Aside0.mk (below_step (by repeat (first | (with_reducible first | exact HB.out | apply below_alloc | apply pw_below_drewN | apply below_drew1) | exact HB.out)) hb); clear HO105; clear HB; have HO105 := n0_; have HB := n1_; clear n0_ n1_; (try clear hb); (try clear hb2); (try clear hk); (try clear hi)))
        go_ret
        exact ⟨by first | rfl | (simp [errW_none, errW_some] <;> rfl) | (simp [*, errW_none, errW_some] <;> rfl), by repeat (first | (with_reducible first | exact HB.out | apply below_alloc | apply pw_below_drewN | apply below_drew1) | exact HB.out)⟩

end Go.Proofs.YtmkdjgmdfhagfaaGreatDoor.PX

/- PathBack's pure statement: for every list of at most a million steps the law's Lean function answers true. -/
namespace Go.Proofs.YtmkdjgmdfhagfaaGreatDoor.Pure
open Go.RowKit Go.Proofs.YtmkdjgmdfhagfaaGreatDoor.PX Go.Proofs.YtmkdjgmdfhagfaaGreatDoor.Plug Go.Proofs.YtmkdjgmdfhagfaaGreatDoor.Utf Go.Proofs.YtmkdjgmdfhagfaaGreatDoor.Paths Go.Proofs.YtmkdjgmdfhagfaaGreatDoorW.PrintWords Go.Proofs.YtmkdjgmdfhagfaaGreatDoorW.PrintLast
theorem PathBack (l : List Sr) (_hg : ∀ x ∈ l, Opened.goodStep x) (hbk : Opened.bulkL Opened.bulkStep l ≤ 1048576) : ∃ k, grommetlaw16_PathBack.f k l = some true := by
  have hb := Nat.le_trans (Opened.steps_len l) hbk
  refine ⟨l.length + 200, ?_⟩
  obtain ⟨b, hl, _⟩ := long_of l (by omega) (l.length + 200) (by omega)
  unfold grommetlaw16_PathBack.f
  rw [hl, Option.bind_some]
  cases b with
  | true => rw [if_pos rfl, alive16]; rfl
  | false =>
    have hT := theirs_of l (by omega) (l.length + 200) (by omega)
    have hFF : path_Format.f (l.map conv) = some (⟨(fmtB (l.map conv)).1.toArray⟩, (fmtB (l.map conv)).2) := rfl
    rw [if_neg Bool.false_ne_true, hT, Option.bind_some, hFF, Option.bind_some]
    dsimp only
    by_cases e : (fmtB (l.map conv)).2 = 0
    · have hS := same_clean (l.map conv) (by rw [List.length_map]; omega) (l.length + 200) (by rw [List.length_map]; omega)
      rw [if_pos e, parse_fmt _ e, Option.bind_some]
      dsimp only
      rw [if_pos (by decide), Option.bind_some, hS, Option.bind_some, if_pos rfl, alive16]; rfl
    · rw [if_neg e, fmtB_bad _ e, if_pos (by rw [Lib.toList_data]), alive16]; rfl
end Go.Proofs.YtmkdjgmdfhagfaaGreatDoor.Pure

/- YtmkdjgmdfhagfaaGreatDoorFGrommetref01Decode: what print.py told of Go functions, for this claim. -/
namespace Go.Proofs.YtmkdjgmdfhagfaaGreatDoor.PX
open Go.RowKit Go.Proofs.YtmkdjgmdfhagfaaGreatDoorW.PrintWords Go.Proofs.YtmkdjgmdfhagfaaGreatDoorW.PrintLast Go.Proofs.YtmkdjgmdfhagfaaGreatDoorW.PrintMore Go.Proofs.YtmkdjgmdfhagfaaGreatDoor
attribute [local go_sem] max2_int min2_int max_two min_two max_three min_three max_four min_four   -- for this text's walks alone
set_option linter.unusedVariables false
set_option linter.unusedSimpArgs false

/-! ### grommetref01_Decode: function 33 -/
def grommetref01_Decode.l0 : Nat → ByteArray → List Int → Int → Option (List Int × Int × Int)
  | 0, _, _, _ => none
  | k + 1, x0, x4, x5 => if x5 < (x0.size : Int) then (if 0 ≤ x5 then (if x5 ≤ (x0.size : Int) then ((grommetref01_First.f k (x0.extract (x5 : Int).toNat x0.size)).bind fun bt102 => (if bt102.1 < 0 then (some (([] : List Int), 8, x5)) else (if x4.length < 17592186044416 then (grommetref01_Decode.l0 k x0 (x4 ++ [bt102.1]) (wrap64 (x5 + bt102.2))) else (none)))) else (none)) else (none)) else (some (x4, 0, 0))
def grommetref01_Decode.f (k : Nat) (a0 : ByteArray) : Option (List Int × Int × Int) := grommetref01_Decode.l0 k a0 ([] : List Int) 0
set_option maxHeartbeats 8000000 in
set_option maxRecDepth 100000 in
theorem grommetref01_Decode.calls (k : Nat) (a0 : ByteArray) (r1 : List Int) (r2 : Int) (r3 : Int) (w : World) (hG : Glob.G w) (h : grommetref01_Decode.f k a0 = some (r1, r2, r3)) :
    Calls Tryz.prog 33 #[.string a0] w fun e w' => ∃ v0_ : Value, e = .returned (.tuple #[v0_, .agg #[.int .i64 r2, .int .i64 r3]]) ∧ Kd.R (Kd.int .i64) 3 w' w.heap.size (fun _ => True) v0_ r1 ∧ Below w.heap.size w w' := by
  have hu38 := Tryz.underlying38
  have HB := Aside0.mk (Below.refl w.heap.size w)
  have H : (grommetref01_Decode.l0 k a0 ([] : List Int) 0) = some (r1, r2, r3) := h
  clear h
  have H' := Aside0.mk H
  clear H
  go_enter Tryz.func33, Tryz.ntmps33
  go_wp2_with (first | ((with_reducible refine gate_dst (N := 3) rfl ?_); refine box_event ?hg (N := 3) ?hd (cs := #[.int .i64 0, .int .i64 0]) (t := 38) ?hr ?_; (case hd => rfl); (case hg => rfl); (case hr => first | (go_simp; done) | (go_simp; rfl)); intro gb101 hg w2 hbox hb; have n0_ := Aside0.mk (below_step (by repeat (first | (with_reducible first | exact HB.out | apply below_alloc | apply pw_below_drewN | apply below_drew1) | exact HB.out)) hb); have n1_ := Aside0.mk (hbox); have n2_ := Aside0.mk ((by rw [hg]; exact (below_size (by repeat (first | (with_reducible first | exact HB.out | apply below_alloc | apply pw_below_drewN | apply below_drew1) | exact HB.out))) : w.heap.size ≤ gb101)); have n3_ := Aside0.mk ((by rw [hg]; exact (below_size (by repeat (first | (with_reducible first | exact HB.out | apply below_alloc | apply pw_below_drewN | apply below_drew1) | exact HB.out))) : w.heap.size ≤ gb101)); clear HB; have HB := n0_; have BK101 := n1_; have GW101 := n2_; have GE101 := n3_; clear n0_ n1_ n2_ n3_; clear hb hbox hg))
  go_loopg [4, 5] k (fun kq v4 v5 w' => ∃ (x4_1 : List Int) (x5_1 : Int) (x102000_1 : Int) (x102001_1 : Int), v5 = .int .i64 x5_1 ∧ Aside0 (grommetref01_Decode.l0 kq a0 x4_1 x5_1 = some (r1, r2, r3)) ∧ Aside0 (kq ≤ k) ∧ Aside0 (Kd.R (Kd.int .i64) 3 w' w.heap.size (fun _ => True) v4 x4_1) ∧ Aside0 (w'.heap[gb101]? = some (.cells #[.int .i64 x102000_1, .int .i64 x102001_1] 38 (0, 0))) ∧ Aside0 (Below w.heap.size w w'))
  case atStart => exact ⟨(([] : List Int)), (0), (0), (0), (by first | rfl | (simp; done) | (simp [*]; done)), H', ⟨Nat.le_refl _⟩, ⟨by first | exact Kd.R_nil _ _ _ _ _ | exact Kd.N_nil _ _ _ _ _ | exact Kd.V_nil _ _ _ _ _ | exact Kd.Q_nil _ _ _ _ _ | exact Kd.S_nil _ _ _ _ _⟩, ⟨by (with_reducible repeat (first | refine blk_drewN ?_ _ | refine blk_drew ?_ | refine blk_alloc ?_ _)); exact BK101.out⟩, ⟨by repeat (first | (with_reducible first | exact HB.out | apply below_alloc | apply pw_below_drewN | apply below_drew1 | refine below_set ?_ GE101.out) | exact HB.out)⟩⟩
  case round =>
    clear H'
    try clear p2
    obtain ⟨x4_1, x5_1, x102000_1, x102001_1, rfl, HA, HK1, HO_4, BK101, HB⟩ := hrel
    cases gk with
    | zero => exact absurd HA.out (by simp [grommetref01_Decode.l0])
    | succ k1 =>
      have H := HA.out
      clear HA
      simp only [grommetref01_Decode.l0] at H
      by_cases c3 : x5_1 < (a0.size : Int)
      · rw [if_pos c3] at H
        have c3b0 : decide (x5_1 < (a0.size : Int)) = true := decide_eq_true c3
        clear c3
        by_cases c4 : 0 ≤ x5_1
        · rw [if_pos c4] at H
          have c4b0 := eq_true c4
          have c4b1 : decide (0 ≤ x5_1) = true := decide_eq_true c4
          clear c4
          by_cases c5 : x5_1 ≤ (a0.size : Int)
          · rw [if_pos c5] at H
            have c5b0 := eq_true c5
            have c5b1 : decide (x5_1 ≤ (a0.size : Int)) = true := decide_eq_true c5
            clear c5
            replace H := Option.bind_eq_some_iff.mp H
            obtain ⟨⟨t102, t103⟩, A60, H⟩ := H
            replace H : (if t102 < 0 then (some (([] : List Int), 8, x5_1)) else (if x4_1.length < 17592186044416 then (grommetref01_Decode.l0 k1 a0 (x4_1 ++ [t102]) (wrap64 (x5_1 + t103))) else (none))) = some (r1, r2, r3) := H
            have A6 := Aside0.mk A60
            clear A60
            by_cases c7 : t102 < 0
            · rw [if_pos c7] at H
              have c7b0 : decide (t102 < 0) = true := decide_eq_true c7
              clear c7
              simp only [Option.some.injEq, Prod.mk.injEq] at H
              obtain ⟨rfl, rfl, rfl⟩ := H
              go_wp2_with (first | ((with_reducible refine gate_callee (f := 62) rfl ?_); refine goesL_ (some 16) rfl rfl Tryz.func62 (by kernel_rfl) rfl #[.string (a0.extract (x5_1 : Int).toNat a0.size)] rfl (by (try simp only [List.map_toArray, List.map_cons, List.map_nil]); first | done | rfl | (simp only [List.length_drop, List.length_take]; rfl)) ?_; (with_reducible refine (grommetref01_First.calls k1 (a0.extract (x5_1 : Int).toNat a0.size) t102 t103 _ (hG.below (by first | ((repeat (first | (with_reducible first | exact HB.out | apply below_alloc | apply pw_below_drewN | apply below_drew1 | (refine Glob.below_set ?_ (by assumption) _ _ _)) | exact HB.out)); done) | (refine Drawn0.below ?_; repeat (first | exact Drawn0.refl _ | assumption | apply Drawn0.step)))) A6.out).mono ?_); rintro e w8 ⟨rfl, hb⟩; refine ⟨_, rfl, ?_⟩; have n0_ := Aside0.mk (Kd.R_below (by (with_reducible repeat (first | apply Kd.R_alloc | apply Kd.R_drewN | apply Kd.R_drew)); exact HO_4.out) hb); have n1_ := Aside0.mk (blk_below (g := gb101) (o := .cells #[.int .i64 x102000_1, .int .i64 x102001_1] 38 (0, 0)) (by (with_reducible repeat (first | refine blk_drewN ?_ _ | refine blk_drew ?_ | refine blk_alloc ?_ _)); exact BK101.out) hb); have n2_ := Aside0.mk (below_step (by repeat (first | (with_reducible first | exact HB.out | apply below_alloc | apply pw_below_drewN | apply below_drew1 | refine below_set ?_ GE101.out) | exact HB.out)) hb); clear HO_4; clear BK101; clear HB; have HO_4 := n0_; have BK101 := n1_; have HB := n2_; clear n0_ n1_ n2_; (try clear hb); (try clear hb2); (try clear hk); (try clear hi); have hcz9_0 : w8.cell? ⟨gb101, 0, none⟩ = some (.int .i64 x102000_1) := (blk_cell BK101.out 0).trans rfl; have hcz9_1 : w8.cell? ⟨gb101, 1, none⟩ = some (.int .i64 x102001_1) := (blk_cell BK101.out 1).trans rfl; have hfz9_0 := blk_frozen BK101.out 0; have hfz9_1 := blk_frozen BK101.out 1))
              refine bodyPost_ret (results_tc rfl _ _ gb101 38 #[.int .i64 8, .int .i64 x5_1] (0, 0) _ rfl (by (with_reducible repeat (first | refine blk_drewN ?_ _ | refine blk_drew ?_ | refine blk_alloc ?_ _)); refine blk_put (cs := #[.int .i64 8, .int .i64 x102001_1]) ?_ 1 _ rfl; (with_reducible repeat (first | refine blk_drewN ?_ _ | refine blk_drew ?_ | refine blk_alloc ?_ _)); refine blk_put (cs := #[.int .i64 x102000_1, .int .i64 x102001_1]) ?_ 0 _ rfl; (with_reducible repeat (first | refine blk_drewN ?_ _ | refine blk_drew ?_ | refine blk_alloc ?_ _)); exact BK101.out) Tryz.underlying38 rfl (by kernel_rfl)) rfl ?_
              exact ⟨_, by first | rfl | (simp [errW_none, errW_some] <;> rfl) | (simp [*, errW_none, errW_some] <;> rfl), by first | exact Kd.R_nil _ _ _ _ _ | exact Kd.N_nil _ _ _ _ _ | exact Kd.V_nil _ _ _ _ _ | exact Kd.Q_nil _ _ _ _ _ | exact Kd.S_nil _ _ _ _ _, by repeat (first | (with_reducible first | exact HB.out | apply below_alloc | apply pw_below_drewN | apply below_drew1 | refine below_set ?_ GE101.out) | exact HB.out)⟩
            · rw [if_neg c7] at H
              have c7b0 : decide (t102 < 0) = false := decide_eq_false c7
              clear c7
              by_cases c10 : x4_1.length < 17592186044416
              · rw [if_pos c10] at H
                have LMc10 := Aside0.mk c10
                clear c10
                obtain ⟨y104, hy104⟩ : ∃ y_ : List Int, y_ = (x4_1 ++ [t102]) := ⟨_, rfl⟩
                replace H : (grommetref01_Decode.l0 k1 a0 y104 (wrap64 (x5_1 + t103))) = some (r1, r2, r3) := by first | (rw [hy104]; with_reducible exact H) | (have H2_ := (Option.bind_some _ _).symm.trans H; rw [hy104]; with_reducible exact H2_) | (have H2_ := (Option.bind_some _ _).symm.trans H; with_reducible exact H2_) | with_reducible exact H | (rw [hy104]; exact H) | exact H
                have Ny104 := Aside0.mk hy104
                clear hy104
                have H' := Aside0.mk H
                clear H
                go_wp2_with (first | ((with_reducible refine gate_callee (f := 62) rfl ?_); refine goesL_ (some 16) rfl rfl Tryz.func62 (by kernel_rfl) rfl #[.string (a0.extract (x5_1 : Int).toNat a0.size)] rfl (by (try simp only [List.map_toArray, List.map_cons, List.map_nil]); first | done | rfl | (simp only [List.length_drop, List.length_take]; rfl)) ?_; (with_reducible refine (grommetref01_First.calls k1 (a0.extract (x5_1 : Int).toNat a0.size) t102 t103 _ (hG.below (by first | ((repeat (first | (with_reducible first | exact HB.out | apply below_alloc | apply pw_below_drewN | apply below_drew1 | (refine Glob.below_set ?_ (by assumption) _ _ _)) | exact HB.out)); done) | (refine Drawn0.below ?_; repeat (first | exact Drawn0.refl _ | assumption | apply Drawn0.step)))) A6.out).mono ?_); rintro e w11 ⟨rfl, hb⟩; refine ⟨_, rfl, ?_⟩; have n0_ := Aside0.mk (Kd.R_below (by (with_reducible repeat (first | apply Kd.R_alloc | apply Kd.R_drewN | apply Kd.R_drew)); exact HO_4.out) hb); have n1_ := Aside0.mk (blk_below (g := gb101) (o := .cells #[.int .i64 x102000_1, .int .i64 x102001_1] 38 (0, 0)) (by (with_reducible repeat (first | refine blk_drewN ?_ _ | refine blk_drew ?_ | refine blk_alloc ?_ _)); exact BK101.out) hb); have n2_ := Aside0.mk (below_step (by repeat (first | (with_reducible first | exact HB.out | apply below_alloc | apply pw_below_drewN | apply below_drew1 | refine below_set ?_ GE101.out) | exact HB.out)) hb); clear HO_4; clear BK101; clear HB; have HO_4 := n0_; have BK101 := n1_; have HB := n2_; clear n0_ n1_ n2_; (try clear hb); (try clear hb2); (try clear hk); (try clear hi)) | ((with_reducible refine gate_builtin (b := .append) (xs := #[.tmp 23, .tmp 25]) rfl ?_); at_builtin; refine Kd.R_append (Kd.int .i64) (w0 := w) w.heap.size rfl (.tmp 23) (.tmp 25) 53 3 (.int .i64 0) 8 rfl Tryz.underlying53 info3 rfl (by decide) (by omega) u4 x4_1 t102 [.int .i64 t102] (fun _ => True) (fun _ => False) rfl rfl ?aP (fun _ hk => hk.elim) ?aF ?aO ?aB ?aS ?aL ?_; (case aP => exact rfl); (case aB => exact (by repeat (first | (with_reducible first | exact HB.out | apply below_alloc | apply pw_below_drewN | apply below_drew1 | refine below_set ?_ GE101.out) | exact HB.out))); (case aF => exact (fun _ _ => trivial)); (case aO => exact (by (with_reducible repeat (first | apply Kd.R_alloc | apply Kd.R_drewN | apply Kd.R_drew)); exact HO_4.out)); (case aS => exact (below_size (by repeat (first | (with_reducible first | exact HB.out | apply below_alloc | apply pw_below_drewN | apply below_drew1 | refine below_set ?_ GE101.out) | exact HB.out)))); (case aL => have := LMc10.out; omega); intro v105 w12 ho hb hg hat; rw [← Ny104.out] at ho; have n0_ := Aside0.mk (blk_grown (g := gb101) (o := .cells #[.int .i64 x102000_1, .int .i64 x102001_1] 38 (0, 0)) (by (with_reducible repeat (first | refine blk_drewN ?_ _ | refine blk_drew ?_ | refine blk_alloc ?_ _)); exact BK101.out) hg (Kd.R_ne HO_4.out BK101.out (by decide))); have n1_ := Aside0.mk (hb); have n2_ := Aside0.mk (ho); clear BK101; clear HB; clear HO_4; have BK101 := n0_; have HB := n1_; have HO106 := n2_; clear n0_ n1_ n2_; clear ho hb hg hat))
                go_roundg k1
                case measure => have := HK1.out; omega
                case rel => exact ⟨(y104), (wrap64 (x5_1 + t103)), (x102000_1), (x102001_1), (by first | rfl | (simp; done) | (simp [*]; done)), H', ⟨by have := HK1.out; omega⟩, ⟨by (with_reducible repeat (first | apply Kd.R_alloc | apply Kd.R_drewN | apply Kd.R_drew)); exact HO106.out⟩, ⟨by (with_reducible repeat (first | refine blk_drewN ?_ _ | refine blk_drew ?_ | refine blk_alloc ?_ _)); exact BK101.out⟩, ⟨by repeat (first | (with_reducible first | exact HB.out | apply below_alloc | apply pw_below_drewN | apply below_drew1 | refine below_set ?_ GE101.out) | exact HB.out)⟩⟩
              · rw [if_neg c10] at H
                exact absurd H (by simp)
          · rw [if_neg c5] at H
            exact absurd H (by simp)
        · rw [if_neg c4] at H
          exact absurd H (by simp)
      · rw [if_neg c3] at H
        have c3b0 : decide (x5_1 < (a0.size : Int)) = false := decide_eq_false c3
        clear c3
        simp only [Option.some.injEq, Prod.mk.injEq] at H
        obtain ⟨rfl, rfl, rfl⟩ := H
        have hcz13_0 : wr.cell? ⟨gb101, 0, none⟩ = some (.int .i64 x102000_1) := (blk_cell BK101.out 0).trans rfl
        have hcz13_1 : wr.cell? ⟨gb101, 1, none⟩ = some (.int .i64 x102001_1) := (blk_cell BK101.out 1).trans rfl
        have hfz13_0 := blk_frozen BK101.out 0
        have hfz13_1 := blk_frozen BK101.out 1
        go_wp2
        refine bodyPost_ret (results_tc rfl _ _ gb101 38 #[.int .i64 0, .int .i64 0] (0, 0) _ rfl (by (with_reducible repeat (first | refine blk_drewN ?_ _ | refine blk_drew ?_ | refine blk_alloc ?_ _)); refine blk_put (cs := #[.int .i64 0, .int .i64 x102001_1]) ?_ 1 _ rfl; (with_reducible repeat (first | refine blk_drewN ?_ _ | refine blk_drew ?_ | refine blk_alloc ?_ _)); refine blk_put (cs := #[.int .i64 x102000_1, .int .i64 x102001_1]) ?_ 0 _ rfl; (with_reducible repeat (first | refine blk_drewN ?_ _ | refine blk_drew ?_ | refine blk_alloc ?_ _)); exact BK101.out) Tryz.underlying38 rfl (by kernel_rfl)) rfl ?_
        exact ⟨_, by first | rfl | (simp [errW_none, errW_some] <;> rfl) | (simp [*, errW_none, errW_some] <;> rfl), by (with_reducible repeat (first | apply Kd.R_alloc | apply Kd.R_drewN | apply Kd.R_drew)); exact Kd.R_mono (Kd.R_far (p := ⟨gb101, 1, none⟩) (Kd.R_far (p := ⟨gb101, 0, none⟩) (Kd.R_types HO_4.out BK101.out (by decide)) (fun _ hk => hk.2) (.int .i64 0)) (fun _ hk => hk.2) (.int .i64 0)) (fun _ hk => trivial), by repeat (first | (with_reducible first | exact HB.out | apply below_alloc | apply pw_below_drewN | apply below_drew1 | refine below_set ?_ GE101.out) | exact HB.out)⟩

end Go.Proofs.YtmkdjgmdfhagfaaGreatDoor.PX

/- YtmkdjgmdfhagfaaGreatDoorFGrommetref07May: what print.py told of Go functions, for this claim. -/
namespace Go.Proofs.YtmkdjgmdfhagfaaGreatDoor.PX
open Go.RowKit Go.Proofs.YtmkdjgmdfhagfaaGreatDoorW.PrintWords Go.Proofs.YtmkdjgmdfhagfaaGreatDoorW.PrintLast Go.Proofs.YtmkdjgmdfhagfaaGreatDoorW.PrintMore Go.Proofs.YtmkdjgmdfhagfaaGreatDoor
attribute [local go_sem] max2_int min2_int max_two min_two max_three min_three max_four min_four   -- for this text's walks alone
set_option linter.unusedVariables false
set_option linter.unusedSimpArgs false

/-! ### grommetref07_may: function 37 -/
def grommetref07_may.f (k : Nat) (a0 : Int) : Option (Bool) := (grommetref01_Printable.f k a0).bind fun t101 => (if t101 = true then (if a0 = 9 then (some false) else (if a0 = 10 then (some false) else (some (a0 != 13)))) else (some false))
set_option maxHeartbeats 8000000 in
set_option maxRecDepth 100000 in
theorem grommetref07_may.calls (k : Nat) (a0 : Int) (r : Bool) (w : World) (hG : Glob.G w) (h : grommetref07_may.f k a0 = some r) :
    Calls Tryz.prog 37 #[.int .i64 a0] w fun e w' => e = .returned (.bool r) ∧ Drawn0 w w' := by
  have H : ((grommetref01_Printable.f k a0).bind fun t101 => (if t101 = true then (if a0 = 9 then (some false) else (if a0 = 10 then (some false) else (some (a0 != 13)))) else (some false))) = some r := h
  clear h
  replace H := Option.bind_eq_some_iff.mp H
  obtain ⟨t101, A20, H⟩ := H
  replace H : (if t101 = true then (if a0 = 9 then (some false) else (if a0 = 10 then (some false) else (some (a0 != 13)))) else (some false)) = some r := H
  have A2 := Aside0.mk A20
  clear A20
  by_cases c3 : t101 = true
  · subst c3
    have H1 : (if a0 = 9 then (some false) else (if a0 = 10 then (some false) else (some (a0 != 13)))) = some r := by rw [if_pos rfl] at H; exact H
    clear H
    have H := H1
    clear H1
    by_cases c4 : a0 = 9
    · rw [if_pos c4] at H
      have c4b0 : (a0 == 9) = true := beq_iff_eq.mpr c4
      have c4b1 : (a0 != 9) = false := bne_eq_false_iff_eq.mpr c4
      clear c4
      obtain rfl := Option.some.inj H
      go_enter Tryz.func37, Tryz.ntmps37
      go_wp2_with (first | ((with_reducible refine gate_callee (f := 67) rfl ?_); refine goesL_ (some 4) rfl rfl Tryz.func67 (by kernel_rfl) rfl #[.int .i64 a0] rfl (by (try simp only [List.map_toArray, List.map_cons, List.map_nil]); first | done | rfl | (simp only [List.length_drop, List.length_take]; rfl)) ?_; (with_reducible refine (grommetref01_Printable.calls k a0 true _ (hG.below (by first | ((repeat (first | (with_reducible first | exact HB.out | apply below_alloc | apply pw_below_drewN | apply below_drew1 | (refine Glob.below_set ?_ (by assumption) _ _ _)) | exact HB.out)); done) | (refine Drawn0.below ?_; repeat (first | exact Drawn0.refl _ | assumption | apply Drawn0.step)))) A2.out).mono ?_); rintro e w' ⟨rfl, ⟨nd, rfl⟩⟩; refine ⟨_, rfl, ?_⟩))
      go_ret
      exact ⟨by first | rfl | (simp; done) | (simp [*]; done) | (simp; generalize ByteArray.toList _ = l_; cases l_ <;> rfl), by repeat (first | exact Drawn0.refl _ | apply Drawn0.step)⟩
    · rw [if_neg c4] at H
      have c4b0 : (a0 == 9) = false := beq_eq_false_iff_ne.mpr c4
      have c4b1 : (a0 != 9) = true := bne_iff_ne.mpr c4
      by_cases c5 : a0 = 10
      · rw [if_pos c5] at H
        have c5b0 : (a0 == 10) = true := beq_iff_eq.mpr c5
        have c5b1 : (a0 != 10) = false := bne_eq_false_iff_eq.mpr c5
        clear c5
        obtain rfl := Option.some.inj H
        go_enter Tryz.func37, Tryz.ntmps37
        go_wp2_with (first | ((with_reducible refine gate_callee (f := 67) rfl ?_); refine goesL_ (some 4) rfl rfl Tryz.func67 (by kernel_rfl) rfl #[.int .i64 a0] rfl (by (try simp only [List.map_toArray, List.map_cons, List.map_nil]); first | done | rfl | (simp only [List.length_drop, List.length_take]; rfl)) ?_; (with_reducible refine (grommetref01_Printable.calls k a0 true _ (hG.below (by first | ((repeat (first | (with_reducible first | exact HB.out | apply below_alloc | apply pw_below_drewN | apply below_drew1 | (refine Glob.below_set ?_ (by assumption) _ _ _)) | exact HB.out)); done) | (refine Drawn0.below ?_; repeat (first | exact Drawn0.refl _ | assumption | apply Drawn0.step)))) A2.out).mono ?_); rintro e w' ⟨rfl, ⟨nd, rfl⟩⟩; refine ⟨_, rfl, ?_⟩))
        go_ret
        exact ⟨by first | rfl | (simp; done) | (simp [*]; done) | (simp; generalize ByteArray.toList _ = l_; cases l_ <;> rfl), by repeat (first | exact Drawn0.refl _ | apply Drawn0.step)⟩
      · rw [if_neg c5] at H
        have c5b0 : (a0 == 10) = false := beq_eq_false_iff_ne.mpr c5
        have c5b1 : (a0 != 10) = true := bne_iff_ne.mpr c5
        obtain rfl := Option.some.inj H
        go_enter Tryz.func37, Tryz.ntmps37
        go_wp2_with (first | ((with_reducible refine gate_callee (f := 67) rfl ?_); refine goesL_ (some 4) rfl rfl Tryz.func67 (by kernel_rfl) rfl #[.int .i64 a0] rfl (by (try simp only [List.map_toArray, List.map_cons, List.map_nil]); first | done | rfl | (simp only [List.length_drop, List.length_take]; rfl)) ?_; (with_reducible refine (grommetref01_Printable.calls k a0 true _ (hG.below (by first | ((repeat (first | (with_reducible first | exact HB.out | apply below_alloc | apply pw_below_drewN | apply below_drew1 | (refine Glob.below_set ?_ (by assumption) _ _ _)) | exact HB.out)); done) | (refine Drawn0.below ?_; repeat (first | exact Drawn0.refl _ | assumption | apply Drawn0.step)))) A2.out).mono ?_); rintro e w' ⟨rfl, ⟨nd, rfl⟩⟩; refine ⟨_, rfl, ?_⟩))
        go_ret
        exact ⟨by first | rfl | (simp; done) | (simp [*]; done) | (simp; generalize ByteArray.toList _ = l_; cases l_ <;> rfl), by repeat (first | exact Drawn0.refl _ | apply Drawn0.step)⟩
  · replace c3 := Bool.eq_false_iff.mpr c3
    subst c3
    have H1 : (some false) = some r := by rw [if_neg (show ¬ (false = true) by decide)] at H; exact H
    clear H
    have H := H1
    clear H1
    obtain rfl := Option.some.inj H
    go_enter Tryz.func37, Tryz.ntmps37
    go_wp2_with (first | ((with_reducible refine gate_callee (f := 67) rfl ?_); refine goesL_ (some 4) rfl rfl Tryz.func67 (by kernel_rfl) rfl #[.int .i64 a0] rfl (by (try simp only [List.map_toArray, List.map_cons, List.map_nil]); first | done | rfl | (simp only [List.length_drop, List.length_take]; rfl)) ?_; (with_reducible refine (grommetref01_Printable.calls k a0 false _ (hG.below (by first | ((repeat (first | (with_reducible first | exact HB.out | apply below_alloc | apply pw_below_drewN | apply below_drew1 | (refine Glob.below_set ?_ (by assumption) _ _ _)) | exact HB.out)); done) | (refine Drawn0.below ?_; repeat (first | exact Drawn0.refl _ | assumption | apply Drawn0.step)))) A2.out).mono ?_); rintro e w' ⟨rfl, ⟨nd, rfl⟩⟩; refine ⟨_, rfl, ?_⟩))
    go_ret
    exact ⟨by first | rfl | (simp; done) | (simp [*]; done) | (simp; generalize ByteArray.toList _ = l_; cases l_ <;> rfl), by repeat (first | exact Drawn0.refl _ | apply Drawn0.step)⟩

end Go.Proofs.YtmkdjgmdfhagfaaGreatDoor.PX

/- YtmkdjgmdfhagfaaGreatDoorFGrommetref01Encode: what print.py told of Go functions, for this claim. -/
namespace Go.Proofs.YtmkdjgmdfhagfaaGreatDoor.PX
open Go.RowKit Go.Proofs.YtmkdjgmdfhagfaaGreatDoorW.PrintWords Go.Proofs.YtmkdjgmdfhagfaaGreatDoorW.PrintLast Go.Proofs.YtmkdjgmdfhagfaaGreatDoorW.PrintMore Go.Proofs.YtmkdjgmdfhagfaaGreatDoor
attribute [local go_sem] max2_int min2_int max_two min_two max_three min_three max_four min_four   -- for this text's walks alone
set_option linter.unusedVariables false
set_option linter.unusedSimpArgs false

/-! ### grommetref01_Encode: function 95 -/
def grommetref01_Encode.l0 : Nat → List Int → List Int → Int → Option (ByteArray × Int)
  | 0, _, _, _ => none
  | k + 1, x0, x4, x5 => if x5 < (x0.length : Int) then (if 0 ≤ x5 then ((grommetref01_Sign.f (rd x0 x5)).bind fun t102 => (if t102 = true then ((grommetref01_bytes.f (rd x0 x5)).bind fun t104 => (if x4.length + t104.length < 140737488355328 then (grommetref01_Encode.l0 k x0 (x4 ++ t104) (wrap64 (x5 + 1))) else (none))) else (some ((⟨#[]⟩ : ByteArray), 8)))) else (none)) else (some (strOfNums x4, 0))
def grommetref01_Encode.f (k : Nat) (l0 : List Int) : Option (ByteArray × Int) := grommetref01_Encode.l0 k l0 ([] : List Int) 0
set_option maxHeartbeats 8000000 in
set_option maxRecDepth 100000 in
theorem grommetref01_Encode.calls (k : Nat) (A0 : Option Addr) (c0 : Nat) (l0 : List Int) (r1 : ByteArray) (r2 : Int) (w : World) (hr0 : Kd.C (Kd.int .i64) w A0 l0.length l0) (hc0 : l0.length ≤ c0) (hG : Glob.G w) (h : grommetref01_Encode.f k l0 = some (r1, r2)) :
    Calls Tryz.prog 95 #[.slice A0 l0.length c0] w fun e w' => e = .returned (.tuple #[.string r1, .int .i64 r2]) ∧ Below w.heap.size w w' := by
  have HR0 := Aside0.mk hr0
  have HC0 := Aside0.mk hc0
  clear hr0 hc0
  have HB := Aside0.mk (Below.refl w.heap.size w)
  have H : (grommetref01_Encode.l0 k l0 ([] : List Int) 0) = some (r1, r2) := h
  clear h
  have H' := Aside0.mk H
  clear H
  go_enter Tryz.func95, Tryz.ntmps95
  go_wp2
  go_loopg [4, 5] k (fun kq v4 v5 w' => ∃ (x4_1 : List Int) (x5_1 : Int), v5 = .int .i64 x5_1 ∧ Aside0 (grommetref01_Encode.l0 kq l0 x4_1 x5_1 = some (r1, r2)) ∧ Aside0 (kq ≤ k) ∧ Aside0 (Kd.R (Kd.int .u8) 5 w' w.heap.size (fun _ => True) v4 x4_1) ∧ Aside0 (Below w.heap.size w w'))
  case atStart => exact ⟨(([] : List Int)), (0), (by first | rfl | (simp; done) | (simp [*]; done)), H', ⟨Nat.le_refl _⟩, ⟨by first | exact Kd.R_nil _ _ _ _ _ | exact Kd.N_nil _ _ _ _ _ | exact Kd.V_nil _ _ _ _ _ | exact Kd.Q_nil _ _ _ _ _ | exact Kd.S_nil _ _ _ _ _⟩, ⟨by repeat (first | (with_reducible first | exact HB.out | apply below_alloc | apply pw_below_drewN | apply below_drew1) | exact HB.out)⟩⟩
  case round =>
    clear H'
    obtain ⟨x4_1, x5_1, rfl, HA, HK1, HO_4, HB⟩ := hrel
    cases gk with
    | zero => exact absurd HA.out (by simp [grommetref01_Encode.l0])
    | succ k1 =>
      have H := HA.out
      clear HA
      simp only [grommetref01_Encode.l0] at H
      by_cases c2 : x5_1 < (l0.length : Int)
      · rw [if_pos c2] at H
        have c2b0 : decide (x5_1 < (l0.length : Int)) = true := decide_eq_true c2
        clear c2
        by_cases c3 : 0 ≤ x5_1
        · rw [if_pos c3] at H
          have c3b0 : decide (0 ≤ x5_1) = true := decide_eq_true c3
          clear c3
          replace H := Option.bind_eq_some_iff.mp H
          obtain ⟨t102, A40, H⟩ := H
          replace H : (if t102 = true then ((grommetref01_bytes.f (rd l0 x5_1)).bind fun t104 => (if x4_1.length + t104.length < 140737488355328 then (grommetref01_Encode.l0 k1 l0 (x4_1 ++ t104) (wrap64 (x5_1 + 1))) else (none))) else (some ((⟨#[]⟩ : ByteArray), 8))) = some (r1, r2) := H
          have A4 := Aside0.mk A40
          clear A40
          by_cases c5 : t102 = true
          · subst c5
            have H1 : ((grommetref01_bytes.f (rd l0 x5_1)).bind fun t104 => (if x4_1.length + t104.length < 140737488355328 then (grommetref01_Encode.l0 k1 l0 (x4_1 ++ t104) (wrap64 (x5_1 + 1))) else (none))) = some (r1, r2) := by rw [if_pos rfl] at H; exact H
            clear H
            have H := H1
            clear H1
            replace H := Option.bind_eq_some_iff.mp H
            obtain ⟨t104, A60, H⟩ := H
            replace H : (if x4_1.length + t104.length < 140737488355328 then (grommetref01_Encode.l0 k1 l0 (x4_1 ++ t104) (wrap64 (x5_1 + 1))) else (none)) = some (r1, r2) := H
            have A6 := Aside0.mk A60
            clear A60
            by_cases c7 : x4_1.length + t104.length < 140737488355328
            · rw [if_pos c7] at H
              have LMc7 := Aside0.mk c7
              clear c7
              obtain ⟨y107, hy107⟩ : ∃ y_ : List Int, y_ = (x4_1 ++ t104) := ⟨_, rfl⟩
              replace H : (grommetref01_Encode.l0 k1 l0 y107 (wrap64 (x5_1 + 1))) = some (r1, r2) := by first | (rw [hy107]; with_reducible exact H) | (have H2_ := (Option.bind_some _ _).symm.trans H; rw [hy107]; with_reducible exact H2_) | (have H2_ := (Option.bind_some _ _).symm.trans H; with_reducible exact H2_) | with_reducible exact H | (rw [hy107]; exact H) | exact H
              have Ny107 := Aside0.mk hy107
              clear hy107
              have H' := Aside0.mk H
              clear H
              have p101 : 0 ≤ (x5_1 : Int) := of_decide_eq_true (by first | (with_reducible assumption) | assumption)
              have q101 : x5_1 < (l0.length : Int) := of_decide_eq_true (by first | (with_reducible assumption) | assumption)
              obtain ⟨ad101, e101, hx101_0⟩ := Kd.at_int HR0.out x5_1 p101 q101
              cases e101
              replace hx101_0 := (HB.out.cell (World.block_lt_of_cell? w _ hx101_0)).trans hx101_0
              replace p101 := eq_true p101
              replace q101 := eq_true q101
              go_wp2_with (first | ((with_reducible refine gate_callee (f := 92) rfl ?_); refine goesL_ (some 16) rfl rfl Tryz.func92 (by kernel_rfl) rfl #[.int .i64 (rd l0 x5_1)] rfl (by (try simp only [List.map_toArray, List.map_cons, List.map_nil]); first | done | rfl | (simp only [List.length_drop, List.length_take]; rfl)) ?_; (with_reducible refine (grommetref01_Sign.calls (rd l0 x5_1) true _ (hG.below (by first | ((repeat (first | (with_reducible first | exact HB.out | apply below_alloc | apply pw_below_drewN | apply below_drew1 | (refine Glob.below_set ?_ (by assumption) _ _ _)) | exact HB.out)); done) | (refine Drawn0.below ?_; repeat (first | exact Drawn0.refl _ | assumption | apply Drawn0.step)))) A4.out).mono ?_); rintro e w' ⟨rfl, ⟨nd, rfl⟩⟩; refine ⟨_, rfl, ?_⟩; have p103 : 0 ≤ (x5_1 : Int) := of_decide_eq_true (by first | (with_reducible assumption) | assumption); have q103 : x5_1 < (l0.length : Int) := of_decide_eq_true (by first | (with_reducible assumption) | assumption); obtain ⟨ad103, e103, hx103_0⟩ := Kd.at_int HR0.out x5_1 p103 q103; obtain rfl : ad101 = ad103 := (by injection e103); replace hx103_0 := (HB.out.cell (World.block_lt_of_cell? w _ hx103_0)).trans hx103_0; replace p103 := eq_true p103; replace q103 := eq_true q103) | ((with_reducible refine gate_callee (f := 93) rfl ?_); refine goesL_ (some 23) rfl rfl Tryz.func93 (by kernel_rfl) rfl #[.int .i64 (rd l0 x5_1)] rfl (by (try simp only [List.map_toArray, List.map_cons, List.map_nil]); first | done | rfl | (simp only [List.length_drop, List.length_take]; rfl)) ?_; (with_reducible refine (grommetref01_bytes.calls (rd l0 x5_1) t104 _ (hG.below (by first | ((repeat (first | (with_reducible first | exact HB.out | apply below_alloc | apply pw_below_drewN | apply below_drew1 | (refine Glob.below_set ?_ (by assumption) _ _ _)) | exact HB.out)); done) | (refine Drawn0.below ?_; repeat (first | exact Drawn0.refl _ | assumption | apply Drawn0.step)))) A6.out).mono ?_); rintro e w8 ⟨v105, rfl, ho0, hb⟩; refine ⟨_, rfl, ?_⟩; have n0_ := Aside0.mk (Kd.R_elder' (by (with_reducible repeat (first | apply Kd.R_alloc | apply Kd.R_drewN | apply Kd.R_drew)); exact HO_4.out) (Kd.R_base ho0) hb); have n1_ := Aside0.mk (Kd.R_lower (Kd.R_new' ho0 (Kd.R_lt (by (with_reducible repeat (first | apply Kd.R_alloc | apply Kd.R_drewN | apply Kd.R_drew)); exact HO_4.out))) (below_size (by repeat (first | (with_reducible first | exact HB.out | apply below_alloc | apply pw_below_drewN | apply below_drew1) | exact HB.out)))); have n2_ := Aside0.mk (below_step (by repeat (first | (with_reducible first | exact HB.out | apply below_alloc | apply pw_below_drewN | apply below_drew1) | exact HB.out)) hb); clear HO_4; clear HB; have HO_4 := n0_; have HO106 := n1_; have HB := n2_; clear n0_ n1_ n2_; (try clear hb); (try clear hb2); (try clear hk); (try clear hi); (try clear ho0); obtain ⟨Ao10, co10, eo10⟩ := Kd.R_slice HO106.out; subst eo10) | ((with_reducible refine gate_builtin (b := .append) (xs := #[.tmp 18, .tmp 23]) rfl ?_); at_builtin; refine Kd.R_append_rows (Kd.int .u8) (w0 := w) w.heap.size rfl (.tmp 18) (.tmp 23) 58 5 (.int .u8 0) 1 rfl Tryz.underlying58 info5 rfl (by decide) (by omega) u4 x4_1 t104 _ _ _ (fun k_ => some k_ ≠ (.slice Ao10 t104.length co10 : Value).ownBlock) (fun _ => False) rfl rfl ?aO ?aR (fun _ _ h => h) (fun _ h => h.elim) ?aF ?aB ?aS ?aL ?_; (case aR => repeat (first | exact (Kd.R_reads' HO106.out).2.2 | (with_reducible refine Kd.C_alloc ?_ _) | (with_reducible refine Kd.C_drewN ?_ _) | (with_reducible refine Kd.C_drew ?_))); (case aB => exact (by repeat (first | (with_reducible first | exact HB.out | apply below_alloc | apply pw_below_drewN | apply below_drew1) | exact HB.out))); (case aF => exact (fun k_ hk => Kd.fresh' (Kd.R_lt (by (with_reducible repeat (first | apply Kd.R_alloc | apply Kd.R_drewN | apply Kd.R_drew)); exact HO106.out)) k_ hk)); (case aO => exact (by (with_reducible repeat (first | apply Kd.R_alloc | apply Kd.R_drewN | apply Kd.R_drew)); exact Kd.R_mono HO_4.out (fun _ hk => hk.2))); (case aS => exact (below_size (by repeat (first | (with_reducible first | exact HB.out | apply below_alloc | apply pw_below_drewN | apply below_drew1) | exact HB.out)))); (case aL => have := LMc7.out; omega); intro v108 w9 ho hb hg hat; rw [← Ny107.out] at ho; have n0_ := Aside0.mk (Kd.R_after (ok := (fun _ => True)) (by (with_reducible repeat (first | apply Kd.R_alloc | apply Kd.R_drewN | apply Kd.R_drew)); exact HO106.out) hg hat); have n1_ := Aside0.mk (hb); have n2_ := Aside0.mk (ho); clear HO106; clear HB; clear HO_4; have HO106 := n0_; have HB := n1_; have HO109 := n2_; clear n0_ n1_ n2_; clear ho hb hg hat))
              go_roundg k1
              case measure => have := HK1.out; omega
              case rel => exact ⟨(y107), (wrap64 (x5_1 + 1)), (by first | rfl | (simp; done) | (simp [*]; done)), H', ⟨by have := HK1.out; omega⟩, ⟨by (with_reducible repeat (first | apply Kd.R_alloc | apply Kd.R_drewN | apply Kd.R_drew)); exact Kd.R_mono HO109.out (fun _ hk => trivial)⟩, ⟨by repeat (first | (with_reducible first | exact HB.out | apply below_alloc | apply pw_below_drewN | apply below_drew1) | exact HB.out)⟩⟩
            · rw [if_neg c7] at H
              exact absurd H (by simp)
          · replace c5 := Bool.eq_false_iff.mpr c5
            subst c5
            have H1 : (some ((⟨#[]⟩ : ByteArray), 8)) = some (r1, r2) := by rw [if_neg (show ¬ (false = true) by decide)] at H; exact H
            clear H
            have H := H1
            clear H1
            simp only [Option.some.injEq, Prod.mk.injEq] at H
            obtain ⟨rfl, rfl⟩ := H
            have p101 : 0 ≤ (x5_1 : Int) := of_decide_eq_true (by first | (with_reducible assumption) | assumption)
            have q101 : x5_1 < (l0.length : Int) := of_decide_eq_true (by first | (with_reducible assumption) | assumption)
            obtain ⟨ad101, e101, hx101_0⟩ := Kd.at_int HR0.out x5_1 p101 q101
            cases e101
            replace hx101_0 := (HB.out.cell (World.block_lt_of_cell? w _ hx101_0)).trans hx101_0
            replace p101 := eq_true p101
            replace q101 := eq_true q101
            go_wp2_with (first | ((with_reducible refine gate_callee (f := 92) rfl ?_); refine goesL_ (some 16) rfl rfl Tryz.func92 (by kernel_rfl) rfl #[.int .i64 (rd l0 x5_1)] rfl (by (try simp only [List.map_toArray, List.map_cons, List.map_nil]); first | done | rfl | (simp only [List.length_drop, List.length_take]; rfl)) ?_; (with_reducible refine (grommetref01_Sign.calls (rd l0 x5_1) false _ (hG.below (by first | ((repeat (first | (with_reducible first | exact HB.out | apply below_alloc | apply pw_below_drewN | apply below_drew1 | (refine Glob.below_set ?_ (by assumption) _ _ _)) | exact HB.out)); done) | (refine Drawn0.below ?_; repeat (first | exact Drawn0.refl _ | assumption | apply Drawn0.step)))) A4.out).mono ?_); rintro e w' ⟨rfl, ⟨nd, rfl⟩⟩; refine ⟨_, rfl, ?_⟩))
            go_ret2
            exact ⟨by first | rfl | (simp [errW_none, errW_some] <;> rfl) | (simp [*, errW_none, errW_some] <;> rfl), by repeat (first | (with_reducible first | exact HB.out | apply below_alloc | apply pw_below_drewN | apply below_drew1) | exact HB.out)⟩
        · rw [if_neg c3] at H
          exact absurd H (by simp)
      · rw [if_neg c2] at H
        have c2b0 : decide (x5_1 < (l0.length : Int)) = false := decide_eq_false c2
        clear c2
        simp only [Option.some.injEq, Prod.mk.injEq] at H
        obtain ⟨rfl, rfl⟩ := H
        have hcv11 := own_string (P := Tryz.prog) Tryz.underlying58 Tryz.underlying5 Tryz.underlying9 (Kd.own_of_R HO_4.out)
        have hcv11d_ := fun n_ : Nat => own_string (P := Tryz.prog) Tryz.underlying58 Tryz.underlying5 Tryz.underlying9 (Kd.own_of_R (Kd.R_drewN HO_4.out n_))
        go_wp2
        go_ret2
        exact ⟨by first | rfl | (simp [errW_none, errW_some] <;> rfl) | (simp [*, errW_none, errW_some] <;> rfl), by repeat (first | (with_reducible first | exact HB.out | apply below_alloc | apply pw_below_drewN | apply below_drew1) | exact HB.out)⟩

end Go.Proofs.YtmkdjgmdfhagfaaGreatDoor.PX

/- YtmkdjgmdfhagfaaGreatDoorFGrommetref07Text: what print.py told of Go functions, for this claim. -/
namespace Go.Proofs.YtmkdjgmdfhagfaaGreatDoor.PX
open Go.RowKit Go.Proofs.YtmkdjgmdfhagfaaGreatDoorW.PrintWords Go.Proofs.YtmkdjgmdfhagfaaGreatDoorW.PrintLast Go.Proofs.YtmkdjgmdfhagfaaGreatDoorW.PrintMore Go.Proofs.YtmkdjgmdfhagfaaGreatDoor
attribute [local go_sem] max2_int min2_int max_two min_two max_three min_three max_four min_four   -- for this text's walks alone
set_option linter.unusedVariables false
set_option linter.unusedSimpArgs false

/-! ### grommetref07_text: function 63 -/
def grommetref07_text.f (k : Nat) (a0 : Int) : Option (ByteArray) := (grommetref01_Encode.f k (([a0] : List Int))).bind fun bt104 => (some bt104.1)
set_option maxHeartbeats 8000000 in
set_option maxRecDepth 100000 in
theorem grommetref07_text.calls (k : Nat) (a0 : Int) (r : ByteArray) (w : World) (hG : Glob.G w) (h : grommetref07_text.f k a0 = some r) :
    Calls Tryz.prog 63 #[.int .i64 a0] w fun e w' => e = .returned (.string r) ∧ Below w.heap.size w w' := by
  have HB := Aside0.mk (Below.refl w.heap.size w)
  have H : ((grommetref01_Encode.f k (([a0] : List Int))).bind fun bt104 => (some bt104.1)) = some r := h
  clear h
  obtain ⟨y101, hy101⟩ : ∃ y_ : List Int, y_ = (([a0] : List Int)) := ⟨_, rfl⟩
  replace H : ((grommetref01_Encode.f k y101).bind fun bt104 => (some bt104.1)) = some r := by first | (rw [hy101]; with_reducible exact H) | (have H2_ := (Option.bind_some _ _).symm.trans H; rw [hy101]; with_reducible exact H2_) | (have H2_ := (Option.bind_some _ _).symm.trans H; with_reducible exact H2_) | with_reducible exact H | (rw [hy101]; exact H) | exact H
  have Ny101 := Aside0.mk hy101
  clear hy101
  replace H := Option.bind_eq_some_iff.mp H
  obtain ⟨⟨t104, t105⟩, A20, H⟩ := H
  replace H : (some t104) = some r := H
  have A2 := Aside0.mk A20
  clear A20
  obtain rfl := Option.some.inj H
  go_enter Tryz.func63, Tryz.ntmps63
  go_wp2_with (first | ((with_reducible refine gate_dst (N := 7) rfl ?_); refine Kd.R_lit (Kd.int .i64) _ 3 ?hg (N := 7) ?hd (xs := ([a0] : List Int)) (inner := [.int .i64 a0]) (ok := fun _ => True) (okp := fun _ => True) ?hr ?hp (fun _ hk => hk) trivial (Below.refl _ _) (Nat.le_refl _) (by simp) ?_; (case hd => rfl); (case hg => rfl); (case hr => first | (go_simp; done) | (go_simp; rfl)); (case hp => exact (Reps.one (show Kd.M (Kd.int .i64) _ _ _ a0 [.int .i64 a0] from rfl) (Reps.none _ _))); intro v102 w3 ho4 hb hg_ hnew_; clear hg_ hnew_; (first | rw [← Ny101.out] at ho4 | (simp only [Int.reduceToNat] at ho4; rw [← Ny101.out] at ho4)); have n0_ := Aside0.mk (Kd.R_lower ho4 (below_size (by repeat (first | (with_reducible first | exact HB.out | apply below_alloc | apply pw_below_drewN | apply below_drew1) | exact HB.out)))); have n1_ := Aside0.mk (below_step (by repeat (first | (with_reducible first | exact HB.out | apply below_alloc | apply pw_below_drewN | apply below_drew1) | exact HB.out)) hb); clear HB; have HO103 := n0_; have HB := n1_; clear n0_ n1_; clear hb ho4; obtain ⟨Ao5, co5, eo5⟩ := Kd.R_slice HO103.out; subst eo5) | ((with_reducible refine gate_callee (f := 95) rfl ?_); refine goesL_ (some 8) rfl rfl Tryz.func95 (by kernel_rfl) rfl #[.slice Ao5 y101.length co5] rfl (by (try simp only [List.map_toArray, List.map_cons, List.map_nil]); first | done | rfl | (simp only [List.length_drop, List.length_take]; rfl)) ?_; (with_reducible refine (grommetref01_Encode.calls k _ _ y101 t104 t105 _ ?side1 ?side2 (hG.below (by first | ((repeat (first | (with_reducible first | exact HB.out | apply below_alloc | apply pw_below_drewN | apply below_drew1 | (refine Glob.below_set ?_ (by assumption) _ _ _)) | exact HB.out)); done) | (refine Drawn0.below ?_; repeat (first | exact Drawn0.refl _ | assumption | apply Drawn0.step)))) A2.out).mono ?_); (case side1 => repeat (first | exact (Kd.R_reads' HO103.out).2.2 | (with_reducible refine Kd.C_alloc ?_ _) | (with_reducible refine Kd.C_drewN ?_ _) | (with_reducible refine Kd.C_drew ?_))); (case side2 => exact (Kd.R_reads' HO103.out).2.1); rintro e w6 ⟨rfl, hb⟩; refine ⟨_, rfl, ?_⟩; have n0_ := Aside0.mk (Kd.R_below (by (with_reducible repeat (first | apply Kd.R_alloc | apply Kd.R_drewN | apply Kd.R_drew)); exact HO103.out) hb); have n1_ := Aside0.mk (below_step (by repeat (first | (with_reducible first | exact HB.out | apply below_alloc | apply pw_below_drewN | apply below_drew1) | exact HB.out)) hb); clear HO103; clear HB; have HO103 := n0_; have HB := n1_; clear n0_ n1_; (try clear hb); (try clear hb2); (try clear hk); (try clear hi)))
  go_ret
  exact ⟨by first | rfl | (simp [errW_none, errW_some] <;> rfl) | (simp [*, errW_none, errW_some] <;> rfl), by repeat (first | (with_reducible first | exact HB.out | apply below_alloc | apply pw_below_drewN | apply below_drew1) | exact HB.out)⟩

end Go.Proofs.YtmkdjgmdfhagfaaGreatDoor.PX

/- YtmkdjgmdfhagfaaGreatDoorFGrommetref07Hex: what print.py told of Go functions, for this claim. -/
namespace Go.Proofs.YtmkdjgmdfhagfaaGreatDoor.PX
open Go.RowKit Go.Proofs.YtmkdjgmdfhagfaaGreatDoorW.PrintWords Go.Proofs.YtmkdjgmdfhagfaaGreatDoorW.PrintLast Go.Proofs.YtmkdjgmdfhagfaaGreatDoorW.PrintMore Go.Proofs.YtmkdjgmdfhagfaaGreatDoor
attribute [local go_sem] max2_int min2_int max_two min_two max_three min_three max_four min_four   -- for this text's walks alone
set_option linter.unusedVariables false
set_option linter.unusedSimpArgs false

/-! ### grommetref07_hex: function 64 -/
def grommetref07_hex.l0 : Nat → Int → Int → ByteArray → Int → Option (ByteArray)
  | 0, _, _, _, _ => none
  | k + 1, x0, x1, x5, x6 => if x6 < x1 then (if 0 ≤ (Int.tmod x0 16) then (if (Int.tmod x0 16) < 16 then ((some (([bt (⟨#[48, 49, 50, 51, 52, 53, 54, 55, 56, 57, 97, 98, 99, 100, 101, 102]⟩ : ByteArray) (Int.tmod x0 16)] : List Int) : List Int)).bind fun y101 => (if (strOfNums y101).size + x5.size ≤ 9223372036854775807 then (grommetref07_hex.l0 k (wrap64 (Int.tdiv x0 16)) x1 ((strOfNums y101) ++ x5) (wrap64 (x6 + 1))) else (none))) else (none)) else (none)) else (some x5)
def grommetref07_hex.f (k : Nat) (a0 : Int) (a1 : Int) : Option (ByteArray) := grommetref07_hex.l0 k a0 a1 (⟨#[]⟩ : ByteArray) 0
set_option maxHeartbeats 8000000 in
set_option maxRecDepth 100000 in
theorem grommetref07_hex.calls (k : Nat) (a0 : Int) (a1 : Int) (r : ByteArray) (w : World) (hG : Glob.G w) (h : grommetref07_hex.f k a0 a1 = some r) :
    Calls Tryz.prog 64 #[.int .i64 a0, .int .i64 a1] w fun e w' => e = .returned (.string r) ∧ Below w.heap.size w w' := by
  have HB := Aside0.mk (Below.refl w.heap.size w)
  have H : (grommetref07_hex.l0 k a0 a1 (⟨#[]⟩ : ByteArray) 0) = some r := h
  clear h
  have H' := Aside0.mk H
  clear H
  go_enter Tryz.func64, Tryz.ntmps64
  go_wp2
  go_loopg [0, 5, 6] k (fun kq v0 v5 v6 w' => ∃ (x0_1 : Int) (x5_1 : ByteArray) (x6_1 : Int), v0 = .int .i64 x0_1 ∧ v5 = .string x5_1 ∧ v6 = .int .i64 x6_1 ∧ Aside0 (grommetref07_hex.l0 kq x0_1 a1 x5_1 x6_1 = some r) ∧ Aside0 (kq ≤ k) ∧ Aside0 (Below w.heap.size w w'))
  case atStart => exact ⟨(a0), ((⟨#[]⟩ : ByteArray)), (0), (by first | rfl | (simp; done) | (simp [*]; done)), (by first | rfl | (simp; done) | (simp [*]; done)), (by first | rfl | (simp; done) | (simp [*]; done)), H', ⟨Nat.le_refl _⟩, ⟨by repeat (first | (with_reducible first | exact HB.out | apply below_alloc | apply pw_below_drewN | apply below_drew1) | exact HB.out)⟩⟩
  case round =>
    clear H'
    try clear p2
    obtain ⟨x0_1, x5_1, x6_1, rfl, rfl, rfl, HA, HK1, HB⟩ := hrel
    cases gk with
    | zero => exact absurd HA.out (by simp [grommetref07_hex.l0])
    | succ k1 =>
      have H := HA.out
      clear HA
      simp only [grommetref07_hex.l0] at H
      by_cases c3 : x6_1 < a1
      · rw [if_pos c3] at H
        have c3b0 : decide (x6_1 < a1) = true := decide_eq_true c3
        clear c3
        obtain ⟨ji4, hji4⟩ : ∃ j_ : Int, (Int.tmod x0_1 16) = j_ := ⟨_, rfl⟩
        replace H : (if 0 ≤ (ji4) then (if (ji4) < 16 then ((some (([bt (⟨#[48, 49, 50, 51, 52, 53, 54, 55, 56, 57, 97, 98, 99, 100, 101, 102]⟩ : ByteArray) (ji4)] : List Int) : List Int)).bind fun y101 => (if (strOfNums y101).size + x5_1.size ≤ 9223372036854775807 then (grommetref07_hex.l0 k1 (wrap64 (Int.tdiv x0_1 16)) a1 ((strOfNums y101) ++ x5_1) (wrap64 (x6_1 + 1))) else (none))) else (none)) else (none)) = some r := by first | (rw [hji4] at H; exact H) | (simp only [hji4] at H ⊢; exact H)
        by_cases c5 : 0 ≤ (ji4)
        · rw [if_pos c5] at H
          have c5b0 : decide (0 ≤ (ji4)) = true := decide_eq_true c5
          clear c5
          by_cases c6 : (ji4) < 16
          · rw [if_pos c6] at H
            have c6b0 : decide ((ji4) < 16) = true := decide_eq_true c6
            clear c6
            obtain ⟨y101, hy101⟩ : ∃ y_ : List Int, y_ = (([bt (⟨#[48, 49, 50, 51, 52, 53, 54, 55, 56, 57, 97, 98, 99, 100, 101, 102]⟩ : ByteArray) (ji4)] : List Int)) := ⟨_, rfl⟩
            replace H : (if (strOfNums y101).size + x5_1.size ≤ 9223372036854775807 then (grommetref07_hex.l0 k1 (wrap64 (Int.tdiv x0_1 16)) a1 ((strOfNums y101) ++ x5_1) (wrap64 (x6_1 + 1))) else (none)) = some r := by first | (rw [hy101]; with_reducible exact H) | (have H2_ := (Option.bind_some _ _).symm.trans H; rw [hy101]; with_reducible exact H2_) | (have H2_ := (Option.bind_some _ _).symm.trans H; with_reducible exact H2_) | with_reducible exact H | (rw [hy101]; exact H) | exact H
            have Ny101 := Aside0.mk hy101
            clear hy101
            by_cases c8 : (strOfNums y101).size + x5_1.size ≤ 9223372036854775807
            · rw [if_pos c8] at H
              have c8b0 := eq_true c8
              have c8b1 : decide ((strOfNums y101).size + x5_1.size ≤ 9223372036854775807) = true := decide_eq_true c8
              try have c8b2 : (9223372036854775807 < (strOfNums y101).size + x5_1.size) = False := eq_false (Nat.not_lt.2 c8)
              have H' := Aside0.mk H
              clear H
              have p7 : 0 ≤ ((ji4) : Int) := of_decide_eq_true (by first | (with_reducible assumption) | assumption)
              have q7 : (ji4) < (16 : Int) := of_decide_eq_true (by first | (with_reducible assumption) | assumption)
              have hx7 := bt_at (⟨#[48, 49, 50, 51, 52, 53, 54, 55, 56, 57, 97, 98, 99, 100, 101, 102]⟩ : ByteArray) (ji4)
              replace p7 := eq_true p7
              replace q7 := eq_true q7
              go_wp2_with (first | ((with_reducible refine gate_dst (N := 15) rfl ?_); refine Kd.R_lit (Kd.int .u8) _ 5 ?hg (N := 15) ?hd (xs := ([bt (⟨#[48, 49, 50, 51, 52, 53, 54, 55, 56, 57, 97, 98, 99, 100, 101, 102]⟩ : ByteArray) (ji4)] : List Int)) (inner := [.int .u8 (bt (⟨#[48, 49, 50, 51, 52, 53, 54, 55, 56, 57, 97, 98, 99, 100, 101, 102]⟩ : ByteArray) (ji4))]) (ok := fun _ => True) (okp := fun _ => True) ?hr ?hp (fun _ hk => hk) trivial (Below.refl _ _) (Nat.le_refl _) (by simp) ?_; (case hd => rfl); (case hg => rfl); (case hr => first | (go_simp; done) | (go_simp; rfl)); (case hp => exact (Reps.one (show Kd.M (Kd.int .u8) _ _ _ (bt (⟨#[48, 49, 50, 51, 52, 53, 54, 55, 56, 57, 97, 98, 99, 100, 101, 102]⟩ : ByteArray) (ji4)) [.int .u8 (bt (⟨#[48, 49, 50, 51, 52, 53, 54, 55, 56, 57, 97, 98, 99, 100, 101, 102]⟩ : ByteArray) (ji4))] from rfl) (Reps.none _ _))); intro v102 w9 ho10 hb hg_ hnew_; clear hg_ hnew_; (first | rw [← Ny101.out] at ho10 | (simp only [Int.reduceToNat] at ho10; rw [← Ny101.out] at ho10)); have n0_ := Aside0.mk (Kd.R_lower ho10 (below_size (by repeat (first | (with_reducible first | exact HB.out | apply below_alloc | apply pw_below_drewN | apply below_drew1) | exact HB.out)))); have n1_ := Aside0.mk (below_step (by repeat (first | (with_reducible first | exact HB.out | apply below_alloc | apply pw_below_drewN | apply below_drew1) | exact HB.out)) hb); clear HB; have HO103 := n0_; have HB := n1_; clear n0_ n1_; clear hb ho10; have hcv11 := own_string (P := Tryz.prog) Tryz.underlying58 Tryz.underlying5 Tryz.underlying9 (Kd.own_of_R HO103.out)))
              go_roundg k1
              case measure => have := HK1.out; omega
              case rel => exact ⟨(wrap64 (Int.tdiv x0_1 16)), ((strOfNums y101) ++ x5_1), (wrap64 (x6_1 + 1)), (by first | rfl | (simp; done) | (simp [*]; done)), (by first | rfl | (simp; done) | (simp [*]; done)), (by first | rfl | (simp; done) | (simp [*]; done)), H', ⟨by have := HK1.out; omega⟩, ⟨by repeat (first | (with_reducible first | exact HB.out | apply below_alloc | apply pw_below_drewN | apply below_drew1) | exact HB.out)⟩⟩
            · rw [if_neg c8] at H
              exact absurd H (by simp)
          · rw [if_neg c6] at H
            exact absurd H (by simp)
        · rw [if_neg c5] at H
          exact absurd H (by simp)
      · rw [if_neg c3] at H
        have c3b0 : decide (x6_1 < a1) = false := decide_eq_false c3
        clear c3
        obtain rfl := Option.some.inj H
        go_wp2
        go_ret
        exact ⟨by first | rfl | (simp [errW_none, errW_some] <;> rfl) | (simp [*, errW_none, errW_some] <;> rfl), by repeat (first | (with_reducible first | exact HB.out | apply below_alloc | apply pw_below_drewN | apply below_drew1) | exact HB.out)⟩

end Go.Proofs.YtmkdjgmdfhagfaaGreatDoor.PX

/- YtmkdjgmdfhagfaaGreatDoorFGrommetref07Escaped: what print.py told of Go functions, for this claim. -/
namespace Go.Proofs.YtmkdjgmdfhagfaaGreatDoor.PX
open Go.RowKit Go.Proofs.YtmkdjgmdfhagfaaGreatDoorW.PrintWords Go.Proofs.YtmkdjgmdfhagfaaGreatDoorW.PrintLast Go.Proofs.YtmkdjgmdfhagfaaGreatDoorW.PrintMore Go.Proofs.YtmkdjgmdfhagfaaGreatDoor
attribute [local go_sem] max2_int min2_int max_two min_two max_three min_three max_four min_four   -- for this text's walks alone
set_option linter.unusedVariables false
set_option linter.unusedSimpArgs false

/-! ### grommetref07_escaped: function 34 -/
def grommetref07_escaped.f (k : Nat) (a0 : Int) : Option (ByteArray) := if a0 = 34 then (some (⟨#[92, 34]⟩ : ByteArray)) else (if a0 = 92 then (some (⟨#[92, 92]⟩ : ByteArray)) else (if a0 = 9 then (some (⟨#[92, 116]⟩ : ByteArray)) else (if a0 = 10 then (some (⟨#[92, 110]⟩ : ByteArray)) else (if a0 = 13 then (some (⟨#[92, 114]⟩ : ByteArray)) else (if a0 = 0 then (some (⟨#[92, 48]⟩ : ByteArray)) else ((grommetref07_may.f k a0).bind fun t101 => (if t101 = true then ((grommetref07_text.f k a0).bind fun t102 => (some t102)) else (if a0 < 256 then ((grommetref07_hex.f k a0 2).bind fun t103 => (if 2 + t103.size ≤ 9223372036854775807 then (some ((⟨#[92, 120]⟩ : ByteArray) ++ t103)) else (none))) else (if a0 < 65536 then ((grommetref07_hex.f k a0 4).bind fun t104 => (if 2 + t104.size ≤ 9223372036854775807 then (some ((⟨#[92, 117]⟩ : ByteArray) ++ t104)) else (none))) else ((grommetref07_hex.f k a0 8).bind fun t105 => (if 2 + t105.size ≤ 9223372036854775807 then (some ((⟨#[92, 85]⟩ : ByteArray) ++ t105)) else (none))))))))))))
set_option maxHeartbeats 8000000 in
set_option maxRecDepth 100000 in
theorem grommetref07_escaped.calls (k : Nat) (a0 : Int) (r : ByteArray) (w : World) (hG : Glob.G w) (h : grommetref07_escaped.f k a0 = some r) :
    Calls Tryz.prog 34 #[.int .i64 a0] w fun e w' => e = .returned (.string r) ∧ Below w.heap.size w w' := by
  have HB := Aside0.mk (Below.refl w.heap.size w)
  have H : (if a0 = 34 then (some (⟨#[92, 34]⟩ : ByteArray)) else (if a0 = 92 then (some (⟨#[92, 92]⟩ : ByteArray)) else (if a0 = 9 then (some (⟨#[92, 116]⟩ : ByteArray)) else (if a0 = 10 then (some (⟨#[92, 110]⟩ : ByteArray)) else (if a0 = 13 then (some (⟨#[92, 114]⟩ : ByteArray)) else (if a0 = 0 then (some (⟨#[92, 48]⟩ : ByteArray)) else ((grommetref07_may.f k a0).bind fun t101 => (if t101 = true then ((grommetref07_text.f k a0).bind fun t102 => (some t102)) else (if a0 < 256 then ((grommetref07_hex.f k a0 2).bind fun t103 => (if 2 + t103.size ≤ 9223372036854775807 then (some ((⟨#[92, 120]⟩ : ByteArray) ++ t103)) else (none))) else (if a0 < 65536 then ((grommetref07_hex.f k a0 4).bind fun t104 => (if 2 + t104.size ≤ 9223372036854775807 then (some ((⟨#[92, 117]⟩ : ByteArray) ++ t104)) else (none))) else ((grommetref07_hex.f k a0 8).bind fun t105 => (if 2 + t105.size ≤ 9223372036854775807 then (some ((⟨#[92, 85]⟩ : ByteArray) ++ t105)) else (none))))))))))))) = some r := h
  clear h
  by_cases c2 : a0 = 34
  · rw [if_pos c2] at H
    have c2b0 : (a0 == 34) = true := beq_iff_eq.mpr c2
    have c2b1 : (a0 != 34) = false := bne_eq_false_iff_eq.mpr c2
    clear c2
    obtain rfl := Option.some.inj H
    go_enter Tryz.func34, Tryz.ntmps34
    go_wp2
    go_ret
    exact ⟨by first | rfl | (simp [errW_none, errW_some] <;> rfl) | (simp [*, errW_none, errW_some] <;> rfl), by repeat (first | (with_reducible first | exact HB.out | apply below_alloc | apply pw_below_drewN | apply below_drew1) | exact HB.out)⟩
  · rw [if_neg c2] at H
    have c2b0 : (a0 == 34) = false := beq_eq_false_iff_ne.mpr c2
    have c2b1 : (a0 != 34) = true := bne_iff_ne.mpr c2
    by_cases c3 : a0 = 92
    · rw [if_pos c3] at H
      have c3b0 : (a0 == 92) = true := beq_iff_eq.mpr c3
      have c3b1 : (a0 != 92) = false := bne_eq_false_iff_eq.mpr c3
      clear c3
      obtain rfl := Option.some.inj H
      go_enter Tryz.func34, Tryz.ntmps34
      go_wp2
      go_ret
      exact ⟨by first | rfl | (simp [errW_none, errW_some] <;> rfl) | (simp [*, errW_none, errW_some] <;> rfl), by repeat (first | (with_reducible first | exact HB.out | apply below_alloc | apply pw_below_drewN | apply below_drew1) | exact HB.out)⟩
    · rw [if_neg c3] at H
      have c3b0 : (a0 == 92) = false := beq_eq_false_iff_ne.mpr c3
      have c3b1 : (a0 != 92) = true := bne_iff_ne.mpr c3
      by_cases c4 : a0 = 9
      · rw [if_pos c4] at H
        have c4b0 : (a0 == 9) = true := beq_iff_eq.mpr c4
        have c4b1 : (a0 != 9) = false := bne_eq_false_iff_eq.mpr c4
        clear c4
        obtain rfl := Option.some.inj H
        go_enter Tryz.func34, Tryz.ntmps34
        go_wp2
        go_ret
        exact ⟨by first | rfl | (simp [errW_none, errW_some] <;> rfl) | (simp [*, errW_none, errW_some] <;> rfl), by repeat (first | (with_reducible first | exact HB.out | apply below_alloc | apply pw_below_drewN | apply below_drew1) | exact HB.out)⟩
      · rw [if_neg c4] at H
        have c4b0 : (a0 == 9) = false := beq_eq_false_iff_ne.mpr c4
        have c4b1 : (a0 != 9) = true := bne_iff_ne.mpr c4
        by_cases c5 : a0 = 10
        · rw [if_pos c5] at H
          have c5b0 : (a0 == 10) = true := beq_iff_eq.mpr c5
          have c5b1 : (a0 != 10) = false := bne_eq_false_iff_eq.mpr c5
          clear c5
          obtain rfl := Option.some.inj H
          go_enter Tryz.func34, Tryz.ntmps34
          go_wp2
          go_ret
          exact ⟨by first | rfl | (simp [errW_none, errW_some] <;> rfl) | (simp [*, errW_none, errW_some] <;> rfl), by repeat (first | (with_reducible first | exact HB.out | apply below_alloc | apply pw_below_drewN | apply below_drew1) | exact HB.out)⟩
        · rw [if_neg c5] at H
          have c5b0 : (a0 == 10) = false := beq_eq_false_iff_ne.mpr c5
          have c5b1 : (a0 != 10) = true := bne_iff_ne.mpr c5
          by_cases c6 : a0 = 13
          · rw [if_pos c6] at H
            have c6b0 : (a0 == 13) = true := beq_iff_eq.mpr c6
            have c6b1 : (a0 != 13) = false := bne_eq_false_iff_eq.mpr c6
            clear c6
            obtain rfl := Option.some.inj H
            go_enter Tryz.func34, Tryz.ntmps34
            go_wp2
            go_ret
            exact ⟨by first | rfl | (simp [errW_none, errW_some] <;> rfl) | (simp [*, errW_none, errW_some] <;> rfl), by repeat (first | (with_reducible first | exact HB.out | apply below_alloc | apply pw_below_drewN | apply below_drew1) | exact HB.out)⟩
          · rw [if_neg c6] at H
            have c6b0 : (a0 == 13) = false := beq_eq_false_iff_ne.mpr c6
            have c6b1 : (a0 != 13) = true := bne_iff_ne.mpr c6
            by_cases c7 : a0 = 0
            · rw [if_pos c7] at H
              have c7b0 : (a0 == 0) = true := beq_iff_eq.mpr c7
              have c7b1 : (a0 != 0) = false := bne_eq_false_iff_eq.mpr c7
              clear c7
              obtain rfl := Option.some.inj H
              go_enter Tryz.func34, Tryz.ntmps34
              go_wp2
              go_ret
              exact ⟨by first | rfl | (simp [errW_none, errW_some] <;> rfl) | (simp [*, errW_none, errW_some] <;> rfl), by repeat (first | (with_reducible first | exact HB.out | apply below_alloc | apply pw_below_drewN | apply below_drew1) | exact HB.out)⟩
            · rw [if_neg c7] at H
              have c7b0 : (a0 == 0) = false := beq_eq_false_iff_ne.mpr c7
              have c7b1 : (a0 != 0) = true := bne_iff_ne.mpr c7
              replace H := Option.bind_eq_some_iff.mp H
              obtain ⟨t101, A80, H⟩ := H
              replace H : (if t101 = true then ((grommetref07_text.f k a0).bind fun t102 => (some t102)) else (if a0 < 256 then ((grommetref07_hex.f k a0 2).bind fun t103 => (if 2 + t103.size ≤ 9223372036854775807 then (some ((⟨#[92, 120]⟩ : ByteArray) ++ t103)) else (none))) else (if a0 < 65536 then ((grommetref07_hex.f k a0 4).bind fun t104 => (if 2 + t104.size ≤ 9223372036854775807 then (some ((⟨#[92, 117]⟩ : ByteArray) ++ t104)) else (none))) else ((grommetref07_hex.f k a0 8).bind fun t105 => (if 2 + t105.size ≤ 9223372036854775807 then (some ((⟨#[92, 85]⟩ : ByteArray) ++ t105)) else (none)))))) = some r := H
              have A8 := Aside0.mk A80
              clear A80
              by_cases c9 : t101 = true
              · subst c9
                have H1 : ((grommetref07_text.f k a0).bind fun t102 => (some t102)) = some r := by rw [if_pos rfl] at H; exact H
                clear H
                have H := H1
                clear H1
                replace H := Option.bind_eq_some_iff.mp H
                obtain ⟨t102, A100, H⟩ := H
                replace H : (some t102) = some r := H
                have A10 := Aside0.mk A100
                clear A100
                obtain rfl := Option.some.inj H
                go_enter Tryz.func34, Tryz.ntmps34
                go_wp2_with (first | ((with_reducible refine gate_callee (f := 37) rfl ?_); refine goesL_ (some 18) rfl rfl Tryz.func37 (by kernel_rfl) rfl #[.int .i64 a0] rfl (by (try simp only [List.map_toArray, List.map_cons, List.map_nil]); first | done | rfl | (simp only [List.length_drop, List.length_take]; rfl)) ?_; (with_reducible refine (grommetref07_may.calls k a0 true _ (hG.below (by first | ((repeat (first | (with_reducible first | exact HB.out | apply below_alloc | apply pw_below_drewN | apply below_drew1 | (refine Glob.below_set ?_ (by assumption) _ _ _)) | exact HB.out)); done) | (refine Drawn0.below ?_; repeat (first | exact Drawn0.refl _ | assumption | apply Drawn0.step)))) A8.out).mono ?_); rintro e w' ⟨rfl, ⟨nd, rfl⟩⟩; refine ⟨_, rfl, ?_⟩) | ((with_reducible refine gate_callee (f := 63) rfl ?_); refine goesL_ (some 20) rfl rfl Tryz.func63 (by kernel_rfl) rfl #[.int .i64 a0] rfl (by (try simp only [List.map_toArray, List.map_cons, List.map_nil]); first | done | rfl | (simp only [List.length_drop, List.length_take]; rfl)) ?_; (with_reducible refine (grommetref07_text.calls k a0 t102 _ (hG.below (by first | ((repeat (first | (with_reducible first | exact HB.out | apply below_alloc | apply pw_below_drewN | apply below_drew1 | (refine Glob.below_set ?_ (by assumption) _ _ _)) | exact HB.out)); done) | (refine Drawn0.below ?_; repeat (first | exact Drawn0.refl _ | assumption | apply Drawn0.step)))) A10.out).mono ?_); rintro e w11 ⟨rfl, hb⟩; refine ⟨_, rfl, ?_⟩; have n0_ := Aside0.mk (below_step (by repeat (first | (with_reducible first | exact HB.out | apply below_alloc | apply pw_below_drewN | apply below_drew1) | exact HB.out)) hb); clear HB; have HB := n0_; clear n0_; (try clear hb); (try clear hb2); (try clear hk); (try clear hi)))
                go_ret
                exact ⟨by first | rfl | (simp [errW_none, errW_some] <;> rfl) | (simp [*, errW_none, errW_some] <;> rfl), by repeat (first | (with_reducible first | exact HB.out | apply below_alloc | apply pw_below_drewN | apply below_drew1) | exact HB.out)⟩
              · replace c9 := Bool.eq_false_iff.mpr c9
                subst c9
                have H1 : (if a0 < 256 then ((grommetref07_hex.f k a0 2).bind fun t103 => (if 2 + t103.size ≤ 9223372036854775807 then (some ((⟨#[92, 120]⟩ : ByteArray) ++ t103)) else (none))) else (if a0 < 65536 then ((grommetref07_hex.f k a0 4).bind fun t104 => (if 2 + t104.size ≤ 9223372036854775807 then (some ((⟨#[92, 117]⟩ : ByteArray) ++ t104)) else (none))) else ((grommetref07_hex.f k a0 8).bind fun t105 => (if 2 + t105.size ≤ 9223372036854775807 then (some ((⟨#[92, 85]⟩ : ByteArray) ++ t105)) else (none))))) = some r := by rw [if_neg (show ¬ (false = true) by decide)] at H; exact H
                clear H
                have H := H1
                clear H1
                by_cases c12 : a0 < 256
                · rw [if_pos c12] at H
                  have c12b0 : decide (a0 < 256) = true := decide_eq_true c12
                  clear c12
                  replace H := Option.bind_eq_some_iff.mp H
                  obtain ⟨t103, A130, H⟩ := H
                  replace H : (if 2 + t103.size ≤ 9223372036854775807 then (some ((⟨#[92, 120]⟩ : ByteArray) ++ t103)) else (none)) = some r := H
                  have A13 := Aside0.mk A130
                  clear A130
                  by_cases c14 : 2 + t103.size ≤ 9223372036854775807
                  · rw [if_pos c14] at H
                    have c14b0 := eq_true c14
                    have c14b1 : decide (2 + t103.size ≤ 9223372036854775807) = true := decide_eq_true c14
                    try have c14b2 : (9223372036854775807 < 2 + t103.size) = False := eq_false (Nat.not_lt.2 c14)
                    obtain rfl := Option.some.inj H
                    go_enter Tryz.func34, Tryz.ntmps34
                    go_wp2_with (first | ((with_reducible refine gate_callee (f := 37) rfl ?_); refine goesL_ (some 18) rfl rfl Tryz.func37 (by kernel_rfl) rfl #[.int .i64 a0] rfl (by (try simp only [List.map_toArray, List.map_cons, List.map_nil]); first | done | rfl | (simp only [List.length_drop, List.length_take]; rfl)) ?_; (with_reducible refine (grommetref07_may.calls k a0 false _ (hG.below (by first | ((repeat (first | (with_reducible first | exact HB.out | apply below_alloc | apply pw_below_drewN | apply below_drew1 | (refine Glob.below_set ?_ (by assumption) _ _ _)) | exact HB.out)); done) | (refine Drawn0.below ?_; repeat (first | exact Drawn0.refl _ | assumption | apply Drawn0.step)))) A8.out).mono ?_); rintro e w' ⟨rfl, ⟨nd, rfl⟩⟩; refine ⟨_, rfl, ?_⟩) | ((with_reducible refine gate_callee (f := 64) rfl ?_); refine goesL_ (some 25) rfl rfl Tryz.func64 (by kernel_rfl) rfl #[.int .i64 a0, .int .i64 2] rfl (by (try simp only [List.map_toArray, List.map_cons, List.map_nil]); first | done | rfl | (simp only [List.length_drop, List.length_take]; rfl)) ?_; (with_reducible refine (grommetref07_hex.calls k a0 2 t103 _ (hG.below (by first | ((repeat (first | (with_reducible first | exact HB.out | apply below_alloc | apply pw_below_drewN | apply below_drew1 | (refine Glob.below_set ?_ (by assumption) _ _ _)) | exact HB.out)); done) | (refine Drawn0.below ?_; repeat (first | exact Drawn0.refl _ | assumption | apply Drawn0.step)))) A13.out).mono ?_); rintro e w15 ⟨rfl, hb⟩; refine ⟨_, rfl, ?_⟩; have n0_ := Aside0.mk (below_step (by repeat (first | (with_reducible first | exact HB.out | apply below_alloc | apply pw_below_drewN | apply below_drew1) | exact HB.out)) hb); clear HB; have HB := n0_; clear n0_; (try clear hb); (try clear hb2); (try clear hk); (try clear hi)))
                    go_ret
                    exact ⟨by first | rfl | (simp [errW_none, errW_some] <;> rfl) | (simp [*, errW_none, errW_some] <;> rfl), by repeat (first | (with_reducible first | exact HB.out | apply below_alloc | apply pw_below_drewN | apply below_drew1) | exact HB.out)⟩
                  · rw [if_neg c14] at H
                    exact absurd H (by simp)
                · rw [if_neg c12] at H
                  have c12b0 : decide (a0 < 256) = false := decide_eq_false c12
                  clear c12
                  by_cases c16 : a0 < 65536
                  · rw [if_pos c16] at H
                    have c16b0 : decide (a0 < 65536) = true := decide_eq_true c16
                    clear c16
                    replace H := Option.bind_eq_some_iff.mp H
                    obtain ⟨t104, A170, H⟩ := H
                    replace H : (if 2 + t104.size ≤ 9223372036854775807 then (some ((⟨#[92, 117]⟩ : ByteArray) ++ t104)) else (none)) = some r := H
                    have A17 := Aside0.mk A170
                    clear A170
                    by_cases c18 : 2 + t104.size ≤ 9223372036854775807
                    · rw [if_pos c18] at H
                      have c18b0 := eq_true c18
                      have c18b1 : decide (2 + t104.size ≤ 9223372036854775807) = true := decide_eq_true c18
                      try have c18b2 : (9223372036854775807 < 2 + t104.size) = False := eq_false (Nat.not_lt.2 c18)
                      obtain rfl := Option.some.inj H
                      go_enter Tryz.func34, Tryz.ntmps34
                      go_wp2_with (first | ((with_reducible refine gate_callee (f := 37) rfl ?_); refine goesL_ (some 18) rfl rfl Tryz.func37 (by kernel_rfl) rfl #[.int .i64 a0] rfl (by (try simp only [List.map_toArray, List.map_cons, List.map_nil]); first | done | rfl | (simp only [List.length_drop, List.length_take]; rfl)) ?_; (with_reducible refine (grommetref07_may.calls k a0 false _ (hG.below (by first | ((repeat (first | (with_reducible first | exact HB.out | apply below_alloc | apply pw_below_drewN | apply below_drew1 | (refine Glob.below_set ?_ (by assumption) _ _ _)) | exact HB.out)); done) | (refine Drawn0.below ?_; repeat (first | exact Drawn0.refl _ | assumption | apply Drawn0.step)))) A8.out).mono ?_); rintro e w' ⟨rfl, ⟨nd, rfl⟩⟩; refine ⟨_, rfl, ?_⟩) | ((with_reducible refine gate_callee (f := 64) rfl ?_); refine goesL_ (some 31) rfl rfl Tryz.func64 (by kernel_rfl) rfl #[.int .i64 a0, .int .i64 4] rfl (by (try simp only [List.map_toArray, List.map_cons, List.map_nil]); first | done | rfl | (simp only [List.length_drop, List.length_take]; rfl)) ?_; (with_reducible refine (grommetref07_hex.calls k a0 4 t104 _ (hG.below (by first | ((repeat (first | (with_reducible first | exact HB.out | apply below_alloc | apply pw_below_drewN | apply below_drew1 | (refine Glob.below_set ?_ (by assumption) _ _ _)) | exact HB.out)); done) | (refine Drawn0.below ?_; repeat (first | exact Drawn0.refl _ | assumption | apply Drawn0.step)))) A17.out).mono ?_); rintro e w19 ⟨rfl, hb⟩; refine ⟨_, rfl, ?_⟩; have n0_ := Aside0.mk (below_step (by repeat (first | (with_reducible first | exact HB.out | apply below_alloc | apply pw_below_drewN | apply below_drew1) | exact HB.out)) hb); clear HB; have HB := n0_; clear n0_; (try clear hb); (try clear hb2); (try clear hk); (try clear hi)))
                      go_ret
                      exact ⟨by first | rfl | (simp [errW_none, errW_some] <;> rfl) | (simp [*, errW_none, errW_some] <;> rfl), by repeat (first | (with_reducible first | exact HB.out | apply below_alloc | apply pw_below_drewN | apply below_drew1) | exact HB.out)⟩
                    · rw [if_neg c18] at H
                      exact absurd H (by simp)
                  · rw [if_neg c16] at H
                    have c16b0 : decide (a0 < 65536) = false := decide_eq_false c16
                    clear c16
                    replace H := Option.bind_eq_some_iff.mp H
                    obtain ⟨t105, A200, H⟩ := H
                    replace H : (if 2 + t105.size ≤ 9223372036854775807 then (some ((⟨#[92, 85]⟩ : ByteArray) ++ t105)) else (none)) = some r := H
                    have A20 := Aside0.mk A200
                    clear A200
                    by_cases c21 : 2 + t105.size ≤ 9223372036854775807
                    · rw [if_pos c21] at H
                      have c21b0 := eq_true c21
                      have c21b1 : decide (2 + t105.size ≤ 9223372036854775807) = true := decide_eq_true c21
                      try have c21b2 : (9223372036854775807 < 2 + t105.size) = False := eq_false (Nat.not_lt.2 c21)
                      obtain rfl := Option.some.inj H
                      go_enter Tryz.func34, Tryz.ntmps34
                      go_wp2_with (first | ((with_reducible refine gate_callee (f := 37) rfl ?_); refine goesL_ (some 18) rfl rfl Tryz.func37 (by kernel_rfl) rfl #[.int .i64 a0] rfl (by (try simp only [List.map_toArray, List.map_cons, List.map_nil]); first | done | rfl | (simp only [List.length_drop, List.length_take]; rfl)) ?_; (with_reducible refine (grommetref07_may.calls k a0 false _ (hG.below (by first | ((repeat (first | (with_reducible first | exact HB.out | apply below_alloc | apply pw_below_drewN | apply below_drew1 | (refine Glob.below_set ?_ (by assumption) _ _ _)) | exact HB.out)); done) | (refine Drawn0.below ?_; repeat (first | exact Drawn0.refl _ | assumption | apply Drawn0.step)))) A8.out).mono ?_); rintro e w' ⟨rfl, ⟨nd, rfl⟩⟩; refine ⟨_, rfl, ?_⟩) | ((with_reducible refine gate_callee (f := 64) rfl ?_); refine goesL_ (some 34) rfl rfl Tryz.func64 (by kernel_rfl) rfl #[.int .i64 a0, .int .i64 8] rfl (by (try simp only [List.map_toArray, List.map_cons, List.map_nil]); first | done | rfl | (simp only [List.length_drop, List.length_take]; rfl)) ?_; (with_reducible refine (grommetref07_hex.calls k a0 8 t105 _ (hG.below (by first | ((repeat (first | (with_reducible first | exact HB.out | apply below_alloc | apply pw_below_drewN | apply below_drew1 | (refine Glob.below_set ?_ (by assumption) _ _ _)) | exact HB.out)); done) | (refine Drawn0.below ?_; repeat (first | exact Drawn0.refl _ | assumption | apply Drawn0.step)))) A20.out).mono ?_); rintro e w22 ⟨rfl, hb⟩; refine ⟨_, rfl, ?_⟩; have n0_ := Aside0.mk (below_step (by repeat (first | (with_reducible first | exact HB.out | apply below_alloc | apply pw_below_drewN | apply below_drew1) | exact HB.out)) hb); clear HB; have HB := n0_; clear n0_; (try clear hb); (try clear hb2); (try clear hk); (try clear hi)))
                      go_ret
                      exact ⟨by first | rfl | (simp [errW_none, errW_some] <;> rfl) | (simp [*, errW_none, errW_some] <;> rfl), by repeat (first | (with_reducible first | exact HB.out | apply below_alloc | apply pw_below_drewN | apply below_drew1) | exact HB.out)⟩
                    · rw [if_neg c21] at H
                      exact absurd H (by simp)

end Go.Proofs.YtmkdjgmdfhagfaaGreatDoor.PX
