/- Texts that stand behind one another, laid into one: what this claim needs of them. -/
import Derived.Test.YtnjcpoojgmpmeaaGreatDoorBT1
import Derived.Outline
import Derived.Lib.SlTrimSet
import Derived.Test.YtnjcpoojgmpmeaaGreatDoorBT0
import Derived.Maps.OwnSet
import Derived.Maps.Views
import Derived.DeepKeys4
import Derived.Deep.LoopGhost
import Derived.Lib.AppendIntMem
import Derived.Deep.QuietTactic
import Derived.BigQuiet
namespace Go.Proofs.YtnjcpoojgmpmeaaGreatDoor.Plug
open RowKit YtnjcpoojgmpmeaaGreatDoor YtnjcpoojgmpmeaaGreatDoor.PX YtnjcpoojgmpmeaaGreatDoor.Utf YtnjcpoojgmpmeaaGreatDoorW.PrintWords YtnjcpoojgmpmeaaGreatDoorW.PrintLast YtnjcpoojgmpmeaaGreatDoorW.PrintMore
def rgtsO (f : S29 → Int → Option (Bool × Int)) (m : Bool) : Nat → List S29 → Int → Option (Bool × Int)
 | _, [], left => some (true, left)
 | i, k :: r, left =>
  if m = true ∧ i % 2 = 0 ∧ (flow_isScalar.f k.f0 = some false ∨ k.f2.toList ≠ []) then some (false, left)
  else match f k left with
  | none => none
  | some (b, l) => if b = false then some (false, l) else rgtsO f m (i + 1) r l
def rgtO : Nat → S29 → Int → Int → Option (Bool × Int)
 | 0, _, _, _ => none
 | K + 1, t, deep, left =>
  match flow_isText.f 9 t.f0 t.f1, flow_Name.f t.f2 with
  | some tx, some nm =>
   if 1099511627776 < t.f3.length then none else if left - 1 < 0 then some (false, left - 1) else if t.f0 < 1 then some (false, left - 1) else if 7 < t.f0 then some (false, left - 1) else if tx = false then some (false, left - 1)
   else if (t.f2.toList ≠ [] ∨ t.f0 = 7) ∧ nm = false then some (false, left - 1)
   else if t.f0 ≠ 5 ∧ t.f0 ≠ 6 then some (decide ((t.f3.length : Int) = 0), left - 1)
   else if deep = 64 ∨ (t.f0 = 6 ∧ t.f3.length % 2 ≠ 0) then some (false, left - 1)
   else rgtsO (fun k => rgtO K k (deep + 1)) (decide (t.f0 = 6)) 0 t.f3 (left - 1)
  | _, _ => none
theorem rdT_nth (xs : List S29) (i : Nat) (h : i < xs.length) : rd_T29 xs (i : Int) = xs[i] := by
 unfold rd_T29
 rw [Int.toNat_natCast, List.getD_eq_getElem?_getD, List.getElem?_eq_getElem h]; rfl
theorem rgts_left {f : S29 → Int → Option (Bool × Int)} (hf : ∀ k left b l, f k left = some (b, l) → l ≤ left ∧ (b = true → 0 ≤ l)) (m : Bool) :
  ∀ (r : List S29) (i : Nat) (left : Int) (b : Bool) (l : Int), rgtsO f m i r left = some (b, l) → 0 ≤ left → l ≤ left ∧ (b = true → 0 ≤ l)
 | [], i, left, b, l, h, h0 => by
  rw [rgtsO] at h
  obtain ⟨e1, e2⟩ := Prod.mk.inj (Option.some.inj h)
  exact ⟨by omega, fun _ => by omega⟩
 | k :: r, i, left, b, l, h, h0 => by
  rw [rgtsO] at h
  split at h
  ·
   obtain ⟨e1, e2⟩ := Prod.mk.inj (Option.some.inj h)
   exact ⟨by omega, fun e => by rw [← e1] at e; cases e⟩
  ·
   split at h
   · cases h
   ·
    rename_i b2 l2 hk
    have h1 := hf k left b2 l2 hk
    split at h
    ·
     obtain ⟨e1, e2⟩ := Prod.mk.inj (Option.some.inj h)
     exact ⟨by omega, fun e => by rw [← e1] at e; cases e⟩
    ·
     rename_i hb
     have h2 := h1.2 (by cases b2 <;> simp_all)
     have h3 := rgts_left hf m r (i + 1) l2 b l h h2
     exact ⟨by omega, h3.2⟩
theorem rgt_left : ∀ (K : Nat) (t : S29) (deep left : Int) (b : Bool) (l : Int), rgtO K t deep left = some (b, l) → l ≤ left ∧ (b = true → 0 ≤ l)
 | 0, t, deep, left, b, l, h => by simp [rgtO] at h
 | K + 1, t, deep, left, b, l, h => by
  rw [rgtO] at h
  split at h
  ·
   split at h
   · cases h
   by_cases c1 : left - 1 < 0
   ·
    rw [if_pos c1] at h
    obtain ⟨e1, e2⟩ := Prod.mk.inj (Option.some.inj h)
    exact ⟨by omega, fun e => by rw [← e1] at e; cases e⟩
   rw [if_neg c1] at h
   repeat' split at h
   all_goals first
    | (obtain ⟨e1, e2⟩ := Prod.mk.inj (Option.some.inj h); exact ⟨by omega, fun _ => by omega⟩)
    | (have h3 := rgts_left (fun k left b l => rgt_left K k (deep + 1) left b l) _ _ _ _ _ _ h (by omega); exact ⟨by omega, h3.2⟩)
  · cases h
structure Fw (w0 W : World) (cb tb : Nat) (kd : Int) (tx an : ByteArray) (v : Value) (left : Int) (Z : World) : Prop where
 cnt : Z.heap[cb]? = some (.cells #[.int .i64 left] 92)
 box : Z.heap[tb]? = some (.cells #[.int .i64 kd, .string tx, .string an, v] 29)
 bel : Below w0.heap.size w0 Z
 kb : KeepBut W Z cb none
 lt : w0.heap.size ≤ cb ∧ cb < W.heap.size ∧ W.heap.size ≤ tb
section
variable {w0 W Z Z' : World} {cb tb : Nat} {kd : Int} {tx an : ByteArray} {v : Value} {left : Int}
theorem Fw.cells (h : Fw w0 W cb tb kd tx an v left Z) : Z.cell? ⟨cb, 0, none⟩ = some (.int .i64 left) ∧ Z.cell? ⟨tb, 0, none⟩ = some (.int .i64 kd) ∧ Z.cell? ⟨tb, 1, none⟩ = some (.string tx) ∧ Z.cell? ⟨tb, 2, none⟩ = some (.string an) ∧ Z.cell? ⟨tb, 3, none⟩ = some v ∧ Z.frozen? ⟨cb, 0, none⟩ = false :=
  ⟨(blk_cell h.cnt 0).trans rfl, (blk_cell h.box 0).trans rfl, (blk_cell h.box 1).trans rfl, (blk_cell h.box 2).trans rfl, (blk_cell h.box 3).trans rfl, blk_frozen h.cnt 0⟩
theorem Fw.dec (h : Fw w0 W cb tb kd tx an v left Z) (x : Int) : Fw w0 W cb tb kd tx an v x (Z.setCell ⟨cb, 0, none⟩ (.int .i64 x)) := by
 obtain ⟨l1, l2, l3⟩ := h.lt
 exact ⟨by simpa using blk_set h.cnt 0 (.int .i64 x), (Below.heap_setCell Z ⟨cb, 0, none⟩ _ tb (by show tb ≠ cb; omega)).trans h.box, h.bel.setCell (p := ⟨cb, 0, none⟩) l1 _, h.kb.set_ 0 _, h.lt⟩
theorem Fw.below (h : Fw w0 W cb tb kd tx an v left Z) (hb : Below Z.heap.size Z Z') : Fw w0 W cb tb kd tx an v left Z' :=
  ⟨(hb.block cb (blk_lt h.cnt)).trans h.cnt, (hb.block tb (blk_lt h.box)).trans h.box, h.bel.trans (hb.mono h.bel.size), h.kb.trans (KeepBut.of_below hb cb none) (.inl rfl), h.lt⟩
theorem Fw.call (h : Fw w0 W cb tb kd tx an v left Z) {x : Int} (hc : Z'.heap[cb]? = some (.cells #[.int .i64 x] 92)) (hb : Below w0.heap.size w0 Z') (hk : KeepBut Z Z' cb none) : Fw w0 W cb tb kd tx an v x Z' :=
  ⟨hc, (hk.2 tb (blk_lt h.box) (by have := h.lt; omega) (by simp)).trans h.box, hb, h.kb.trans hk (.inl rfl), h.lt⟩
end
set_option maxHeartbeats 8000000 in
set_option maxRecDepth 100000 in
theorem right_is (w0 : World) (hG : Glob.G w0) (cb : Nat) (hcb : w0.heap.size ≤ cb) :
  ∀ (K : Nat) (t : S29) (deep left : Int) (b : Bool) (left' : Int) (W : World) (A : Option Addr) (c : Nat), Kd.C k29 w0 A t.f3.length t.f3 → t.f3.length ≤ c → Below w0.heap.size w0 W → W.heap[cb]? = some (.cells #[.int .i64 left] 92) → rgtO K t deep left = some (b, left') → 0 ≤ deep → deep ≤ 64 → 0 ≤ left → left ≤ 4096 →
   Calls Tryz.prog 40 #[.pointer (some ⟨cb, 0, none⟩), .agg #[.int .i64 t.f0, .string t.f1, .string t.f2, .slice A t.f3.length c], .int .i64 deep] W fun e W' => e = .returned (.bool b) ∧ Below w0.heap.size w0 W' ∧ W'.heap[cb]? = some (.cells #[.int .i64 left'] 92) ∧ KeepBut W W' cb none := by
 intro K
 induction K with
 | zero => intro t deep left b left' W A c _ _ _ _ h; simp [rgtO] at h
 | succ K ih =>
  intro t deep left b left' W A c hr hc hb hcnt h hd0 hd1 hl0 hl1
  obtain ⟨kd, tt, an, kids⟩ := t
  rw [rgtO] at h
  dsimp only at h hr hc ⊢
  have HR := Lib.hid hr
  have HB := Lib.hid hb
  have HC := Lib.hid hcnt
  have IH := Lib.hid ih
  clear hr hb hcnt ih
  cases htx : flow_isText.f 9 kd tt with
  | none => rw [htx] at h; cases h
  | some tx =>
   cases hnm : flow_Name.f an with
   | none => rw [htx, hnm] at h; cases h
   | some nm =>
    rw [htx, hnm] at h
    dsimp only at h
    by_cases hsz0 : 1099511627776 < kids.length
    case pos => rw [if_pos hsz0] at h; cases h
    rw [if_neg hsz0] at h
    have hsz : kids.length ≤ 1099511627776 := by omega
    clear hsz0
    have HT := Lib.hid htx
    have HN := Lib.hid hnm
    clear htx hnm
    have hw1 : wrap64 (left - 1) = left - 1 := by unfold wrap64; omega
    by_cases c1 : left - 1 < 0
    ·
     rw [if_pos c1] at h
     obtain ⟨e1, e2⟩ := Prod.mk.inj (Option.some.inj h)
     have HE := Lib.hid e1
     subst e2
     have q1 : decide (left - 1 < 0) = true := decide_eq_true c1
     clear h e1 c1
     go_enter Tryz.func40, Tryz.ntmps40
     go_wp2_with (first | ((with_reducible refine gate_dst (N := 4) rfl ?_); refine box_event ?hg (N := 4) ?hd (cs := #[.int .i64 kd, .string tt, .string an, .slice A kids.length c]) (t := 29) ?hr ?_; (case hd => rfl); (case hg => rfl); (case hr => first | (go_simp; done) | (go_simp; rfl)); intro tb ht w1 htb hb1; have HX1 := Lib.hid (Fw.mk (w0 := w0) (W := W) ((hb1.block cb (blk_lt HC.out)).trans HC.out) htb (HB.out.trans (hb1.mono HB.out.size)) (KeepBut.of_below hb1 cb none) ⟨hcb, blk_lt HC.out, by rw [ht]; exact Nat.le_refl _⟩); have HX2 := Lib.hid (HX1.out.dec (left - 1)); clear htb hb1 ht; obtain ⟨x0, x1, x2, x3, x4, x5⟩ := HX1.out.cells; obtain ⟨y0, y1, y2, y3, y4, y5⟩ := HX2.out.cells))
     go_ret
     exact ⟨by rw [← HE.out]; first | done | rfl, HX2.out.bel, HX2.out.cnt, HX2.out.kb⟩
    rw [if_neg c1] at h
    have q1 : decide (left - 1 < 0) = false := decide_eq_false c1
    by_cases c2 : kd < 1
    ·
     rw [if_pos c2] at h
     obtain ⟨e1, e2⟩ := Prod.mk.inj (Option.some.inj h)
     have HE := Lib.hid e1
     subst e2
     have q2 : decide (kd < 1) = true := decide_eq_true c2
     clear h e1 c1 c2
     go_enter Tryz.func40, Tryz.ntmps40
     go_wp2_with (first | ((with_reducible refine gate_dst (N := 4) rfl ?_); refine box_event ?hg (N := 4) ?hd (cs := #[.int .i64 kd, .string tt, .string an, .slice A kids.length c]) (t := 29) ?hr ?_; (case hd => rfl); (case hg => rfl); (case hr => first | (go_simp; done) | (go_simp; rfl)); intro tb ht w1 htb hb1; have HX1 := Lib.hid (Fw.mk (w0 := w0) (W := W) ((hb1.block cb (blk_lt HC.out)).trans HC.out) htb (HB.out.trans (hb1.mono HB.out.size)) (KeepBut.of_below hb1 cb none) ⟨hcb, blk_lt HC.out, by rw [ht]; exact Nat.le_refl _⟩); have HX2 := Lib.hid (HX1.out.dec (left - 1)); clear htb hb1 ht; obtain ⟨x0, x1, x2, x3, x4, x5⟩ := HX1.out.cells; obtain ⟨y0, y1, y2, y3, y4, y5⟩ := HX2.out.cells))
     go_ret
     exact ⟨by rw [← HE.out]; first | done | rfl, HX2.out.bel, HX2.out.cnt, HX2.out.kb⟩
    rw [if_neg c2] at h
    have q2 : decide (kd < 1) = false := decide_eq_false c2
    by_cases c3 : 7 < kd
    ·
     rw [if_pos c3] at h
     obtain ⟨e1, e2⟩ := Prod.mk.inj (Option.some.inj h)
     have HE := Lib.hid e1
     subst e2
     have q3 : decide (kd > 7) = true := decide_eq_true c3
     clear h e1 c1 c2 c3
     go_enter Tryz.func40, Tryz.ntmps40
     go_wp2_with (first | ((with_reducible refine gate_dst (N := 4) rfl ?_); refine box_event ?hg (N := 4) ?hd (cs := #[.int .i64 kd, .string tt, .string an, .slice A kids.length c]) (t := 29) ?hr ?_; (case hd => rfl); (case hg => rfl); (case hr => first | (go_simp; done) | (go_simp; rfl)); intro tb ht w1 htb hb1; have HX1 := Lib.hid (Fw.mk (w0 := w0) (W := W) ((hb1.block cb (blk_lt HC.out)).trans HC.out) htb (HB.out.trans (hb1.mono HB.out.size)) (KeepBut.of_below hb1 cb none) ⟨hcb, blk_lt HC.out, by rw [ht]; exact Nat.le_refl _⟩); have HX2 := Lib.hid (HX1.out.dec (left - 1)); clear htb hb1 ht; obtain ⟨x0, x1, x2, x3, x4, x5⟩ := HX1.out.cells; obtain ⟨y0, y1, y2, y3, y4, y5⟩ := HX2.out.cells))
     go_ret
     exact ⟨by rw [← HE.out]; first | done | rfl, HX2.out.bel, HX2.out.cnt, HX2.out.kb⟩
    rw [if_neg c3] at h
    have q3 : decide (kd > 7) = false := decide_eq_false c3
    cases tx with
    | false =>
     rw [if_pos rfl] at h
     obtain ⟨e1, e2⟩ := Prod.mk.inj (Option.some.inj h)
     have HE := Lib.hid e1
     subst e2
     clear h e1 c1 c2 c3
     go_enter Tryz.func40, Tryz.ntmps40
     go_wp2_with (first | ((with_reducible refine gate_dst (N := 4) rfl ?_); refine box_event ?hg (N := 4) ?hd (cs := #[.int .i64 kd, .string tt, .string an, .slice A kids.length c]) (t := 29) ?hr ?_; (case hd => rfl); (case hg => rfl); (case hr => first | (go_simp; done) | (go_simp; rfl)); intro tb ht w1 htb hb1; have HX1 := Lib.hid (Fw.mk (w0 := w0) (W := W) ((hb1.block cb (blk_lt HC.out)).trans HC.out) htb (HB.out.trans (hb1.mono HB.out.size)) (KeepBut.of_below hb1 cb none) ⟨hcb, blk_lt HC.out, by rw [ht]; exact Nat.le_refl _⟩); have HX2 := Lib.hid (HX1.out.dec (left - 1)); clear htb hb1 ht; obtain ⟨x0, x1, x2, x3, x4, x5⟩ := HX1.out.cells; obtain ⟨y0, y1, y2, y3, y4, y5⟩ := HX2.out.cells) | (go_at_call 59; refine (flow_isText.calls _ _ _ _ _ (hG.below HX2.out.bel) HT.out).mono ?_; rintro e w3 ⟨rfl, hb3⟩; have HX3 := Lib.hid (HX2.out.below hb3); clear hb3 x0 x1 x2 x3 x4 x5 y0 y1 y2 y3 y4 y5; obtain ⟨y0, y1, y2, y3, y4, y5⟩ := HX3.out.cells))
     go_ret
     exact ⟨by rw [← HE.out]; first | done | rfl, HX3.out.bel, HX3.out.cnt, HX3.out.kb⟩
    | true =>
     rw [if_neg (by decide)] at h
     clear c1 c2 c3
     have hna : an.toList ≠ [] ∨ (an.toList = [] ∧ kd = 7) ∨ (an.toList = [] ∧ kd ≠ 7) := by
      by_cases a : an.toList = []
      rotate_left
      · exact .inl a
      by_cases e : kd = 7
      · exact .inr (.inl ⟨a, e⟩)
      exact .inr (.inr ⟨a, e⟩)
     by_cases c4 : (an.toList ≠ [] ∨ kd = 7) ∧ nm = false
     ·
      rw [if_pos c4] at h
      obtain ⟨e1, e2⟩ := Prod.mk.inj (Option.some.inj h)
      have HE := Lib.hid e1
      subst e2
      have hnf := c4.2
      subst hnf
      rcases hna with a4 | ⟨a4, a5⟩ | ⟨a4, a5⟩
      case' inr.inr => exact absurd c4.1 (fun z => z.elim (fun y => y a4) a5)
      case' inl => have p4 : (an.toList = []) = False := eq_false a4; have q4 : (an.toList != []) = true := bne_iff_ne.2 a4; clear a4
      case' inr.inl => have p4 : (an.toList = []) = True := eq_true a4; have p5 : (kd = 7) = True := eq_true a5; have q4 : (an.toList != []) = false := by rw [a4]; rfl
      case' inr.inl => have q5 : (kd == 7) = true := beq_iff_eq.2 a5; clear a4 a5
      all_goals
       clear h e1 c4
       go_enter Tryz.func40, Tryz.ntmps40
       go_wp2_with (first | ((with_reducible refine gate_dst (N := 4) rfl ?_); refine box_event ?hg (N := 4) ?hd (cs := #[.int .i64 kd, .string tt, .string an, .slice A kids.length c]) (t := 29) ?hr ?_; (case hd => rfl); (case hg => rfl); (case hr => first | (go_simp; done) | (go_simp; rfl)); intro tb ht w1 htb hb1; have HX1 := Lib.hid (Fw.mk (w0 := w0) (W := W) ((hb1.block cb (blk_lt HC.out)).trans HC.out) htb (HB.out.trans (hb1.mono HB.out.size)) (KeepBut.of_below hb1 cb none) ⟨hcb, blk_lt HC.out, by rw [ht]; exact Nat.le_refl _⟩); have HX2 := Lib.hid (HX1.out.dec (left - 1)); clear htb hb1 ht; obtain ⟨x0, x1, x2, x3, x4, x5⟩ := HX1.out.cells; obtain ⟨y0, y1, y2, y3, y4, y5⟩ := HX2.out.cells) | (go_at_call 59; refine (flow_isText.calls _ _ _ _ _ (hG.below HX2.out.bel) HT.out).mono ?_; rintro e w3 ⟨rfl, hb3⟩; have HX3 := Lib.hid (HX2.out.below hb3); clear hb3 x0 x1 x2 x3 x4 x5 y0 y1 y2 y3 y4 y5; obtain ⟨y0, y1, y2, y3, y4, y5⟩ := HX3.out.cells) | (go_at_call 60; refine (flow_Name.calls _ _ _ (hG.below HX3.out.bel) HN.out).mono ?_; rintro e w4 ⟨rfl, hb4⟩; have HX4 := Lib.hid (HX3.out.below hb4); clear hb4 y0 y1 y2 y3 y4 y5; obtain ⟨y0, y1, y2, y3, y4, y5⟩ := HX4.out.cells))
       go_ret
       exact ⟨by rw [← HE.out]; first | done | rfl, HX4.out.bel, HX4.out.cnt, HX4.out.kb⟩
     rw [if_neg c4] at h
     have hp : (an.toList ≠ [] ∧ nm = true) ∨ (an.toList = [] ∧ kd ≠ 7) := by
      rcases hna with a4 | ⟨a4, a5⟩ | ⟨a4, a5⟩
      · exact .inl ⟨a4, by cases nm with | true => rfl | false => exact absurd ⟨.inl a4, rfl⟩ c4⟩
      ·
       refine absurd ⟨.inr a5, ?_⟩ c4
       have h2 := HN.out
       unfold flow_Name.f at h2
       rw [if_pos a4] at h2
       exact (Option.some.inj h2).symm
      · exact .inr ⟨a4, a5⟩
     clear hna c4
     by_cases c5 : kd ≠ 5 ∧ kd ≠ 6
     ·
      rw [if_pos c5] at h
      obtain ⟨e1, e2⟩ := Prod.mk.inj (Option.some.inj h)
      have HE := Lib.hid e1
      subst e2
      have q8 : (kd != 5) = true := bne_iff_ne.2 c5.1
      have q9 : (kd != 6) = true := bne_iff_ne.2 c5.2
      have p8 : (kd = 5) = False := eq_false c5.1
      have p9 : (kd = 6) = False := eq_false c5.2
      rcases hp with ⟨a4, a5⟩ | ⟨a4, a5⟩
      case' inl => subst a5; have p4 : (an.toList = []) = False := eq_false a4; have q4 : (an.toList != []) = true := bne_iff_ne.2 a4; clear a4
      case' inr => have p4 : (an.toList = []) = True := eq_true a4; have p5 : (kd = 7) = False := eq_false a5; have q4 : (an.toList != []) = false := by rw [a4]; rfl
      case' inr => have q5 : (kd == 7) = false := beq_eq_false_iff_ne.2 a5; clear a4 a5
      case inl =>
       clear h e1 c5
       go_enter Tryz.func40, Tryz.ntmps40
       go_wp2_with (first | ((with_reducible refine gate_dst (N := 4) rfl ?_); refine box_event ?hg (N := 4) ?hd (cs := #[.int .i64 kd, .string tt, .string an, .slice A kids.length c]) (t := 29) ?hr ?_; (case hd => rfl); (case hg => rfl); (case hr => first | (go_simp; done) | (go_simp; rfl)); intro tb ht w1 htb hb1; have HX1 := Lib.hid (Fw.mk (w0 := w0) (W := W) ((hb1.block cb (blk_lt HC.out)).trans HC.out) htb (HB.out.trans (hb1.mono HB.out.size)) (KeepBut.of_below hb1 cb none) ⟨hcb, blk_lt HC.out, by rw [ht]; exact Nat.le_refl _⟩); have HX2 := Lib.hid (HX1.out.dec (left - 1)); clear htb hb1 ht; obtain ⟨x0, x1, x2, x3, x4, x5⟩ := HX1.out.cells; obtain ⟨y0, y1, y2, y3, y4, y5⟩ := HX2.out.cells) | (go_at_call 59; refine (flow_isText.calls _ _ _ _ _ (hG.below HX2.out.bel) HT.out).mono ?_; rintro e w3 ⟨rfl, hb3⟩; have HX3 := Lib.hid (HX2.out.below hb3); clear hb3 x0 x1 x2 x3 x4 x5 y0 y1 y2 y3 y4 y5; obtain ⟨y0, y1, y2, y3, y4, y5⟩ := HX3.out.cells) | (go_at_call 60; refine (flow_Name.calls _ _ _ (hG.below HX3.out.bel) HN.out).mono ?_; rintro e w4 ⟨rfl, hb4⟩; have HX4 := Lib.hid (HX3.out.below hb4); clear hb4 y0 y1 y2 y3 y4 y5; obtain ⟨y0, y1, y2, y3, y4, y5⟩ := HX4.out.cells))
       go_ret
       exact ⟨by rw [← HE.out]; first | done | rfl, HX4.out.bel, HX4.out.cnt, HX4.out.kb⟩
      case inr =>
       clear h e1 c5
       go_enter Tryz.func40, Tryz.ntmps40
       go_wp2_with (first | ((with_reducible refine gate_dst (N := 4) rfl ?_); refine box_event ?hg (N := 4) ?hd (cs := #[.int .i64 kd, .string tt, .string an, .slice A kids.length c]) (t := 29) ?hr ?_; (case hd => rfl); (case hg => rfl); (case hr => first | (go_simp; done) | (go_simp; rfl)); intro tb ht w1 htb hb1; have HX1 := Lib.hid (Fw.mk (w0 := w0) (W := W) ((hb1.block cb (blk_lt HC.out)).trans HC.out) htb (HB.out.trans (hb1.mono HB.out.size)) (KeepBut.of_below hb1 cb none) ⟨hcb, blk_lt HC.out, by rw [ht]; exact Nat.le_refl _⟩); have HX2 := Lib.hid (HX1.out.dec (left - 1)); clear htb hb1 ht; obtain ⟨x0, x1, x2, x3, x4, x5⟩ := HX1.out.cells; obtain ⟨y0, y1, y2, y3, y4, y5⟩ := HX2.out.cells) | (go_at_call 59; refine (flow_isText.calls _ _ _ _ _ (hG.below HX2.out.bel) HT.out).mono ?_; rintro e w3 ⟨rfl, hb3⟩; have HX3 := Lib.hid (HX2.out.below hb3); clear hb3 x0 x1 x2 x3 x4 x5 y0 y1 y2 y3 y4 y5; obtain ⟨y0, y1, y2, y3, y4, y5⟩ := HX3.out.cells) | (go_at_call 60; refine (flow_Name.calls _ _ _ (hG.below HX3.out.bel) HN.out).mono ?_; rintro e w4 ⟨rfl, hb4⟩; have HX4 := Lib.hid (HX3.out.below hb4); clear hb4 y0 y1 y2 y3 y4 y5; obtain ⟨y0, y1, y2, y3, y4, y5⟩ := HX4.out.cells))
       go_ret
       exact ⟨by rw [← HE.out]; first | done | rfl, HX3.out.bel, HX3.out.cnt, HX3.out.kb⟩
     rw [if_neg c5] at h
     have hk : kd = 5 ∨ kd = 6 := by omega
     clear c5
     by_cases c6 : deep = 64 ∨ (kd = 6 ∧ kids.length % 2 ≠ 0)
     ·
      rw [if_pos c6] at h
      obtain ⟨e1, e2⟩ := Prod.mk.inj (Option.some.inj h)
      have HE := Lib.hid e1
      subst e2
      clear h e1
      have hd : deep = 64 ∨ (deep ≠ 64 ∧ kd = 6 ∧ kids.length % 2 ≠ 0) := by
       by_cases e : deep = 64
       · exact .inl e
       exact .inr ⟨e, c6.resolve_left e⟩
      clear c6
      rcases hk with e5 | e5
      ·
       have hd64 := hd.resolve_right (fun e => by have := e.2.1; omega)
       subst hd64
       have q5 : (kd == 7) = false := by rw [e5]; rfl
       have p5 : (kd = 7) = False := eq_false (by rw [e5]; decide)
       have q8 : (kd != 5) = false := by rw [e5]; rfl
       have q9 : (kd != 6) = true := by rw [e5]; rfl
       have q10 : (kd == 6) = false := by rw [e5]; rfl
       have p8 : (kd = 5) = True := eq_true e5
       have p9 : (kd = 6) = False := eq_false (by rw [e5]; decide)
       clear hd
       rcases hp with ⟨a4, a5⟩ | ⟨a4, a5⟩
       ·
        subst a5
        have p4 : (an.toList = []) = False := eq_false a4
        have q4 : (an.toList != []) = true := bne_iff_ne.2 a4
        clear a4 e5
        go_enter Tryz.func40, Tryz.ntmps40
        go_wp2_with (first | ((with_reducible refine gate_dst (N := 4) rfl ?_); refine box_event ?hg (N := 4) ?hd (cs := #[.int .i64 kd, .string tt, .string an, .slice A kids.length c]) (t := 29) ?hr ?_; (case hd => rfl); (case hg => rfl); (case hr => first | (go_simp; done) | (go_simp; rfl)); intro tb ht w1 htb hb1; have HX1 := Lib.hid (Fw.mk (w0 := w0) (W := W) ((hb1.block cb (blk_lt HC.out)).trans HC.out) htb (HB.out.trans (hb1.mono HB.out.size)) (KeepBut.of_below hb1 cb none) ⟨hcb, blk_lt HC.out, by rw [ht]; exact Nat.le_refl _⟩); have HX2 := Lib.hid (HX1.out.dec (left - 1)); clear htb hb1 ht; obtain ⟨x0, x1, x2, x3, x4, x5⟩ := HX1.out.cells; obtain ⟨y0, y1, y2, y3, y4, y5⟩ := HX2.out.cells) | (go_at_call 59; refine (flow_isText.calls _ _ _ _ _ (hG.below HX2.out.bel) HT.out).mono ?_; rintro e w3 ⟨rfl, hb3⟩; have HX3 := Lib.hid (HX2.out.below hb3); clear hb3 x0 x1 x2 x3 x4 x5 y0 y1 y2 y3 y4 y5; obtain ⟨y0, y1, y2, y3, y4, y5⟩ := HX3.out.cells) | (go_at_call 60; refine (flow_Name.calls _ _ _ (hG.below HX3.out.bel) HN.out).mono ?_; rintro e w4 ⟨rfl, hb4⟩; have HX4 := Lib.hid (HX3.out.below hb4); clear hb4 y0 y1 y2 y3 y4 y5; obtain ⟨y0, y1, y2, y3, y4, y5⟩ := HX4.out.cells))
        go_ret
        exact ⟨by rw [← HE.out]; first | done | rfl, HX4.out.bel, HX4.out.cnt, HX4.out.kb⟩
       ·
        have p4 : (an.toList = []) = True := eq_true a4
        have q4 : (an.toList != []) = false := by rw [a4]; rfl
        clear a4 a5 e5
        go_enter Tryz.func40, Tryz.ntmps40
        go_wp2_with (first | ((with_reducible refine gate_dst (N := 4) rfl ?_); refine box_event ?hg (N := 4) ?hd (cs := #[.int .i64 kd, .string tt, .string an, .slice A kids.length c]) (t := 29) ?hr ?_; (case hd => rfl); (case hg => rfl); (case hr => first | (go_simp; done) | (go_simp; rfl)); intro tb ht w1 htb hb1; have HX1 := Lib.hid (Fw.mk (w0 := w0) (W := W) ((hb1.block cb (blk_lt HC.out)).trans HC.out) htb (HB.out.trans (hb1.mono HB.out.size)) (KeepBut.of_below hb1 cb none) ⟨hcb, blk_lt HC.out, by rw [ht]; exact Nat.le_refl _⟩); have HX2 := Lib.hid (HX1.out.dec (left - 1)); clear htb hb1 ht; obtain ⟨x0, x1, x2, x3, x4, x5⟩ := HX1.out.cells; obtain ⟨y0, y1, y2, y3, y4, y5⟩ := HX2.out.cells) | (go_at_call 59; refine (flow_isText.calls _ _ _ _ _ (hG.below HX2.out.bel) HT.out).mono ?_; rintro e w3 ⟨rfl, hb3⟩; have HX3 := Lib.hid (HX2.out.below hb3); clear hb3 x0 x1 x2 x3 x4 x5 y0 y1 y2 y3 y4 y5; obtain ⟨y0, y1, y2, y3, y4, y5⟩ := HX3.out.cells) | (go_at_call 60; refine (flow_Name.calls _ _ _ (hG.below HX3.out.bel) HN.out).mono ?_; rintro e w4 ⟨rfl, hb4⟩; have HX4 := Lib.hid (HX3.out.below hb4); clear hb4 y0 y1 y2 y3 y4 y5; obtain ⟨y0, y1, y2, y3, y4, y5⟩ := HX4.out.cells))
        go_ret
        exact ⟨by rw [← HE.out]; first | done | rfl, HX3.out.bel, HX3.out.cnt, HX3.out.kb⟩
      ·
       have q5 : (kd == 7) = false := by rw [e5]; rfl
       have p5 : (kd = 7) = False := eq_false (by rw [e5]; decide)
       have q8 : (kd != 5) = true := by rw [e5]; rfl
       have q9 : (kd != 6) = false := by rw [e5]; rfl
       have q10 : (kd == 6) = true := by rw [e5]; rfl
       have p8 : (kd = 5) = False := eq_false (by rw [e5]; decide)
       have p9 : (kd = 6) = True := eq_true e5
       rcases hd with hd | ⟨hd, e6, ho⟩
       case' inl => subst hd
       case' inr => have q6 : (deep == 64) = false := beq_eq_false_iff_ne.2 hd; have p6 : (deep = 64) = False := eq_false hd; have q7 : (kids.length : Int).tmod 2 = 1 := by { rw [Int.tmod_eq_emod_of_nonneg (by omega)]; omega }
       case' inr => clear hd ho e6
       all_goals
        rcases hp with ⟨a4, a5⟩ | ⟨a4, a5⟩
        ·
         subst a5
         have p4 : (an.toList = []) = False := eq_false a4
         have q4 : (an.toList != []) = true := bne_iff_ne.2 a4
         clear a4 e5
         go_enter Tryz.func40, Tryz.ntmps40
         go_wp2_with (first | ((with_reducible refine gate_dst (N := 4) rfl ?_); refine box_event ?hg (N := 4) ?hd (cs := #[.int .i64 kd, .string tt, .string an, .slice A kids.length c]) (t := 29) ?hr ?_; (case hd => rfl); (case hg => rfl); (case hr => first | (go_simp; done) | (go_simp; rfl)); intro tb ht w1 htb hb1; have HX1 := Lib.hid (Fw.mk (w0 := w0) (W := W) ((hb1.block cb (blk_lt HC.out)).trans HC.out) htb (HB.out.trans (hb1.mono HB.out.size)) (KeepBut.of_below hb1 cb none) ⟨hcb, blk_lt HC.out, by rw [ht]; exact Nat.le_refl _⟩); have HX2 := Lib.hid (HX1.out.dec (left - 1)); clear htb hb1 ht; obtain ⟨x0, x1, x2, x3, x4, x5⟩ := HX1.out.cells; obtain ⟨y0, y1, y2, y3, y4, y5⟩ := HX2.out.cells) | (go_at_call 59; refine (flow_isText.calls _ _ _ _ _ (hG.below HX2.out.bel) HT.out).mono ?_; rintro e w3 ⟨rfl, hb3⟩; have HX3 := Lib.hid (HX2.out.below hb3); clear hb3 x0 x1 x2 x3 x4 x5 y0 y1 y2 y3 y4 y5; obtain ⟨y0, y1, y2, y3, y4, y5⟩ := HX3.out.cells) | (go_at_call 60; refine (flow_Name.calls _ _ _ (hG.below HX3.out.bel) HN.out).mono ?_; rintro e w4 ⟨rfl, hb4⟩; have HX4 := Lib.hid (HX3.out.below hb4); clear hb4 y0 y1 y2 y3 y4 y5; obtain ⟨y0, y1, y2, y3, y4, y5⟩ := HX4.out.cells))
         go_ret
         exact ⟨by rw [← HE.out]; first | done | rfl, HX4.out.bel, HX4.out.cnt, HX4.out.kb⟩
        ·
         have p4 : (an.toList = []) = True := eq_true a4
         have q4 : (an.toList != []) = false := by rw [a4]; rfl
         clear a4 a5 e5
         go_enter Tryz.func40, Tryz.ntmps40
         go_wp2_with (first | ((with_reducible refine gate_dst (N := 4) rfl ?_); refine box_event ?hg (N := 4) ?hd (cs := #[.int .i64 kd, .string tt, .string an, .slice A kids.length c]) (t := 29) ?hr ?_; (case hd => rfl); (case hg => rfl); (case hr => first | (go_simp; done) | (go_simp; rfl)); intro tb ht w1 htb hb1; have HX1 := Lib.hid (Fw.mk (w0 := w0) (W := W) ((hb1.block cb (blk_lt HC.out)).trans HC.out) htb (HB.out.trans (hb1.mono HB.out.size)) (KeepBut.of_below hb1 cb none) ⟨hcb, blk_lt HC.out, by rw [ht]; exact Nat.le_refl _⟩); have HX2 := Lib.hid (HX1.out.dec (left - 1)); clear htb hb1 ht; obtain ⟨x0, x1, x2, x3, x4, x5⟩ := HX1.out.cells; obtain ⟨y0, y1, y2, y3, y4, y5⟩ := HX2.out.cells) | (go_at_call 59; refine (flow_isText.calls _ _ _ _ _ (hG.below HX2.out.bel) HT.out).mono ?_; rintro e w3 ⟨rfl, hb3⟩; have HX3 := Lib.hid (HX2.out.below hb3); clear hb3 x0 x1 x2 x3 x4 x5 y0 y1 y2 y3 y4 y5; obtain ⟨y0, y1, y2, y3, y4, y5⟩ := HX3.out.cells) | (go_at_call 60; refine (flow_Name.calls _ _ _ (hG.below HX3.out.bel) HN.out).mono ?_; rintro e w4 ⟨rfl, hb4⟩; have HX4 := Lib.hid (HX3.out.below hb4); clear hb4 y0 y1 y2 y3 y4 y5; obtain ⟨y0, y1, y2, y3, y4, y5⟩ := HX4.out.cells))
         go_ret
         exact ⟨by rw [← HE.out]; first | done | rfl, HX3.out.bel, HX3.out.cnt, HX3.out.kb⟩
     rw [if_neg c6] at h
     have hd : deep ≠ 64 := fun e => c6 (.inl e)
     have he : kd = 6 → kids.length % 2 = 0 := fun e => Decidable.byContradiction fun z => c6 (.inr ⟨e, z⟩)
     have q6 : (deep == 64) = false := beq_eq_false_iff_ne.2 hd
     have p6 : (deep = 64) = False := eq_false hd
     have HS := Lib.hid h
     clear h c6
     obtain ⟨M, hM0⟩ : ∃ M, decide (kd = 6) = M := ⟨_, rfl⟩
     rw [hM0] at HS
     have q10 : (kd == 6) = M := by rw [← hM0]; by_cases e : kd = 6 <;> simp [e]
     have q5 : (kd == 7) = false := beq_eq_false_iff_ne.2 (by omega)
     have p5 : (kd = 7) = False := eq_false (by omega)
     have hwd : wrap64 (deep + 1) = deep + 1 := by unfold wrap64; omega
     have hk2 : ((kd != 5) = false ∧ M = false ∧ (kd = 6) = False ∧ (kd != 6) = true) ∨ ((kd != 5) = true ∧ M = true ∧ (kd = 5) = False ∧ (kd != 6) = false ∧ (kids.length : Int).tmod 2 = 0) := by
      rcases hk with e | e
      · exact .inl ⟨by rw [e]; rfl, by rw [← hM0, e]; rfl, eq_false (by omega), by rw [e]; rfl⟩
      · exact .inr ⟨by rw [e]; rfl, by rw [← hM0, e]; rfl, eq_false (by omega), by rw [e]; rfl, by { rw [Int.tmod_eq_emod_of_nonneg (by omega)]; have := he e; omega }⟩
     have hd64 : deep + 1 ≤ 64 := by omega
     clear hk hM0 he hd
     rcases hk2 with ⟨q8, eM, p8, q9⟩ | ⟨q8, eM, p8, q9, q7⟩
     ·
      subst eM
      rcases hp with ⟨a4, a5⟩ | ⟨a4, a5⟩
      case' inl => subst a5; have p4 : (an.toList = []) = False := eq_false a4; have q4 : (an.toList != []) = true := bne_iff_ne.2 a4; clear a4
      case' inr => have p4 : (an.toList = []) = True := eq_true a4; have q4 : (an.toList != []) = false := by rw [a4]; rfl
      case' inr => clear a4 a5
      all_goals
       go_enter Tryz.func40, Tryz.ntmps40
       go_wp2_with (first | ((with_reducible refine gate_dst (N := 4) rfl ?_); refine box_event ?hg (N := 4) ?hd (cs := #[.int .i64 kd, .string tt, .string an, .slice A kids.length c]) (t := 29) ?hr ?_; (case hd => rfl); (case hg => rfl); (case hr => first | (go_simp; done) | (go_simp; rfl)); intro tb ht w1 htb hb1; have HX1 := Lib.hid (Fw.mk (w0 := w0) (W := W) ((hb1.block cb (blk_lt HC.out)).trans HC.out) htb (HB.out.trans (hb1.mono HB.out.size)) (KeepBut.of_below hb1 cb none) ⟨hcb, blk_lt HC.out, by rw [ht]; exact Nat.le_refl _⟩); have HX2 := Lib.hid (HX1.out.dec (left - 1)); clear htb hb1 ht; obtain ⟨x0, x1, x2, x3, x4, x5⟩ := HX1.out.cells; obtain ⟨y0, y1, y2, y3, y4, y5⟩ := HX2.out.cells) | (go_at_call 59; refine (flow_isText.calls _ _ _ _ _ (hG.below HX2.out.bel) HT.out).mono ?_; rintro e w3 ⟨rfl, hb3⟩; have HX3 := Lib.hid (HX2.out.below hb3); clear hb3 x0 x1 x2 x3 x4 x5 y0 y1 y2 y3 y4 y5; obtain ⟨y0, y1, y2, y3, y4, y5⟩ := HX3.out.cells) | (go_at_call 60; refine (flow_Name.calls _ _ _ (hG.below HX3.out.bel) HN.out).mono ?_; rintro e w4 ⟨rfl, hb4⟩; have HX4 := Lib.hid (HX3.out.below hb4); clear hb4 y0 y1 y2 y3 y4 y5; obtain ⟨y0, y1, y2, y3, y4, y5⟩ := HX4.out.cells))
       first | have HX := HX4 | have HX := HX3
       clear y0 y1 y2 y3 y4 y5 HX1 HX2 HT HN HC HB
       go_loopw [83] (fun v wr => ∃ (j : Nat) (lf : Int), v = .int .i64 j ∧ j ≤ kids.length ∧ 0 ≤ lf ∧ lf ≤ 4096 ∧ Hid (rgtsO (fun k => rgtO K k (deep + 1)) false j (kids.drop j) lf = some (b, left')) ∧ Hid (Fw w0 W cb tb kd tt an (.slice A kids.length c) lf wr)) (fun v _ => kids.length - (intOf v).toNat)
       case atStart => exact ⟨0, _, rfl, by omega, by have := of_decide_eq_false q1; omega, by omega, HS, HX⟩
       case round =>
        clear HX HS
        obtain ⟨j, lf, rfl, hj, hl2, hl3, HSR, HXR⟩ := hrel
        obtain ⟨x0, x1, x2, x3, x4, x5⟩ := HXR.out.cells
        by_cases hlj : j < kids.length
        rotate_left
        ·
         have hc1 : decide ((j : Int) < (kids.length : Int)) = false := decide_eq_false (by omega)
         have hst := HSR.out
         rw [List.drop_of_length_le (by omega), rgtsO] at hst
         obtain ⟨e1, e2⟩ := Prod.mk.inj (Option.some.inj hst)
         have HE := Lib.hid e1
         subst e2
         clear hst e1 HSR
         go_wp2_with (fail)
         go_ret
         exact ⟨by rw [← HE.out]; first | done | rfl, HXR.out.bel, HXR.out.cnt, HXR.out.kb⟩
        have hc1 : decide ((j : Int) < (kids.length : Int)) = true := decide_eq_true (by omega)
        obtain ⟨bd, A3, c3, eA, y0, y1, y2, y3, hc3, hC3⟩ := at_T29 HR.out (j : Int) (by omega) (by omega)
        subst eA
        have y0 := (HXR.out.bel.cell (World.block_lt_of_cell? w0 _ y0)).trans y0
        have y1 := (HXR.out.bel.cell (World.block_lt_of_cell? w0 _ y1)).trans y1
        have y2 := (HXR.out.bel.cell (World.block_lt_of_cell? w0 _ y2)).trans y2
        have y3 := (HXR.out.bel.cell (World.block_lt_of_cell? w0 _ y3)).trans y3
        have hst := HSR.out
        rw [List.drop_eq_getElem_cons hlj, ← rdT_nth kids j hlj, rgtsO] at hst
        rw [Int.toNat_natCast] at y0 y1 y2 y3
        generalize rd_T29 kids (j : Int) = k at *
        obtain ⟨kk, kt, ka, kkids⟩ := k
        dsimp only at y0 y1 y2 y3 hc3 hC3 hst
        have HLJ := Lib.hid hlj
        have HC3 := Lib.hid hC3
        have p6 : (0 ≤ (j : Int)) = True := eq_true (by omega)
        have p7 : ((j : Int) < (kids.length : Int)) = True := eq_true (by omega)
        have HX8 := Lib.hid (HXR.out.below (below_alloc (Below.refl _ _) (.cells #[.int .i64 kk, .string kt, .string ka, .slice A3 kkids.length c3] 29)))
        have HKB := Lib.hid (blk_new wr (.cells #[.int .i64 kk, .string kt, .string ka, .slice A3 kkids.length c3] 29))
        obtain ⟨z0, z1, z2, z3, z4, z5⟩ := HX8.out.cells
        have u0 := (blk_cell HKB.out 0).trans rfl
        have u1 := (blk_cell HKB.out 1).trans rfl
        have u2 := (blk_cell HKB.out 2).trans rfl
        have u3 := (blk_cell HKB.out 3).trans rfl
        clear hC3 HSR
        rw [if_neg (by simp)] at hst
        obtain ⟨q, hq⟩ : ∃ q, rgtO K ⟨kk, kt, ka, kkids⟩ (deep + 1) lf = some q := by
         cases hv : rgtO K ⟨kk, kt, ka, kkids⟩ (deep + 1) lf with
         | none => rw [hv] at hst; cases hst
         | some q => exact ⟨q, rfl⟩
        rw [hq] at hst
        obtain ⟨b2, l2⟩ := q
        dsimp only at hst
        have hlf := rgt_left K ⟨kk, kt, ka, kkids⟩ (deep + 1) lf b2 l2 hq
        have HQ := Lib.hid hq
        clear hq
        cases b2 with
        | false =>
         rw [if_pos rfl] at hst
         obtain ⟨e1, e2⟩ := Prod.mk.inj (Option.some.inj hst)
         have HE := Lib.hid e1
         subst e2
         clear hst e1 hlf
         go_wp2_with (first | (go_at_call 40; refine (IH.out ⟨kk, kt, ka, kkids⟩ (deep + 1) lf _ l2 _ (A3) c3 HC3.out hc3 HX8.out.bel HX8.out.cnt HQ.out (by omega) hd64 hl2 hl3).mono ?_; rintro e w10 ⟨rfl, hb10, hc10, hk10⟩; have HXA := Lib.hid (HX8.out.call hc10 hb10 hk10); clear hb10 hc10 hk10))
         go_ret
         exact ⟨by rw [← HE.out]; first | done | rfl, HXA.out.bel, HXA.out.cnt, HXA.out.kb⟩
        | true =>
         rw [if_neg (by decide)] at hst
         have HN2 := Lib.hid hst
         have hl4 := hlf.2 rfl
         have hl5 := hlf.1
         clear hst hlf
         go_wp2_with (first | (go_at_call 40; refine (IH.out ⟨kk, kt, ka, kkids⟩ (deep + 1) lf _ l2 _ (A3) c3 HC3.out hc3 HX8.out.bel HX8.out.cnt HQ.out (by omega) hd64 hl2 hl3).mono ?_; rintro e w10 ⟨rfl, hb10, hc10, hk10⟩; have HXA := Lib.hid (HX8.out.call hc10 hb10 hk10); clear hb10 hc10 hk10))
         go_roundw
         case rel => exact ⟨j + 1, l2, by go_num, HLJ.out, hl4, by omega, HN2, HXA⟩
         case measure => have := HLJ.out; simp [intOf]; omega
     ·
      subst eM
      rcases hp with ⟨a4, a5⟩ | ⟨a4, a5⟩
      case' inl => subst a5; have p4 : (an.toList = []) = False := eq_false a4; have q4 : (an.toList != []) = true := bne_iff_ne.2 a4; clear a4
      case' inr => have p4 : (an.toList = []) = True := eq_true a4; have q4 : (an.toList != []) = false := by rw [a4]; rfl
      case' inr => clear a4 a5
      all_goals
       go_enter Tryz.func40, Tryz.ntmps40
       go_wp2_with (first | ((with_reducible refine gate_dst (N := 4) rfl ?_); refine box_event ?hg (N := 4) ?hd (cs := #[.int .i64 kd, .string tt, .string an, .slice A kids.length c]) (t := 29) ?hr ?_; (case hd => rfl); (case hg => rfl); (case hr => first | (go_simp; done) | (go_simp; rfl)); intro tb ht w1 htb hb1; have HX1 := Lib.hid (Fw.mk (w0 := w0) (W := W) ((hb1.block cb (blk_lt HC.out)).trans HC.out) htb (HB.out.trans (hb1.mono HB.out.size)) (KeepBut.of_below hb1 cb none) ⟨hcb, blk_lt HC.out, by rw [ht]; exact Nat.le_refl _⟩); have HX2 := Lib.hid (HX1.out.dec (left - 1)); clear htb hb1 ht; obtain ⟨x0, x1, x2, x3, x4, x5⟩ := HX1.out.cells; obtain ⟨y0, y1, y2, y3, y4, y5⟩ := HX2.out.cells) | (go_at_call 59; refine (flow_isText.calls _ _ _ _ _ (hG.below HX2.out.bel) HT.out).mono ?_; rintro e w3 ⟨rfl, hb3⟩; have HX3 := Lib.hid (HX2.out.below hb3); clear hb3 x0 x1 x2 x3 x4 x5 y0 y1 y2 y3 y4 y5; obtain ⟨y0, y1, y2, y3, y4, y5⟩ := HX3.out.cells) | (go_at_call 60; refine (flow_Name.calls _ _ _ (hG.below HX3.out.bel) HN.out).mono ?_; rintro e w4 ⟨rfl, hb4⟩; have HX4 := Lib.hid (HX3.out.below hb4); clear hb4 y0 y1 y2 y3 y4 y5; obtain ⟨y0, y1, y2, y3, y4, y5⟩ := HX4.out.cells))
       first | have HX := HX4 | have HX := HX3
       clear y0 y1 y2 y3 y4 y5 HX1 HX2 HT HN HC HB
       go_loopw [83] (fun v wr => ∃ (j : Nat) (lf : Int), v = .int .i64 j ∧ j ≤ kids.length ∧ 0 ≤ lf ∧ lf ≤ 4096 ∧ Hid (rgtsO (fun k => rgtO K k (deep + 1)) true j (kids.drop j) lf = some (b, left')) ∧ Hid (Fw w0 W cb tb kd tt an (.slice A kids.length c) lf wr)) (fun v _ => kids.length - (intOf v).toNat)
       case atStart => exact ⟨0, _, rfl, by omega, by have := of_decide_eq_false q1; omega, by omega, HS, HX⟩
       case round =>
        clear HX HS
        obtain ⟨j, lf, rfl, hj, hl2, hl3, HSR, HXR⟩ := hrel
        obtain ⟨x0, x1, x2, x3, x4, x5⟩ := HXR.out.cells
        by_cases hlj : j < kids.length
        rotate_left
        ·
         have hc1 : decide ((j : Int) < (kids.length : Int)) = false := decide_eq_false (by omega)
         have hst := HSR.out
         rw [List.drop_of_length_le (by omega), rgtsO] at hst
         obtain ⟨e1, e2⟩ := Prod.mk.inj (Option.some.inj hst)
         have HE := Lib.hid e1
         subst e2
         clear hst e1 HSR
         go_wp2_with (fail)
         go_ret
         exact ⟨by rw [← HE.out]; first | done | rfl, HXR.out.bel, HXR.out.cnt, HXR.out.kb⟩
        have hc1 : decide ((j : Int) < (kids.length : Int)) = true := decide_eq_true (by omega)
        obtain ⟨bd, A3, c3, eA, y0, y1, y2, y3, hc3, hC3⟩ := at_T29 HR.out (j : Int) (by omega) (by omega)
        subst eA
        have y0 := (HXR.out.bel.cell (World.block_lt_of_cell? w0 _ y0)).trans y0
        have y1 := (HXR.out.bel.cell (World.block_lt_of_cell? w0 _ y1)).trans y1
        have y2 := (HXR.out.bel.cell (World.block_lt_of_cell? w0 _ y2)).trans y2
        have y3 := (HXR.out.bel.cell (World.block_lt_of_cell? w0 _ y3)).trans y3
        have hst := HSR.out
        rw [List.drop_eq_getElem_cons hlj, ← rdT_nth kids j hlj, rgtsO] at hst
        rw [Int.toNat_natCast] at y0 y1 y2 y3
        generalize rd_T29 kids (j : Int) = k at *
        obtain ⟨kk, kt, ka, kkids⟩ := k
        dsimp only at y0 y1 y2 y3 hc3 hC3 hst
        have HLJ := Lib.hid hlj
        have HC3 := Lib.hid hC3
        have p6 : (0 ≤ (j : Int)) = True := eq_true (by omega)
        have p7 : ((j : Int) < (kids.length : Int)) = True := eq_true (by omega)
        have HX8 := Lib.hid (HXR.out.below (below_alloc (Below.refl _ _) (.cells #[.int .i64 kk, .string kt, .string ka, .slice A3 kkids.length c3] 29)))
        have HKB := Lib.hid (blk_new wr (.cells #[.int .i64 kk, .string kt, .string ka, .slice A3 kkids.length c3] 29))
        obtain ⟨z0, z1, z2, z3, z4, z5⟩ := HX8.out.cells
        have u0 := (blk_cell HKB.out 0).trans rfl
        have u1 := (blk_cell HKB.out 1).trans rfl
        have u2 := (blk_cell HKB.out 2).trans rfl
        have u3 := (blk_cell HKB.out 3).trans rfl
        clear hC3 HSR
        have hsc : ∃ sc, flow_isScalar.f kk = some sc := by unfold flow_isScalar.f; first | exact ⟨_, rfl⟩ | (split <;> exact ⟨_, rfl⟩)
        obtain ⟨sc, hsc⟩ := hsc
        by_cases hpj : j % 2 = 0
        rotate_left
        ·
         have r7 : (j : Int).tmod 2 = 1 := by { rw [Int.tmod_eq_emod_of_nonneg (by omega)]; omega }
         rw [if_neg (fun e => hpj e.2.1)] at hst
         clear hpj hsc
         obtain ⟨q, hq⟩ : ∃ q, rgtO K ⟨kk, kt, ka, kkids⟩ (deep + 1) lf = some q := by
          cases hv : rgtO K ⟨kk, kt, ka, kkids⟩ (deep + 1) lf with
          | none => rw [hv] at hst; cases hst
          | some q => exact ⟨q, rfl⟩
         rw [hq] at hst
         obtain ⟨b2, l2⟩ := q
         dsimp only at hst
         have hlf := rgt_left K ⟨kk, kt, ka, kkids⟩ (deep + 1) lf b2 l2 hq
         have HQ := Lib.hid hq
         clear hq
         cases b2 with
         | false =>
          rw [if_pos rfl] at hst
          obtain ⟨e1, e2⟩ := Prod.mk.inj (Option.some.inj hst)
          have HE := Lib.hid e1
          subst e2
          clear hst e1 hlf
          go_wp2_with (first | (go_at_call 40; refine (IH.out ⟨kk, kt, ka, kkids⟩ (deep + 1) lf _ l2 _ (A3) c3 HC3.out hc3 HX8.out.bel HX8.out.cnt HQ.out (by omega) hd64 hl2 hl3).mono ?_; rintro e w10 ⟨rfl, hb10, hc10, hk10⟩; have HXA := Lib.hid (HX8.out.call hc10 hb10 hk10); clear hb10 hc10 hk10))
          go_ret
          exact ⟨by rw [← HE.out]; first | done | rfl, HXA.out.bel, HXA.out.cnt, HXA.out.kb⟩
         | true =>
          rw [if_neg (by decide)] at hst
          have HN2 := Lib.hid hst
          have hl4 := hlf.2 rfl
          have hl5 := hlf.1
          clear hst hlf
          go_wp2_with (first | (go_at_call 40; refine (IH.out ⟨kk, kt, ka, kkids⟩ (deep + 1) lf _ l2 _ (A3) c3 HC3.out hc3 HX8.out.bel HX8.out.cnt HQ.out (by omega) hd64 hl2 hl3).mono ?_; rintro e w10 ⟨rfl, hb10, hc10, hk10⟩; have HXA := Lib.hid (HX8.out.call hc10 hb10 hk10); clear hb10 hc10 hk10))
          go_roundw
          case rel => exact ⟨j + 1, l2, by go_num, HLJ.out, hl4, by omega, HN2, HXA⟩
          case measure => have := HLJ.out; simp [intOf]; omega
        have r7 : (j : Int).tmod 2 = 0 := by { rw [Int.tmod_eq_emod_of_nonneg (by omega)]; omega }
        have HSC := Lib.hid hsc
        cases sc with
        | false =>
         have hcond : true = true ∧ j % 2 = 0 ∧ (flow_isScalar.f kk = some false ∨ ka.toList ≠ []) := ⟨rfl, hpj, .inl hsc⟩
         clear hpj hsc
         rw [if_pos hcond] at hst
         obtain ⟨e1, e2⟩ := Prod.mk.inj (Option.some.inj hst)
         have HE := Lib.hid e1
         subst e2
         clear hst e1 hcond
         go_wp2_with (first | (go_at_call 61; refine (flow_isScalar.calls _ _ _ (hG.below HX8.out.bel) HSC.out).mono ?_; rintro e w9 ⟨rfl, hd9⟩; have HX9 := Lib.hid (HX8.out.below hd9.below); have hk9 := (hd9.below.block wr.heap.size (blk_lt HKB.out)).trans HKB.out; clear hd9 z0 z1 z2 z3 z4 z5 u0 u1 u2 u3; obtain ⟨z0, z1, z2, z3, z4, z5⟩ := HX9.out.cells; have u0 := (blk_cell hk9 0).trans rfl; have u1 := (blk_cell hk9 1).trans rfl; have u2 := (blk_cell hk9 2).trans rfl; have u3 := (blk_cell hk9 3).trans rfl; clear hk9))
         go_ret
         exact ⟨by rw [← HE.out]; first | done | rfl, HX9.out.bel, HX9.out.cnt, HX9.out.kb⟩
        | true =>
         by_cases ha : ka.toList = []
         rotate_left
         ·
          have hcond : true = true ∧ j % 2 = 0 ∧ (flow_isScalar.f kk = some false ∨ ka.toList ≠ []) := ⟨rfl, hpj, .inr ha⟩
          have t4 : (ka.toList = []) = False := eq_false ha
          have t5 : (ka.toList != []) = true := bne_iff_ne.2 ha
          have t6 : ka.toList.isEmpty = false := by rw [← Bool.not_eq_true, List.isEmpty_iff]; exact ha
          clear ha hpj hsc
          rw [if_pos hcond] at hst
          obtain ⟨e1, e2⟩ := Prod.mk.inj (Option.some.inj hst)
          have HE := Lib.hid e1
          subst e2
          clear hst e1 hcond
          go_wp2_with (first | (go_at_call 61; refine (flow_isScalar.calls _ _ _ (hG.below HX8.out.bel) HSC.out).mono ?_; rintro e w9 ⟨rfl, hd9⟩; have HX9 := Lib.hid (HX8.out.below hd9.below); have hk9 := (hd9.below.block wr.heap.size (blk_lt HKB.out)).trans HKB.out; clear hd9 z0 z1 z2 z3 z4 z5 u0 u1 u2 u3; obtain ⟨z0, z1, z2, z3, z4, z5⟩ := HX9.out.cells; have u0 := (blk_cell hk9 0).trans rfl; have u1 := (blk_cell hk9 1).trans rfl; have u2 := (blk_cell hk9 2).trans rfl; have u3 := (blk_cell hk9 3).trans rfl; clear hk9))
          go_ret
          exact ⟨by rw [← HE.out]; first | done | rfl, HX9.out.bel, HX9.out.cnt, HX9.out.kb⟩
         rw [if_neg (fun e => e.2.2.elim (fun z => by rw [hsc] at z; cases z) (fun z => z ha))] at hst
         have t4 : (ka.toList = []) = True := eq_true ha
         have t5 : (ka.toList != []) = false := by rw [ha]; rfl
         have t6 : ka.toList.isEmpty = true := by rw [ha]; rfl
         clear ha hpj hsc
         obtain ⟨q, hq⟩ : ∃ q, rgtO K ⟨kk, kt, ka, kkids⟩ (deep + 1) lf = some q := by
          cases hv : rgtO K ⟨kk, kt, ka, kkids⟩ (deep + 1) lf with
          | none => rw [hv] at hst; cases hst
          | some q => exact ⟨q, rfl⟩
         rw [hq] at hst
         obtain ⟨b2, l2⟩ := q
         dsimp only at hst
         have hlf := rgt_left K ⟨kk, kt, ka, kkids⟩ (deep + 1) lf b2 l2 hq
         have HQ := Lib.hid hq
         clear hq
         cases b2 with
         | false =>
          rw [if_pos rfl] at hst
          obtain ⟨e1, e2⟩ := Prod.mk.inj (Option.some.inj hst)
          have HE := Lib.hid e1
          subst e2
          clear hst e1 hlf
          go_wp2_with (first | (go_at_call 61; refine (flow_isScalar.calls _ _ _ (hG.below HX8.out.bel) HSC.out).mono ?_; rintro e w9 ⟨rfl, hd9⟩; have HX9 := Lib.hid (HX8.out.below hd9.below); have hk9 := (hd9.below.block wr.heap.size (blk_lt HKB.out)).trans HKB.out; clear hd9 z0 z1 z2 z3 z4 z5 u0 u1 u2 u3; obtain ⟨z0, z1, z2, z3, z4, z5⟩ := HX9.out.cells; have u0 := (blk_cell hk9 0).trans rfl; have u1 := (blk_cell hk9 1).trans rfl; have u2 := (blk_cell hk9 2).trans rfl; have u3 := (blk_cell hk9 3).trans rfl; clear hk9) | (go_at_call 40; refine (IH.out ⟨kk, kt, ka, kkids⟩ (deep + 1) lf _ l2 _ (A3) c3 HC3.out hc3 HX9.out.bel HX9.out.cnt HQ.out (by omega) hd64 hl2 hl3).mono ?_; rintro e w10 ⟨rfl, hb10, hc10, hk10⟩; have HXA := Lib.hid (HX9.out.call hc10 hb10 hk10); clear hb10 hc10 hk10))
          go_ret
          exact ⟨by rw [← HE.out]; first | done | rfl, HXA.out.bel, HXA.out.cnt, HXA.out.kb⟩
         | true =>
          rw [if_neg (by decide)] at hst
          have HN2 := Lib.hid hst
          have hl4 := hlf.2 rfl
          have hl5 := hlf.1
          clear hst hlf
          go_wp2_with (first | (go_at_call 61; refine (flow_isScalar.calls _ _ _ (hG.below HX8.out.bel) HSC.out).mono ?_; rintro e w9 ⟨rfl, hd9⟩; have HX9 := Lib.hid (HX8.out.below hd9.below); have hk9 := (hd9.below.block wr.heap.size (blk_lt HKB.out)).trans HKB.out; clear hd9 z0 z1 z2 z3 z4 z5 u0 u1 u2 u3; obtain ⟨z0, z1, z2, z3, z4, z5⟩ := HX9.out.cells; have u0 := (blk_cell hk9 0).trans rfl; have u1 := (blk_cell hk9 1).trans rfl; have u2 := (blk_cell hk9 2).trans rfl; have u3 := (blk_cell hk9 3).trans rfl; clear hk9) | (go_at_call 40; refine (IH.out ⟨kk, kt, ka, kkids⟩ (deep + 1) lf _ l2 _ (A3) c3 HC3.out hc3 HX9.out.bel HX9.out.cnt HQ.out (by omega) hd64 hl2 hl3).mono ?_; rintro e w10 ⟨rfl, hb10, hc10, hk10⟩; have HXA := Lib.hid (HX9.out.call hc10 hb10 hk10); clear hb10 hc10 hk10))
          go_roundw
          case rel => exact ⟨j + 1, l2, by go_num, HLJ.out, hl4, by omega, HN2, HXA⟩
          case measure => have := HLJ.out; simp [intOf]; omega
end Go.Proofs.YtnjcpoojgmpmeaaGreatDoor.Plug
namespace Go.Proofs.YtnjcpoojgmpmeaaGreatDoor.Plug
open RowKit YtnjcpoojgmpmeaaGreatDoor YtnjcpoojgmpmeaaGreatDoor.PX YtnjcpoojgmpmeaaGreatDoor.Utf YtnjcpoojgmpmeaaGreatDoorW.PrintWords YtnjcpoojgmpmeaaGreatDoorW.PrintLast
theorem rowF_move {w w1 : World} {B : Nat} {e : TypeId} {v : Value} {n : Nat} {xs : List Value} (h : w.ownsRowF B e 1 v n xs) (hm : ∀ k, v.ownBlock = some k → w1.heap[k]? = w.heap[k]?) : w1.ownsRowF B e 1 v n xs := by
 obtain ⟨h1, h2⟩ := h
 refine ⟨h1, ?_⟩
 rcases h2 with h2 | ⟨g, cap, cur, fz, rfl, hg, hh, r⟩
 · exact .inl h2
 · exact .inr ⟨g, cap, cur, fz, rfl, hg, (hm g (by simp [Value.ownBlock])).trans hh, r⟩
theorem bld_below {T e : TypeId} {B b : Nat} {bs : List Value} {w w1 : World} (h : Lib.IsBuilderF T e B b bs w) (hb : Below w.heap.size w w1) : Lib.IsBuilderF T e B b bs w1 := by
 have key : ∀ p, Lib.BuilderAtF T e B b p bs w → Lib.BuilderAtF T e B b p bs w1 := by
  rintro p ⟨h1, v, h2, h3, h4⟩
  refine ⟨h1, v, (hb.block b (Bld.at_lt h2)).trans h2, rowF_move h3 (fun k hk => hb.block k ?_), h4⟩
  rcases h3.2 with ⟨rfl, _⟩ | ⟨g, cap, cur, fz, rfl, hg, hh, _⟩
  · simp [Value.ownBlock] at hk
  ·
   have : g = k := by simpa [Value.ownBlock] using hk
   subst this; exact Bld.at_lt hh
 exact h.elim (fun x => .inl (key _ x)) (fun x => .inr (key _ x))
end Go.Proofs.YtnjcpoojgmpmeaaGreatDoor.Plug
namespace Go.Proofs.YtnjcpoojgmpmeaaGreatDoor.Plug
open RowKit YtnjcpoojgmpmeaaGreatDoor YtnjcpoojgmpmeaaGreatDoor.PX YtnjcpoojgmpmeaaGreatDoor.Utf YtnjcpoojgmpmeaaGreatDoorW.PrintWords YtnjcpoojgmpmeaaGreatDoorW.PrintLast YtnjcpoojgmpmeaaGreatDoorW.PrintMore
set_option linter.unusedVariables false
set_option linter.unusedSimpArgs false
def flow_Right.f (a0 : Int) (a1 a2 : ByteArray) (l3 : List S29) : Option Bool := (rgtO 67 ⟨a0, a1, a2, l3⟩ 0 4096).map (·.1)
set_option maxHeartbeats 8000000 in
set_option maxRecDepth 100000 in
theorem flow_Right.calls (a0 : Int) (a1 a2 : ByteArray) (A3 : Option Addr) (c3 : Nat) (l3 : List S29) (r : Bool) (w : World) (hr : Kd.C k29 w A3 l3.length l3) (hc : l3.length ≤ c3) (hG : Glob.G w) (h : flow_Right.f a0 a1 a2 l3 = some r) :
  Calls Tryz.prog 24 #[.agg #[.int .i64 a0, .string a1, .string a2, .slice A3 l3.length c3]] w fun e w' => e = .returned (.bool r) ∧ Below w.heap.size w w' := by
 obtain ⟨p, hp1, hp2⟩ := Option.map_eq_some_iff.1 h
 obtain ⟨b, lf⟩ := p
 dsimp only at hp2
 subst hp2
 have HP := Lib.hid hp1
 have HR := Lib.hid hr
 clear h hr hp1
 go_enter Tryz.func24, Tryz.ntmps24
 go_wp2_with (first | ((with_reducible refine gate_dst (N := 1) rfl ?_); refine box_event ?hg (N := 1) ?hd (cs := #[.int .i64 a0, .string a1, .string a2, .slice A3 l3.length c3]) (t := 29) ?hr ?_; (case hd => rfl); (case hg => rfl); (case hr => first | (go_simp; done) | (go_simp; rfl)); intro tb ht w1 htb hb1; have HTB := Lib.hid htb; have HB1 := Lib.hid hb1; clear htb hb1 ht; have HTB2 := Lib.hid ((Lib.alloc_old w1 (.cells #[.int .i64 4096] 92) tb (blk_lt HTB.out)).trans HTB.out); have x0 := (blk_cell HTB2.out 0).trans rfl; have x1 := (blk_cell HTB2.out 1).trans rfl; have x2 := (blk_cell HTB2.out 2).trans rfl; have x3 := (blk_cell HTB2.out 3).trans rfl; have HC := Lib.hid (blk_new w1 (.cells #[.int .i64 4096] 92)); have HB2 := Lib.hid (below_alloc HB1.out (.cells #[.int .i64 4096] 92)); have hwb : w.heap.size ≤ w1.heap.size := HB1.out.size) | (go_at_call 40; refine (right_is w hG w1.heap.size hwb 67 ⟨a0, a1, a2, l3⟩ 0 4096 b lf _ A3 c3 HR.out hc HB2.out HC.out HP.out (by omega) (by omega) (by omega) (by omega)).mono ?_; rintro e w9 ⟨rfl, hb9, _, _⟩; have HB9 := Lib.hid hb9; clear hb9))
 go_ret
 exact ⟨rfl, HB9.out⟩
def putsT (f : S29 → Option (List UInt8)) : Nat → List S29 → Option (List UInt8)
 | _, [] => some []
 | i, k :: r => match f k, putsT f (i + 1) r with
  | some x, some y => some ((if i = 0 then [] else [44, 32]) ++ (x ++ y))
  | _, _ => none
def putT : Nat → S29 → Option (List UInt8)
 | 0, _ => none
 | K + 1, t =>
  if 1099511627776 < t.f3.length ∨ 1099511627776 < t.f2.size then none
  else if t.f0 = 7 then some (42 :: t.f2.data.toList)
  else if t.f0 = 3 then (if t.f2.toList = [] then some t.f1.data.toList else none)
  else if t.f0 = 5 then (if t.f2.toList = [] then none else (putsT (putT K) 0 t.f3).map fun x => (38 :: (t.f2.data.toList ++ [32])) ++ (91 :: (x ++ [93])))
  else none
structure Pw (w0 W : World) (b tb : Nat) (kd : Int) (tx an : ByteArray) (v : Value) (l : List UInt8) (Z : World) : Prop where
 bld : Lib.IsBuilderF 99 5 b b (Lib.byteCells l) Z
 box : Z.heap[tb]? = some (.cells #[.int .i64 kd, .string tx, .string an, v] 29)
 bel : Below w0.heap.size w0 Z
 kp : Lib.OthersKept 5 (some b) W Z
 lt : w0.heap.size ≤ b ∧ b < W.heap.size ∧ W.heap.size ≤ tb ∧ W.heap.size ≤ Z.heap.size
section
variable {w0 W Z Z' : World} {b tb : Nat} {kd : Int} {tx an : ByteArray} {v : Value} {l l' : List UInt8}
theorem kept_ (h : Below Z.heap.size Z Z') : Lib.OthersKept 5 (some b) Z Z' := by
 intro k o hk _ _
 exact (h.block k (Bld.at_lt hk)).trans hk
theorem Pw.cells (h : Pw w0 W b tb kd tx an v l Z) : Z.cell? ⟨tb, 0, none⟩ = some (.int .i64 kd) ∧ Z.cell? ⟨tb, 1, none⟩ = some (.string tx) ∧ Z.cell? ⟨tb, 2, none⟩ = some (.string an) ∧ Z.cell? ⟨tb, 3, none⟩ = some v :=
  ⟨(blk_cell h.box 0).trans rfl, (blk_cell h.box 1).trans rfl, (blk_cell h.box 2).trans rfl, (blk_cell h.box 3).trans rfl⟩
theorem Pw.call (h : Pw w0 W b tb kd tx an v l Z) (hbl : Lib.IsBuilderF 99 5 b b (Lib.byteCells l') Z') (hb : Below w0.heap.size w0 Z') (hk : Lib.OthersKept 5 (some b) Z Z') (hs : Z.heap.size ≤ Z'.heap.size) : Pw w0 W b tb kd tx an v l' Z' := by
 obtain ⟨l1, l2, l3, l4⟩ := h.lt
 exact ⟨hbl, hk tb _ h.box (fun e => by have := Option.some.inj e; omega) (fun c fz e => by injection e with e1 e2; exact absurd e2 (by decide)), hb, h.kp.trans hk, by omega⟩
theorem Pw.below (h : Pw w0 W b tb kd tx an v l Z) (hb : Below Z.heap.size Z Z') : Pw w0 W b tb kd tx an v l Z' :=
  h.call (bld_below h.bld hb) (h.bel.trans (hb.mono h.bel.size)) (kept_ hb) hb.size
theorem Pw.text (h : Pw w0 W b tb kd tx an v l Z) (s : ByteArray) (hl : l.length + s.size ≤ 70368744177664) :
  Calls Tryz.prog 63 #[.pointer (some ⟨b, 0, none⟩), .string s] Z fun e Z' => ∃ n : Int, e = .returned (.tuple #[.int .i64 n, .nilIface]) ∧ Pw w0 W b tb kd tx an v (l ++ s.data.toList) Z' ∧ Lib.OthersKept 5 (some b) Z Z' :=
 (Bld.text 99 Bld.lies_plain b b _ s Z h.bld (by rw [Lib.byteCells_length]; omega) (by have := h.lt; omega)).mono fun e Z' ⟨he, h1, h2, h3⟩ => ⟨_, he, h.call (by rw [Lib.byteCells_append]; exact .inr h1) (h.bel.trans (h2.mono h.lt.1)) h3 h2.size, h3⟩
theorem Pw.byte (h : Pw w0 W b tb kd tx an v l Z) (c : UInt8) (hl : l.length ≤ 70368744177664) :
  Calls Tryz.prog 65 #[.pointer (some ⟨b, 0, none⟩), .int .u8 (c.toNat : Int)] Z fun e Z' => e = .returned .nilIface ∧ Pw w0 W b tb kd tx an v (l ++ [c]) Z' :=
 (Bld.byte 99 Bld.lies_plain b b _ (c.toNat : Int) Z h.bld (by rw [Lib.byteCells_length]; omega) (by have := h.lt; omega)).mono fun e Z' ⟨he, h1, h2, h3⟩ => ⟨he, h.call (by rw [Lib.byteCells_append]; exact .inr h1) (h.bel.trans (h2.mono h.lt.1)) h3 h2.size⟩
end
set_option maxHeartbeats 8000000 in
set_option maxRecDepth 100000 in
theorem scalar_int (tx an : ByteArray) (A3 : Option Addr) (n3 c3 : Nat) (fl : Bool) (w : World) :
  Calls Tryz.prog 64 #[.agg #[.int .i64 3, .string tx, .string an, .slice A3 n3 c3], .bool fl] w fun e w' => e = .returned (.string tx) ∧ Below w.heap.size w w' := by
 obtain ⟨v, hv⟩ : ∃ v, Value.slice A3 n3 c3 = v := ⟨_, rfl⟩
 go_enter Tryz.func64, Tryz.ntmps64
 rw [hv]
 go_wp2_with (first | ((with_reducible refine gate_dst (N := 2) rfl ?_); refine box_event ?hg (N := 2) ?hd (cs := #[.int .i64 3, .string tx, .string an, v]) (t := 29) ?hr ?_; (case hd => rfl); (case hg => rfl); (case hr => first | (go_simp; done) | (go_simp; rfl)); intro tb ht w1 htb hb1; have HTB := Lib.hid htb; have HB1 := Lib.hid hb1; clear htb hb1 ht; have x0 := (blk_cell HTB.out 0).trans rfl; have x1 := (blk_cell HTB.out 1).trans rfl))
 go_ret
 exact ⟨rfl, HB1.out⟩
theorem scalar_int' (kd : Int) (hk : kd = 3) (tx an : ByteArray) (A3 : Option Addr) (n3 c3 : Nat) (fl : Bool) (w : World) :
  Calls Tryz.prog 64 #[.agg #[.int .i64 kd, .string tx, .string an, .slice A3 n3 c3], .bool fl] w fun e w' => e = .returned (.string tx) ∧ Below w.heap.size w w' := by
 subst hk
 exact scalar_int tx an A3 n3 c3 fl w
theorem add_list (a b : ByteArray) : (a ++ b).data.toList = a.data.toList ++ b.data.toList := by simp
set_option maxHeartbeats 8000000 in
set_option maxRecDepth 100000 in
theorem put_is (w0 : World) (b : Nat) (hcb : w0.heap.size ≤ b) :
  ∀ (K : Nat) (t : S29) (l x : List UInt8) (W : World) (A : Option Addr) (c : Nat), Kd.C k29 w0 A t.f3.length t.f3 → t.f3.length ≤ c → Below w0.heap.size w0 W → Lib.IsBuilderF 99 5 b b (Lib.byteCells l) W → b < W.heap.size → putT K t = some x → l.length + x.length ≤ 70368744177664 →
   Calls Tryz.prog 43 #[.pointer (some ⟨b, 0, none⟩), .agg #[.int .i64 t.f0, .string t.f1, .string t.f2, .slice A t.f3.length c]] W fun e W' => e = .returned (.tuple #[]) ∧ Lib.IsBuilderF 99 5 b b (Lib.byteCells (l ++ x)) W' ∧ Below w0.heap.size w0 W' ∧ Lib.OthersKept 5 (some b) W W' ∧ W.heap.size ≤ W'.heap.size := by
 intro K
 induction K with
 | zero => intro t l x W A c _ _ _ _ _ h; unfold putT at h; cases h
 | succ K ih =>
  intro t l x W A c hr hc hb hbl hbs h hlen
  obtain ⟨kd, tt, an, kids⟩ := t
  rw [putT] at h
  dsimp only at h hr hc ⊢
  have HR := Lib.hid hr
  have HB := Lib.hid hb
  have HBL := Lib.hid hbl
  have IH := Lib.hid ih
  clear hr hb hbl ih
  by_cases hz : 1099511627776 < kids.length ∨ 1099511627776 < an.size
  · rw [if_pos hz] at h; cases h
  rw [if_neg hz] at h
  have hz1 : kids.length ≤ 1099511627776 := by omega
  have hz2 : an.size ≤ 1099511627776 := by omega
  clear hz
  have HS1 : Hid (∀ W : World, (Op.stringOp .add ⟨#[42]⟩ an).run Tryz.prog W = .ok (.string (⟨#[42]⟩ ++ an)) W) := Lib.hid (fun W => run_string_add_sum W _ _ (by rw [show (⟨#[42]⟩ : ByteArray).size = 1 from rfl]; omega))
  by_cases c7 : kd = 7
  ·
   rw [if_pos c7] at h
   have HX := Lib.hid (Option.some.inj h)
   have q7 : (kd == 7) = true := beq_iff_eq.2 c7
   have hadd := HS1.out
   have hl2 : l.length + (⟨#[42]⟩ ++ an : ByteArray).size ≤ 70368744177664 := by
    rw [← HX.out] at hlen
    rw [ByteArray.size_append, show (⟨#[42]⟩ : ByteArray).size = 1 from rfl]
    have := size_list an
    simp only [List.length_cons] at hlen
    omega
   clear h c7
   go_enter Tryz.func43, Tryz.ntmps43
   go_wp2_with (first | ((with_reducible refine gate_dst (N := 3) rfl ?_); refine box_event ?hg (N := 3) ?hd (cs := #[.int .i64 kd, .string tt, .string an, .slice A kids.length c]) (t := 29) ?hr ?_; (case hd => rfl); (case hg => rfl); (case hr => first | (go_simp; done) | (go_simp; rfl)); intro tb ht w1 htb hb1; have HX1 := Lib.hid (Pw.mk (w0 := w0) (W := W) (bld_below HBL.out hb1) htb (HB.out.trans (hb1.mono HB.out.size)) (kept_ hb1) ⟨hcb, hbs, by rw [ht]; exact Nat.le_refl _, hb1.size⟩); clear htb hb1 ht; obtain ⟨x0, x1, x2, x3⟩ := HX1.out.cells) | (go_at_call 63; refine (HX1.out.text _ hl2).mono ?_; rintro e w3 ⟨n3, rfl, hX3, _⟩; have HX3 := Lib.hid hX3; clear hX3))
   (try simp only [Exit.inBlock, Exit.then])
   refine bodyPost_ret (results_none rfl _ _ _) rfl ?_
   refine ⟨rfl, ?_, HX3.out.bel, HX3.out.kp, HX3.out.lt.2.2.2⟩
   have hb3 := HX3.out.bld
   rw [add_list] at hb3
   rw [← HX.out]
   exact hb3
  rw [if_neg c7] at h
  have q7 : (kd == 7) = false := beq_eq_false_iff_ne.2 c7
  by_cases c3 : kd = 3
  ·
   rw [if_pos c3] at h
   by_cases ha : an.toList = []
   rotate_left
   · rw [if_neg ha] at h; cases h
   rw [if_pos ha] at h
   have HX := Lib.hid (Option.some.inj h)
   have HK3 := Lib.hid c3
   have p4 : (an.toList = []) = True := eq_true ha
   have q4 : (an.toList != []) = false := by rw [ha]; rfl
   have t6 : an.toList.isEmpty = true := by rw [ha]; rfl
   have q5 : (kd == 5) = false := beq_eq_false_iff_ne.2 (by omega)
   have q6 : (kd == 6) = false := beq_eq_false_iff_ne.2 (by omega)
   have hl2 : l.length + tt.size ≤ 70368744177664 := by
    rw [← HX.out] at hlen
    have := size_list tt
    omega
   clear h c3 ha c7
   go_enter Tryz.func43, Tryz.ntmps43
   go_wp2_with (first | ((with_reducible refine gate_dst (N := 3) rfl ?_); refine box_event ?hg (N := 3) ?hd (cs := #[.int .i64 kd, .string tt, .string an, .slice A kids.length c]) (t := 29) ?hr ?_; (case hd => rfl); (case hg => rfl); (case hr => first | (go_simp; done) | (go_simp; rfl)); intro tb ht w1 htb hb1; have HX1 := Lib.hid (Pw.mk (w0 := w0) (W := W) (bld_below HBL.out hb1) htb (HB.out.trans (hb1.mono HB.out.size)) (kept_ hb1) ⟨hcb, hbs, by rw [ht]; exact Nat.le_refl _, hb1.size⟩); clear htb hb1 ht; obtain ⟨x0, x1, x2, x3⟩ := HX1.out.cells) | (go_at_call 64; refine (scalar_int' kd HK3.out tt an A kids.length c true _).mono ?_; rintro e w2 ⟨rfl, hb2⟩; have HX2 := Lib.hid (HX1.out.below hb2); clear hb2 x0 x1 x2 x3) | (go_at_call 63; refine (HX2.out.text _ hl2).mono ?_; rintro e w3 ⟨n3, rfl, hX3, _⟩; have HX3 := Lib.hid hX3; clear hX3))
   (try simp only [Exit.inBlock, Exit.then])
   refine bodyPost_ret (results_none rfl _ _ _) rfl ?_
   refine ⟨rfl, ?_, HX3.out.bel, HX3.out.kp, HX3.out.lt.2.2.2⟩
   rw [← HX.out]
   exact HX3.out.bld
  rw [if_neg c3] at h
  by_cases c5 : kd = 5
  rotate_left
  · rw [if_neg c5] at h; cases h
  rw [if_pos c5] at h
  by_cases ha : an.toList = []
  · rw [if_pos ha] at h; cases h
  rw [if_neg ha] at h
  obtain ⟨y, hy1, hy2⟩ := Option.map_eq_some_iff.1 h
  have HY := Lib.hid hy1
  have HX := Lib.hid hy2
  have p4 : (an.toList = []) = False := eq_false ha
  have q4 : (an.toList != []) = true := bne_iff_ne.2 ha
  have t6 : an.toList.isEmpty = false := by rw [← Bool.not_eq_true, List.isEmpty_iff]; exact ha
  have q5 : (kd == 5) = true := beq_iff_eq.2 c5
  have q6 : (kd == 6) = false := beq_eq_false_iff_ne.2 (by omega)
  have hadd1 : ∀ W : World, (Op.stringOp .add ⟨#[38]⟩ an).run Tryz.prog W = .ok (.string (⟨#[38]⟩ ++ an)) W := fun W => run_string_add_sum W _ _ (by rw [show (⟨#[38]⟩ : ByteArray).size = 1 from rfl]; omega)
  have hadd2 : ∀ W : World, (Op.stringOp .add (⟨#[38]⟩ ++ an) ⟨#[32]⟩).run Tryz.prog W = .ok (.string ((⟨#[38]⟩ ++ an) ++ ⟨#[32]⟩)) W := fun W => run_string_add_sum W _ _ (by rw [ByteArray.size_append, show (⟨#[38]⟩ : ByteArray).size = 1 from rfl, show (⟨#[32]⟩ : ByteArray).size = 1 from rfl]; omega)
  have han : an.data.toList.length = an.size := (size_list an).symm
  have hll : l.length + (an.size + 3 + y.length + 1) ≤ 70368744177664 := by
   rw [← hy2] at hlen
   simp only [List.length_append, List.length_cons, List.length_nil] at hlen
   omega
  have hl2 : l.length + ((⟨#[38]⟩ ++ an) ++ ⟨#[32]⟩ : ByteArray).size ≤ 70368744177664 := by
   rw [ByteArray.size_append, ByteArray.size_append, show (⟨#[38]⟩ : ByteArray).size = 1 from rfl, show (⟨#[32]⟩ : ByteArray).size = 1 from rfl]
   omega
  have hl3 : (l ++ ((⟨#[38]⟩ ++ an) ++ ⟨#[32]⟩ : ByteArray).data.toList).length = l.length + an.size + 2 := by
   rw [add_list, add_list]
   simp only [List.length_append, han]
   rw [show (⟨#[38]⟩ : ByteArray).data.toList.length = 1 from rfl, show (⟨#[32]⟩ : ByteArray).data.toList.length = 1 from rfl]
   omega
  have HL0 : Hid ((l ++ ((⟨#[38]⟩ ++ an) ++ ⟨#[32]⟩ : ByteArray).data.toList) ++ [91] = l ++ (38 :: (an.data.toList ++ [32])) ++ [91]) := Lib.hid (by rw [add_list, add_list]; simp)
  clear h hy1 hy2 c5 ha c7 c3
  go_enter Tryz.func43, Tryz.ntmps43
  go_wp2_with (first | ((with_reducible refine gate_dst (N := 3) rfl ?_); refine box_event ?hg (N := 3) ?hd (cs := #[.int .i64 kd, .string tt, .string an, .slice A kids.length c]) (t := 29) ?hr ?_; (case hd => rfl); (case hg => rfl); (case hr => first | (go_simp; done) | (go_simp; rfl)); intro tb ht w1 htb hb1; have HX1 := Lib.hid (Pw.mk (w0 := w0) (W := W) (bld_below HBL.out hb1) htb (HB.out.trans (hb1.mono HB.out.size)) (kept_ hb1) ⟨hcb, hbs, by rw [ht]; exact Nat.le_refl _, hb1.size⟩); clear htb hb1 ht; obtain ⟨x0, x1, x2, x3⟩ := HX1.out.cells) | (go_at_call 63; refine (HX1.out.text _ hl2).mono ?_; rintro e w3 ⟨n3, rfl, hX3, _⟩; have HX3 := Lib.hid hX3; clear hX3 x0 x1 x2 x3; obtain ⟨x0, x1, x2, x3⟩ := HX3.out.cells) | (go_at_call 65; refine (HX3.out.byte 91 (by omega)).mono ?_; rintro e w4 ⟨rfl, hX4⟩; have HX4 := Lib.hid hX4; clear hX4 x0 x1 x2 x3; obtain ⟨x0, x1, x2, x3⟩ := HX4.out.cells))
  clear x0 x1 x2 x3
  clear HX1 HX3 HS1 hadd1 hadd2 HB HBL
  obtain ⟨L0, hL0⟩ : ∃ L, (l ++ ((⟨#[38]⟩ ++ an) ++ ⟨#[32]⟩ : ByteArray).data.toList) ++ [91] = L := ⟨_, rfl⟩
  have HLL : Hid (L0 = l ++ (38 :: (an.data.toList ++ [32])) ++ [91]) := Lib.hid (by rw [← hL0]; exact HL0.out)
  have hLn : L0.length = l.length + an.size + 3 := by rw [← hL0, List.length_append, hl3]; rfl
  rw [hL0] at HX4
  clear hL0 HL0
  go_loopw [41] (fun v wr => ∃ (j : Nat) (acc y2 : List UInt8), v = .int .i64 j ∧ j ≤ kids.length ∧ Hid (putsT (putT K) j (kids.drop j) = some y2) ∧ Hid (acc ++ y2 = L0 ++ y) ∧ Hid (Pw w0 W b tb kd tt an (.slice A kids.length c) acc wr)) (fun v _ => kids.length - (intOf v).toNat)
  case atStart => exact ⟨0, L0, y, rfl, by omega, HY, Lib.hid rfl, HX4⟩
  case round =>
   clear HX4 HY
   obtain ⟨j, acc, y2, rfl, hj, HYR, HAR, HXR⟩ := hrel
   obtain ⟨x0, x1, x2, x3⟩ := HXR.out.cells
   have hal : acc.length + y2.length = L0.length + y.length := by rw [← List.length_append, HAR.out, List.length_append]
   by_cases hlj : j < kids.length
   rotate_left
   ·
    have hc1 : decide ((j : Int) < (kids.length : Int)) = false := decide_eq_false (by omega)
    have hst := HYR.out
    rw [List.drop_of_length_le (by omega), putsT] at hst
    have hy0 := Option.some.inj hst
    subst hy0
    have HE : Hid (acc = L0 ++ y) := Lib.hid (by have h := HAR.out; rw [List.append_nil] at h; exact h)
    clear hst HYR HAR
    go_wp2_with (first | (go_at_call 65; refine (HXR.out.byte 93 (by simp only [List.length_nil] at hal; omega)).mono ?_; rintro e w11 ⟨rfl, hX11⟩; have HX11 := Lib.hid hX11; clear hX11))
    go_end0
    refine ⟨rfl, ?_, HX11.out.bel, HX11.out.kp, HX11.out.lt.2.2.2⟩
    have hb3 := HX11.out.bld
    rw [HE.out, HLL.out] at hb3
    rw [← HX.out]
    have e : l ++ (38 :: (an.data.toList ++ [32])) ++ [91] ++ y ++ [93] = l ++ ((38 :: (an.data.toList ++ [32])) ++ (91 :: (y ++ [93]))) := by simp
    rw [e] at hb3
    exact hb3
   have hc1 : decide ((j : Int) < (kids.length : Int)) = true := decide_eq_true (by omega)
   obtain ⟨bd, A3, c3, eA, y0, y1, yy, y3, hc3, hC3⟩ := at_T29 HR.out (j : Int) (by omega) (by omega)
   subst eA
   have y0 := (HXR.out.bel.cell (World.block_lt_of_cell? w0 _ y0)).trans y0
   have y1 := (HXR.out.bel.cell (World.block_lt_of_cell? w0 _ y1)).trans y1
   have yy := (HXR.out.bel.cell (World.block_lt_of_cell? w0 _ yy)).trans yy
   have y3 := (HXR.out.bel.cell (World.block_lt_of_cell? w0 _ y3)).trans y3
   have hst := HYR.out
   rw [List.drop_eq_getElem_cons hlj, ← rdT_nth kids j hlj, putsT] at hst
   rw [Int.toNat_natCast] at y0 y1 yy y3
   generalize rd_T29 kids (j : Int) = k at *
   obtain ⟨kk, kt, ka, kkids⟩ := k
   dsimp only at y0 y1 yy y3 hc3 hC3
   split at hst
   case h_2 => cases hst
   rename_i x2_ y4 hq1 hq2
   have hst2 := Option.some.inj hst
   have HQ := Lib.hid hq1
   have HY4 := Lib.hid hq2
   have HLJ := Lib.hid hlj
   have HC3 := Lib.hid hC3
   have p6 : (0 ≤ (j : Int)) = True := eq_true (by omega)
   have p7 : ((j : Int) < (kids.length : Int)) = True := eq_true (by omega)
   have HX8 := Lib.hid (HXR.out.below (below_alloc (Below.refl _ _) (.cells #[.int .i64 kk, .string kt, .string ka, .slice A3 kkids.length c3] 29)))
   have HKB := Lib.hid (blk_new wr (.cells #[.int .i64 kk, .string kt, .string ka, .slice A3 kkids.length c3] 29))
   obtain ⟨z0, z1, z2, z3⟩ := HX8.out.cells
   have u0 := (blk_cell HKB.out 0).trans rfl
   have u1 := (blk_cell HKB.out 1).trans rfl
   have u2 := (blk_cell HKB.out 2).trans rfl
   have u3 := (blk_cell HKB.out 3).trans rfl
   clear hC3 HYR hq1 hq2 hst
   by_cases hj0 : j = 0
   ·
    have r8 : decide ((j : Int) > 0) = false := decide_eq_false (by omega)
    have r9 : decide (0 < j) = false := decide_eq_false (by omega)
    have r10 : (0 < j) = False := eq_false (by omega)
    have r11 : decide ((0 : Int) < (j : Int)) = false := decide_eq_false (by omega)
    rw [if_pos hj0, List.nil_append] at hst2
    have hle : y2.length = x2_.length + y4.length := by rw [← hst2, List.length_append]
    have HA2 : Hid ((acc ++ x2_) ++ y4 = L0 ++ y) := Lib.hid (by rw [List.append_assoc, hst2]; exact HAR.out)
    clear hst2 HAR hj0
    go_wp2_with (first | (go_at_call 43; refine (IH.out ⟨kk, kt, ka, kkids⟩ acc x2_ _ A3 c3 HC3.out hc3 HX8.out.bel HX8.out.bld (by have := HX8.out.lt; omega) HQ.out (by omega)).mono ?_; rintro e w10 ⟨rfl, hb10, hbe10, hkp10, hs10⟩; have HXA := Lib.hid (HX8.out.call hb10 hbe10 hkp10 hs10); clear hb10 hbe10 hkp10 hs10))
    go_roundw
    case rel => exact ⟨j + 1, acc ++ x2_, y4, by go_num, HLJ.out, HY4, HA2, HXA⟩
    case measure => have := HLJ.out; simp [intOf]; omega
   have r8 : decide ((j : Int) > 0) = true := decide_eq_true (by omega)
   have r9 : decide (0 < j) = true := decide_eq_true (by omega)
   have r10 : (0 < j) = True := eq_true (by omega)
   have r11 : decide ((0 : Int) < (j : Int)) = true := decide_eq_true (by omega)
   rw [if_neg hj0] at hst2
   have hle : y2.length = 2 + (x2_.length + y4.length) := by rw [← hst2, List.length_append, List.length_append]; rfl
   have HA2 : Hid (((acc ++ (⟨#[44, 32]⟩ : ByteArray).data.toList) ++ x2_) ++ y4 = L0 ++ y) := Lib.hid (by rw [List.append_assoc, List.append_assoc, ← HAR.out, ← hst2])
   clear hst2 HAR hj0
   go_wp2_with (first | (go_at_call 63; refine (HX8.out.text ⟨#[44, 32]⟩ (by rw [show (⟨#[44, 32]⟩ : ByteArray).size = 2 from rfl]; omega)).mono ?_; rintro e w9 ⟨n9, rfl, hX9, hkp9⟩; have HX9 := Lib.hid hX9; have hk9 := hkp9 _ _ HKB.out (fun e => by have := Option.some.inj e; have := HXR.out.lt; omega) (fun c fz e => by injection e with e1 e2; exact absurd e2 (by decide)); clear hX9 hkp9 u0 u1 u2 u3 z0 z1 z2 z3; have u0 := (blk_cell hk9 0).trans rfl; have u1 := (blk_cell hk9 1).trans rfl; have u2 := (blk_cell hk9 2).trans rfl; have u3 := (blk_cell hk9 3).trans rfl; clear hk9) | (go_at_call 43; refine (IH.out ⟨kk, kt, ka, kkids⟩ _ x2_ _ A3 c3 HC3.out hc3 HX9.out.bel HX9.out.bld (by have := HX9.out.lt; omega) HQ.out (by rw [List.length_append, show (⟨#[44, 32]⟩ : ByteArray).data.toList.length = 2 from rfl]; omega)).mono ?_; rintro e w10 ⟨rfl, hb10, hbe10, hkp10, hs10⟩; have HXA := Lib.hid (HX9.out.call hb10 hbe10 hkp10 hs10); clear hb10 hbe10 hkp10 hs10))
   go_roundw
   case rel => exact ⟨j + 1, _, y4, by go_num, HLJ.out, HY4, HA2, HXA⟩
   case measure => have := HLJ.out; simp [intOf]; omega
def flow_Write.f (a0 : Int) (a1 a2 : ByteArray) (l3 : List S29) : Option (ByteArray × Int) :=
 match flow_Right.f a0 a1 a2 l3, putT 66 ⟨a0, a1, a2, l3⟩ with
 | some true, some x => if x.length ≤ 70368744177664 then some (⟨x.toArray⟩, 0) else none
 | _, _ => none
set_option maxHeartbeats 8000000 in
set_option maxRecDepth 100000 in
theorem flow_Write.calls (a0 : Int) (a1 a2 : ByteArray) (A3 : Option Addr) (c3 : Nat) (l3 : List S29) (r1 : ByteArray) (r2 : Int) (w : World) (hr : Kd.C k29 w A3 l3.length l3) (hc : l3.length ≤ c3) (hG : Glob.G w) (h : flow_Write.f a0 a1 a2 l3 = some (r1, r2)) :
  Calls Tryz.prog 27 #[.agg #[.int .i64 a0, .string a1, .string a2, .slice A3 l3.length c3]] w fun e w' => e = .returned (.tuple #[.string r1, .int .i64 r2]) ∧ Below w.heap.size w w' := by
 unfold flow_Write.f at h
 have HR := Lib.hid hr
 clear hr
 split at h
 ·
  rename_i x hrt hp
  by_cases hl : x.length ≤ 70368744177664
  rotate_left
  · rw [if_neg hl] at h; cases h
  rw [if_pos hl] at h
  have HF := Lib.hid (show r1 = ⟨x.toArray⟩ ∧ r2 = 0 from ⟨(Prod.mk.inj (Option.some.inj h)).1.symm, (Prod.mk.inj (Option.some.inj h)).2.symm⟩)
  have HRT := Lib.hid hrt
  have HP := Lib.hid hp
  have HL := Lib.hid hl
  clear h hrt hp hl
  go_enter Tryz.func27, Tryz.ntmps27
  go_wp2_with (first | ((with_reducible refine gate_dst (N := 1) rfl ?_); refine box_event ?hg (N := 1) ?hd (cs := #[.int .i64 a0, .string a1, .string a2, .slice A3 l3.length c3]) (t := 29) ?hr ?_; (case hd => rfl); (case hg => rfl); (case hr => first | (go_simp; done) | (go_simp; rfl)); intro tb ht w1 htb hb1; have HTB := Lib.hid htb; have HB1 := Lib.hid hb1; clear htb hb1 ht; have x0 := (blk_cell HTB.out 0).trans rfl; have x1 := (blk_cell HTB.out 1).trans rfl; have x2 := (blk_cell HTB.out 2).trans rfl; have x3 := (blk_cell HTB.out 3).trans rfl) | (go_at_call 24; refine (flow_Right.calls a0 a1 a2 A3 c3 l3 true _ (Kd.C_below HR.out HB1.out) hc (hG.below HB1.out) HRT.out).mono ?_; rintro e w2 ⟨rfl, hb2⟩; have HB2 := Lib.hid (HB1.out.trans (hb2.mono HB1.out.size)); have HT2 := Lib.hid ((hb2.block tb (blk_lt HTB.out)).trans HTB.out); clear hb2 x0 x1 x2 x3; have ht3 := (Lib.alloc_old w2 (.cells #[.pointer none, .slice none 0 0] 99) tb (blk_lt HT2.out)).trans HT2.out; have x0 := (blk_cell ht3 0).trans rfl; have x1 := (blk_cell ht3 1).trans rfl; have x2 := (blk_cell ht3 2).trans rfl; have x3 := (blk_cell ht3 3).trans rfl; clear ht3) | (go_at_call 43; refine (put_is w w2.heap.size HB2.out.size 66 ⟨a0, a1, a2, l3⟩ [] x _ A3 c3 HR.out hc (below_alloc HB2.out _) (Lib.IsBuilderF.of (Lib.fresh_isBuilder 99 5 w2)) (by simp) HP.out (by simpa using HL.out)).mono ?_; rintro e w3 ⟨rfl, hbl, hb3, _, hs3⟩; have HBL := Lib.hid hbl; have HB3 := Lib.hid hb3; have hs3 : w2.heap.size < w3.heap.size := Nat.lt_of_lt_of_le (by simp) hs3; clear hbl hb3 x0 x1 x2 x3) | (go_at_call 44; refine (Bld.got 99 w2.heap.size w2.heap.size x w3 (by simpa using HBL.out) (by omega)).mono ?_; rintro e w4 ⟨rfl, hb4⟩; have HB4 := Lib.hid (HB3.out.trans (hb4.mono HB2.out.size)); clear hb4))
  go_ret2
  exact ⟨by rw [HF.out.1, HF.out.2]; first | done | rfl, HB4.out⟩
 · cases h
end Go.Proofs.YtnjcpoojgmpmeaaGreatDoor.Plug
namespace Go.Proofs.YtnjcpoojgmpmeaaGreatDoor.PX
open RowKit YtnjcpoojgmpmeaaGreatDoorW.PrintWords YtnjcpoojgmpmeaaGreatDoorW.PrintLast YtnjcpoojgmpmeaaGreatDoorW.PrintMore YtnjcpoojgmpmeaaGreatDoor YtnjcpoojgmpmeaaGreatDoor.Plug
attribute [local go_sem] max2_int min2_int max_two min_two max_three min_three max_four min_four   -- for this text's walks alone
set_option linter.unusedVariables false
set_option linter.unusedSimpArgs false
attribute [local go_sem high] eqA143
def graph_isText.j0 : Nat → Int → ByteArray → Int → Bool → Option (Bool)
  | 0, _, _, _, _ => none
  | k + 1, x0, x1, x7, x8 => if x8 = true then ((plain_Resolve.f x1).bind fun t101 => (some (t101 == x0))) else (if x7 = 4 then ((utf_Decode.f x1).bind fun bt102 => (some (bt102.2.1 == 0 && (bt102.2.2 == 0)))) else (some (x1.toList == ([] : List UInt8))))
def graph_isText.f (k : Nat) (a0 : Int) (a1 : ByteArray) : Option (Bool) := if a0 = 2 then (graph_isText.j0 k a0 a1 a0 (a0 == 2)) else (graph_isText.j0 k a0 a1 a0 (a0 == 3))
theorem qra0_ {P : Prop} (h_ : P := by repeat (first | (with_reducible first | exact HB.out | apply below_alloc | apply pw_below_drewN | apply below_drew1) | exact HB.out)) : P := h_
theorem qra1_ {P : Prop} (h_ : P := by first | ((repeat (first | (with_reducible first | exact HB.out | apply below_alloc | apply pw_below_drewN | apply below_drew1 | (refine Glob.below_set ?_ (by assumption) _ _ _)) | exact HB.out)); done) | (refine Drawn0.below ?_; repeat (first | exact Drawn0.refl _ | assumption | apply Drawn0.step))) : P := h_
theorem qra2_ {P : Prop} (h_ : P := by first | rfl | (simp [errW_none, errW_some] <;> rfl) | (simp [*, errW_none, errW_some] <;> rfl)) : P := h_
theorem qra3_ {P : Prop} (h_ : P := by (try simp only [List.map_toArray, List.map_cons, List.map_nil]); first | done | rfl | (simp only [List.length_drop, List.length_take]; rfl)) : P := h_
set_option maxHeartbeats 8000000 in
set_option maxRecDepth 100000 in
theorem graph_isText.calls (k : Nat) (a0 : Int) (a1 : ByteArray) (r : Bool) (w : World) (hG : Glob.G w) (h : graph_isText.f k a0 a1 = some r) :
  Calls Tryz.prog 70 #[.int .i64 a0, .string a1] w fun e w' => e = .returned (.bool r) ∧ Below w.heap.size w w' := by
 have hu143 := Tryz.underlying143
 have HB := Aside0.mk (Below.refl w.heap.size w)
 have H : (if a0 = 2 then (graph_isText.j0 k a0 a1 a0 (a0 == 2)) else (graph_isText.j0 k a0 a1 a0 (a0 == 3))) = some r := h
 clear h
 have HC3 := Aside0.mk H
 clear H
 go_enter Tryz.func70, Tryz.ntmps70
 go_upto_if 8 with (fail)
 go_cut [8] (fun v8 wc => ∃ (kq : Nat) (x8_2 : Bool), v8 = .bool x8_2 ∧ Aside0 (graph_isText.j0 kq a0 a1 a0 x8_2 = some r) ∧ Aside0 (kq ≤ k) ∧ Aside0 (Below w.heap.size w wc))
 case first =>
  have H := HC3.out
  clear HC3
  by_cases c4 : a0 = 2
  rotate_left
  ·
   rw [if_neg c4] at H
   have c4b0 : (a0 == 2) = false := beq_eq_false_iff_ne.mpr c4
   have c4b1 : (a0 != 2) = true := bne_iff_ne.mpr c4
   (first | rw [c4b0] | (simp only [i64_w, i32_w]; rw [c4b0]) | skip)
   have H' := Aside0.mk H
   clear H
   go_wp2
   go_meet
   case rel => exact ⟨_, ((a0 == 3)), (by first | rfl | (simp; done) | (simp [*]; done)), H', ⟨by first | omega | exact Nat.le_refl _⟩, ⟨qra0_⟩⟩
  rw [if_pos c4] at H
  have c4b0 : (a0 == 2) = true := beq_iff_eq.mpr c4
  have c4b1 : (a0 != 2) = false := bne_eq_false_iff_eq.mpr c4
  clear c4
  (first | rw [c4b0] | (simp only [i64_w, i32_w]; rw [c4b0]) | skip)
  have H' := Aside0.mk H
  clear H
  go_wp2
  go_meet
  case rel => exact ⟨_, ((a0 == 2)), (by first | rfl | (simp; done) | (simp [*]; done)), H', ⟨by first | omega | exact Nat.le_refl _⟩, ⟨qra0_⟩⟩
 case rest =>
  clear HC3
  try clear p2
  try clear c4
  try clear c4b0
  try clear c4b1
  obtain ⟨kq, x8_2, rfl, HA, HJ2, HB⟩ := hcut
  cases kq with
  | zero => exact absurd HA.out (by simp [graph_isText.j0])
  | succ kj2 =>
   have H := HA.out
   clear HA
   simp only [graph_isText.j0] at H
   by_cases c5 : x8_2 = true
   ·
    subst c5
    have H1 : ((plain_Resolve.f a1).bind fun t101 => (some (t101 == a0))) = some r := by rw [if_pos rfl] at H; exact H
    clear H
    have H := H1
    clear H1
    replace H := Option.bind_eq_some_iff.mp H
    obtain ⟨t101, A60, H⟩ := H
    replace H : (some (t101 == a0)) = some r := H
    have A6 := Aside0.mk A60
    clear A60
    obtain rfl := Option.some.inj H
    go_wp2_with (first | ((with_reducible refine gate_callee (f := 76) rfl ?_); refine goesL_ (some 12) rfl rfl Tryz.func76 (by kernel_rfl) rfl #[.string a1] rfl (qra3_) ?_; (with_reducible refine (plain_Resolve.calls a1 t101 _ (hG.below (qra1_)) A6.out).mono ?_); rintro e w7 ⟨rfl, hb⟩; refine ⟨_, rfl, ?_⟩; have n0_ := Aside0.mk (below_step (qra0_) hb); clear HB; have HB := n0_; clear n0_; (try clear hb)))
    go_ret
    exact ⟨qra2_, qra0_⟩
   replace c5 := Bool.eq_false_iff.mpr c5
   subst c5
   have H1 : (if a0 = 4 then ((utf_Decode.f a1).bind fun bt102 => (some (bt102.2.1 == 0 && (bt102.2.2 == 0)))) else (some (a1.toList == ([] : List UInt8)))) = some r := by rw [if_neg (show ¬ (false = true) by decide)] at H; exact H
   clear H
   have H := H1
   clear H1
   by_cases c8 : a0 = 4
   rotate_left
   ·
    rw [if_neg c8] at H
    have c8b0 : (a0 == 4) = false := beq_eq_false_iff_ne.mpr c8
    have c8b1 : (a0 != 4) = true := bne_iff_ne.mpr c8
    obtain rfl := Option.some.inj H
    go_wp2
    go_ret
    exact ⟨qra2_, qra0_⟩
   rw [if_pos c8] at H
   have c8b0 : (a0 == 4) = true := beq_iff_eq.mpr c8
   have c8b1 : (a0 != 4) = false := bne_eq_false_iff_eq.mpr c8
   clear c8
   replace H := Option.bind_eq_some_iff.mp H
   obtain ⟨⟨t102, t105, t106⟩, A90, H⟩ := H
   replace H : (some (t105 == 0 && (t106 == 0))) = some r := H
   have A9 := Aside0.mk A90
   clear A90
   obtain rfl := Option.some.inj H
   go_wp2_with (first | ((with_reducible refine gate_callee (f := 77) rfl ?_); refine goesL_ (some 19) rfl rfl Tryz.func77 (by kernel_rfl) rfl #[.string a1] rfl (qra3_) ?_; (with_reducible refine (utf_Decode.calls a1 t102 t105 t106 _ (hG.below (qra1_)) A9.out).mono ?_); rintro e w10 ⟨v103, rfl, ho0, hb⟩; refine ⟨_, rfl, ?_⟩; have n0_ := Aside0.mk (Kd.R_lower ho0 (below_size (qra0_))); have n1_ := Aside0.mk (below_step (qra0_) hb); clear HB; have HO104 := n0_; have HB := n1_; clear n0_ n1_; (try clear hb); (try clear ho0)) | ((with_reducible refine gate_dst (N := 6) rfl ?_); refine box_event ?hg (N := 6) ?hd (cs := #[.int .i64 0, .int .i64 0]) (t := 143) ?hr ?_; (case hd => rfl); (case hg => rfl); (case hr => first | (go_simp; done) | (go_simp; rfl)); intro gb107 hg w11 hbox hb; have n0_ := Aside0.mk (Kd.R_below (by (with_reducible repeat (first | apply Kd.R_alloc | apply Kd.R_drewN | apply Kd.R_drew)); exact HO104.out) hb); have n1_ := Aside0.mk (below_step (qra0_) hb); have n2_ := Aside0.mk (hbox); have n3_ := Aside0.mk ((by rw [hg]; exact (below_size (qra0_)) : w.heap.size ≤ gb107)); have n4_ := Aside0.mk ((by rw [hg]; exact (below_size (qra0_)) : w.heap.size ≤ gb107)); clear HO104; clear HB; have HO104 := n0_; have HB := n1_; have BK107 := n2_; have GW107 := n3_; have GE107 := n4_; clear n0_ n1_ n2_ n3_ n4_; clear hb hbox hg; have hcz12_0 : w11.cell? ⟨gb107, 0, none⟩ = some (.int .i64 0) := (blk_cell BK107.out 0).trans rfl; have hcz12_1 : w11.cell? ⟨gb107, 1, none⟩ = some (.int .i64 0) := (blk_cell BK107.out 1).trans rfl; have hfz12_0 := blk_frozen BK107.out 0; have hfz12_1 := blk_frozen BK107.out 1))
   go_ret
   exact ⟨qra2_, by repeat (first | (with_reducible first | exact HB.out | apply below_alloc | apply pw_below_drewN | apply below_drew1 | refine below_set ?_ GE107.out) | exact HB.out)⟩
end Go.Proofs.YtnjcpoojgmpmeaaGreatDoor.PX
namespace Go.Proofs.YtnjcpoojgmpmeaaGreatDoor.PX
open RowKit YtnjcpoojgmpmeaaGreatDoorW.PrintWords YtnjcpoojgmpmeaaGreatDoorW.PrintLast YtnjcpoojgmpmeaaGreatDoorW.PrintMore YtnjcpoojgmpmeaaGreatDoor
attribute [local go_sem] max2_int min2_int max_two min_two max_three min_three max_four min_four   -- for this text's walks alone
set_option linter.unusedVariables false
set_option linter.unusedSimpArgs false
def graph_isScalar.f (a0 : Int) : Option (Bool) := if a0 ≥ 1 then (some (decide (a0 ≤ 4))) else (some false)
theorem qsa0_ {P : Prop} (h_ : P := by first | rfl | (simp; done) | (simp [*]; done) | (simp; generalize ByteArray.toList _ = l_; cases l_ <;> rfl)) : P := h_
set_option maxHeartbeats 8000000 in
set_option maxRecDepth 100000 in
theorem graph_isScalar.calls (a0 : Int) (r : Bool) (w : World) (hG : Glob.G w) (h : graph_isScalar.f a0 = some r) :
  Calls Tryz.prog 71 #[.int .i64 a0] w fun e w' => e = .returned (.bool r) ∧ Drawn0 w w' := by
 have H : (if a0 ≥ 1 then (some (decide (a0 ≤ 4))) else (some false)) = some r := h
 clear h
 by_cases c2 : a0 ≥ 1
 ·
  rw [if_pos c2] at H
  have c2b0 : decide (1 ≤ a0) = true := decide_eq_true c2
  clear c2
  obtain rfl := Option.some.inj H
  go_enter Tryz.func71, Tryz.ntmps71
  go_wp2
  go_ret
  exact ⟨qsa0_, by repeat (first | exact Drawn0.refl _ | apply Drawn0.step)⟩
 rw [if_neg c2] at H
 have c2b0 : decide (1 ≤ a0) = false := decide_eq_false c2
 clear c2
 obtain rfl := Option.some.inj H
 go_enter Tryz.func71, Tryz.ntmps71
 go_wp2
 go_ret
 exact ⟨qsa0_, by repeat (first | exact Drawn0.refl _ | apply Drawn0.step)⟩
def graph_keys.l0 : Nat → List Int → Int → Int → ByteArray → List Int → Option (List Int)
  | 0, _, _, _, _, _ => none
  | k + 1, x3, x4, x102000, x102001, x102002 => if (wrap64 (x4 + 1)) < (x102002.length : Int) then (if 0 ≤ x4 then (if x4 < (x102002.length : Int) then (if x3.length < 17592186044416 then (graph_keys.l0 k (x3 ++ [rd x102002 x4]) (wrap64 (x4 + 2)) x102000 x102001 x102002) else (none)) else (none)) else (none)) else (some x3)
def graph_keys.f (k : Nat) (a0_0 : Int) (a0_1 : ByteArray) (l0_2 : List Int) : Option (List Int) := if a0_0 = 6 then (graph_keys.l0 k ([] : List Int) 0 a0_0 a0_1 l0_2) else (some ([] : List Int))
theorem qta0_ {P : Prop} (h_ : P := by repeat (first | (with_reducible first | exact HB.out | apply below_alloc | apply pw_below_drewN | apply below_drew1 | refine below_set ?_ GE101.out) | exact HB.out)) : P := h_
theorem qta1_ {P : Prop} (h_ : P := by repeat (first | (with_reducible first | exact HB.out | apply below_alloc | apply pw_below_drewN | apply below_drew1) | exact HB.out)) : P := h_
theorem qta2_ {P : Prop} (h_ : P := by (with_reducible repeat (first | refine blk_drewN ?_ _ | refine blk_drew ?_ | refine blk_alloc ?_ _)); exact BK101.out) : P := h_
theorem qta3_ {P : Prop} (h_ : P := by first | exact Kd.R_nil _ _ _ _ _ | exact Kd.N_nil _ _ _ _ _ | exact Kd.V_nil _ _ _ _ _ | exact Kd.Q_nil _ _ _ _ _ | exact Kd.S_nil _ _ _ _ _) : P := h_
set_option maxHeartbeats 8000000 in
set_option maxRecDepth 100000 in
theorem graph_keys.calls (k : Nat) (a0_0 : Int) (a0_1 : ByteArray) (A0_2 : Option Addr) (c0_2 : Nat) (l0_2 : List Int) (r : List Int) (w : World) (hr0_2 : Kd.C (Kd.int .i64) w A0_2 l0_2.length l0_2) (hc0_2 : l0_2.length ≤ c0_2) (hG : Glob.G w) (h : graph_keys.f k a0_0 a0_1 l0_2 = some r) :
  Calls Tryz.prog 52 #[.agg #[.int .i64 a0_0, .string a0_1, .slice A0_2 l0_2.length c0_2]] w fun e w' => ∃ v0_ : Value, e = .returned (v0_) ∧ Kd.R (Kd.int .i64) 3 w' w.heap.size (fun _ => True) v0_ r ∧ Below w.heap.size w w' := by
 have hu45 := Tryz.underlying45
 have HR0_2 := Aside0.mk hr0_2
 have HC0_2 := Aside0.mk hc0_2
 clear hr0_2 hc0_2
 have HB := Aside0.mk (Below.refl w.heap.size w)
 have H : (if a0_0 = 6 then (graph_keys.l0 k ([] : List Int) 0 a0_0 a0_1 l0_2) else (some ([] : List Int))) = some r := h
 clear h
 by_cases c2 : a0_0 = 6
 rotate_left
 ·
  rw [if_neg c2] at H
  have c2b0 : (a0_0 == 6) = false := beq_eq_false_iff_ne.mpr c2
  have c2b1 : (a0_0 != 6) = true := bne_iff_ne.mpr c2
  obtain rfl := Option.some.inj H
  go_enter Tryz.func52, Tryz.ntmps52
  go_wp2_with (first | ((with_reducible refine gate_dst (N := 1) rfl ?_); refine box_event ?hg (N := 1) ?hd (cs := #[.int .i64 a0_0, .string a0_1, .slice A0_2 l0_2.length c0_2]) (t := 45) ?hr ?_; (case hd => rfl); (case hg => rfl); (case hr => first | (go_simp; done) | (go_simp; rfl)); intro gb101 hg w12 hbox hb; have n0_ := Aside0.mk (below_step (qta1_) hb); have n1_ := Aside0.mk (hbox); have n2_ := Aside0.mk ((by rw [hg]; exact (below_size (qta1_)) : w.heap.size ≤ gb101)); have n3_ := Aside0.mk ((by rw [hg]; exact (below_size (qta1_)) : w.heap.size ≤ gb101)); clear HB; have HB := n0_; have BK101 := n1_; have GW101 := n2_; have GE101 := n3_; clear n0_ n1_ n2_ n3_; clear hb hbox hg; have hcz13_0 : w12.cell? ⟨gb101, 0, none⟩ = some (.int .i64 a0_0) := (blk_cell BK101.out 0).trans rfl; have hcz13_1 : w12.cell? ⟨gb101, 1, none⟩ = some (.string a0_1) := (blk_cell BK101.out 1).trans rfl; have hcz13_2 : w12.cell? ⟨gb101, 2, none⟩ = some (.slice A0_2 l0_2.length c0_2) := (blk_cell BK101.out 2).trans rfl; have hfz13_0 := blk_frozen BK101.out 0; have hfz13_1 := blk_frozen BK101.out 1; have hfz13_2 := blk_frozen BK101.out 2))
  go_ret
  exact ⟨_, by first | rfl | (simp [errW_none, errW_some] <;> rfl) | (simp [*, errW_none, errW_some] <;> rfl), qta3_, qta0_⟩
 rw [if_pos c2] at H
 have c2b0 : (a0_0 == 6) = true := beq_iff_eq.mpr c2
 have c2b1 : (a0_0 != 6) = false := bne_eq_false_iff_eq.mpr c2
 clear c2
 have H' := Aside0.mk H
 clear H
 go_enter Tryz.func52, Tryz.ntmps52
 go_wp2_with (first | ((with_reducible refine gate_dst (N := 1) rfl ?_); refine box_event ?hg (N := 1) ?hd (cs := #[.int .i64 a0_0, .string a0_1, .slice A0_2 l0_2.length c0_2]) (t := 45) ?hr ?_; (case hd => rfl); (case hg => rfl); (case hr => first | (go_simp; done) | (go_simp; rfl)); intro gb101 hg w3 hbox hb; have n0_ := Aside0.mk (below_step (qta1_) hb); have n1_ := Aside0.mk (hbox); have n2_ := Aside0.mk ((by rw [hg]; exact (below_size (qta1_)) : w.heap.size ≤ gb101)); have n3_ := Aside0.mk ((by rw [hg]; exact (below_size (qta1_)) : w.heap.size ≤ gb101)); clear HB; have HB := n0_; have BK101 := n1_; have GW101 := n2_; have GE101 := n3_; clear n0_ n1_ n2_ n3_; clear hb hbox hg; have hcz4_0 : w3.cell? ⟨gb101, 0, none⟩ = some (.int .i64 a0_0) := (blk_cell BK101.out 0).trans rfl; have hcz4_1 : w3.cell? ⟨gb101, 1, none⟩ = some (.string a0_1) := (blk_cell BK101.out 1).trans rfl; have hcz4_2 : w3.cell? ⟨gb101, 2, none⟩ = some (.slice A0_2 l0_2.length c0_2) := (blk_cell BK101.out 2).trans rfl; have hfz4_0 := blk_frozen BK101.out 0; have hfz4_1 := blk_frozen BK101.out 1; have hfz4_2 := blk_frozen BK101.out 2))
 go_loopg [3, 4] k (fun kq v3 v4 w' => ∃ (x3_1 : List Int) (x4_1 : Int), v4 = .int .i64 x4_1 ∧ Aside0 (graph_keys.l0 kq x3_1 x4_1 a0_0 a0_1 l0_2 = some r) ∧ Aside0 (kq ≤ k) ∧ Aside0 (Kd.R (Kd.int .i64) 3 w' w.heap.size (fun _ => True) v3 x3_1) ∧ Aside0 (w'.heap[gb101]? = some (.cells #[.int .i64 a0_0, .string a0_1, (.slice A0_2 l0_2.length c0_2)] 45 (0, 0))) ∧ Aside0 (Below w.heap.size w w'))
 case atStart => exact ⟨(([] : List Int)), (0), (by first | rfl | (simp; done) | (simp [*]; done)), H', ⟨Nat.le_refl _⟩, ⟨qta3_⟩, ⟨qta2_⟩, ⟨qta0_⟩⟩
 case round =>
  clear H'
  try clear c2
  try clear c2b0
  try clear c2b1
  try clear p2
  try clear hcz4_0
  try clear hcz4_1
  try clear hcz4_2
  try clear hfz4_0
  try clear hfz4_1
  try clear hfz4_2
  obtain ⟨x3_1, x4_1, rfl, HA, HK1, HO_3, BK101, HB⟩ := hrel
  cases gk with
  | zero => exact absurd HA.out (by simp [graph_keys.l0])
  | succ k1 =>
   have H := HA.out
   clear HA
   simp only [graph_keys.l0] at H
   by_cases c5 : (wrap64 (x4_1 + 1)) < (l0_2.length : Int)
   rotate_left
   ·
    rw [if_neg c5] at H
    have c5b0 : decide ((wrap64 (x4_1 + 1)) < (l0_2.length : Int)) = false := decide_eq_false c5
    clear c5
    obtain rfl := Option.some.inj H
    have hcz11_0 : wr.cell? ⟨gb101, 0, none⟩ = some (.int .i64 a0_0) := (blk_cell BK101.out 0).trans rfl
    have hcz11_1 : wr.cell? ⟨gb101, 1, none⟩ = some (.string a0_1) := (blk_cell BK101.out 1).trans rfl
    have hcz11_2 : wr.cell? ⟨gb101, 2, none⟩ = some (.slice A0_2 l0_2.length c0_2) := (blk_cell BK101.out 2).trans rfl
    have hfz11_0 := blk_frozen BK101.out 0
    have hfz11_1 := blk_frozen BK101.out 1
    have hfz11_2 := blk_frozen BK101.out 2
    go_wp2
    go_ret
    exact ⟨_, by first | rfl | (simp [errW_none, errW_some] <;> rfl) | (simp [*, errW_none, errW_some] <;> rfl), by (with_reducible repeat (first | apply Kd.R_alloc | apply Kd.R_drewN | apply Kd.R_drew)); exact HO_3.out, qta0_⟩
   rw [if_pos c5] at H
   have c5b0 : decide ((wrap64 (x4_1 + 1)) < (l0_2.length : Int)) = true := decide_eq_true c5
   clear c5
   by_cases c6 : 0 ≤ x4_1
   rotate_left
   ·
    rw [if_neg c6] at H
    exact absurd H (by simp)
   rw [if_pos c6] at H
   have c6b0 : decide (0 ≤ x4_1) = true := decide_eq_true c6
   clear c6
   by_cases c7 : x4_1 < (l0_2.length : Int)
   rotate_left
   ·
    rw [if_neg c7] at H
    exact absurd H (by simp)
   rw [if_pos c7] at H
   have c7b0 : decide (x4_1 < (l0_2.length : Int)) = true := decide_eq_true c7
   clear c7
   by_cases c8 : x3_1.length < 17592186044416
   rotate_left
   ·
    rw [if_neg c8] at H
    exact absurd H (by simp)
   rw [if_pos c8] at H
   have LMc8 := Aside0.mk c8
   clear c8
   obtain ⟨y103, hy103⟩ : ∃ y_ : List Int, y_ = (x3_1 ++ [rd l0_2 x4_1]) := ⟨_, rfl⟩
   replace H : (graph_keys.l0 k1 y103 (wrap64 (x4_1 + 2)) a0_0 a0_1 l0_2) = some r := by first | (rw [hy103]; with_reducible exact H) | (have H2_ := (Option.bind_some _ _).symm.trans H; rw [hy103]; with_reducible exact H2_) | (have H2_ := (Option.bind_some _ _).symm.trans H; with_reducible exact H2_) | with_reducible exact H | (rw [hy103]; exact H) | exact H
   have Ny103 := Aside0.mk hy103
   clear hy103
   have H' := Aside0.mk H
   clear H
   have hcz9_0 : wr.cell? ⟨gb101, 0, none⟩ = some (.int .i64 a0_0) := (blk_cell BK101.out 0).trans rfl
   have hcz9_1 : wr.cell? ⟨gb101, 1, none⟩ = some (.string a0_1) := (blk_cell BK101.out 1).trans rfl
   have hcz9_2 : wr.cell? ⟨gb101, 2, none⟩ = some (.slice A0_2 l0_2.length c0_2) := (blk_cell BK101.out 2).trans rfl
   have hfz9_0 := blk_frozen BK101.out 0
   have hfz9_1 := blk_frozen BK101.out 1
   have hfz9_2 := blk_frozen BK101.out 2
   have p102 : 0 ≤ (x4_1 : Int) := of_decide_eq_true (by first | (with_reducible assumption) | assumption)
   have q102 : x4_1 < (l0_2.length : Int) := of_decide_eq_true (by first | (with_reducible assumption) | assumption)
   obtain ⟨ad102, e102, hx102_0⟩ := Kd.at_int HR0_2.out x4_1 p102 q102
   cases e102
   replace hx102_0 := (HB.out.cell (World.block_lt_of_cell? w _ hx102_0)).trans hx102_0
   replace p102 := eq_true p102
   replace q102 := eq_true q102
   go_wp2_with (first | ((with_reducible refine gate_builtin (b := .append) (xs := #[.tmp 16, .tmp 22]) rfl ?_); at_builtin; refine Kd.R_append (Kd.int .i64) (w0 := w) w.heap.size rfl (.tmp 16) (.tmp 22) 40 3 (.int .i64 0) 8 rfl Tryz.underlying40 info3 rfl (by decide) (by omega) u3 x3_1 (rd l0_2 x4_1) [.int .i64 (rd l0_2 x4_1)] (fun _ => True) (fun _ => False) rfl rfl ?aP (fun _ hk => hk.elim) ?aF ?aO ?aB ?aS ?aL ?_; (case aP => exact rfl); (case aB => exact (qta0_)); (case aF => exact (fun _ _ => trivial)); (case aO => exact (by (with_reducible repeat (first | apply Kd.R_alloc | apply Kd.R_drewN | apply Kd.R_drew)); exact HO_3.out)); (case aS => exact (below_size (qta0_))); (case aL => have := LMc8.out; omega); intro v104 w10 ho hb hg hat; rw [← Ny103.out] at ho; have n0_ := Aside0.mk (blk_grown (g := gb101) (o := .cells #[.int .i64 a0_0, .string a0_1, .slice (some ad102) l0_2.length c0_2] 45 (0, 0)) (qta2_) hg (Kd.R_ne HO_3.out BK101.out (by decide))); have n1_ := Aside0.mk (hb); have n2_ := Aside0.mk (ho); clear BK101; clear HB; clear HO_3; have BK101 := n0_; have HB := n1_; have HO105 := n2_; clear n0_ n1_ n2_; clear ho hb hg hat))
   go_roundg k1
   case measure => have := HK1.out; omega
   case rel => exact ⟨(y103), (wrap64 (x4_1 + 2)), (by first | rfl | (simp; done) | (simp [*]; done)), H', ⟨by have := HK1.out; omega⟩, ⟨by (with_reducible repeat (first | apply Kd.R_alloc | apply Kd.R_drewN | apply Kd.R_drew)); exact HO105.out⟩, ⟨qta2_⟩, ⟨qta0_⟩⟩
end Go.Proofs.YtnjcpoojgmpmeaaGreatDoor.PX
namespace Go.Proofs.YtnjcpoojgmpmeaaGreatDoor.Mapk
open Go RowKit YtnjcpoojgmpmeaaGreatDoor YtnjcpoojgmpmeaaGreatDoorW.PrintWords Go.Maps
def hl (v : Value) : Option (DataW Value × List MemPlace) := some (.held v, [])
theorem hl_inv {v u : Value} {ps : List MemPlace} (h : hl v = some (.held u, ps)) : v = u := by
  simp only [hl, Option.some.injEq, Prod.mk.injEq, DataW.held.injEq] at h; exact h.1
section
variable {κ : Type} {en : κ → Value}
structure MapIs (P : Program) (k : TypeId) (en : κ → Value) (w : World) (b n : Nat) (F : κ → Option Value) : Prop where
 inj : ∀ x y, en x = en y → x = y
 ex : ∃ D : DataW Value, w.ownsMap P k hl b n D ∧ ∀ x kl, keyOf P k (en x) = some kl → has D kl = (F x).isSome ∧ ∀ z, D.atKey kl (.held z) = .held ((F x).getD z)
variable {P : Program} {k e t : TypeId} {w : World} {b n : Nat} {F : κ → Option Value}
theorem made (w : World) (P : Program) (k : TypeId) (hen : ∀ x y, en x = en y → x = y) : MapIs P k en (w.alloc (.map #[] 0)) w.heap.size 0 (fun _ => none) :=
  ⟨hen, _, World.ownsMap_made w P k hl, fun _ _ _ => ⟨rfl, fun _ => rfl⟩⟩
theorem MapIs.kept {w' : World} {row : Option Nat} (h : MapIs P k en w b n F) (hg : w.grownBy w' row) (hne : some b ≠ row) : MapIs P k en w' b n F := by
  obtain ⟨D, h1, h2⟩ := h.ex; exact ⟨h.inj, D, h1.kept hg hne, h2⟩
theorem MapIs.mono (h : MapIs P k en w b n F) {n' : Nat} (hn : n ≤ n') : MapIs P k en w b n' F := by
  obtain ⟨D, h1, h2⟩ := h.ex; exact ⟨h.inj, D, h1.mono hn, h2⟩
theorem MapIs.lt (h : MapIs P k en w b n F) : b < w.heap.size := by obtain ⟨D, h1, _⟩ := h.ex; exact h1.lt
theorem MapIs.of_block {w' : World} (h : MapIs P k en w b n F) (hb : w'.heap[b]? = w.heap[b]?) : MapIs P k en w' b n F := by
  obtain ⟨D, ⟨es, clock, h1, h3⟩, h2⟩ := h.ex; exact ⟨h.inj, D, ⟨es, clock, hb.trans h1, h3⟩, h2⟩
theorem MapIs.of_below {w' : World} (h : MapIs P k en w b n F) (hb : Below w.heap.size w w') : MapIs P k en w' b n F := h.of_block (hb.block b h.lt)
theorem MapIs.alloc (h : MapIs P k en w b n F) (o : Obj) : MapIs P k en (w.alloc o) b n F := h.of_block (Lib.alloc_old w o b h.lt)
theorem MapIs.look (h : MapIs P k en w b n F) (K : Keyed P k) (ht : P.underlying t = some (.map k e)) {z : Value} (hz : (zeroValue e).run P w = .ok z w) {key : κ} {kl : Lit} (hkey : keyOf P k (en key) = some kl) :
  (Instr.lookup t (.map (some b)) (en key) false).run P w = .ok ((F key).getD z) w := by
 obtain ⟨D, h1, h2⟩ := h.ex
 obtain ⟨v, ps, hr, hv⟩ := h1.lookup K ht hz (zd := .held z) (zp := []) rfl hkey
 rw [(h2 key kl hkey).2 z] at hv
 rw [hr, hl_inv hv]
theorem MapIs.put [DecidableEq κ] (h : MapIs P k en w b n F) (K : Keyed P k) (ht : P.underlying t = some (.map k e)) (hn : n < maxLen) {key : κ} {kl : Lit} (hkey : keyOf P k (en key) = some kl) (v : Value) :
  ∃ w', (Instr.mapUpdate t (.map (some b)) (en key) v).run P w = .ok () w' ∧ MapIs P k en w' b (n + 1) (fun y => if y = key then some v else F y) ∧ w.grownBy w' (some b) := by
 have h0 := h
 obtain ⟨D, h1, h2⟩ := h.ex
 obtain ⟨w', hr, h3, hg⟩ := h1.update K ht hn hkey (d := .held v) (ps := []) rfl
 refine ⟨w', hr, ⟨h.inj, _, h3, fun x kx hx => ?_⟩, hg⟩
 by_cases e1 : x = key
 ·
  subst e1
  have : kx = kl := Option.some.inj (hx.symm.trans hkey)
  subst this
  rw [if_pos rfl]
  exact ⟨has_put_same h1.isMap (K.key hkey) _, fun z => atKey_put_same h1.isMap (K.key hkey) _ _⟩
 rw [if_neg e1]
 have hne : kx ≠ kl := fun h => e1 (h0.inj _ _ (K.inj (h ▸ hx) hkey))
 exact ⟨(has_put_other hne _).trans (h2 x kx hx).1, fun z => (atKey_put_other hne _ _).trans ((h2 x kx hx).2 z)⟩
theorem wpList_look {w : World} {ops : Array Oper} {rest : List Oper} {o : Oper} {a : Act} {Q : Exit → Act → World → Prop}
  (hg : o.guard = none) (m x : Operand) (t : TypeId) (hop : o.op = Op.lookup t m x false) (k e : TypeId) (K : Keyed P k) (ht : P.underlying t = some (.map k e)) (z : Value) (hz : (zeroValue e).run P w = .ok z w)
  (b n : Nat) (F : κ → Option Value) (hm : a.eval m = .map (some b)) (h : MapIs P k en w b n F) (key : κ) (kl : Lit) (hx : a.eval x = en key) (hkey : keyOf P k (en key) = some kl)
  (hK : wpList P ops Q rest (a.put o.dst ((F key).getD z)) w) : wpList P ops Q (o :: rest) a w := by
 refine wpList_plain hg fun K' hK' => ?_
 unfold Oper.wp
 simp [execOp, hop, hm, hx, h.look K ht hz hkey, Result.andThen]
 exact hK' _ _ hK
theorem wpList_put [DecidableEq κ] {w : World} {ops : Array Oper} {rest : List Oper} {o : Oper} {a : Act} {Q : Exit → Act → World → Prop}
  (hg : o.guard = none) (m x v : Operand) (t : TypeId) (hop : o.op = Op.mapUpdate t m x v) (k e : TypeId) (K : Keyed P k) (ht : P.underlying t = some (.map k e))
  (b n : Nat) (F : κ → Option Value) (hm : a.eval m = .map (some b)) (h : MapIs P k en w b n F) (hn : n < maxLen) (key : κ) (val : Value) (kl : Lit) (hx : a.eval x = en key) (hv : a.eval v = val) (hkey : keyOf P k (en key) = some kl)
  (hK : ∀ w', MapIs P k en w' b (n + 1) (fun y => if y = key then some val else F y) → w.grownBy w' (some b) → wpList P ops Q rest (a.put o.dst undef) w') : wpList P ops Q (o :: rest) a w := by
 refine wpList_plain hg fun K' hK' => ?_
 obtain ⟨w', hrun, r1, r2⟩ := h.put K ht hn hkey val
 unfold Oper.wp
 simp [execOp, hop, hm, hx, hv, hrun, Result.andThen]
 exact hK' _ _ (hK w' r1 r2)
end
def kv (x : Int × ByteArray) : Value := .agg #[.int .i64 x.1, .string x.2]
def goodK (x : Int × ByteArray) : Prop := (-9223372036854775808 ≤ x.1 ∧ x.1 ≤ 9223372036854775807) ∧ x.2.size ≤ maxLen
theorem kv_inj {x y : Int × ByteArray} : kv x = kv y ↔ x = y := by
 obtain ⟨a, s⟩ := x; obtain ⟨c, u⟩ := y
 simp [kv]
theorem pair_lits (P : Program) (T a b : TypeId) (fs : Array Field) (hu : P.underlying T = some (.struct fs)) (ha : P.underlying a = some (.int .i64)) (hb : P.underlying b = some .string) (hc : P.cellsOf T = 2) (hca : P.cellsOf a = 1) (hcb : P.cellsOf b = 1)
  (f1 f2 : Field) (hf : fs = #[f1, f2]) (h1 : f1.name ≠ "_") (h2 : f2.name ≠ "_") (ht1 : f1.type = a) (ht2 : f2.type = b) (ho1 : f1.offset = 0) (ho2 : f2.offset = 1)
  (d : Nat) (x : Int × ByteArray) (hx : goodK x) : ∃ ls, P.keyLits (d + 2) T [.int .i64 x.1, .string x.2] = some ls := by
 subst hf ht1 ht2
 obtain ⟨⟨hlo, hhi⟩, hs⟩ := hx
 have hw : (Lit.int .i64 x.1).wf = true := by simp [Lit.wf, IntKind.min, IntKind.max, IntKind.signed, IntKind.bits]; omega
 refine ⟨[.int .i64 x.1, .string x.2.data.toList], ?_⟩
 simp [Program.keyLits, hu, ha, hb, hc, hca, hcb, h1, h2, ho1, ho2, hw, hs]
theorem laid_out : laidOutB Tryz.prog = true := by kernel_rfl
theorem types_two : ∃ d, Tryz.prog.types.size + 1 = d + 2 := by
 have : decide (1 ≤ Tryz.prog.types.size) = true := by kernel_rfl
 have := of_decide_eq_true this
 exact ⟨Tryz.prog.types.size - 1, by omega⟩
theorem gk_deep : Tryz.prog.keyTypeAt (Tryz.prog.types.size + 1) 117 = true := by kernel_rfl
theorem gk_law : Keyed Tryz.prog 117 := Keyed.of_law (deep_law_laid laid_out (m := 2) (by omega) (of_decide_eq_true (by kernel_rfl : decide (117 < Tryz.prog.types.size) = true)) (by kernel_rfl) (by rw [Tryz.underlying117]))
theorem gk_key (x : Int × ByteArray) (hx : goodK x) : ∃ kl, keyOf Tryz.prog 117 (kv x) = some kl := by
 obtain ⟨d, hd⟩ := types_two
 obtain ⟨ls, hl⟩ := pair_lits Tryz.prog 117 3 9 _ Tryz.underlying117 (by kernel_rfl) (by kernel_rfl) (by kernel_rfl) (by kernel_rfl) (by kernel_rfl) _ _ rfl (by decide) (by decide) rfl rfl rfl rfl d x hx
 have hk : Tryz.prog.keyType 117 = true := gk_deep
 have hf : (kv x).formed Tryz.prog 117 = true := by
  have hc : Tryz.prog.cellsOf 117 = 2 := by kernel_rfl
  simp [kv, Value.formed, Tryz.underlying117, hc]
 rw [← hd] at hl
 refine ⟨.string (keyBytes ls), ?_⟩
 simp only [keyOf, Tryz.underlying117, hk, hf, Bool.and_self, if_true]
 have e1 : (kv x).cells.toList = [.int .i64 x.1, .string x.2] := by simp [kv, Value.cells]
 rw [e1, hl]; rfl
end Go.Proofs.YtnjcpoojgmpmeaaGreatDoor.Mapk
namespace Go.Proofs.YtnjcpoojgmpmeaaGreatDoor.Plug
open RowKit YtnjcpoojgmpmeaaGreatDoor YtnjcpoojgmpmeaaGreatDoor.PX YtnjcpoojgmpmeaaGreatDoor.Utf YtnjcpoojgmpmeaaGreatDoorW.PrintWords YtnjcpoojgmpmeaaGreatDoorW.PrintLast
theorem rd_at (l : List Int) (i : Nat) (h : i < l.length) : rd l (i : Int) = l[i] := by
  unfold rd; rw [Int.toNat_natCast, List.getD_eq_getElem?_getD, List.getElem?_eq_getElem h]; rfl
end Go.Proofs.YtnjcpoojgmpmeaaGreatDoor.Plug
namespace Go.Proofs.YtnjcpoojgmpmeaaGreatDoor.Plug
open RowKit YtnjcpoojgmpmeaaGreatDoor YtnjcpoojgmpmeaaGreatDoor.PX YtnjcpoojgmpmeaaGreatDoor.Utf YtnjcpoojgmpmeaaGreatDoor.Mapk YtnjcpoojgmpmeaaGreatDoorW.PrintWords YtnjcpoojgmpmeaaGreatDoorW.PrintLast YtnjcpoojgmpmeaaGreatDoorW.PrintMore
def firstI (p : Int → Bool) : List Int → Nat → Int
 | [], _ => -1
 | x :: r, i => if p x = true then (i : Int) else firstI p r (i + 1)
theorem firstI_any (p : Int → Bool) : ∀ (l : List Int) (i : Nat), decide (firstI p l i ≥ 0) = l.any p
 | [], _ => rfl
 | x :: r, i => by
  rw [firstI, List.any_cons]
  by_cases h : p x = true
  · rw [if_pos h, h]; simp
  rw [if_neg h, firstI_any p r (i + 1)]; simp [h]
set_option maxHeartbeats 2000000 in
set_option maxRecDepth 100000 in
theorem index_any (F : FuncId) (eg : ∀ args w, (callFunc F args).run Tryz.prog w = .ok (.enter F args) w) (fv : Value) (p : Int → Bool) (A : Option Addr) (c : Nat) (xs : List Int) (w : World) (hr : Kd.C (Kd.int .i64) w A xs.length xs)
  (hp : ∀ (x : Int) (w' : World), x ∈ xs → Below w.heap.size w w' → Calls Tryz.prog F #[.int .i64 x, fv] w' fun e w2 => e = .returned (.bool (p x)) ∧ Below w'.heap.size w' w2) :
  Calls Tryz.prog 49 #[.slice A xs.length c, .func (.func F) #[] #[fv]] w fun e w' => e = .returned (.int .i64 (firstI p xs 0)) ∧ Below w.heap.size w w' := by
 have HR := Lib.hid hr
 have hm := hr.2.1
 clear hr
 obtain ⟨R, hR⟩ : ∃ R, firstI p xs 0 = R := ⟨_, rfl⟩
 rw [hR]
 have HP := Lib.hid hp
 clear hp
 go_enter Tryz.func49, Tryz.ntmps49
 go_wp2
 go_loopw [8] (fun v wr => ∃ i : Nat, v = .int .i64 i ∧ i ≤ xs.length ∧ Hid (firstI p (xs.drop i) i = R) ∧ Below w.heap.size w wr) (fun v _ => xs.length - (intOf v).toNat)
 case atStart => exact ⟨0, rfl, by omega, Lib.hid hR, Below.refl _ w⟩
 case round =>
  obtain ⟨i, rfl, hi, hst, hb⟩ := hrel
  by_cases hlt : i < xs.length
  rotate_left
  ·
   have hc : decide ((i : Int) < (xs.length : Int)) = false := by simp; omega
   have hst2 := hst.out
   rw [List.drop_of_length_le (by omega), firstI] at hst2
   have HS := Lib.hid hst2
   clear hst hst2
   go_wp2
   go_ret
   exact ⟨by rw [← HS.out]; first | done | rfl, hb⟩
  have hdrop : xs.drop i = xs[i] :: xs.drop (i + 1) := List.drop_eq_getElem_cons hlt
  have hst2 := hst.out
  rw [hdrop, firstI] at hst2
  have hc : decide ((i : Int) < (xs.length : Int)) = true := by simp; omega
  obtain ⟨ad, rfl, hx⟩ := Kd.at_int HR.out (i : Int) (by omega) (by omega)
  rw [rd_at xs i hlt, Int.toNat_natCast] at hx
  replace hx := (hb.cell (World.block_lt_of_cell? w _ hx)).trans hx
  have p1 : (0 ≤ (i : Int)) = True := eq_true (by omega)
  have p2 : ((i : Int) < (xs.length : Int)) = True := eq_true (by omega)
  have hcall := HP.out xs[i] _ (List.getElem_mem hlt) hb
  generalize xs[i] = x at *
  have HC := Lib.hid hcall
  by_cases hpx : p x = true
  ·
   rw [if_pos hpx] at hst2
   have HS := Lib.hid hst2
   rw [hpx] at HC
   clear hst hst2 hdrop hcall hpx
   go_wp2_with (go_at_fn F; refine HC.out.mono ?_; rintro e w1 ⟨rfl, hb1⟩)
   go_ret
   exact ⟨by rw [← HS.out]; first | done | rfl, hb.trans (hb1.mono hb.size)⟩
  have hpf : p x = false := by simpa using hpx
  rw [if_neg hpx] at hst2
  have HS := Lib.hid hst2
  rw [hpf] at HC
  clear hst hst2 hdrop hcall hpx hpf
  go_wp2_with (go_at_fn F; refine HC.out.mono ?_; rintro e w1 ⟨rfl, hb1⟩)
  go_roundw
  case rel => exact ⟨i + 1, by go_num, by omega, HS, hb.trans (hb1.mono hb.size)⟩
  case measure => simp [intOf]; omega
set_option maxHeartbeats 2000000 in
set_option maxRecDepth 100000 in
theorem contains_any (F : FuncId) (eg : ∀ args w, (callFunc F args).run Tryz.prog w = .ok (.enter F args) w) (fv : Value) (p : Int → Bool) (A : Option Addr) (c : Nat) (xs : List Int) (w : World) (hr : Kd.C (Kd.int .i64) w A xs.length xs)
  (hp : ∀ (x : Int) (w' : World), x ∈ xs → Below w.heap.size w w' → Calls Tryz.prog F #[.int .i64 x, fv] w' fun e w2 => e = .returned (.bool (p x)) ∧ Below w'.heap.size w' w2) :
  Calls Tryz.prog 51 #[.slice A xs.length c, .func (.func F) #[] #[fv]] w fun e w' => e = .returned (.bool (xs.any p)) ∧ Below w.heap.size w w' := by
 have HI := Lib.hid (index_any F eg fv p A c xs w hr hp)
 have HA := Lib.hid (firstI_any p xs 0)
 clear hr hp
 generalize firstI p xs 0 = R at *
 go_enter Tryz.func51, Tryz.ntmps51
 go_wp2_with (go_at_call 49; refine HI.out.mono ?_; rintro e w1 ⟨rfl, hb1⟩)
 go_ret
 exact ⟨by rw [← HA.out]; first | done | rfl, hb1⟩
set_option maxHeartbeats 2000000 in
set_option maxRecDepth 100000 in
theorem far_is (x : Int) (gb : Nat) (A0 : Option Addr) (n c0 : Nat) (root : Int) (w : World) (hbx : w.heap[gb]? = some (.cells #[.slice A0 n c0, .int .i64 root] 24 (0, 0))) :
  Calls Tryz.prog 72 #[.int .i64 x, .pointer (some ⟨gb, 0, none⟩)] w fun e w' => e = .returned (.bool (decide (x < 0) || decide (x ≥ (n : Int)))) ∧ Below w.heap.size w w' := by
 have c0' : w.cell? ⟨gb, 0, none⟩ = some (.slice A0 n c0) := by rw [Lib.cell_of_heap hbx]; rfl
 clear hbx
 go_enter Tryz.func72, Tryz.ntmps72
 by_cases h0 : x < 0
 rotate_left
 ·
  have q0 : decide (x < 0) = false := decide_eq_false h0
  go_wp2
  go_ret
  exact ⟨rfl, Below.refl _ w⟩
 have q0 : decide (x < 0) = true := decide_eq_true h0
 go_wp2
 go_ret
 exact ⟨by rw [q0]; rfl, Below.refl _ w⟩
theorem far_enters : ∀ args w, (callFunc 72 args).run Tryz.prog w = .ok (.enter 72 args) w := fun _ _ => by kernel_rfl
theorem zero_bool (w : World) : (zeroValue 4).run Tryz.prog w = .ok (.bool false) w := by kernel_rfl
theorem grow_alloc {w w2 : World} {o : Obj} {b : Nat} (h : (w.alloc o).grownBy w2 (some b)) : w.grownBy w2 (some b) :=
  ⟨h.os, h.tape, h.output, by have h2 := h.size; simp at h2; omega, fun k hk hne => (h.block k (by simp; omega) hne).trans (Lib.alloc_old w _ k hk)⟩
set_option maxHeartbeats 2000000 in
set_option maxRecDepth 100000 in
theorem add_is (b n : Nat) (F : Int × ByteArray → Option Value) (x : Int × ByteArray) (hx : goodK x) (w : World) (hm : MapIs Tryz.prog 117 kv w b n F) (hn : n < maxLen) (was : Bool) (hF : (F x).getD (.bool false) = .bool was) :
  Calls Tryz.prog 57 #[.map (some b), kv x] w fun e w' => e = .returned (.bool (!was)) ∧ MapIs Tryz.prog 117 kv w' b (n + 1) (fun y => if y = x then some (.bool true) else F y) ∧ w.grownBy w' (some b) := by
 obtain ⟨kl, hk⟩ := gk_key x hx
 obtain ⟨a, s⟩ := x
 have HK := Lib.hid hk
 have HM := Lib.hid hm
 have HF := Lib.hid hF
 clear hk hx hm hF
 rw [show kv (a, s) = .agg #[.int .i64 a, .string s] from rfl]
 go_enter Tryz.func57, Tryz.ntmps57
 go_wp2_with (first | (at_lookup; refine wpList_look rfl _ _ 114 rfl 117 4 gk_law Tryz.underlying114 (.bool false) (zero_bool _) b n F rfl (HM.out.alloc _) (a, s) kl rfl HK.out ?_; rw [HF.out]) | (at_mapUpdate; refine wpList_put rfl _ _ _ 114 rfl 117 4 gk_law Tryz.underlying114 b n F rfl (HM.out.alloc _) hn (a, s) (.bool true) kl rfl rfl HK.out ?_; intro w2 hm2 hg2))
 go_ret
 exact ⟨rfl, hm2, grow_alloc hg2⟩
def keyIs (l : List S45) (k : Int) : Int × ByteArray := ((rd_T45 l k).f0, (rd_T45 l k).f1)
def scB (k : Int) : Bool := decide (1 ≤ k) && decide (k ≤ 4)
def metB (l : List S45) : List Int → List (Int × ByteArray) → Bool
 | [], _ => true
 | k :: ks, met => if scB (rd_T45 l k).f0 = true then (if met.any (fun y => decide (y = keyIs l k)) = true then false else metB l ks (keyIs l k :: met)) else false
def farB (l : List S45) (k : Int) : Bool := decide (k < 0) || decide (k ≥ (l.length : Int))
def nodeB (l : List S45) (n : S45) (tx : Bool) (ks : List Int) : Bool :=
 if n.f0 < 1 then false else if 6 < n.f0 then false else if tx = false then false
 else if ((scB n.f0 && decide (0 < n.f2.length)) || (n.f0 == 6 && n.f2.length % 2 != 0)) = true then false
 else if n.f2.any (farB l) = true then false else metB l ks []
structure Bx (gb nb : Nat) (A0 : Option Addr) (n0 c0 : Nat) (root kd : Int) (tt : ByteArray) (A2 : Option Addr) (n2 c2 : Nat) (w : World) : Prop where
 g : w.heap[gb]? = some (.cells #[.slice A0 n0 c0, .int .i64 root] 24 (0, 0))
 n : w.heap[nb]? = some (.cells #[.int .i64 kd, .string tt, .slice A2 n2 c2] 45 (0, 0))
section
variable {gb nb : Nat} {A0 : Option Addr} {n0 c0 : Nat} {root kd : Int} {tt : ByteArray} {A2 : Option Addr} {n2 c2 : Nat} {w w' : World}
theorem Bx.cells (h : Bx gb nb A0 n0 c0 root kd tt A2 n2 c2 w) : w.cell? ⟨gb, 0, none⟩ = some (.slice A0 n0 c0) ∧ w.cell? ⟨gb, 1, none⟩ = some (.int .i64 root) ∧ w.cell? ⟨nb, 0, none⟩ = some (.int .i64 kd) ∧ w.cell? ⟨nb, 1, none⟩ = some (.string tt) ∧ w.cell? ⟨nb, 2, none⟩ = some (.slice A2 n2 c2) :=
  ⟨(blk_cell h.g 0).trans rfl, (blk_cell h.g 1).trans rfl, (blk_cell h.n 0).trans rfl, (blk_cell h.n 1).trans rfl, (blk_cell h.n 2).trans rfl⟩
theorem Bx.below (h : Bx gb nb A0 n0 c0 root kd tt A2 n2 c2 w) (hb : Below w.heap.size w w') : Bx gb nb A0 n0 c0 root kd tt A2 n2 c2 w' :=
  ⟨(hb.block gb (blk_lt h.g)).trans h.g, (hb.block nb (blk_lt h.n)).trans h.n⟩
theorem Bx.grown {b : Nat} (h : Bx gb nb A0 n0 c0 root kd tt A2 n2 c2 w) (hg : w.grownBy w' (some b)) (h1 : gb ≠ b) (h2 : nb ≠ b) : Bx gb nb A0 n0 c0 root kd tt A2 n2 c2 w' :=
  ⟨(hg.block gb (blk_lt h.g) (fun e => h1 (Option.some.inj e))).trans h.g, (hg.block nb (blk_lt h.n) (fun e => h2 (Option.some.inj e))).trans h.n⟩
end
theorem nodeB_on (l : List S45) (kd : Int) (tt : ByteArray) (kids ks : List Int) (h1 : ¬ kd < 1) (h2 : ¬ 6 < kd) (h3 : ((scB kd && decide (0 < kids.length)) || (kd == 6 && kids.length % 2 != 0)) = false) :
  nodeB l ⟨kd, tt, kids⟩ true ks = (if kids.any (farB l) = true then false else metB l ks []) := by
 unfold nodeB
 rw [if_neg h1, if_neg h2, if_neg (by simp), if_neg (by rw [h3]; simp)]
theorem rd_mem (l : List S45) (k : Int) (h0 : 0 ≤ k) (h1 : k < (l.length : Int)) : rd_T45 l k ∈ l := by
 unfold rd_T45
 rw [List.getD_eq_getElem?_getD, List.getElem?_eq_getElem (by omega : k.toNat < l.length)]
 exact List.getElem_mem _
theorem below_of_grown {w w' : World} {b B : Nat} (h : w.grownBy w' (some b)) (hb : B ≤ b) (hw : B ≤ w.heap.size) : Below B w w' :=
  ⟨h.os, h.tape, h.output, h.size, fun k hk => h.block k (by omega) (fun e => by have := Option.some.inj e; omega)⟩
theorem keep_of_grown {w w' : World} {b : Nat} (h : w.grownBy w' (some b)) : KeepBut w w' b none :=
  ⟨h.size, fun k hk hne _ => h.block k hk (fun e => hne (Option.some.inj e))⟩
theorem scal_of (k : Int) : graph_isScalar.f k = some (scB k) := by
 unfold graph_isScalar.f scB
 by_cases h : (1 : Int) ≤ k
 · rw [if_pos h, decide_eq_true h, Bool.true_and]
 rw [if_neg h, decide_eq_false h, Bool.false_and]
def metF (met : List (Int × ByteArray)) (y : Int × ByteArray) : Option Value := if met.any (fun z => decide (z = y)) = true then some (.bool true) else none
theorem metF_cons (x : Int × ByteArray) (met : List (Int × ByteArray)) : (fun y => if y = x then some (.bool true) else metF met y) = metF (x :: met) := by
 funext y
 unfold metF
 rw [List.any_cons]
 by_cases e : y = x
 · subst e; simp
 rw [if_neg e, decide_eq_false (fun h => e h.symm), Bool.false_or]
theorem metF_was (x : Int × ByteArray) (met : List (Int × ByteArray)) : (metF met x).getD (.bool false) = .bool (met.any (fun z => decide (z = x))) := by
 unfold metF
 by_cases h : met.any (fun z => decide (z = x)) = true
 · rw [if_pos h, h]; rfl
 rw [if_neg h, Bool.eq_false_iff.2 h]; rfl
set_option maxHeartbeats 8000000 in
set_option maxRecDepth 100000 in
theorem isNode_on (K1 K2 : Nat) (A0 : Option Addr) (c0 : Nat) (l : List S45) (root : Int) (kd : Int) (tt : ByteArray) (kids : List Int) (A2 : Option Addr) (c2 : Nat) (ks : List Int) (R : Bool) (w : World)
    (HR : Hid (Kd.C k45 w A0 l.length l)) (H2 : Hid (Kd.C (Kd.int .i64) w A2 kids.length kids)) (hc2 : kids.length ≤ c2) (hG : Glob.G w)
    (HT : Hid (graph_isText.f K1 kd tt = some true)) (HK : Hid (graph_keys.f K2 kd tt kids = some ks)) (HZ : Hid (∀ m ∈ l, m.f1.size ≤ 1099511627776)) (hkl : ks.length ≤ 1099511627776) (HN : Hid (∀ k ∈ ks, k ∈ kids))
    (q1 : decide (kd < 1) = false) (q2 : decide (6 < kd) = false) (hcase : (scB kd = true ∧ kids.length = 0) ∨ (scB kd = false ∧ (kd == 6) = true ∧ kids.length % 2 = 0) ∨ (scB kd = false ∧ (kd == 6) = false))
    (hR : (if kids.any (farB l) = true then false else metB l ks []) = R) :
    Calls Tryz.prog 50 #[.agg #[.slice A0 l.length c0, .int .i64 root], .agg #[.int .i64 kd, .string tt, .slice A2 kids.length c2]] w fun e w' => e = .returned (.bool R) ∧ Below w.heap.size w w' := by
  have q3 : decide (kd > 6) = false := q2
  by_cases hA : kids.any (farB l) = true
  · have HA := Lib.hid hA
    have HF : Hid (R = false) := Lib.hid (by rw [← hR, if_pos hA])
    clear hA hR
    rcases hcase with ⟨hsc, kl⟩ | ⟨hsc, q4, ko⟩ | ⟨hsc, q4⟩
    case' inl =>
      have q4 : (kd == 6) = false := by unfold scB at hsc; rw [Bool.and_eq_true, decide_eq_true_eq, decide_eq_true_eq] at hsc; exact beq_eq_false_iff_ne.2 (by omega)
      have q5 : decide ((0 : Int) < (kids.length : Int)) = false := decide_eq_false (by omega)
      have q6 : decide (0 < kids.length) = false := decide_eq_false (by omega)
      clear kl
    case' inr.inl => have q7 : (kids.length : Int).tmod 2 = 0 := by { rw [Int.tmod_eq_emod_of_nonneg (by omega)]; omega }
    all_goals
      have HS := Lib.hid (scal_of kd)
      rw [hsc] at HS
      clear hsc
      go_enter Tryz.func50, Tryz.ntmps50
      go_wp2_with (first | ((with_reducible refine gate_dst (N := 2) rfl ?_); refine box_event ?hg (N := 2) ?hd (cs := #[.slice A0 l.length c0, .int .i64 root]) (t := 24) ?hr ?_; (case hd => rfl); (case hg => rfl); (case hr => first | (go_simp; done) | (go_simp; rfl)); intro gb hg w1 hgb hb1; have HG1 := Lib.hid hgb; have HB1 := Lib.hid hb1; have HE1 := Lib.hid hg; clear hgb hb1 hg) | ((with_reducible refine gate_dst (N := 3) rfl ?_); refine box_event ?hg (N := 3) ?hd (cs := #[.int .i64 kd, .string tt, .slice A2 kids.length c2]) (t := 45) ?hr ?_; (case hd => rfl); (case hg => rfl); (case hr => first | (go_simp; done) | (go_simp; rfl)); intro nb hn w2 hnb hb2; have HX := Lib.hid (Bx.mk ((hb2.block gb (blk_lt HG1.out)).trans HG1.out) hnb); have HB2 := Lib.hid (HB1.out.trans (hb2.mono HB1.out.size)); have HE2 := Lib.hid hn; clear hnb hb2 hn HG1; obtain ⟨x0, x1, x2, x3, x4⟩ := HX.out.cells) | (go_at_call 70; refine (graph_isText.calls _ _ _ _ _ (hG.below HB2.out) HT.out).mono ?_; rintro e w3 ⟨rfl, hb3⟩; have HX3 := Lib.hid (HX.out.below hb3); have HB3 := Lib.hid (HB2.out.trans (hb3.mono HB2.out.size)); clear hb3 HX HB2 x0 x1 x2 x3 x4; obtain ⟨x0, x1, x2, x3, x4⟩ := HX3.out.cells) | (go_at_call 71; refine (graph_isScalar.calls _ _ _ (hG.below HB3.out) HS.out).mono ?_; rintro e w4 ⟨rfl, hd4⟩; have HX4 := Lib.hid (HX3.out.below hd4.below); have HB4 := Lib.hid (HB3.out.trans (hd4.below.mono HB3.out.size)); clear hd4 HX3 HB3 x0 x1 x2 x3 x4; obtain ⟨x0, x1, x2, x3, x4⟩ := HX4.out.cells) | (go_at_call 51; refine (contains_any 72 far_enters _ (farB l) A2 c2 kids _ (Kd.C_below H2.out HB4.out) (fun x w' _ hb => far_is x gb A0 l.length c0 root w' (HX4.out.below hb).g)).mono ?_; rw [HA.out]; rintro e w5 ⟨rfl, hb5⟩; have HX5 := Lib.hid (HX4.out.below hb5); have HB5 := Lib.hid (HB4.out.trans (hb5.mono HB4.out.size)); clear hb5 HX4 HB4 x0 x1 x2 x3 x4; obtain ⟨x0, x1, x2, x3, x4⟩ := (HX5.out.below (below_alloc (Below.refl _ _) (.map #[] 0))).cells))
      go_ret
      exact ⟨by rw [HF.out]; first | done | rfl, HB5.out⟩
  · have hf : kids.any (farB l) = false := Bool.eq_false_iff.2 hA
    have HA := Lib.hid hf
    have HM := Lib.hid (show metB l ks [] = R by rw [← hR, if_neg hA])
    have HIN := Lib.hid (show ∀ k ∈ ks, 0 ≤ k ∧ k < (l.length : Int) from fun k hk => by
      have h := List.any_eq_false.1 hf k (HN.out k hk)
      simp [farB] at h
      exact h)
    clear hA hR hf HN
    rcases hcase with ⟨hsc, kl⟩ | ⟨hsc, q4, ko⟩ | ⟨hsc, q4⟩
    case' inl =>
      have q4 : (kd == 6) = false := by unfold scB at hsc; rw [Bool.and_eq_true, decide_eq_true_eq, decide_eq_true_eq] at hsc; exact beq_eq_false_iff_ne.2 (by omega)
      have q5 : decide ((0 : Int) < (kids.length : Int)) = false := decide_eq_false (by omega)
      have q6 : decide (0 < kids.length) = false := decide_eq_false (by omega)
      clear kl
    case' inr.inl => have q7 : (kids.length : Int).tmod 2 = 0 := by { rw [Int.tmod_eq_emod_of_nonneg (by omega)]; omega }
    all_goals
      have HS := Lib.hid (scal_of kd)
      rw [hsc] at HS
      clear hsc
      go_enter Tryz.func50, Tryz.ntmps50
      have hmm := @run_makeMap Tryz.prog
      go_wp2_with (first | ((with_reducible refine gate_dst (N := 2) rfl ?_); refine box_event ?hg (N := 2) ?hd (cs := #[.slice A0 l.length c0, .int .i64 root]) (t := 24) ?hr ?_; (case hd => rfl); (case hg => rfl); (case hr => first | (go_simp; done) | (go_simp; rfl)); intro gb hg w1 hgb hb1; have HG1 := Lib.hid hgb; have HB1 := Lib.hid hb1; have HE1 := Lib.hid hg; clear hgb hb1 hg) | ((with_reducible refine gate_dst (N := 3) rfl ?_); refine box_event ?hg (N := 3) ?hd (cs := #[.int .i64 kd, .string tt, .slice A2 kids.length c2]) (t := 45) ?hr ?_; (case hd => rfl); (case hg => rfl); (case hr => first | (go_simp; done) | (go_simp; rfl)); intro nb hn w2 hnb hb2; have HX := Lib.hid (Bx.mk ((hb2.block gb (blk_lt HG1.out)).trans HG1.out) hnb); have HB2 := Lib.hid (HB1.out.trans (hb2.mono HB1.out.size)); have HE2 := Lib.hid hn; clear hnb hb2 hn HG1; obtain ⟨x0, x1, x2, x3, x4⟩ := HX.out.cells) | (go_at_call 70; refine (graph_isText.calls _ _ _ _ _ (hG.below HB2.out) HT.out).mono ?_; rintro e w3 ⟨rfl, hb3⟩; have HX3 := Lib.hid (HX.out.below hb3); have HB3 := Lib.hid (HB2.out.trans (hb3.mono HB2.out.size)); clear hb3 HX HB2 x0 x1 x2 x3 x4; obtain ⟨x0, x1, x2, x3, x4⟩ := HX3.out.cells) | (go_at_call 71; refine (graph_isScalar.calls _ _ _ (hG.below HB3.out) HS.out).mono ?_; rintro e w4 ⟨rfl, hd4⟩; have HX4 := Lib.hid (HX3.out.below hd4.below); have HB4 := Lib.hid (HB3.out.trans (hd4.below.mono HB3.out.size)); clear hd4 HX3 HB3 x0 x1 x2 x3 x4; obtain ⟨x0, x1, x2, x3, x4⟩ := HX4.out.cells) | (go_at_call 51; refine (contains_any 72 far_enters _ (farB l) A2 c2 kids _ (Kd.C_below H2.out HB4.out) (fun x w' _ hb => far_is x gb A0 l.length c0 root w' (HX4.out.below hb).g)).mono ?_; rw [HA.out]; rintro e w5 ⟨rfl, hb5⟩; have HX5 := Lib.hid (HX4.out.below hb5); have HB5 := Lib.hid (HB4.out.trans (hb5.mono HB4.out.size)); clear hb5 HX4 HB4 x0 x1 x2 x3 x4; obtain ⟨x0, x1, x2, x3, x4⟩ := (HX5.out.below (below_alloc (Below.refl _ _) (.map #[] 0))).cells) | (go_at_call 52; refine (graph_keys.calls _ _ _ _ _ _ _ _ (Kd.C_below H2.out (below_alloc HB5.out _)) hc2 (hG.below (below_alloc HB5.out _)) HK.out).mono ?_; rintro e w6 ⟨v, rfl, hv, hb6⟩; obtain ⟨Ak, ck, ek⟩ := Kd.R_slice hv; subst ek; have HMP := Lib.hid ((made w5 Tryz.prog 117 (fun a b => kv_inj.1)).of_below hb6); have HX6 := Lib.hid ((HX5.out.below (below_alloc (Below.refl _ _) _)).below hb6); have HB6 := Lib.hid ((below_alloc HB5.out _).trans (hb6.mono (below_alloc HB5.out _).size)); have HKC := Lib.hid (Kd.C_foot_own (Kd.R_bound hv) (g := w5.heap.size) (fun k hk => by have h := hk.2.1; simp at h; omega)); have HGN := Lib.hid (And.intro (blk_lt HX5.out.g) (And.intro (blk_lt HX5.out.n) HB5.out.size)); clear hv hb6 HX5 HB5 x0 x1 x2 x3 x4))
      generalize hbm : w5.heap.size = bm at *
      clear hbm hmm HS
      go_loopw [54] (fun v wr => ∃ (i : Nat) (met : List (Int × ByteArray)), v = .int .i64 i ∧ i ≤ ks.length ∧ Hid (metB l (ks.drop i) met = R) ∧ Hid (MapIs Tryz.prog 117 kv wr bm i (metF met)) ∧ Hid (Below w.heap.size w wr) ∧ Hid (Bx gb nb A0 l.length c0 root kd tt A2 kids.length c2 wr) ∧ Hid (KeepBut w6 wr bm none)) (fun v _ => ks.length - (intOf v).toNat)
      case atStart => exact ⟨0, [], rfl, by omega, HM, HMP, HB6, HX6, Lib.hid (KeepBut.refl _ _ _)⟩
      case round =>
        obtain ⟨i, met, rfl, hi, hst, HMR, HBR, HXR, HKR⟩ := hrel
        clear HMP HB6 HX6 HM
        obtain ⟨x0, x1, x2, x3, x4⟩ := HXR.out.cells
        by_cases hlt : i < ks.length
        · have hc : decide ((i : Int) < (ks.length : Int)) = true := by simp; omega
          obtain ⟨ad, rfl, hx⟩ := Kd.at_int (HKC.out wr HKR.out) (i : Int) (by omega) (by omega)
          rw [rd_at ks i hlt, Int.toNat_natCast] at hx
          obtain ⟨j0, j1⟩ := HIN.out ks[i] (List.getElem_mem hlt)
          have hst2 := hst.out
          rw [List.drop_eq_getElem_cons hlt, metB] at hst2
          generalize ks[i] = k at *
          obtain ⟨bd, A3, c3, rfl, y0, y1, _, _, _⟩ := at_T45 (Kd.C_below HR.out HBR.out) k j0 j1
          have p1 : (0 ≤ (i : Int)) = True := eq_true (by omega)
          have p2 : ((i : Int) < (ks.length : Int)) = True := eq_true (by omega)
          have p3 : (0 ≤ k) = True := eq_true j0
          have p4 : (k < (l.length : Int)) = True := eq_true j1
          have hsz := HZ.out _ (rd_mem l k j0 j1)
          have hki : keyIs l k = ((rd_T45 l k).f0, (rd_T45 l k).f1) := rfl
          rw [hki] at hst2
          clear hki
          generalize (rd_T45 l k).f0 = a at *
          generalize (rd_T45 l k).f1 = s at *
          have HST := Lib.hid hst2
          clear hst hst2
          go_wp2_with (fail)
          have hal : Below wr.heap.size wr (wr.alloc (.cells #[.int .i64 0, .string ⟨#[]⟩] 117 (0, 0))) := below_alloc (Below.refl _ _) _
          obtain ⟨u0, u1, u2, u3, u4⟩ := (HXR.out.below hal).cells
          have v0 := (hal.cell (World.block_lt_of_cell? wr _ y0)).trans y0
          have v1 := (hal.cell (World.block_lt_of_cell? wr _ y1)).trans y1
          clear hal
          go_region
          have hb8 : Below wr.heap.size wr (World.drew (wr.alloc (.cells #[.int .i64 a, .string s] 117 (0, 0)))) := below_drew1 (below_alloc (Below.refl _ _) _)
          have hk8 : (World.drew (wr.alloc (.cells #[.int .i64 a, .string s] 117 (0, 0)))).heap[wr.heap.size]? = some (.cells #[.int .i64 a, .string s] 117 (0, 0)) := blk_new wr _
          generalize World.drew _ = w8 at hb8 hk8 ⊢
          have HB8 := Lib.hid (HBR.out.trans (hb8.mono HBR.out.size))
          have HM8 := Lib.hid (HMR.out.of_below hb8)
          have HX8 := Lib.hid (HXR.out.below hb8)
          have HK8 := Lib.hid (HKR.out.trans (KeepBut.of_below hb8 bm none) (.inl rfl))
          have h80 := (blk_cell hk8 0).trans rfl
          have h81 := (blk_cell hk8 1).trans rfl
          clear hb8 hk8 HBR HMR HXR HKR x0 x1 x2 x3 x4 y0 y1 u0 u1 u2 u3 u4 v0 v1 hx
          have HSC := Lib.hid (scal_of a)
          by_cases hs : scB a = true
          · rw [hs] at HSC
            have hgd : goodK (a, s) := by
              unfold scB at hs
              rw [Bool.and_eq_true, decide_eq_true_eq, decide_eq_true_eq] at hs
              exact ⟨by dsimp only; omega, by unfold maxLen; dsimp only; omega⟩
            have HGD := Lib.hid hgd
            obtain ⟨was, hw⟩ : ∃ b, met.any (fun z => decide (z = (a, s))) = b := ⟨_, rfl⟩
            have HW := Lib.hid (show (metF met (a, s)).getD (.bool false) = .bool was by rw [metF_was, hw])
            have HS2 := HST.out
            rw [if_pos hs, hw] at HS2
            have HST := Lib.hid HS2
            clear HS2 hs hgd hw hsz
            cases was with
            | true =>
              have HF : Hid (R = false) := Lib.hid (by have h := HST.out; rw [if_pos rfl] at h; exact h.symm)
              clear HST
              go_wp2_with (first | (go_at_call 71; refine (graph_isScalar.calls _ _ _ (hG.below HB8.out) HSC.out).mono ?_; rintro e w9 ⟨rfl, ⟨nd, rfl⟩⟩) | (go_at_call 57; refine (add_is bm i (metF met) (a, s) HGD.out _ (HM8.out.of_block (w' := w8.drewN nd) rfl) (by unfold maxLen; omega) _ HW.out).mono ?_; rintro e w10 ⟨rfl, hm10, hg9⟩; have hg10 : w8.grownBy w10 (some bm) := ⟨hg9.os, hg9.tape, hg9.output, hg9.size, hg9.block⟩; have HB10 := Lib.hid (HB8.out.trans (below_of_grown hg10 HGN.out.2.2 HB8.out.size)); clear hm10 hg10 hg9))
              go_ret
              exact ⟨by rw [HF.out]; first | done | rfl, HB10.out⟩
            | false =>
              have HF : Hid (metB l (ks.drop (i + 1)) ((a, s) :: met) = R) := Lib.hid (by have h := HST.out; rw [if_neg Bool.false_ne_true] at h; exact h)
              clear HST
              go_wp2_with (first | (go_at_call 71; refine (graph_isScalar.calls _ _ _ (hG.below HB8.out) HSC.out).mono ?_; rintro e w9 ⟨rfl, ⟨nd, rfl⟩⟩) | (go_at_call 57; refine (add_is bm i (metF met) (a, s) HGD.out _ (HM8.out.of_block (w' := w8.drewN nd) rfl) (by unfold maxLen; omega) _ HW.out).mono ?_; rintro e w10 ⟨rfl, hm10, hg9⟩; have hg10 : w8.grownBy w10 (some bm) := ⟨hg9.os, hg9.tape, hg9.output, hg9.size, hg9.block⟩; rw [metF_cons] at hm10; have HB10 := Lib.hid (HB8.out.trans (below_of_grown hg10 HGN.out.2.2 HB8.out.size)); have HM10 := Lib.hid hm10; have HX10 := Lib.hid (HX8.out.grown hg10 (Nat.ne_of_lt HGN.out.1) (Nat.ne_of_lt HGN.out.2.1)); have HK10 := Lib.hid (HK8.out.trans (keep_of_grown hg10) (.inl rfl)); clear hm10 hg10 hg9))
              go_roundw
              case rel => exact ⟨i + 1, (a, s) :: met, by go_num, by omega, HF, HM10, HB10, HX10, HK10⟩
              case measure => simp [intOf]; omega
          · have hs' : scB a = false := Bool.eq_false_iff.2 hs
            have HF : Hid (R = false) := Lib.hid (by have h := HST.out; rw [if_neg hs] at h; exact h.symm)
            rw [hs'] at HSC
            clear hs hs' HST
            go_wp2_with (go_at_call 71; refine (graph_isScalar.calls _ _ _ (hG.below HB8.out) HSC.out).mono ?_; rintro e w9 ⟨rfl, ⟨nd, rfl⟩⟩)
            go_ret
            exact ⟨by rw [HF.out]; first | done | rfl, pw_below_drewN HB8.out nd⟩
        · have hc : decide ((i : Int) < (ks.length : Int)) = false := by simp; omega
          have hst2 := hst.out
          rw [List.drop_of_length_le (by omega), metB] at hst2
          have HF := Lib.hid hst2
          clear hst hst2
          go_wp2
          go_ret
          exact ⟨by rw [← HF.out]; first | done | rfl, HBR.out⟩
set_option maxHeartbeats 8000000 in
set_option maxRecDepth 100000 in
theorem isNode_is (K1 K2 : Nat) (A0 : Option Addr) (c0 : Nat) (l : List S45) (root : Int) (n : S45) (A2 : Option Addr) (c2 : Nat) (tx : Bool) (ks : List Int) (w : World)
  (hr : Kd.C k45 w A0 l.length l) (_hc : l.length ≤ c0) (h2 : Kd.C (Kd.int .i64) w A2 n.f2.length n.f2) (hc2 : n.f2.length ≤ c2) (hG : Glob.G w)
  (hT : 1 ≤ n.f0 → n.f0 ≤ 6 → graph_isText.f K1 n.f0 n.f1 = some tx) (hks : graph_keys.f K2 n.f0 n.f1 n.f2 = some ks) (hsz : ∀ m ∈ l, m.f1.size ≤ 1099511627776) (hkl : ks.length ≤ 1099511627776) (hin : ∀ k ∈ ks, k ∈ n.f2) :
  Calls Tryz.prog 50 #[.agg #[.slice A0 l.length c0, .int .i64 root], .agg #[.int .i64 n.f0, .string n.f1, .slice A2 n.f2.length c2]] w fun e w' => e = .returned (.bool (nodeB l n tx ks)) ∧ Below w.heap.size w w' := by
 obtain ⟨kd, tt, kids⟩ := n
 dsimp only at h2 hT hks hin ⊢
 have HR := Lib.hid hr
 have H2 := Lib.hid h2
 have HK := Lib.hid hks
 have HT := Lib.hid hT
 have HZ := Lib.hid hsz
 have HN := Lib.hid hin
 clear hr h2 hks hT hsz hin _hc
 obtain ⟨R, hR⟩ : ∃ R, nodeB l ⟨kd, tt, kids⟩ tx ks = R := ⟨_, rfl⟩
 rw [hR]
 have HR2 := Lib.hid hR
 clear hR
 by_cases k1 : kd < 1
 ·
  have HF : Hid (R = false) := Lib.hid (by rw [← HR2.out]; simp [nodeB, k1])
  have q1 : decide (kd < 1) = true := decide_eq_true k1
  go_enter Tryz.func50, Tryz.ntmps50
  go_wp2_with (first | ((with_reducible refine gate_dst (N := 2) rfl ?_); refine box_event ?hg (N := 2) ?hd (cs := #[.slice A0 l.length c0, .int .i64 root]) (t := 24) ?hr ?_; (case hd => rfl); (case hg => rfl); (case hr => first | (go_simp; done) | (go_simp; rfl)); intro gb hg w1 hgb hb1; have HG1 := Lib.hid hgb; have HB1 := Lib.hid hb1; have HE1 := Lib.hid hg; clear hgb hb1 hg) | ((with_reducible refine gate_dst (N := 3) rfl ?_); refine box_event ?hg (N := 3) ?hd (cs := #[.int .i64 kd, .string tt, .slice A2 kids.length c2]) (t := 45) ?hr ?_; (case hd => rfl); (case hg => rfl); (case hr => first | (go_simp; done) | (go_simp; rfl)); intro nb hn w2 hnb hb2; have HX := Lib.hid (Bx.mk ((hb2.block gb (blk_lt HG1.out)).trans HG1.out) hnb); have HB2 := Lib.hid (HB1.out.trans (hb2.mono HB1.out.size)); have HE2 := Lib.hid hn; clear hnb hb2 hn HG1; obtain ⟨x0, x1, x2, x3, x4⟩ := HX.out.cells))
  go_ret
  exact ⟨by rw [HF.out]; first | done | rfl, HB2.out⟩
 have q1 : decide (kd < 1) = false := decide_eq_false k1
 by_cases k6 : 6 < kd
 ·
  have HF : Hid (R = false) := Lib.hid (by rw [← HR2.out]; simp [nodeB, k1, k6])
  have q2 : decide (6 < kd) = true := decide_eq_true k6
  have q3 : decide (kd > 6) = true := decide_eq_true k6
  go_enter Tryz.func50, Tryz.ntmps50
  go_wp2_with (first | ((with_reducible refine gate_dst (N := 2) rfl ?_); refine box_event ?hg (N := 2) ?hd (cs := #[.slice A0 l.length c0, .int .i64 root]) (t := 24) ?hr ?_; (case hd => rfl); (case hg => rfl); (case hr => first | (go_simp; done) | (go_simp; rfl)); intro gb hg w1 hgb hb1; have HG1 := Lib.hid hgb; have HB1 := Lib.hid hb1; have HE1 := Lib.hid hg; clear hgb hb1 hg) | ((with_reducible refine gate_dst (N := 3) rfl ?_); refine box_event ?hg (N := 3) ?hd (cs := #[.int .i64 kd, .string tt, .slice A2 kids.length c2]) (t := 45) ?hr ?_; (case hd => rfl); (case hg => rfl); (case hr => first | (go_simp; done) | (go_simp; rfl)); intro nb hn w2 hnb hb2; have HX := Lib.hid (Bx.mk ((hb2.block gb (blk_lt HG1.out)).trans HG1.out) hnb); have HB2 := Lib.hid (HB1.out.trans (hb2.mono HB1.out.size)); have HE2 := Lib.hid hn; clear hnb hb2 hn HG1; obtain ⟨x0, x1, x2, x3, x4⟩ := HX.out.cells))
  go_ret
  exact ⟨by rw [HF.out]; first | done | rfl, HB2.out⟩
 have q2 : decide (6 < kd) = false := decide_eq_false k6
 have q3 : decide (kd > 6) = false := decide_eq_false k6
 replace HT := Lib.hid (HT.out (by omega) (by omega))
 cases tx with
 | false =>
  have HF : Hid (R = false) := Lib.hid (by rw [← HR2.out]; simp [nodeB, k1, k6])
  go_enter Tryz.func50, Tryz.ntmps50
  go_wp2_with (first | ((with_reducible refine gate_dst (N := 2) rfl ?_); refine box_event ?hg (N := 2) ?hd (cs := #[.slice A0 l.length c0, .int .i64 root]) (t := 24) ?hr ?_; (case hd => rfl); (case hg => rfl); (case hr => first | (go_simp; done) | (go_simp; rfl)); intro gb hg w1 hgb hb1; have HG1 := Lib.hid hgb; have HB1 := Lib.hid hb1; have HE1 := Lib.hid hg; clear hgb hb1 hg) | ((with_reducible refine gate_dst (N := 3) rfl ?_); refine box_event ?hg (N := 3) ?hd (cs := #[.int .i64 kd, .string tt, .slice A2 kids.length c2]) (t := 45) ?hr ?_; (case hd => rfl); (case hg => rfl); (case hr => first | (go_simp; done) | (go_simp; rfl)); intro nb hn w2 hnb hb2; have HX := Lib.hid (Bx.mk ((hb2.block gb (blk_lt HG1.out)).trans HG1.out) hnb); have HB2 := Lib.hid (HB1.out.trans (hb2.mono HB1.out.size)); have HE2 := Lib.hid hn; clear hnb hb2 hn HG1; obtain ⟨x0, x1, x2, x3, x4⟩ := HX.out.cells) | (go_at_call 70; refine (graph_isText.calls _ _ _ _ _ (hG.below HB2.out) HT.out).mono ?_; rintro e w3 ⟨rfl, hb3⟩; have HX3 := Lib.hid (HX.out.below hb3); have HB3 := Lib.hid (HB2.out.trans (hb3.mono HB2.out.size)); clear hb3 HX HB2 x0 x1 x2 x3 x4; obtain ⟨x0, x1, x2, x3, x4⟩ := HX3.out.cells))
  go_ret
  exact ⟨by rw [HF.out]; first | done | rfl, HB3.out⟩
 | true =>
  have hS : graph_isScalar.f kd = some (scB kd) := by unfold graph_isScalar.f scB; rw [if_pos (by omega), decide_eq_true (by omega : (1 : Int) ≤ kd), Bool.true_and]
  have HS := Lib.hid hS
  clear hS
  by_cases ks4 : kd ≤ 4
  ·
   have hsc : scB kd = true := by unfold scB; rw [decide_eq_true (by omega : (1 : Int) ≤ kd), decide_eq_true ks4]; rfl
   have q4 : (kd == 6) = false := beq_eq_false_iff_ne.2 (by omega)
   by_cases kl : 0 < kids.length
   rotate_left
   ·
    refine isNode_on K1 K2 A0 c0 l root kd tt kids A2 c2 ks R w HR H2 hc2 hG HT HK HZ hkl HN q1 q2 (.inl ⟨hsc, by omega⟩) ?_
    exact (nodeB_on l kd tt kids ks k1 k6 (by rw [q4, decide_eq_false kl]; simp)).symm.trans HR2.out
   have HF : Hid (R = false) := Lib.hid (by rw [← HR2.out, nodeB, if_neg k1, if_neg k6, if_neg (by simp), if_pos (by simp [hsc, kl])])
   rw [hsc] at HS
   have q5 : decide ((0 : Int) < (kids.length : Int)) = true := decide_eq_true (by omega)
   have q6 : decide (0 < kids.length) = true := decide_eq_true kl
   go_enter Tryz.func50, Tryz.ntmps50
   go_wp2_with (first | ((with_reducible refine gate_dst (N := 2) rfl ?_); refine box_event ?hg (N := 2) ?hd (cs := #[.slice A0 l.length c0, .int .i64 root]) (t := 24) ?hr ?_; (case hd => rfl); (case hg => rfl); (case hr => first | (go_simp; done) | (go_simp; rfl)); intro gb hg w1 hgb hb1; have HG1 := Lib.hid hgb; have HB1 := Lib.hid hb1; have HE1 := Lib.hid hg; clear hgb hb1 hg) | ((with_reducible refine gate_dst (N := 3) rfl ?_); refine box_event ?hg (N := 3) ?hd (cs := #[.int .i64 kd, .string tt, .slice A2 kids.length c2]) (t := 45) ?hr ?_; (case hd => rfl); (case hg => rfl); (case hr => first | (go_simp; done) | (go_simp; rfl)); intro nb hn w2 hnb hb2; have HX := Lib.hid (Bx.mk ((hb2.block gb (blk_lt HG1.out)).trans HG1.out) hnb); have HB2 := Lib.hid (HB1.out.trans (hb2.mono HB1.out.size)); have HE2 := Lib.hid hn; clear hnb hb2 hn HG1; obtain ⟨x0, x1, x2, x3, x4⟩ := HX.out.cells) | (go_at_call 70; refine (graph_isText.calls _ _ _ _ _ (hG.below HB2.out) HT.out).mono ?_; rintro e w3 ⟨rfl, hb3⟩; have HX3 := Lib.hid (HX.out.below hb3); have HB3 := Lib.hid (HB2.out.trans (hb3.mono HB2.out.size)); clear hb3 HX HB2 x0 x1 x2 x3 x4; obtain ⟨x0, x1, x2, x3, x4⟩ := HX3.out.cells) | (go_at_call 71; refine (graph_isScalar.calls _ _ _ (hG.below HB3.out) HS.out).mono ?_; rintro e w4 ⟨rfl, hd4⟩; have HX4 := Lib.hid (HX3.out.below hd4.below); have HB4 := Lib.hid (HB3.out.trans (hd4.below.mono HB3.out.size)); clear hd4 HX3 HB3 x0 x1 x2 x3 x4; obtain ⟨x0, x1, x2, x3, x4⟩ := HX4.out.cells))
   go_ret
   exact ⟨by rw [HF.out]; first | done | rfl, HB4.out⟩
  have hsc : scB kd = false := by unfold scB; rw [decide_eq_false ks4, Bool.and_false]
  by_cases k66 : kd = 6
  rotate_left
  ·
   have q4 : (kd == 6) = false := beq_eq_false_iff_ne.2 k66
   refine isNode_on K1 K2 A0 c0 l root kd tt kids A2 c2 ks R w HR H2 hc2 hG HT HK HZ hkl HN q1 q2 (.inr (.inr ⟨hsc, q4⟩)) ?_
   exact (nodeB_on l kd tt kids ks k1 k6 (by rw [hsc, q4]; rfl)).symm.trans HR2.out
  have q4 : (kd == 6) = true := beq_iff_eq.2 k66
  by_cases ko : kids.length % 2 = 0
  ·
   refine isNode_on K1 K2 A0 c0 l root kd tt kids A2 c2 ks R w HR H2 hc2 hG HT HK HZ hkl HN q1 q2 (.inr (.inl ⟨hsc, q4, ko⟩)) ?_
   exact (nodeB_on l kd tt kids ks k1 k6 (by rw [hsc, ko]; simp)).symm.trans HR2.out
  have HF : Hid (R = false) := Lib.hid (by rw [← HR2.out, nodeB, if_neg k1, if_neg k6, if_neg (by simp), if_pos (by simp [k66]; omega)])
  have q7 : (kids.length : Int).tmod 2 = 1 := by rw [Int.tmod_eq_emod_of_nonneg (by omega)]; omega
  rw [hsc] at HS
  clear k66 ko
  go_enter Tryz.func50, Tryz.ntmps50
  go_wp2_with (first | ((with_reducible refine gate_dst (N := 2) rfl ?_); refine box_event ?hg (N := 2) ?hd (cs := #[.slice A0 l.length c0, .int .i64 root]) (t := 24) ?hr ?_; (case hd => rfl); (case hg => rfl); (case hr => first | (go_simp; done) | (go_simp; rfl)); intro gb hg w1 hgb hb1; have HG1 := Lib.hid hgb; have HB1 := Lib.hid hb1; have HE1 := Lib.hid hg; clear hgb hb1 hg) | ((with_reducible refine gate_dst (N := 3) rfl ?_); refine box_event ?hg (N := 3) ?hd (cs := #[.int .i64 kd, .string tt, .slice A2 kids.length c2]) (t := 45) ?hr ?_; (case hd => rfl); (case hg => rfl); (case hr => first | (go_simp; done) | (go_simp; rfl)); intro nb hn w2 hnb hb2; have HX := Lib.hid (Bx.mk ((hb2.block gb (blk_lt HG1.out)).trans HG1.out) hnb); have HB2 := Lib.hid (HB1.out.trans (hb2.mono HB1.out.size)); have HE2 := Lib.hid hn; clear hnb hb2 hn HG1; obtain ⟨x0, x1, x2, x3, x4⟩ := HX.out.cells) | (go_at_call 70; refine (graph_isText.calls _ _ _ _ _ (hG.below HB2.out) HT.out).mono ?_; rintro e w3 ⟨rfl, hb3⟩; have HX3 := Lib.hid (HX.out.below hb3); have HB3 := Lib.hid (HB2.out.trans (hb3.mono HB2.out.size)); clear hb3 HX HB2 x0 x1 x2 x3 x4; obtain ⟨x0, x1, x2, x3, x4⟩ := HX3.out.cells) | (go_at_call 71; refine (graph_isScalar.calls _ _ _ (hG.below HB3.out) HS.out).mono ?_; rintro e w4 ⟨rfl, hd4⟩; have HX4 := Lib.hid (HX3.out.below hd4.below); have HB4 := Lib.hid (HB3.out.trans (hd4.below.mono HB3.out.size)); clear hd4 HX3 HB3 x0 x1 x2 x3 x4; obtain ⟨x0, x1, x2, x3, x4⟩ := HX4.out.cells))
  go_ret
  exact ⟨by rw [HF.out]; first | done | rfl, HB4.out⟩
def textB (kd : Int) (s : ByteArray) : Bool :=
 if kd = 2 then resB s.data.toList == 2 else if kd = 3 then resB s.data.toList == 3
 else if kd = 4 then ((decodeB s.data.toList).2.1 == 0 && (decodeB s.data.toList).2.2 == 0) else s.toList == []
theorem isText_of (K : Nat) (kd : Int) (s : ByteArray) (hs : s.size ≤ 1099511627775) : graph_isText.f (K + 1) kd s = some (textB kd s) := by
 have hR : plain_Resolve.f s = some (resB s.data.toList) := by unfold plain_Resolve.f; rw [if_pos (by omega)]
 have hD : utf_Decode.f s = some (decodeB s.data.toList) := by unfold utf_Decode.f; rw [if_pos hs]
 unfold graph_isText.f textB
 by_cases h2 : kd = 2
 · subst h2; simp [graph_isText.j0, hR]
 by_cases h3 : kd = 3
 · subst h3; simp [graph_isText.j0, hR]
 by_cases h4 : kd = 4
 · subst h4; simp [graph_isText.j0, hD]
 have : (kd == 3) = false := beq_eq_false_iff_ne.2 h3
 simp [graph_isText.j0, h2, h3, h4]
def evens : List Int → List Int
 | a :: _ :: r => a :: evens r
 | _ => []
theorem evens_mem : ∀ (l : List Int) (k : Int), k ∈ evens l → k ∈ l
 | [], k, h => by simp [evens] at h
 | [_], k, h => by simp [evens] at h
 | a :: b :: r, k, h => by
  rw [evens, List.mem_cons] at h
  rcases h with h | h
  · exact h ▸ List.mem_cons_self
  · exact List.mem_cons_of_mem _ (List.mem_cons_of_mem _ (evens_mem r k h))
theorem evens_len : ∀ l : List Int, (evens l).length ≤ l.length
 | [] => by simp [evens]
 | [_] => by simp [evens]
 | a :: b :: r => by have := evens_len r; simp [evens]; omega
def keysB (kd : Int) (kids : List Int) : List Int := if kd = 6 then evens kids else []
theorem keys_l0 (kd : Int) (tt : ByteArray) (kids : List Int) (hk : kids.length ≤ 1099511627776) : ∀ (K i : Nat) (acc : List Int), i ≤ kids.length + 1 → kids.length + 1 < i + K → acc.length ≤ i →
    graph_keys.l0 K acc (i : Int) kd tt kids = some (acc ++ evens (kids.drop i))
  | 0, i, acc, h1, h2, h3 => by omega
  | K + 1, i, acc, h1, h2, h3 => by
    rw [graph_keys.l0, show wrap64 ((i : Int) + 1) = (i : Int) + 1 by unfold wrap64; omega]
    by_cases h : (i : Int) + 1 < (kids.length : Int)
    · have e1 : kids.drop i = kids[i] :: kids[i + 1] :: kids.drop (i + 2) := by rw [List.drop_eq_getElem_cons (by omega), List.drop_eq_getElem_cons (by omega)]
      rw [if_pos h, if_pos (by omega), if_pos (by omega), if_pos (by omega), show wrap64 ((i : Int) + 2) = (i : Int) + 2 by unfold wrap64; omega, show ((i : Int) + 2) = ((i + 2 : Nat) : Int) by omega,
        keys_l0 kd tt kids hk K (i + 2) _ (by omega) (by omega) (by rw [List.length_append]; simp; omega), e1, evens, rd_at kids i (by omega)]
      simp
    · rw [if_neg h]
      have e1 : evens (kids.drop i) = [] := by
        have : (kids.drop i).length ≤ 1 := by rw [List.length_drop]; omega
        match hd : kids.drop i, this with
        | [], _ => rfl
        | [_], _ => rfl
      rw [e1, List.append_nil]
theorem keys_of (kd : Int) (tt : ByteArray) (kids : List Int) (hk : kids.length ≤ 1099511627776) (K : Nat) (hK : kids.length + 1 < K) : graph_keys.f K kd tt kids = some (keysB kd kids) := by
 unfold graph_keys.f keysB
 by_cases h : kd = 6
 rotate_left
 · rw [if_neg h, if_neg h]
 rw [if_pos h, if_pos h]
 have := keys_l0 kd tt kids hk K 0 [] (by omega) (by omega) (by simp)
 simpa using this
theorem keys_sub (kd : Int) (kids : List Int) : ∀ k ∈ keysB kd kids, k ∈ kids := by
 unfold keysB
 split
 · exact evens_mem kids
 · intro k h; simp at h
theorem keys_len (kd : Int) (kids : List Int) : (keysB kd kids).length ≤ kids.length := by
 unfold keysB
 split
 · exact evens_len kids
 · simp
def isN (l : List S45) (n : S45) : Bool := nodeB l n (textB n.f0 n.f1) (keysB n.f0 n.f2)
def bump (u : List Int) (k : Int) : List Int := u.set k.toNat (wrap64 (rd u k + 1))
def usesB (l : List S45) : List S45 → List Int → Option (List Int)
 | [], u => some u
 | n :: r, u => if isN l n = true then usesB l r (n.f2.foldl bump u) else none
def soleN (u : List Int) (n : S45) : Bool := (keysB n.f0 n.f2).any (fun k => decide (rd u k > 1))
def soleB (u : List Int) : List S45 → Bool
 | [] => true
 | n :: r => if soleN u n = true then false else soleB u r
def rightB (l : List S45) (root : Int) : Bool :=
 if l.length = 0 then false else if 4096 < l.length then false else if root < 0 then false else if (l.length : Int) ≤ root then false
 else match usesB l l (bump (List.replicate l.length 0) root) with
 | none => false
 | some u => soleB u l
def sizesB (l : List S45) : Bool := l.all fun m => decide (m.f1.size ≤ 1099511627775) && decide (m.f2.length ≤ 1099511627776)
def graph_Right.f (l : List S45) (root : Int) : Option Bool := if sizesB l = true then some (rightB l root) else none
theorem bump_len (u : List Int) (k : Int) : (bump u k).length = u.length := List.length_set
theorem bumps_len : ∀ (ks : List Int) (u : List Int), (ks.foldl bump u).length = u.length
 | [], _ => rfl
 | k :: ks, u => (bumps_len ks (bump u k)).trans (bump_len u k)
theorem isN_range {l : List S45} {n : S45} (h : isN l n = true) : ∀ k ∈ n.f2, 0 ≤ k ∧ k < (l.length : Int) := by
 unfold isN nodeB at h
 split at h; · cases h
 split at h; · cases h
 split at h; · cases h
 split at h; · cases h
 split at h; · cases h
 ·
  rename_i h5
  intro k hk
  have := List.any_eq_false.1 (Bool.eq_false_iff.2 h5) k hk
  simp [farB] at this
  exact this
theorem usesB_all (l : List S45) : ∀ (r : List S45) (u v : List Int), usesB l r u = some v → ∀ n ∈ r, isN l n = true
 | [], _, _, _, n, hn => by simp at hn
 | m :: r, u, v, h, n, hn => by
  rw [usesB] at h
  by_cases c : isN l m = true
  rotate_left
  · rw [if_neg c] at h; cases h
  rw [if_pos c] at h
  rcases List.mem_cons.1 hn with e | e
  · exact e ▸ c
  · exact usesB_all l r _ v h n e
structure Us (B gb ub rb cp : Nat) (A0 : Option Addr) (n0 c0 : Nat) (root : Int) (u : List Int) (w : World) : Prop where
 g : w.heap[gb]? = some (.cells #[.slice A0 n0 c0, .int .i64 root] 24 (0, 0))
 len : u.length = n0
 b : w.heap[ub]? = some (.cells #[.slice (some ⟨rb, 0, none⟩) n0 cp] 40 (0, 0))
 row : Kd.R (Kd.int .i64) 3 w B (fun _ => True) (.slice (some ⟨rb, 0, none⟩) n0 cp) u
section
variable {B gb ub rb cp : Nat} {A0 : Option Addr} {n0 c0 : Nat} {root : Int} {u : List Int} {w w' : World}
theorem Us.cells (h : Us B gb ub rb cp A0 n0 c0 root u w) : w.cell? ⟨gb, 0, none⟩ = some (.slice A0 n0 c0) ∧ w.cell? ⟨gb, 1, none⟩ = some (.int .i64 root) ∧ w.cell? ⟨ub, 0, none⟩ = some (.slice (some ⟨rb, 0, none⟩) n0 cp) :=
  ⟨(blk_cell h.g 0).trans rfl, (blk_cell h.g 1).trans rfl, (blk_cell h.b 0).trans rfl⟩
theorem Us.below (h : Us B gb ub rb cp A0 n0 c0 root u w) (hb : Below w.heap.size w w') : Us B gb ub rb cp A0 n0 c0 root u w' :=
  ⟨(hb.block gb (blk_lt h.g)).trans h.g, h.len, (hb.block ub (blk_lt h.b)).trans h.b, Kd.R_below h.row hb⟩
theorem Us.at_ (h : Us B gb ub rb cp A0 n0 c0 root u w) (k : Int) (h0 : 0 ≤ k) (h1 : k < (n0 : Int)) : w.cell? ⟨rb, k.toNat, none⟩ = some (.int .i64 (rd u k)) ∧ w.frozen? ⟨rb, k.toNat, none⟩ = false :=
  Kd.R_celln 0 h.row k h0 h1
theorem Us.put (h : Us B gb ub rb cp A0 n0 c0 root u w) (k x : Int) : Us B gb ub rb cp A0 n0 c0 root (u.set k.toNat x) (w.setCell ⟨rb, k.toNat, none⟩ (.int .i64 x)) ∧ w.grownBy (w.setCell ⟨rb, k.toNat, none⟩ (.int .i64 x)) (some rb) := by
 obtain ⟨h1, hg⟩ := Kd.R_putg h.row k x
 have n1 : some gb ≠ some rb := Kd.R_ne h.row h.g (by decide)
 have n2 : some ub ≠ some rb := Kd.R_ne h.row h.b (by decide)
 exact ⟨⟨(hg.block gb (blk_lt h.g) n1).trans h.g, by rw [List.length_set]; exact h.len, (hg.block ub (blk_lt h.b) n2).trans h.b, h1⟩, hg⟩
theorem Us.base (h : Us B gb ub rb cp A0 n0 c0 root u w) : B ≤ rb := Kd.R_base h.row rb rfl
end
set_option maxHeartbeats 2000000 in
set_option maxRecDepth 100000 in
theorem more_is (x : Int) (B gb ub rb cp : Nat) (A0 : Option Addr) (n0 c0 : Nat) (root : Int) (u : List Int) (w : World) (hu : Us B gb ub rb cp A0 n0 c0 root u w) (h0 : 0 ≤ x) (h1 : x < (n0 : Int)) :
  Calls Tryz.prog 53 #[.int .i64 x, .pointer (some ⟨ub, 0, none⟩)] w fun e w' => e = .returned (.bool (decide (rd u x > 1))) ∧ Below w.heap.size w w' := by
 obtain ⟨_, _, c0'⟩ := hu.cells
 obtain ⟨c1, _⟩ := hu.at_ x h0 h1
 have p1 := eq_true h0
 have p2 := eq_true h1
 clear hu h0 h1
 go_enter Tryz.func53, Tryz.ntmps53
 go_wp2
 go_ret
 exact ⟨rfl, Below.refl _ w⟩
theorem more_enters : ∀ args w, (callFunc 53 args).run Tryz.prog w = .ok (.enter 53 args) w := fun _ _ => by kernel_rfl
theorem node_cells {w W : World} (hb : Below w.heap.size w W) {A : Option Addr} {l : List S45} (h : Kd.C k45 w A l.length l) (k : Nat) (hk : k < l.length) :
  ∃ ad A2 c2, A = some ad ∧ W.cell? (ad.add (k * 3)) = some (.int .i64 l[k].f0) ∧ W.cell? ⟨(ad.add (k * 3)).block, (ad.add (k * 3)).off + 1, none⟩ = some (.string l[k].f1) ∧ W.cell? ⟨(ad.add (k * 3)).block, (ad.add (k * 3)).off + 2, none⟩ = some (.slice A2 l[k].f2.length c2) ∧ l[k].f2.length ≤ c2 ∧ Kd.C (Kd.int .i64) w A2 l[k].f2.length l[k].f2 := by
 obtain ⟨ad, A2, c2, eA, h0, h1, h2, h3, h4⟩ := at_T45 h (k : Int) (by omega) (by omega)
 have e : rd_T45 l (k : Int) = l[k] := by unfold rd_T45; rw [Int.toNat_natCast, List.getD_eq_getElem?_getD, List.getElem?_eq_getElem hk]; rfl
 rw [e] at h0 h1 h2 h3 h4
 rw [Int.toNat_natCast] at h0 h1 h2
 exact ⟨ad, A2, c2, eA, (hb.cell (World.block_lt_of_cell? w _ h0)).trans h0, (hb.cell (World.block_lt_of_cell? w _ h1)).trans h1, (hb.cell (World.block_lt_of_cell? w _ h2)).trans h2, h3, h4⟩
def endB (l : List S45) (U : Option (List Int)) : Bool := match U with
 | none => false
 | some u => soleB u l
set_option maxHeartbeats 8000000 in
set_option maxRecDepth 100000 in
theorem graph_Right.calls (A0 : Option Addr) (c0 : Nat) (l : List S45) (root : Int) (r : Bool) (w : World) (hr0 : Kd.C k45 w A0 l.length l) (hc0 : l.length ≤ c0) (hG : Glob.G w) (h : graph_Right.f l root = some r) :
    Calls Tryz.prog 35 #[.agg #[.slice A0 l.length c0, .int .i64 root]] w fun e w' => e = .returned (.bool r) ∧ Below w.heap.size w w' := by
  unfold graph_Right.f at h
  by_cases hz : sizesB l = true
  · rw [if_pos hz] at h
    obtain hR := Option.some.inj h
    have HR := Lib.hid hr0
    have HZ := Lib.hid (show ∀ m ∈ l, m.f1.size ≤ 1099511627775 ∧ m.f2.length ≤ 1099511627776 from fun m hm => by
      have := List.all_eq_true.1 hz m hm
      simp at this
      exact this)
    clear h hz hr0
    by_cases k0 : l.length = 0
    · have HF : Hid (r = false) := Lib.hid (by rw [← hR]; unfold rightB; rw [if_pos k0])
      have q0 : ((l.length : Int) == 0) = true := beq_iff_eq.2 (by omega)
      clear hR
      go_enter Tryz.func35, Tryz.ntmps35
      go_wp2_with (first | ((with_reducible refine gate_dst (N := 1) rfl ?_); refine box_event ?hg (N := 1) ?hd (cs := #[.slice A0 l.length c0, .int .i64 root]) (t := 24) ?hr ?_; (case hd => rfl); (case hg => rfl); (case hr => first | (go_simp; done) | (go_simp; rfl)); intro gb hg w1 hgb hb1; have HG1 := Lib.hid hgb; have HB1 := Lib.hid hb1; clear hgb hb1 hg; have x0 := (blk_cell HG1.out 0).trans rfl; have x1 := (blk_cell HG1.out 1).trans rfl))
      go_ret
      exact ⟨by rw [HF.out]; first | done | rfl, HB1.out⟩
    · have q0 : ((l.length : Int) == 0) = false := beq_eq_false_iff_ne.2 (by omega)
      by_cases k1 : 4096 < l.length
      · have HF : Hid (r = false) := Lib.hid (by rw [← hR]; unfold rightB; rw [if_neg k0, if_pos k1])
        have q1 : decide (4096 < (l.length : Int)) = true := decide_eq_true (by omega)
        clear hR
        go_enter Tryz.func35, Tryz.ntmps35
        go_wp2_with (first | ((with_reducible refine gate_dst (N := 1) rfl ?_); refine box_event ?hg (N := 1) ?hd (cs := #[.slice A0 l.length c0, .int .i64 root]) (t := 24) ?hr ?_; (case hd => rfl); (case hg => rfl); (case hr => first | (go_simp; done) | (go_simp; rfl)); intro gb hg w1 hgb hb1; have HG1 := Lib.hid hgb; have HB1 := Lib.hid hb1; clear hgb hb1 hg; have x0 := (blk_cell HG1.out 0).trans rfl; have x1 := (blk_cell HG1.out 1).trans rfl))
        go_ret
        exact ⟨by rw [HF.out]; first | done | rfl, HB1.out⟩
      · have q1 : decide (4096 < (l.length : Int)) = false := decide_eq_false (by omega)
        by_cases k2 : root < 0
        · have HF : Hid (r = false) := Lib.hid (by rw [← hR]; unfold rightB; rw [if_neg k0, if_neg k1, if_pos k2])
          have q2 : decide (root < 0) = true := decide_eq_true k2
          clear hR
          go_enter Tryz.func35, Tryz.ntmps35
          go_wp2_with (first | ((with_reducible refine gate_dst (N := 1) rfl ?_); refine box_event ?hg (N := 1) ?hd (cs := #[.slice A0 l.length c0, .int .i64 root]) (t := 24) ?hr ?_; (case hd => rfl); (case hg => rfl); (case hr => first | (go_simp; done) | (go_simp; rfl)); intro gb hg w1 hgb hb1; have HG1 := Lib.hid hgb; have HB1 := Lib.hid hb1; clear hgb hb1 hg; have x0 := (blk_cell HG1.out 0).trans rfl; have x1 := (blk_cell HG1.out 1).trans rfl))
          go_ret
          exact ⟨by rw [HF.out]; first | done | rfl, HB1.out⟩
        · have q2 : decide (root < 0) = false := decide_eq_false k2
          by_cases k3 : (l.length : Int) ≤ root
          · have HF : Hid (r = false) := Lib.hid (by rw [← hR]; unfold rightB; rw [if_neg k0, if_neg k1, if_neg k2, if_pos k3])
            have q3 : decide ((l.length : Int) ≤ root) = true := decide_eq_true k3
            clear hR
            go_enter Tryz.func35, Tryz.ntmps35
            go_wp2_with (first | ((with_reducible refine gate_dst (N := 1) rfl ?_); refine box_event ?hg (N := 1) ?hd (cs := #[.slice A0 l.length c0, .int .i64 root]) (t := 24) ?hr ?_; (case hd => rfl); (case hg => rfl); (case hr => first | (go_simp; done) | (go_simp; rfl)); intro gb hg w1 hgb hb1; have HG1 := Lib.hid hgb; have HB1 := Lib.hid hb1; clear hgb hb1 hg; have x0 := (blk_cell HG1.out 0).trans rfl; have x1 := (blk_cell HG1.out 1).trans rfl))
            go_ret
            exact ⟨by rw [HF.out]; first | done | rfl, HB1.out⟩
          · have q3 : decide ((l.length : Int) ≤ root) = false := decide_eq_false k3
            obtain ⟨U, hU⟩ : ∃ U, usesB l l (bump (List.replicate l.length 0) root) = U := ⟨_, rfl⟩
            have HV := Lib.hid (show endB l U = r by rw [← hR, ← hU]; unfold rightB endB; rw [if_neg k0, if_neg k1, if_neg k2, if_neg k3]; first | done | rfl)
            obtain ⟨u0, hu0⟩ : ∃ u, u = List.replicate l.length (0 : Int) := ⟨_, rfl⟩
            rw [← hu0] at hU
            have hul : u0.length = l.length := by rw [hu0, List.length_replicate]
            have HU := Lib.hid hU
            have HU0 := Lib.hid hu0
            have r0 : 0 ≤ root := by omega
            have r1 : root < (l.length : Int) := by omega
            have p1 := eq_true r0
            have p2 := eq_true r1
            have HUA := Lib.hid hU
            have hll : l.length ≤ 4096 := by omega
            clear hR hU hu0 k2 k3
            go_enter Tryz.func35, Tryz.ntmps35
            go_wp2_with (first | ((with_reducible refine gate_dst (N := 1) rfl ?_); refine box_event ?hg (N := 1) ?hd (cs := #[.slice A0 l.length c0, .int .i64 root]) (t := 24) ?hr ?_; (case hd => rfl); (case hg => rfl); (case hr => first | (go_simp; done) | (go_simp; rfl)); intro gb hg w1 hgb hb1; have HG1 := Lib.hid hgb; have HB1 := Lib.hid hb1; clear hgb hb1 hg; have x0 := (blk_cell HG1.out 0).trans rfl; have x1 := (blk_cell HG1.out 1).trans rfl) | ((with_reducible refine gate_dst (N := 36) rfl ?_); refine Kd.R_make (Kd.int .i64) _ 3 rfl (N := 36) rfl 40 _ _ rfl (l.length : Int) rfl rfl Tryz.underlying40 (.int .i64 0) 8 info3 rfl (by decide) (by omega) 0 (ok := fun _ => True) (okp := fun _ => True) rfl (fun _ hk => hk) trivial (by omega) (by omega) (Below.refl _ _) (Nat.le_refl _) ?_; intro v w2 ho hb hg_ hnew_; clear hg_ hnew_; simp only [Int.toNat_natCast] at ho; rw [← HU0.out] at ho; obtain ⟨rb, cp, ev, _, hrb, _, _⟩ := Kd.R_form ho (by omega); subst ev; rw [hul] at ho; have hb2 : Below w2.heap.size w2 (w2.alloc (.cells #[.slice (some ⟨rb, 0, none⟩) l.length cp] 40 (0, 0))) := below_alloc (Below.refl _ _) _; have HUs := Lib.hid (Us.mk ((hb2.block gb (blk_lt ((hb.block gb (blk_lt HG1.out)).trans HG1.out))).trans ((hb.block gb (blk_lt HG1.out)).trans HG1.out)) hul (blk_new w2 _) (Kd.R_below (Kd.R_lower ho HB1.out.size) hb2)); have HB3 := Lib.hid ((HB1.out.trans (hb.mono HB1.out.size)).trans (hb2.mono (HB1.out.trans (hb.mono HB1.out.size)).size)); clear ho hb hb2 HG1 HB1 x0 x1; obtain ⟨y0, y1, y2⟩ := HUs.out.cells; obtain ⟨y3, y4⟩ := HUs.out.at_ root r0 r1; obtain ⟨hu3, hg3⟩ := HUs.out.put root (wrap64 (rd u0 root + 1)); rw [World.setCell_alloc_past _ _ _ _ hrb] at hu3 hg3; have HU3 := Lib.hid hu3; have HB4 := Lib.hid (HB3.out.trans (below_of_grown hg3 HUs.out.base HB3.out.size)); obtain ⟨z0, z1, z2⟩ := hu3.cells; clear hu3 hg3))
            generalize World.alloc _ _ = w5 at HU3 HB4 ⊢
            clear HUs HB3 y0 y1 y2 y3 y4 z0 z1 z2 q0 q1 q2 q3 k0 k1
            go_loopw [47] (fun v wr => ∃ (i : Nat) (u : List Int), v = .int .i64 i ∧ i ≤ l.length ∧ Hid (usesB l (l.drop i) u = U) ∧ Hid (Us w.heap.size gb w2.heap.size rb cp A0 l.length c0 root u wr) ∧ Hid (Below w.heap.size w wr)) (fun v _ => l.length - (intOf v).toNat)
            case atStart => exact ⟨0, _, rfl, by omega, HU, HU3, HB4⟩
            case round =>
              obtain ⟨i, u, rfl, hi, hst, HUR, HBR⟩ := hrel
              clear HU HU3 HB4
              obtain ⟨x0, x1, x2⟩ := HUR.out.cells
              by_cases hlt : i < l.length
              · have hc : decide ((i : Int) < (l.length : Int)) = true := decide_eq_true (by omega)
                have p3 : (0 ≤ (i : Int)) = True := eq_true (by omega)
                have p4 : ((i : Int) < (l.length : Int)) = True := eq_true (by omega)
                obtain ⟨bd, A2, c2, rfl, y0, y1, y2, hc2, hC⟩ := node_cells HBR.out HR.out i hlt
                obtain ⟨hz1, hz2⟩ := HZ.out l[i] (List.getElem_mem hlt)
                have hst2 := hst.out
                rw [List.drop_eq_getElem_cons hlt, usesB] at hst2
                generalize l[i] = n at *
                obtain ⟨kd, tt, kids⟩ := n
                dsimp only at y0 y1 y2 hc2 hC hz1 hz2 hst2
                have HC := Lib.hid hC
                have hb8 : Below wr.heap.size wr (wr.alloc (.cells #[.int .i64 kd, .string tt, .slice A2 kids.length c2] 45 (0, 0))) := below_alloc (Below.refl _ _) _
                have hk8 : (wr.alloc (.cells #[.int .i64 kd, .string tt, .slice A2 kids.length c2] 45 (0, 0))).heap[wr.heap.size]? = some (.cells #[.int .i64 kd, .string tt, .slice A2 kids.length c2] 45 (0, 0)) := blk_new wr _
                have HU8 := Lib.hid (HUR.out.below hb8)
                have HB8 := Lib.hid (HBR.out.trans (hb8.mono HBR.out.size))
                have HK8 := Lib.hid hk8
                obtain ⟨z0, z1, z2⟩ := HU8.out.cells
                clear hC hb8 hk8 HUR HBR
                cases hN : isN l ⟨kd, tt, kids⟩ with
                | false =>
                  have HN := Lib.hid (show nodeB l ⟨kd, tt, kids⟩ (textB kd tt) (keysB kd kids) = false from hN)
                  have HF : Hid (r = false) := Lib.hid (by rw [← HV.out]; rw [hN, if_neg Bool.false_ne_true] at hst2; rw [← hst2]; rfl)
                  clear hst hst2 hN
                  go_wp2_with (first | (go_at_call 50; refine (isNode_is 1 (kids.length + 2) _ c0 l root ⟨kd, tt, kids⟩ A2 c2 (textB kd tt) (keysB kd kids) _ (Kd.C_below HR.out HB8.out) hc0 (Kd.C_below HC.out HB8.out) hc2 (hG.below HB8.out) (fun _ _ => isText_of 0 kd tt hz1) (keys_of kd tt kids hz2 _ (by omega)) (fun m hm => Nat.le_trans (HZ.out m hm).1 (by omega)) (Nat.le_trans (keys_len kd kids) hz2) (keys_sub kd kids)).mono ?_; rw [HN.out]; rintro e w9 ⟨rfl, hb9⟩; have HU9 := Lib.hid (HU8.out.below hb9); have HK9 := Lib.hid ((hb9.block _ (blk_lt HK8.out)).trans HK8.out); have HB9 := Lib.hid (HB8.out.trans (hb9.mono HB8.out.size)); clear hb9 HU8 HK8 HB8; have q0 := (blk_cell HK9.out 0).trans rfl; have q1 := (blk_cell HK9.out 1).trans rfl; have q2 := (blk_cell HK9.out 2).trans rfl))
                  go_ret
                  exact ⟨by rw [HF.out]; first | done | rfl, HB9.out⟩
                | true =>
                  have HN := Lib.hid (show nodeB l ⟨kd, tt, kids⟩ (textB kd tt) (keysB kd kids) = true from hN)
                  have HST := Lib.hid (show usesB l (l.drop (i + 1)) (kids.foldl bump u) = U by rw [hN, if_pos rfl] at hst2; exact hst2)
                  have HRG := Lib.hid (isN_range hN)
                  have HLO := Lib.hid hlt
                  clear hst hst2 hN
                  go_wp2_with (first | (go_at_call 50; refine (isNode_is 1 (kids.length + 2) _ c0 l root ⟨kd, tt, kids⟩ A2 c2 (textB kd tt) (keysB kd kids) _ (Kd.C_below HR.out HB8.out) hc0 (Kd.C_below HC.out HB8.out) hc2 (hG.below HB8.out) (fun _ _ => isText_of 0 kd tt hz1) (keys_of kd tt kids hz2 _ (by omega)) (fun m hm => Nat.le_trans (HZ.out m hm).1 (by omega)) (Nat.le_trans (keys_len kd kids) hz2) (keys_sub kd kids)).mono ?_; rw [HN.out]; rintro e w9 ⟨rfl, hb9⟩; have HU9 := Lib.hid (HU8.out.below hb9); have HK9 := Lib.hid ((hb9.block _ (blk_lt HK8.out)).trans HK8.out); have HB9 := Lib.hid (HB8.out.trans (hb9.mono HB8.out.size)); clear hb9 HU8 HK8 HB8; have q0 := (blk_cell HK9.out 0).trans rfl; have q1 := (blk_cell HK9.out 1).trans rfl; have q2 := (blk_cell HK9.out 2).trans rfl))
                  clear x0 x1 x2 y0 y1 y2 z0 z1 z2 q0 q1 q2
                  go_loopw [58] (fun v wr => ∃ (j : Nat) (u2 : List Int), v = .int .i64 j ∧ j ≤ kids.length ∧ Hid ((kids.drop j).foldl bump u2 = kids.foldl bump u) ∧ Hid (Us w.heap.size gb w2.heap.size rb cp (some bd) l.length c0 root u2 wr) ∧ Hid (Below w.heap.size w wr)) (fun v _ => kids.length - (intOf v).toNat)
                  case atStart => exact ⟨0, u, rfl, by omega, Lib.hid rfl, HU9, HB9⟩
                  case round =>
                    obtain ⟨j, u2, rfl, hj, hst, HUR, HBR⟩ := hrel
                    clear HU9 HB9 HK9
                    obtain ⟨x0, x1, x2⟩ := HUR.out.cells
                    by_cases hlt2 : j < kids.length
                    · have hd : decide ((j : Int) < (kids.length : Int)) = true := decide_eq_true (by omega)
                      obtain ⟨cd, rfl, hx⟩ := Kd.at_int (Kd.C_below HC.out HBR.out) (j : Int) (by omega) (by omega)
                      rw [rd_at kids j hlt2, Int.toNat_natCast] at hx
                      obtain ⟨j0, j1⟩ := HRG.out kids[j] (List.getElem_mem hlt2)
                      have hst2 := hst.out
                      rw [List.drop_eq_getElem_cons hlt2, List.foldl_cons] at hst2
                      have HS := Lib.hid hst2
                      clear hst hst2
                      generalize kids[j] = k at *
                      obtain ⟨y3, y4⟩ := HUR.out.at_ k j0 j1
                      obtain ⟨hu3, hg3⟩ := HUR.out.put k (wrap64 (rd u2 k + 1))
                      have HU3 := Lib.hid hu3
                      have HB3 := Lib.hid (HBR.out.trans (below_of_grown hg3 HUR.out.base HBR.out.size))
                      have p5 : (0 ≤ k) = True := eq_true j0
                      have p6 : (k < (l.length : Int)) = True := eq_true j1
                      have p7 : (0 ≤ (j : Int)) = True := eq_true (by omega)
                      have p8 : ((j : Int) < (kids.length : Int)) = True := eq_true (by omega)
                      have HL := Lib.hid hlt2
                      clear hu3 hg3 HUR HBR
                      go_wp2
                      go_roundw
                      case rel => have := HL.out; exact ⟨j + 1, bump u2 k, by go_num, HL.out, HS, HU3, HB3⟩
                      case measure => have := HL.out; simp [intOf]; omega
                    · have hd : decide ((j : Int) < (kids.length : Int)) = false := decide_eq_false (by omega)
                      have hst2 := hst.out
                      rw [List.drop_of_length_le (by omega), List.foldl_nil] at hst2
                      subst hst2
                      clear hst
                      go_wp2
                      go_roundw
                      case rel => have := HLO.out; exact ⟨i + 1, _, by go_num, HLO.out, HST, HUR, HBR⟩
                      case measure => have := HLO.out; simp [intOf]; omega
              · have hc : decide ((i : Int) < (l.length : Int)) = false := decide_eq_false (by omega)
                have hst2 := hst.out
                rw [List.drop_of_length_le (by omega), usesB] at hst2
                subst hst2
                have HVS := Lib.hid (show soleB u l = r from HV.out)
                have HALL := Lib.hid (usesB_all l l _ _ HUA.out)
                clear hst
                go_wp2
                clear x0 x1 x2 hc
                go_loopw [73] (fun v wr => ∃ i : Nat, v = .int .i64 i ∧ i ≤ l.length ∧ Hid (soleB u (l.drop i) = r) ∧ Hid (Us w.heap.size gb w2.heap.size rb cp A0 l.length c0 root u wr) ∧ Hid (Below w.heap.size w wr)) (fun v _ => l.length - (intOf v).toNat)
                case atStart => exact ⟨0, rfl, by omega, HVS, HUR, HBR⟩
                case round =>
                  clear HUR HBR HVS hlt hi
                  obtain ⟨i, rfl, hi, hst, HUR, HBR⟩ := hrel
                  obtain ⟨x0, x1, x2⟩ := HUR.out.cells
                  by_cases hlt : i < l.length
                  · have hc : decide ((i : Int) < (l.length : Int)) = true := decide_eq_true (by omega)
                    have p3 : (0 ≤ (i : Int)) = True := eq_true (by omega)
                    have p4 : ((i : Int) < (l.length : Int)) = True := eq_true (by omega)
                    obtain ⟨bd, A2, c2, rfl, y0, y1, y2, hc2, hC⟩ := node_cells HBR.out HR.out i hlt
                    obtain ⟨hz1, hz2⟩ := HZ.out l[i] (List.getElem_mem hlt)
                    have hst2 := hst.out
                    rw [List.drop_eq_getElem_cons hlt, soleB] at hst2
                    have HNR := Lib.hid (HALL.out l[i] (List.getElem_mem hlt))
                    generalize l[i] = n at *
                    obtain ⟨kd, tt, kids⟩ := n
                    dsimp only at y0 y1 y2 hc2 hC hz1 hz2 hst2
                    have HC := Lib.hid hC
                    have hb8 : Below wr.heap.size wr (wr.alloc (.cells #[.int .i64 kd, .string tt, .slice A2 kids.length c2] 45 (0, 0))) := below_alloc (Below.refl _ _) _
                    have hk8 : (wr.alloc (.cells #[.int .i64 kd, .string tt, .slice A2 kids.length c2] 45 (0, 0))).heap[wr.heap.size]? = some (.cells #[.int .i64 kd, .string tt, .slice A2 kids.length c2] 45 (0, 0)) := blk_new wr _
                    have HU8 := Lib.hid (HUR.out.below hb8)
                    have HB8 := Lib.hid (HBR.out.trans (hb8.mono HBR.out.size))
                    have HK8 := Lib.hid hk8
                    obtain ⟨z0, z1, z2⟩ := HU8.out.cells
                    clear hC hb8 hk8 HUR HBR
                    have q0 := (blk_cell HK8.out 0).trans rfl
                    have q1 := (blk_cell HK8.out 1).trans rfl
                    have q2 := (blk_cell HK8.out 2).trans rfl
                    have HKR := Lib.hid (show ∀ x ∈ keysB kd kids, 0 ≤ x ∧ x < (l.length : Int) from fun x hx => isN_range HNR.out x (keys_sub kd kids x hx))
                    cases hN : soleN u ⟨kd, tt, kids⟩ with
                    | true =>
                      have HSO := Lib.hid (show (keysB kd kids).any (fun k => decide (rd u k > 1)) = true from hN)
                      have HF : Hid (r = false) := Lib.hid (by rw [hN, if_pos rfl] at hst2; exact hst2.symm)
                      clear hst hst2 hN
                      go_wp2_with (first | (go_at_call 52; refine (graph_keys.calls (kids.length + 2) kd tt A2 c2 kids _ _ (Kd.C_below HC.out HB8.out) hc2 (hG.below HB8.out) (keys_of kd tt kids hz2 _ (by omega))).mono ?_; rintro e w9 ⟨v, rfl, hv, hb9⟩; obtain ⟨Ak, ck, ek⟩ := Kd.R_slice hv; subst ek; have HU9 := Lib.hid (HU8.out.below hb9); have HB9 := Lib.hid (HB8.out.trans (hb9.mono HB8.out.size)); have HCK := Lib.hid (Kd.R_reads' hv).2.2; clear hv hb9 HU8 HB8) | (go_at_call 51; refine (contains_any 53 more_enters _ (fun k => decide (rd u k > 1)) Ak ck (keysB kd kids) _ HCK.out (fun x w' hx hb => more_is x _ gb _ rb cp _ l.length c0 root u w' (HU9.out.below hb) (HKR.out x hx).1 (HKR.out x hx).2)).mono ?_; rw [HSO.out]; rintro e w10 ⟨rfl, hb10⟩; have HU10 := Lib.hid (HU9.out.below hb10); have HB10 := Lib.hid (HB9.out.trans (hb10.mono HB9.out.size)); clear hb10 HU9 HB9))
                      go_ret
                      exact ⟨by rw [HF.out]; first | done | rfl, HB10.out⟩
                    | false =>
                      have HSO := Lib.hid (show (keysB kd kids).any (fun k => decide (rd u k > 1)) = false from hN)
                      have HST := Lib.hid (show soleB u (l.drop (i + 1)) = r by rw [hN, if_neg Bool.false_ne_true] at hst2; exact hst2)
                      have HL := Lib.hid hlt
                      clear hst hst2 hN
                      go_wp2_with (first | (go_at_call 52; refine (graph_keys.calls (kids.length + 2) kd tt A2 c2 kids _ _ (Kd.C_below HC.out HB8.out) hc2 (hG.below HB8.out) (keys_of kd tt kids hz2 _ (by omega))).mono ?_; rintro e w9 ⟨v, rfl, hv, hb9⟩; obtain ⟨Ak, ck, ek⟩ := Kd.R_slice hv; subst ek; have HU9 := Lib.hid (HU8.out.below hb9); have HB9 := Lib.hid (HB8.out.trans (hb9.mono HB8.out.size)); have HCK := Lib.hid (Kd.R_reads' hv).2.2; clear hv hb9 HU8 HB8) | (go_at_call 51; refine (contains_any 53 more_enters _ (fun k => decide (rd u k > 1)) Ak ck (keysB kd kids) _ HCK.out (fun x w' hx hb => more_is x _ gb _ rb cp _ l.length c0 root u w' (HU9.out.below hb) (HKR.out x hx).1 (HKR.out x hx).2)).mono ?_; rw [HSO.out]; rintro e w10 ⟨rfl, hb10⟩; have HU10 := Lib.hid (HU9.out.below hb10); have HB10 := Lib.hid (HB9.out.trans (hb10.mono HB9.out.size)); clear hb10 HU9 HB9))
                      go_roundw
                      case rel => have := HL.out; exact ⟨i + 1, by go_num, HL.out, HST, HU10, HB10⟩
                      case measure => have := HL.out; simp [intOf]; omega
                  · have hc : decide ((i : Int) < (l.length : Int)) = false := decide_eq_false (by omega)
                    have hst2 := hst.out
                    rw [List.drop_of_length_le (by omega), soleB] at hst2
                    have HF : Hid (r = true) := Lib.hid hst2.symm
                    clear hst hst2
                    go_wp2
                    go_ret
                    exact ⟨by rw [HF.out]; first | done | rfl, HBR.out⟩
  · rw [if_neg hz] at h; cases h
theorem cell_al {w : World} {o : Obj} {a : Addr} {v : Value} (h : w.cell? a = some v) : (w.alloc o).cell? a = some v := ((below_alloc (Below.refl _ _) o).cell (World.block_lt_of_cell? w _ h)).trans h
end Go.Proofs.YtnjcpoojgmpmeaaGreatDoor.Plug
namespace Go.Proofs.YtnjcpoojgmpmeaaGreatDoor.Graphs
open RowKit YtnjcpoojgmpmeaaGreatDoor YtnjcpoojgmpmeaaGreatDoor.PX YtnjcpoojgmpmeaaGreatDoor.Plug YtnjcpoojgmpmeaaGreatDoor.Mapk YtnjcpoojgmpmeaaGreatDoorW.PrintWords YtnjcpoojgmpmeaaGreatDoorW.PrintLast
abbrev Nd := S45
theorem rd_set_ (u : List Int) (k j v : Int) (hk0 : 0 ≤ k) (hk1 : k < (u.length : Int)) (hj : 0 ≤ j) : rd (u.set k.toNat v) j = if j = k then v else rd u j := by
 unfold rd
 rw [List.getD_eq_getElem?_getD, List.getD_eq_getElem?_getD, List.getElem?_set]
 by_cases h : j = k
 rotate_left
 · rw [if_neg (by omega), if_neg h]
 subst h; rw [if_pos rfl, if_pos rfl, if_pos (by omega)]; rfl
theorem bumps_rd : ∀ (ks : List Int) (u : List Int) (j : Int), (∀ k ∈ ks, 0 ≤ k ∧ k < (u.length : Int)) → 0 ≤ j → 0 ≤ rd u j → rd u j + ks.length < 4611686018427387904 → rd (ks.foldl bump u) j = rd u j + (ks.count j : Nat)
 | [], u, j, _, _, _, _ => by simp
 | k :: ks, u, j, hk, hj, h0, h1 => by
  obtain ⟨k0, k1⟩ := hk k List.mem_cons_self
  simp only [List.length_cons] at h1
  have e : rd (bump u k) j = if j = k then rd u j + 1 else rd u j := by
   unfold bump
   rw [rd_set_ u k j _ k0 k1 hj]
   split
   · rename_i e; subst e; unfold wrap64; omega
   · rfl
  rw [List.foldl_cons, bumps_rd ks (bump u k) j (fun x hx => by rw [bump_len]; exact hk x (List.mem_cons_of_mem _ hx)) hj (by rw [e]; split <;> omega) (by rw [e]; split <;> omega), e, List.count_cons]
  by_cases h : j = k
  · subst h; simp; omega
  have : (k == j) = false := beq_eq_false_iff_ne.2 (fun q => h q.symm)
  simp [h, this]
def cntL (r : List Nd) (j : Int) : Nat := (r.map fun n => n.f2.count j).sum
def allL (r : List Nd) : Nat := (r.map fun n => n.f2.length).sum
theorem usesB_rd (l : List Nd) : ∀ (r : List Nd) (u v : List Int) (j : Int), usesB l r u = some v → u.length = l.length → 0 ≤ j → 0 ≤ rd u j → rd u j + allL r < 4611686018427387904 → rd v j = rd u j + (cntL r j : Nat)
 | [], u, v, j, h, _, _, _, _ => by rw [usesB] at h; cases h; simp [cntL]
 | n :: r, u, v, j, h, hu, hj, h0, h1 => by
  rw [usesB] at h
  by_cases c : isN l n = true
  rotate_left
  · rw [if_neg c] at h; cases h
  rw [if_pos c] at h
  have ha : allL (n :: r) = n.f2.length + allL r := by simp [allL]
  have hc : cntL (n :: r) j = n.f2.count j + cntL r j := by simp [cntL]
  have hcl : n.f2.count j ≤ n.f2.length := List.count_le_length
  have e := bumps_rd n.f2 u j (fun k hk => by rw [hu]; exact isN_range c k hk) hj h0 (by omega)
  rw [usesB_rd l r _ v j h (by rw [bumps_len]; exact hu) hj (by omega) (by omega), e, hc]
  omega
theorem usesB_some (l : List Nd) : ∀ (r : List Nd) (u : List Int), (∀ n ∈ r, isN l n = true) → ∃ v, usesB l r u = some v
 | [], u, _ => ⟨u, rfl⟩
 | n :: r, u, h => by
  rw [usesB, if_pos (h n List.mem_cons_self)]
  exact usesB_some l r _ (fun m hm => h m (List.mem_cons_of_mem _ hm))
theorem soleB_iff (u : List Int) : ∀ r : List Nd, soleB u r = true ↔ ∀ n ∈ r, ∀ k ∈ keysB n.f0 n.f2, rd u k ≤ 1
 | [] => by simp [soleB]
 | n :: r => by
  rw [soleB]
  by_cases c : soleN u n = true
  ·
   rw [if_pos c]
   refine ⟨fun h => (by cases h), fun h => ?_⟩
   unfold soleN at c
   obtain ⟨k, hk, hd⟩ := List.any_eq_true.1 c
   have := h n List.mem_cons_self k hk
   have := of_decide_eq_true hd
   omega
  rw [if_neg c, soleB_iff u r]
  have c2 := List.any_eq_false.1 (Bool.eq_false_iff.2 c)
  refine ⟨fun h m hm => ?_, fun h m hm => h m (List.mem_cons_of_mem _ hm)⟩
  rcases List.mem_cons.1 hm with e | e
  ·
   subst e
   intro k hk
   have := c2 k hk
   simp at this
   omega
  · exact h m e
theorem all_le (l : List Nd) (N : Nat) (h : ∀ m ∈ l, m.f2.length ≤ N) : allL l ≤ l.length * N := by
 induction l with
 | nil => simp [allL]
 | cons n r ih =>
  have := ih (fun m hm => h m (List.mem_cons_of_mem _ hm))
  have := h n List.mem_cons_self
  simp only [allL, List.map_cons, List.sum_cons, List.length_cons] at *
  rw [Nat.add_mul]; omega
structure RightG (l : List Nd) (root : Int) : Prop where
 ne : l.length ≠ 0
 le : l.length ≤ 4096
 r0 : 0 ≤ root
 r1 : root < (l.length : Int)
 is : ∀ n ∈ l, isN l n = true
 sole : ∀ n ∈ l, ∀ k ∈ keysB n.f0 n.f2, cntL l k + (if k = root then 1 else 0) ≤ 1
theorem sizes_iff {l : List Nd} (hs : sizesB l = true) : ∀ m ∈ l, m.f1.size ≤ 1099511627775 ∧ m.f2.length ≤ 1099511627776 := fun m hm => by
 have := List.all_eq_true.1 hs m hm
 simp at this
 exact this
theorem right_iff (l : List Nd) (root : Int) (hs : sizesB l = true) : rightB l root = true ↔ RightG l root := by
 unfold rightB
 by_cases k0 : l.length = 0
 · rw [if_pos k0]; exact ⟨fun h => (by cases h), fun h => absurd k0 h.ne⟩
 rw [if_neg k0]
 by_cases k1 : 4096 < l.length
 · rw [if_pos k1]; exact ⟨fun h => (by cases h), fun h => absurd h.le (by omega)⟩
 rw [if_neg k1]
 by_cases k2 : root < 0
 · rw [if_pos k2]; exact ⟨fun h => (by cases h), fun h => absurd h.r0 (by omega)⟩
 rw [if_neg k2]
 by_cases k3 : (l.length : Int) ≤ root
 · rw [if_pos k3]; exact ⟨fun h => (by cases h), fun h => absurd h.r1 (by omega)⟩
 rw [if_neg k3]
 have hal : allL l ≤ 4096 * 1099511627776 := Nat.le_trans (all_le l _ (fun m hm => (sizes_iff hs m hm).2)) (Nat.mul_le_mul_right _ (by omega))
 have e0 : ∀ j : Int, 0 ≤ j → rd (bump (List.replicate l.length 0) root) j = if j = root then 1 else 0 := fun j hj => by
  have := bumps_rd [root] (List.replicate l.length 0) j (fun k hk => by rw [List.mem_singleton.1 hk, List.length_replicate]; omega) hj (by unfold rd; simp [List.getD_eq_getElem?_getD, List.getElem?_replicate]; split <;> simp) (by unfold rd; simp [List.getD_eq_getElem?_getD, List.getElem?_replicate]; split <;> simp)
  rw [List.foldl_cons, List.foldl_nil] at this
  rw [this]
  have z : rd (List.replicate l.length 0) j = 0 := by unfold rd; simp [List.getD_eq_getElem?_getD, List.getElem?_replicate]; split <;> simp
  rw [z]
  by_cases e : j = root
  · subst e; simp
  have : (root == j) = false := beq_eq_false_iff_ne.2 (fun q => e q.symm)
  simp [e, List.count_cons, this]
 have e1 : ∀ v, usesB l l (bump (List.replicate l.length 0) root) = some v → ∀ j : Int, 0 ≤ j → rd v j = (if j = root then 1 else 0) + (cntL l j : Nat) := fun v hv j hj => by
  have := usesB_rd l l _ v j hv (by rw [bump_len, List.length_replicate]) hj (by rw [e0 j hj]; split <;> omega) (by rw [e0 j hj]; split <;> omega)
  rw [this, e0 j hj]
 constructor
 ·
  intro h
  split at h
  · cases h
  ·
   rename_i u hu
   refine ⟨k0, by omega, by omega, by omega, usesB_all l l _ u hu, fun n hn k hk => ?_⟩
   have h1 := (soleB_iff u l).1 h n hn k hk
   have h2 := isN_range (usesB_all l l _ u hu n hn) k (keys_sub _ _ k hk)
   rw [e1 u hu k h2.1] at h1
   split at h1 <;> rename_i h3
   · rw [if_pos h3]; omega
   · rw [if_neg h3]; omega
 ·
  intro h
  obtain ⟨u, hu⟩ := usesB_some l l (bump (List.replicate l.length 0) root) h.is
  rw [hu]
  refine (soleB_iff u l).2 fun n hn k hk => ?_
  have h1 := h.sole n hn k hk
  have h2 := isN_range (h.is n hn) k (keys_sub _ _ k hk)
  rw [e1 u hu k h2.1]
  split at h1 <;> rename_i h3
  · rw [if_pos h3]; omega
  · rw [if_neg h3]; omega
def odds : List Int → List Int
 | _ :: b :: r => b :: odds r
 | _ => []
def valsB (kd : Int) (kids : List Int) : List Int := if kd = 6 then odds kids else kids
theorem evens_odds (k : Int) : ∀ l : List Int, l.length % 2 = 0 → l.count k = (evens l).count k + (odds l).count k
 | [], _ => rfl
 | [_], h => by simp at h
 | a :: b :: r, h => by
  have := evens_odds k r (by simp only [List.length_cons] at h; omega)
  simp only [evens, odds, List.count_cons, this]
  omega
theorem metB_keys (l : List Nd) : ∀ (ks : List Int) (met : List (Int × ByteArray)), metB l ks met = true → (ks.map (keyIs l)).Nodup ∧ ∀ k ∈ ks, scB (rd_T45 l k).f0 = true ∧ keyIs l k ∉ met
 | [], _, _ => ⟨List.nodup_nil, fun k h => by simp at h⟩
 | k :: ks, met, h => by
  rw [metB] at h
  by_cases h1 : scB (rd_T45 l k).f0 = true
  rotate_left
  · rw [if_neg h1] at h; cases h
  rw [if_pos h1] at h
  by_cases h2 : met.any (fun y => decide (y = keyIs l k)) = true
  · rw [if_pos h2] at h; cases h
  rw [if_neg h2] at h
  obtain ⟨a, b⟩ := metB_keys l ks _ h
  have h3 : keyIs l k ∉ met := fun hm => h2 (List.any_eq_true.2 ⟨_, hm, decide_eq_true rfl⟩)
  refine ⟨?_, fun x hx => ?_⟩
  ·
   rw [List.map_cons, List.nodup_cons]
   refine ⟨fun hm => ?_, a⟩
   obtain ⟨y, hy, e⟩ := List.mem_map.1 hm
   exact (b y hy).2 (e ▸ List.mem_cons_self)
  ·
   rcases List.mem_cons.1 hx with e | e
   · subst e; exact ⟨h1, h3⟩
   · exact ⟨(b x e).1, fun hm => (b x e).2 (List.mem_cons_of_mem _ hm)⟩
structure NodeG (l : List Nd) (n : Nd) : Prop where
 k1 : 1 ≤ n.f0
 k6 : n.f0 ≤ 6
 text : textB n.f0 n.f1 = true
 scal : n.f0 ≤ 4 → n.f2 = []
 even : n.f0 = 6 → n.f2.length % 2 = 0
 range : ∀ k ∈ n.f2, 0 ≤ k ∧ k < (l.length : Int)
 nodup : ((keysB n.f0 n.f2).map (keyIs l)).Nodup
 keys : ∀ k ∈ keysB n.f0 n.f2, 1 ≤ (rd_T45 l k).f0 ∧ (rd_T45 l k).f0 ≤ 4
theorem isN_node {l : List Nd} {n : Nd} (h : isN l n = true) : NodeG l n := by
 have hr := isN_range h
 unfold isN nodeB at h
 split at h; · cases h
 split at h; · cases h
 split at h; · cases h
 split at h; · cases h
 split at h; · cases h
 rename_i h1 h2 h3 h4 h5
 obtain ⟨a, b⟩ := metB_keys l _ _ h
 have h4' := Bool.eq_false_iff.2 h4
 rw [Bool.or_eq_false_iff] at h4'
 refine ⟨by omega, by omega, by simpa using h3, fun h => ?_, fun h => ?_, hr, a, fun k hk => ?_⟩
 ·
  have h6 := h4'.1
  have : scB n.f0 = true := by unfold scB; rw [decide_eq_true (by omega : 1 ≤ n.f0), decide_eq_true h]; rfl
  rw [this, Bool.true_and, decide_eq_false_iff_not] at h6
  exact List.eq_nil_of_length_eq_zero (by omega)
 ·
  have h6 := h4'.2
  rw [h] at h6
  simp at h6
  exact h6
 ·
  have := (b k hk).1
  unfold scB at this
  rw [Bool.and_eq_true, decide_eq_true_eq, decide_eq_true_eq] at this
  exact this
theorem sum_mem {f : Nd → Nat} : ∀ (r : List Nd) (n : Nd), n ∈ r → f n ≤ (r.map f).sum
 | [], n, h => by simp at h
 | m :: r, n, h => by
  rw [List.map_cons, List.sum_cons]
  rcases List.mem_cons.1 h with e | e
  · subst e; omega
  · have := sum_mem (f := f) r n e; omega
theorem cnt_split (r : List Nd) (k : Int) (h : ∀ n ∈ r, n.f0 = 6 → n.f2.length % 2 = 0) : cntL r k = (r.map fun n => (keysB n.f0 n.f2).count k).sum + (r.map fun n => (valsB n.f0 n.f2).count k).sum := by
 induction r with
 | nil => rfl
 | cons n r ih =>
  have h1 := ih (fun m hm => h m (List.mem_cons_of_mem _ hm))
  have h2 : n.f2.count k = (keysB n.f0 n.f2).count k + (valsB n.f0 n.f2).count k := by
   unfold keysB valsB
   by_cases e : n.f0 = 6
   rotate_left
   · rw [if_neg e, if_neg e]; simp
   rw [if_pos e, if_pos e]; exact evens_odds k _ (h n List.mem_cons_self e)
  simp only [cntL, List.map_cons, List.sum_cons] at *
  omega
theorem RightG.node {l : List Nd} {root : Int} (h : RightG l root) {n : Nd} (hn : n ∈ l) : NodeG l n := isN_node (h.is n hn)
end Go.Proofs.YtnjcpoojgmpmeaaGreatDoor.Graphs
namespace Go.Proofs.YtnjcpoojgmpmeaaGreatDoor.Plug
open RowKit YtnjcpoojgmpmeaaGreatDoor YtnjcpoojgmpmeaaGreatDoor.PX YtnjcpoojgmpmeaaGreatDoor.Utf YtnjcpoojgmpmeaaGreatDoor.Mapk YtnjcpoojgmpmeaaGreatDoor.Graphs YtnjcpoojgmpmeaaGreatDoorW.PrintWords YtnjcpoojgmpmeaaGreatDoorW.PrintLast YtnjcpoojgmpmeaaGreatDoorW.PrintMore
attribute [local go_sem] max2_int max_two
abbrev WS := List Bool × List Int × Int
def goO (l : List Nd) : Nat → Int → Int → WS → Option WS
 | 0, _, _, _ => none
 | k + 1, at_, deep, s => if rdOf false s.1 at_ = true then some s else
  (rd_T45 l at_).f2.foldlM (fun s x => goO l k x (deep + 1) s) (s.1.set at_.toNat true, s.2.1 ++ [at_], if s.2.2 < deep then deep else s.2.2)
structure Wk (w0 : World) (wb mb cp : Nat) (A0 : Option Addr) (n0 c0 : Nat) (root : Int) (vo : Value) (s : WS) (w : World) : Prop where
 b : w.heap[wb]? = some (.cells #[.slice A0 n0 c0, .int .i64 root, .slice (some ⟨mb, 0, none⟩) n0 cp, vo, .int .i64 s.2.2] 79 (0, 0))
 len : s.1.length = n0
 row : Kd.R Kd.bool 4 w w0.heap.size (fun _ => True) (.slice (some ⟨mb, 0, none⟩) n0 cp) s.1
 out : Kd.R (Kd.int .i64) 3 w w0.heap.size (fun _ => True) vo s.2.1
 bel : Below w0.heap.size w0 w
 ge : w0.heap.size ≤ wb
 cnt : s.2.1.length = s.1.count true
section
variable {w0 : World} {wb mb cp : Nat} {A0 : Option Addr} {n0 c0 : Nat} {root : Int} {vo : Value} {m : List Bool} {o : List Int} {x : Int} {w w' : World}
theorem Wk.cells (h : Wk w0 wb mb cp A0 n0 c0 root vo (m, o, x) w) : w.cell? ⟨wb, 0, none⟩ = some (.slice A0 n0 c0) ∧ w.cell? ⟨wb, 1, none⟩ = some (.int .i64 root) ∧ w.cell? ⟨wb, 2, none⟩ = some (.slice (some ⟨mb, 0, none⟩) n0 cp) ∧ w.cell? ⟨wb, 3, none⟩ = some vo ∧ w.cell? ⟨wb, 4, none⟩ = some (.int .i64 x) :=
  ⟨(blk_cell h.b 0).trans rfl, (blk_cell h.b 1).trans rfl, (blk_cell h.b 2).trans rfl, (blk_cell h.b 3).trans rfl, (blk_cell h.b 4).trans rfl⟩
theorem Wk.at_ (h : Wk w0 wb mb cp A0 n0 c0 root vo (m, o, x) w) (k : Int) (h0 : 0 ≤ k) (h1 : k < (n0 : Int)) : w.cell? ⟨mb, k.toNat, none⟩ = some (.bool (rdOf false m k)) ∧ w.frozen? ⟨mb, k.toNat, none⟩ = false :=
  Kd.R_celln false h.row k h0 h1
theorem Wk.ne (h : Wk w0 wb mb cp A0 n0 c0 root vo (m, o, x) w) : wb ≠ mb := fun e => Kd.R_ne h.row h.b (by decide) (by rw [e]; rfl)
theorem Wk.mark (h : Wk w0 wb mb cp A0 n0 c0 root vo (m, o, x) w) (k : Int) :
  w.grownBy (w.setCell ⟨mb, k.toNat, none⟩ (.bool true)) (some mb) ∧ (w.setCell ⟨mb, k.toNat, none⟩ (.bool true)).heap[wb]? = some (.cells #[.slice A0 n0 c0, .int .i64 root, .slice (some ⟨mb, 0, none⟩) n0 cp, vo, .int .i64 x] 79 (0, 0)) ∧
  Kd.R Kd.bool 4 (w.setCell ⟨mb, k.toNat, none⟩ (.bool true)) w0.heap.size (fun _ => True) (.slice (some ⟨mb, 0, none⟩) n0 cp) (m.set k.toNat true) ∧ Kd.R (Kd.int .i64) 3 (w.setCell ⟨mb, k.toNat, none⟩ (.bool true)) w0.heap.size (fun _ => True) vo o ∧ Below w0.heap.size w0 (w.setCell ⟨mb, k.toNat, none⟩ (.bool true)) := by
 obtain ⟨h1, hg⟩ := Kd.R_putg h.row k true
 exact ⟨hg, (hg.block wb (blk_lt h.b) (fun e => h.ne (Option.some.inj e))).trans h.b, h1, Kd.R_over h.out h.row (by decide) hg, h.bel.trans (below_of_grown hg (Kd.R_base h.row mb rfl) h.bel.size)⟩
theorem count_set : ∀ (m : List Bool) (k : Nat), k < m.length → m.getD k false = false → (m.set k true).count true = m.count true + 1
 | [], k, h, _ => by simp at h
 | b :: m, 0, _, hb => by
  have : b = false := by simpa using hb
  subst this; simp
 | b :: m, k + 1, h, hb => by
  have := count_set m k (by simpa using h) (by simpa using hb)
  rw [List.set_cons_succ, List.count_cons, List.count_cons, this]; omega
end
set_option maxHeartbeats 8000000 in
set_option maxRecDepth 100000 in
theorem to_is (w0 : World) (wb mb cp : Nat) (A0 : Option Addr) (c0 : Nat) (l : List Nd) (root : Int) (hr : Kd.C k45 w0 A0 l.length l) (hl : l.length ≤ 4096) (hz : ∀ n ∈ l, n.f2.length ≤ 1099511627776) (hk : ∀ n ∈ l, ∀ k ∈ n.f2, 0 ≤ k ∧ k < (l.length : Int)) :
  ∀ (k : Nat) (at_ deep : Int) (vo : Value) (s s' : WS) (w : World), Wk w0 wb mb cp A0 l.length c0 root vo s w → goO l k at_ deep s = some s' → 0 ≤ at_ → at_ < (l.length : Int) → 0 ≤ deep → deep + k ≤ 4611686018427387904 →
   Calls Tryz.prog 54 #[.pointer (some ⟨wb, 0, none⟩), .int .i64 at_, .int .i64 deep] w fun e w' => e = .returned (.tuple #[]) ∧ ∃ vo', Wk w0 wb mb cp A0 l.length c0 root vo' s' w' := by
 intro k
 induction k with
 | zero => intro at_ deep vo s s' w _ h; simp [goO] at h
 | succ k ih =>
  intro at_ deep vo s s' w hW h h0 h1 hd0 hd1
  obtain ⟨m, o, x⟩ := s
  rw [goO] at h
  dsimp only at h
  have HR := Lib.hid hr
  have HW := Lib.hid hW
  have HZ := Lib.hid hz
  have HKK := Lib.hid hk
  have HIH := Lib.hid ih
  clear hr hW hz hk ih
  obtain ⟨x0, x1, x2, x3, x4⟩ := HW.out.cells
  obtain ⟨y0, y1⟩ := HW.out.at_ at_ h0 h1
  have p1 : (0 ≤ at_) = True := eq_true h0
  have p2 : (at_ < (l.length : Int)) = True := eq_true h1
  by_cases hm : rdOf false m at_ = true
  ·
   rw [if_pos hm] at h
   have HF := Lib.hid (Option.some.inj h)
   rw [hm] at y0
   clear h hm
   go_enter Tryz.func54, Tryz.ntmps54
   go_wp2
   (try simp only [Exit.inBlock, Exit.then])
   refine bodyPost_ret (results_none rfl _ _ _) rfl ?_
   exact ⟨rfl, vo, by rw [← HF.out]; exact HW.out⟩
  rw [if_neg hm] at h
  have HS := Lib.hid h
  have hm' := Bool.eq_false_iff.2 hm
  rw [hm'] at y0
  have hmem := rd_mem l at_ h0 h1
  obtain ⟨bd, A2, c2, eA, _, _, g2, hc2, hC⟩ := at_T45 HR.out at_ h0 h1
  subst eA
  have hkr := HKK.out _ hmem
  have hkz := HZ.out _ hmem
  generalize (rd_T45 l at_).f2 = kids at *
  have HC := Lib.hid hC
  have HKR := Lib.hid hkr
  obtain ⟨hg, hb, hro, hou, hbl⟩ := HW.out.mark at_
  have hcs : (m.set at_.toNat true).count true = m.count true + 1 := count_set m at_.toNat (by have := HW.out.len; dsimp only at this; omega) hm'
  have hol : o.length = m.count true := HW.out.cnt
  have hml : m.length = l.length := HW.out.len
  have hcl : m.count true ≤ m.length := List.count_le_length
  have HBK := Lib.hid hb
  have HRO := Lib.hid hro
  have HOU := Lib.hid hou
  have HBL := Lib.hid hbl
  have HGE := Lib.hid HW.out.ge
  have HCN := Lib.hid (show (o ++ [at_]).length = (m.set at_.toNat true).count true by rw [List.length_append, List.length_singleton, hcs]; omega)
  have HLN := Lib.hid (show (m.set at_.toNat true).length = l.length by rw [List.length_set]; exact hml)
  have z0 := (blk_cell hb 0).trans rfl
  have z1 := (blk_cell hb 1).trans rfl
  have z2 := (blk_cell hb 2).trans rfl
  have z3 := (blk_cell hb 3).trans rfl
  have z4 := (blk_cell hb 4).trans rfl
  clear h hm hm' hg hb hro hou hbl hC hkr hmem hcs
  obtain ⟨M, hM⟩ : ∃ M, (if x < deep then deep else x) = M := ⟨_, rfl⟩
  rw [hM] at HS
  go_enter Tryz.func54, Tryz.ntmps54
  go_wp2_with (first | (at_builtin; refine Kd.R_append (Kd.int .i64) (w0 := w0) w0.heap.size rfl (.tmp 25) (.tmp 27) 40 3 (.int .i64 0) 8 rfl Tryz.underlying40 info3 rfl (by decide) (by omega) _ o at_ [.int .i64 at_] (fun _ => True) (fun _ => False) rfl (by first | (go_simp; done) | (go_simp; rfl)) rfl (fun _ hk => hk.elim) (fun _ _ => trivial) HOU.out HBL.out HBL.out.size (by omega) ?_; intro v7 w7 ho hb hg hat; obtain ⟨A7, c7, ev⟩ := Kd.R_slice ho; obtain ⟨n7, hn7⟩ : ∃ n, (o ++ [at_]).length = n := ⟨_, rfl⟩; rw [hn7] at ev; subst ev; clear hn7; have b7 := (hg.block wb (blk_lt HBK.out) (Kd.R_ne HOU.out HBK.out (by decide))).trans HBK.out; have r7 := Kd.R_over HRO.out HOU.out (by decide) hg; have b8 : (w7.setCell ⟨wb, 3, none⟩ (.slice A7 n7 c7)).heap[wb]? = some (.cells #[.slice (some bd) l.length c0, .int .i64 root, .slice (some ⟨mb, 0, none⟩) l.length cp, .slice A7 n7 c7, .int .i64 x] 79 (0, 0)) := (by simpa using blk_set b7 3 (.slice A7 n7 c7)); have b9 : ((w7.setCell ⟨wb, 3, none⟩ (.slice A7 n7 c7)).setCell ⟨wb, 4, none⟩ (.int .i64 M)).heap[wb]? = some (.cells #[.slice (some bd) l.length c0, .int .i64 root, .slice (some ⟨mb, 0, none⟩) l.length cp, .slice A7 n7 c7, .int .i64 M] 79 (0, 0)) := (by simpa using blk_set b8 4 (.int .i64 M)); have l9 : Below w0.heap.size w0 ((w7.setCell ⟨wb, 3, none⟩ (.slice A7 n7 c7)).setCell ⟨wb, 4, none⟩ (.int .i64 M)) := (hb.setCell (p := ⟨wb, 3, none⟩) HGE.out _).setCell (p := ⟨wb, 4, none⟩) HGE.out _; have HW9 := Lib.hid (Wk.mk (s := (m.set at_.toNat true, o ++ [at_], M)) b9 HLN.out (Kd.R_set (Kd.R_set r7 b7 (by decide) 3 (.slice A7 n7 c7)) b8 (by decide) 4 _) (Kd.R_set (Kd.R_set ho b7 (by decide) 3 (.slice A7 n7 c7)) b8 (by decide) 4 _) l9 HGE.out HCN.out); have u0 := (blk_cell b7 0).trans rfl; have u3 := (blk_cell b7 3).trans rfl; have v4 := (blk_cell b8 4).trans rfl; have f7 := blk_frozen b7 3; have f8 := blk_frozen b8 4; have t0 := (blk_cell b9 0).trans rfl; have g9 := (l9.cell (World.block_lt_of_cell? w0 _ g2)).trans g2; clear ho hb hg hat b7 r7 b8 b9 l9))
  clear x0 x1 x2 x3 x4 y0 y1 z0 z1 z2 z3 z4 p1 p2 g2 u0 u3 v4 f7 f8 t0 g9 HW HBK HRO HOU HBL HCN HLN hM
  go_loopw [50] (fun v wr => ∃ (j : Nat) (vo : Value) (s : WS), v = .int .i64 j ∧ j ≤ kids.length ∧ Hid ((kids.drop j).foldlM (fun s x => goO l k x (deep + 1) s) s = some s') ∧ Hid (Wk w0 wb mb cp (some bd) l.length c0 root vo s wr)) (fun v _ => kids.length - (intOf v).toNat)
  case atStart => exact ⟨0, _, _, rfl, by omega, HS, HW9⟩
  case round =>
   obtain ⟨j, vo2, s2, rfl, hj, hst, HWR⟩ := hrel
   clear HS HW9
   by_cases hlt : j < kids.length
   rotate_left
   ·
    have hc : decide ((j : Int) < (kids.length : Int)) = false := decide_eq_false (by omega)
    have hst2 := hst.out
    rw [List.drop_of_length_le (by omega), List.foldlM_nil] at hst2
    have HF := Lib.hid (Option.some.inj hst2)
    clear hst hst2
    go_wp2
    go_end0
    exact ⟨rfl, vo2, by rw [← HF.out]; exact HWR.out⟩
   have hc : decide ((j : Int) < (kids.length : Int)) = true := decide_eq_true (by omega)
   obtain ⟨cd, eA2, hx⟩ := Kd.at_int (Kd.C_below HC.out HWR.out.bel) (j : Int) (by omega) (by omega)
   subst eA2
   rw [rd_at kids j hlt, Int.toNat_natCast] at hx
   have hst2 := hst.out
   rw [List.drop_eq_getElem_cons hlt, List.foldlM_cons] at hst2
   obtain ⟨j0, j1⟩ := HKR.out kids[j] (List.getElem_mem hlt)
   generalize kids[j] = kx at *
   obtain ⟨s3, hs3⟩ : ∃ s3, goO l k kx (deep + 1) s2 = some s3 := by
    cases hv : goO l k kx (deep + 1) s2 with
    | none => rw [hv] at hst2; cases hst2
    | some s3 => exact ⟨s3, rfl⟩
   rw [hs3] at hst2
   have HST := Lib.hid (show (kids.drop (j + 1)).foldlM (fun s x => goO l k x (deep + 1) s) s3 = some s' from hst2)
   have HGO := Lib.hid hs3
   have HJ := Lib.hid (And.intro j0 j1)
   have HL := Lib.hid hlt
   have p3 : (0 ≤ (j : Int)) = True := eq_true (by omega)
   have p4 : ((j : Int) < (kids.length : Int)) = True := eq_true (by omega)
   have hwd : wrap64 (deep + 1) = deep + 1 := by unfold wrap64; omega
   clear hst hst2 hs3 j0 j1
   go_wp2_with (first | (go_at_call 54; refine (HIH.out kx (deep + 1) vo2 s2 s3 _ HWR.out HGO.out HJ.out.1 HJ.out.2 (by omega) (by omega)).mono ?_; rintro e w9 ⟨rfl, vo3, hW3⟩; have HW3 := Lib.hid hW3; clear hW3))
   go_roundw
   case rel => have := HL.out; exact ⟨j + 1, vo3, s3, by go_num, HL.out, HST, HW3⟩
   case measure => have := HL.out; simp [intOf]; omega
end Go.Proofs.YtnjcpoojgmpmeaaGreatDoor.Plug
