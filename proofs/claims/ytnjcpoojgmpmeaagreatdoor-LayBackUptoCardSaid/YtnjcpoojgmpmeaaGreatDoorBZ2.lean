/- Texts that stand behind one another, laid into one: what this claim needs of them. -/
import Derived.Test.YtnjcpoojgmpmeaaGreatDoorBZ1
import Derived.Maps.OwnSet
import Derived.Maps.Views
import Derived.DeepKeys4
import Derived.Deep.LoopGhost
import Derived.Lib.AppendIntMem
import Derived.Outline
import Derived.Deep.QuietTactic
import Derived.BigQuiet
import Derived.Lib.SliceRun
import Derived.RangeFuncBox
import Derived.Lib.ItoaLen
namespace Go.Proofs.YtnjcpoojgmpmeaaGreatDoor.Plug
open RowKit YtnjcpoojgmpmeaaGreatDoor YtnjcpoojgmpmeaaGreatDoor.PX YtnjcpoojgmpmeaaGreatDoor.Utf YtnjcpoojgmpmeaaGreatDoorW.PrintWords YtnjcpoojgmpmeaaGreatDoorW.PrintLast YtnjcpoojgmpmeaaGreatDoorW.PrintMore
set_option linter.unusedVariables false
set_option linter.unusedSimpArgs false
def flow_Right.f (a0 : Int) (a1 a2 : ByteArray) (l3 : List S29) : Option Bool := (rgtO 67 ⟨a0, a1, a2, l3⟩ 0 4096).map (·.1)
set_option maxHeartbeats 8000000 in
set_option maxRecDepth 100000 in
theorem flow_Right.calls (a0 : Int) (a1 a2 : ByteArray) (A3 : Option Addr) (c3 : Nat) (l3 : List S29) (r : Bool) (w : World) (hr : Kd.C k29 w A3 l3.length l3) (hc : l3.length ≤ c3) (hG : Glob.G w) (h : flow_Right.f a0 a1 a2 l3 = some r) :
  Calls Tryz.prog 24 #[.agg #[.int .i64 a0, .string a1, .string a2, .slice A3 l3.length c3]] w fun e w' => e = .returned (.bool r) ∧ Below w.heap.size w w' := by
 obtain ⟨p, hp1, hp2⟩ := Option.map_eq_some_iff.1 h
 obtain ⟨b, lf⟩ := p
 dsimp only at hp2
 subst hp2
 have HP := Lib.hid hp1
 have HR := Lib.hid hr
 clear h hr hp1
 go_enter Tryz.func24, Tryz.ntmps24
 go_wp2_with (first | ((with_reducible refine gate_dst (N := 1) rfl ?_); refine box_event ?hg (N := 1) ?hd (cs := #[.int .i64 a0, .string a1, .string a2, .slice A3 l3.length c3]) (t := 29) ?hr ?_; (case hd => rfl); (case hg => rfl); (case hr => first | (go_simp; done) | (go_simp; rfl)); intro tb ht w1 htb hb1; have HTB := Lib.hid htb; have HB1 := Lib.hid hb1; clear htb hb1 ht; have HTB2 := Lib.hid ((Lib.alloc_old w1 (.cells #[.int .i64 4096] 92) tb (blk_lt HTB.out)).trans HTB.out); have x0 := (blk_cell HTB2.out 0).trans rfl; have x1 := (blk_cell HTB2.out 1).trans rfl; have x2 := (blk_cell HTB2.out 2).trans rfl; have x3 := (blk_cell HTB2.out 3).trans rfl; have HC := Lib.hid (blk_new w1 (.cells #[.int .i64 4096] 92)); have HB2 := Lib.hid (below_alloc HB1.out (.cells #[.int .i64 4096] 92)); have hwb : w.heap.size ≤ w1.heap.size := HB1.out.size) | (go_at_call 40; refine (right_is w hG w1.heap.size hwb 67 ⟨a0, a1, a2, l3⟩ 0 4096 b lf _ A3 c3 HR.out hc HB2.out HC.out HP.out (by omega) (by omega) (by omega) (by omega)).mono ?_; rintro e w9 ⟨rfl, hb9, _, _⟩; have HB9 := Lib.hid hb9; clear hb9))
 go_ret
 exact ⟨rfl, HB9.out⟩
def putsT (f : S29 → Option (List UInt8)) : Nat → List S29 → Option (List UInt8)
 | _, [] => some []
 | i, k :: r => match f k, putsT f (i + 1) r with
  | some x, some y => some ((if i = 0 then [] else [44, 32]) ++ (x ++ y))
  | _, _ => none
def putT : Nat → S29 → Option (List UInt8)
 | 0, _ => none
 | K + 1, t =>
  if 1099511627776 < t.f3.length ∨ 1099511627776 < t.f2.size then none
  else if t.f0 = 7 then some (42 :: t.f2.data.toList)
  else if t.f0 = 3 then (if t.f2.toList = [] then some t.f1.data.toList else none)
  else if t.f0 = 5 then (if t.f2.toList = [] then none else (putsT (putT K) 0 t.f3).map fun x => (38 :: (t.f2.data.toList ++ [32])) ++ (91 :: (x ++ [93])))
  else none
structure Pw (w0 W : World) (b tb : Nat) (kd : Int) (tx an : ByteArray) (v : Value) (l : List UInt8) (Z : World) : Prop where
 bld : Lib.IsBuilderF 99 5 b b (Lib.byteCells l) Z
 box : Z.heap[tb]? = some (.cells #[.int .i64 kd, .string tx, .string an, v] 29)
 bel : Below w0.heap.size w0 Z
 kp : Lib.OthersKept 5 (some b) W Z
 lt : w0.heap.size ≤ b ∧ b < W.heap.size ∧ W.heap.size ≤ tb ∧ W.heap.size ≤ Z.heap.size
section
variable {w0 W Z Z' : World} {b tb : Nat} {kd : Int} {tx an : ByteArray} {v : Value} {l l' : List UInt8}
theorem kept_ (h : Below Z.heap.size Z Z') : Lib.OthersKept 5 (some b) Z Z' := by
 intro k o hk _ _
 exact (h.block k (Bld.at_lt hk)).trans hk
theorem Pw.cells (h : Pw w0 W b tb kd tx an v l Z) : Z.cell? ⟨tb, 0, none⟩ = some (.int .i64 kd) ∧ Z.cell? ⟨tb, 1, none⟩ = some (.string tx) ∧ Z.cell? ⟨tb, 2, none⟩ = some (.string an) ∧ Z.cell? ⟨tb, 3, none⟩ = some v :=
  ⟨(blk_cell h.box 0).trans rfl, (blk_cell h.box 1).trans rfl, (blk_cell h.box 2).trans rfl, (blk_cell h.box 3).trans rfl⟩
theorem Pw.call (h : Pw w0 W b tb kd tx an v l Z) (hbl : Lib.IsBuilderF 99 5 b b (Lib.byteCells l') Z') (hb : Below w0.heap.size w0 Z') (hk : Lib.OthersKept 5 (some b) Z Z') (hs : Z.heap.size ≤ Z'.heap.size) : Pw w0 W b tb kd tx an v l' Z' := by
 obtain ⟨l1, l2, l3, l4⟩ := h.lt
 exact ⟨hbl, hk tb _ h.box (fun e => by have := Option.some.inj e; omega) (fun c fz e => by injection e with e1 e2; exact absurd e2 (by decide)), hb, h.kp.trans hk, by omega⟩
theorem Pw.below (h : Pw w0 W b tb kd tx an v l Z) (hb : Below Z.heap.size Z Z') : Pw w0 W b tb kd tx an v l Z' :=
  h.call (bld_below h.bld hb) (h.bel.trans (hb.mono h.bel.size)) (kept_ hb) hb.size
theorem Pw.text (h : Pw w0 W b tb kd tx an v l Z) (s : ByteArray) (hl : l.length + s.size ≤ 70368744177664) :
  Calls Tryz.prog 63 #[.pointer (some ⟨b, 0, none⟩), .string s] Z fun e Z' => ∃ n : Int, e = .returned (.tuple #[.int .i64 n, .nilIface]) ∧ Pw w0 W b tb kd tx an v (l ++ s.data.toList) Z' ∧ Lib.OthersKept 5 (some b) Z Z' :=
 (Bld.text 99 Bld.lies_plain b b _ s Z h.bld (by rw [Lib.byteCells_length]; omega) (by have := h.lt; omega)).mono fun e Z' ⟨he, h1, h2, h3⟩ => ⟨_, he, h.call (by rw [Lib.byteCells_append]; exact .inr h1) (h.bel.trans (h2.mono h.lt.1)) h3 h2.size, h3⟩
theorem Pw.byte (h : Pw w0 W b tb kd tx an v l Z) (c : UInt8) (hl : l.length ≤ 70368744177664) :
  Calls Tryz.prog 65 #[.pointer (some ⟨b, 0, none⟩), .int .u8 (c.toNat : Int)] Z fun e Z' => e = .returned .nilIface ∧ Pw w0 W b tb kd tx an v (l ++ [c]) Z' :=
 (Bld.byte 99 Bld.lies_plain b b _ (c.toNat : Int) Z h.bld (by rw [Lib.byteCells_length]; omega) (by have := h.lt; omega)).mono fun e Z' ⟨he, h1, h2, h3⟩ => ⟨he, h.call (by rw [Lib.byteCells_append]; exact .inr h1) (h.bel.trans (h2.mono h.lt.1)) h3 h2.size⟩
end
set_option maxHeartbeats 8000000 in
set_option maxRecDepth 100000 in
theorem scalar_int (tx an : ByteArray) (A3 : Option Addr) (n3 c3 : Nat) (fl : Bool) (w : World) :
  Calls Tryz.prog 64 #[.agg #[.int .i64 3, .string tx, .string an, .slice A3 n3 c3], .bool fl] w fun e w' => e = .returned (.string tx) ∧ Below w.heap.size w w' := by
 obtain ⟨v, hv⟩ : ∃ v, Value.slice A3 n3 c3 = v := ⟨_, rfl⟩
 go_enter Tryz.func64, Tryz.ntmps64
 rw [hv]
 go_wp2_with (first | ((with_reducible refine gate_dst (N := 2) rfl ?_); refine box_event ?hg (N := 2) ?hd (cs := #[.int .i64 3, .string tx, .string an, v]) (t := 29) ?hr ?_; (case hd => rfl); (case hg => rfl); (case hr => first | (go_simp; done) | (go_simp; rfl)); intro tb ht w1 htb hb1; have HTB := Lib.hid htb; have HB1 := Lib.hid hb1; clear htb hb1 ht; have x0 := (blk_cell HTB.out 0).trans rfl; have x1 := (blk_cell HTB.out 1).trans rfl))
 go_ret
 exact ⟨rfl, HB1.out⟩
theorem scalar_int' (kd : Int) (hk : kd = 3) (tx an : ByteArray) (A3 : Option Addr) (n3 c3 : Nat) (fl : Bool) (w : World) :
  Calls Tryz.prog 64 #[.agg #[.int .i64 kd, .string tx, .string an, .slice A3 n3 c3], .bool fl] w fun e w' => e = .returned (.string tx) ∧ Below w.heap.size w w' := by
 subst hk
 exact scalar_int tx an A3 n3 c3 fl w
theorem add_list (a b : ByteArray) : (a ++ b).data.toList = a.data.toList ++ b.data.toList := by simp
set_option maxHeartbeats 8000000 in
set_option maxRecDepth 100000 in
theorem put_is (w0 : World) (b : Nat) (hcb : w0.heap.size ≤ b) :
  ∀ (K : Nat) (t : S29) (l x : List UInt8) (W : World) (A : Option Addr) (c : Nat), Kd.C k29 w0 A t.f3.length t.f3 → t.f3.length ≤ c → Below w0.heap.size w0 W → Lib.IsBuilderF 99 5 b b (Lib.byteCells l) W → b < W.heap.size → putT K t = some x → l.length + x.length ≤ 70368744177664 →
   Calls Tryz.prog 43 #[.pointer (some ⟨b, 0, none⟩), .agg #[.int .i64 t.f0, .string t.f1, .string t.f2, .slice A t.f3.length c]] W fun e W' => e = .returned (.tuple #[]) ∧ Lib.IsBuilderF 99 5 b b (Lib.byteCells (l ++ x)) W' ∧ Below w0.heap.size w0 W' ∧ Lib.OthersKept 5 (some b) W W' ∧ W.heap.size ≤ W'.heap.size := by
 intro K
 induction K with
 | zero => intro t l x W A c _ _ _ _ _ h; unfold putT at h; cases h
 | succ K ih =>
  intro t l x W A c hr hc hb hbl hbs h hlen
  obtain ⟨kd, tt, an, kids⟩ := t
  rw [putT] at h
  dsimp only at h hr hc ⊢
  have HR := Lib.hid hr
  have HB := Lib.hid hb
  have HBL := Lib.hid hbl
  have IH := Lib.hid ih
  clear hr hb hbl ih
  by_cases hz : 1099511627776 < kids.length ∨ 1099511627776 < an.size
  · rw [if_pos hz] at h; cases h
  rw [if_neg hz] at h
  have hz1 : kids.length ≤ 1099511627776 := by omega
  have hz2 : an.size ≤ 1099511627776 := by omega
  clear hz
  have HS1 : Hid (∀ W : World, (Op.stringOp .add ⟨#[42]⟩ an).run Tryz.prog W = .ok (.string (⟨#[42]⟩ ++ an)) W) := Lib.hid (fun W => run_string_add_sum W _ _ (by rw [show (⟨#[42]⟩ : ByteArray).size = 1 from rfl]; omega))
  by_cases c7 : kd = 7
  ·
   rw [if_pos c7] at h
   have HX := Lib.hid (Option.some.inj h)
   have q7 : (kd == 7) = true := beq_iff_eq.2 c7
   have hadd := HS1.out
   have hl2 : l.length + (⟨#[42]⟩ ++ an : ByteArray).size ≤ 70368744177664 := by
    rw [← HX.out] at hlen
    rw [ByteArray.size_append, show (⟨#[42]⟩ : ByteArray).size = 1 from rfl]
    have := size_list an
    simp only [List.length_cons] at hlen
    omega
   clear h c7
   go_enter Tryz.func43, Tryz.ntmps43
   go_wp2_with (first | ((with_reducible refine gate_dst (N := 3) rfl ?_); refine box_event ?hg (N := 3) ?hd (cs := #[.int .i64 kd, .string tt, .string an, .slice A kids.length c]) (t := 29) ?hr ?_; (case hd => rfl); (case hg => rfl); (case hr => first | (go_simp; done) | (go_simp; rfl)); intro tb ht w1 htb hb1; have HX1 := Lib.hid (Pw.mk (w0 := w0) (W := W) (bld_below HBL.out hb1) htb (HB.out.trans (hb1.mono HB.out.size)) (kept_ hb1) ⟨hcb, hbs, by rw [ht]; exact Nat.le_refl _, hb1.size⟩); clear htb hb1 ht; obtain ⟨x0, x1, x2, x3⟩ := HX1.out.cells) | (go_at_call 63; refine (HX1.out.text _ hl2).mono ?_; rintro e w3 ⟨n3, rfl, hX3, _⟩; have HX3 := Lib.hid hX3; clear hX3))
   (try simp only [Exit.inBlock, Exit.then])
   refine bodyPost_ret (results_none rfl _ _ _) rfl ?_
   refine ⟨rfl, ?_, HX3.out.bel, HX3.out.kp, HX3.out.lt.2.2.2⟩
   have hb3 := HX3.out.bld
   rw [add_list] at hb3
   rw [← HX.out]
   exact hb3
  rw [if_neg c7] at h
  have q7 : (kd == 7) = false := beq_eq_false_iff_ne.2 c7
  by_cases c3 : kd = 3
  ·
   rw [if_pos c3] at h
   by_cases ha : an.toList = []
   rotate_left
   · rw [if_neg ha] at h; cases h
   rw [if_pos ha] at h
   have HX := Lib.hid (Option.some.inj h)
   have HK3 := Lib.hid c3
   have p4 : (an.toList = []) = True := eq_true ha
   have q4 : (an.toList != []) = false := by rw [ha]; rfl
   have t6 : an.toList.isEmpty = true := by rw [ha]; rfl
   have q5 : (kd == 5) = false := beq_eq_false_iff_ne.2 (by omega)
   have q6 : (kd == 6) = false := beq_eq_false_iff_ne.2 (by omega)
   have hl2 : l.length + tt.size ≤ 70368744177664 := by
    rw [← HX.out] at hlen
    have := size_list tt
    omega
   clear h c3 ha c7
   go_enter Tryz.func43, Tryz.ntmps43
   go_wp2_with (first | ((with_reducible refine gate_dst (N := 3) rfl ?_); refine box_event ?hg (N := 3) ?hd (cs := #[.int .i64 kd, .string tt, .string an, .slice A kids.length c]) (t := 29) ?hr ?_; (case hd => rfl); (case hg => rfl); (case hr => first | (go_simp; done) | (go_simp; rfl)); intro tb ht w1 htb hb1; have HX1 := Lib.hid (Pw.mk (w0 := w0) (W := W) (bld_below HBL.out hb1) htb (HB.out.trans (hb1.mono HB.out.size)) (kept_ hb1) ⟨hcb, hbs, by rw [ht]; exact Nat.le_refl _, hb1.size⟩); clear htb hb1 ht; obtain ⟨x0, x1, x2, x3⟩ := HX1.out.cells) | (go_at_call 64; refine (scalar_int' kd HK3.out tt an A kids.length c true _).mono ?_; rintro e w2 ⟨rfl, hb2⟩; have HX2 := Lib.hid (HX1.out.below hb2); clear hb2 x0 x1 x2 x3) | (go_at_call 63; refine (HX2.out.text _ hl2).mono ?_; rintro e w3 ⟨n3, rfl, hX3, _⟩; have HX3 := Lib.hid hX3; clear hX3))
   (try simp only [Exit.inBlock, Exit.then])
   refine bodyPost_ret (results_none rfl _ _ _) rfl ?_
   refine ⟨rfl, ?_, HX3.out.bel, HX3.out.kp, HX3.out.lt.2.2.2⟩
   rw [← HX.out]
   exact HX3.out.bld
  rw [if_neg c3] at h
  by_cases c5 : kd = 5
  rotate_left
  · rw [if_neg c5] at h; cases h
  rw [if_pos c5] at h
  by_cases ha : an.toList = []
  · rw [if_pos ha] at h; cases h
  rw [if_neg ha] at h
  obtain ⟨y, hy1, hy2⟩ := Option.map_eq_some_iff.1 h
  have HY := Lib.hid hy1
  have HX := Lib.hid hy2
  have p4 : (an.toList = []) = False := eq_false ha
  have q4 : (an.toList != []) = true := bne_iff_ne.2 ha
  have t6 : an.toList.isEmpty = false := by rw [← Bool.not_eq_true, List.isEmpty_iff]; exact ha
  have q5 : (kd == 5) = true := beq_iff_eq.2 c5
  have q6 : (kd == 6) = false := beq_eq_false_iff_ne.2 (by omega)
  have hadd1 : ∀ W : World, (Op.stringOp .add ⟨#[38]⟩ an).run Tryz.prog W = .ok (.string (⟨#[38]⟩ ++ an)) W := fun W => run_string_add_sum W _ _ (by rw [show (⟨#[38]⟩ : ByteArray).size = 1 from rfl]; omega)
  have hadd2 : ∀ W : World, (Op.stringOp .add (⟨#[38]⟩ ++ an) ⟨#[32]⟩).run Tryz.prog W = .ok (.string ((⟨#[38]⟩ ++ an) ++ ⟨#[32]⟩)) W := fun W => run_string_add_sum W _ _ (by rw [ByteArray.size_append, show (⟨#[38]⟩ : ByteArray).size = 1 from rfl, show (⟨#[32]⟩ : ByteArray).size = 1 from rfl]; omega)
  have han : an.data.toList.length = an.size := (size_list an).symm
  have hll : l.length + (an.size + 3 + y.length + 1) ≤ 70368744177664 := by
   rw [← hy2] at hlen
   simp only [List.length_append, List.length_cons, List.length_nil] at hlen
   omega
  have hl2 : l.length + ((⟨#[38]⟩ ++ an) ++ ⟨#[32]⟩ : ByteArray).size ≤ 70368744177664 := by
   rw [ByteArray.size_append, ByteArray.size_append, show (⟨#[38]⟩ : ByteArray).size = 1 from rfl, show (⟨#[32]⟩ : ByteArray).size = 1 from rfl]
   omega
  have hl3 : (l ++ ((⟨#[38]⟩ ++ an) ++ ⟨#[32]⟩ : ByteArray).data.toList).length = l.length + an.size + 2 := by
   rw [add_list, add_list]
   simp only [List.length_append, han]
   rw [show (⟨#[38]⟩ : ByteArray).data.toList.length = 1 from rfl, show (⟨#[32]⟩ : ByteArray).data.toList.length = 1 from rfl]
   omega
  have HL0 : Hid ((l ++ ((⟨#[38]⟩ ++ an) ++ ⟨#[32]⟩ : ByteArray).data.toList) ++ [91] = l ++ (38 :: (an.data.toList ++ [32])) ++ [91]) := Lib.hid (by rw [add_list, add_list]; simp)
  clear h hy1 hy2 c5 ha c7 c3
  go_enter Tryz.func43, Tryz.ntmps43
  go_wp2_with (first | ((with_reducible refine gate_dst (N := 3) rfl ?_); refine box_event ?hg (N := 3) ?hd (cs := #[.int .i64 kd, .string tt, .string an, .slice A kids.length c]) (t := 29) ?hr ?_; (case hd => rfl); (case hg => rfl); (case hr => first | (go_simp; done) | (go_simp; rfl)); intro tb ht w1 htb hb1; have HX1 := Lib.hid (Pw.mk (w0 := w0) (W := W) (bld_below HBL.out hb1) htb (HB.out.trans (hb1.mono HB.out.size)) (kept_ hb1) ⟨hcb, hbs, by rw [ht]; exact Nat.le_refl _, hb1.size⟩); clear htb hb1 ht; obtain ⟨x0, x1, x2, x3⟩ := HX1.out.cells) | (go_at_call 63; refine (HX1.out.text _ hl2).mono ?_; rintro e w3 ⟨n3, rfl, hX3, _⟩; have HX3 := Lib.hid hX3; clear hX3 x0 x1 x2 x3; obtain ⟨x0, x1, x2, x3⟩ := HX3.out.cells) | (go_at_call 65; refine (HX3.out.byte 91 (by omega)).mono ?_; rintro e w4 ⟨rfl, hX4⟩; have HX4 := Lib.hid hX4; clear hX4 x0 x1 x2 x3; obtain ⟨x0, x1, x2, x3⟩ := HX4.out.cells))
  clear x0 x1 x2 x3
  clear HX1 HX3 HS1 hadd1 hadd2 HB HBL
  obtain ⟨L0, hL0⟩ : ∃ L, (l ++ ((⟨#[38]⟩ ++ an) ++ ⟨#[32]⟩ : ByteArray).data.toList) ++ [91] = L := ⟨_, rfl⟩
  have HLL : Hid (L0 = l ++ (38 :: (an.data.toList ++ [32])) ++ [91]) := Lib.hid (by rw [← hL0]; exact HL0.out)
  have hLn : L0.length = l.length + an.size + 3 := by rw [← hL0, List.length_append, hl3]; rfl
  rw [hL0] at HX4
  clear hL0 HL0
  go_loopw [41] (fun v wr => ∃ (j : Nat) (acc y2 : List UInt8), v = .int .i64 j ∧ j ≤ kids.length ∧ Hid (putsT (putT K) j (kids.drop j) = some y2) ∧ Hid (acc ++ y2 = L0 ++ y) ∧ Hid (Pw w0 W b tb kd tt an (.slice A kids.length c) acc wr)) (fun v _ => kids.length - (intOf v).toNat)
  case atStart => exact ⟨0, L0, y, rfl, by omega, HY, Lib.hid rfl, HX4⟩
  case round =>
   clear HX4 HY
   obtain ⟨j, acc, y2, rfl, hj, HYR, HAR, HXR⟩ := hrel
   obtain ⟨x0, x1, x2, x3⟩ := HXR.out.cells
   have hal : acc.length + y2.length = L0.length + y.length := by rw [← List.length_append, HAR.out, List.length_append]
   by_cases hlj : j < kids.length
   rotate_left
   ·
    have hc1 : decide ((j : Int) < (kids.length : Int)) = false := decide_eq_false (by omega)
    have hst := HYR.out
    rw [List.drop_of_length_le (by omega), putsT] at hst
    have hy0 := Option.some.inj hst
    subst hy0
    have HE : Hid (acc = L0 ++ y) := Lib.hid (by have h := HAR.out; rw [List.append_nil] at h; exact h)
    clear hst HYR HAR
    go_wp2_with (first | (go_at_call 65; refine (HXR.out.byte 93 (by simp only [List.length_nil] at hal; omega)).mono ?_; rintro e w11 ⟨rfl, hX11⟩; have HX11 := Lib.hid hX11; clear hX11))
    go_end0
    refine ⟨rfl, ?_, HX11.out.bel, HX11.out.kp, HX11.out.lt.2.2.2⟩
    have hb3 := HX11.out.bld
    rw [HE.out, HLL.out] at hb3
    rw [← HX.out]
    have e : l ++ (38 :: (an.data.toList ++ [32])) ++ [91] ++ y ++ [93] = l ++ ((38 :: (an.data.toList ++ [32])) ++ (91 :: (y ++ [93]))) := by simp
    rw [e] at hb3
    exact hb3
   have hc1 : decide ((j : Int) < (kids.length : Int)) = true := decide_eq_true (by omega)
   obtain ⟨bd, A3, c3, eA, y0, y1, yy, y3, hc3, hC3⟩ := at_T29 HR.out (j : Int) (by omega) (by omega)
   subst eA
   have y0 := (HXR.out.bel.cell (World.block_lt_of_cell? w0 _ y0)).trans y0
   have y1 := (HXR.out.bel.cell (World.block_lt_of_cell? w0 _ y1)).trans y1
   have yy := (HXR.out.bel.cell (World.block_lt_of_cell? w0 _ yy)).trans yy
   have y3 := (HXR.out.bel.cell (World.block_lt_of_cell? w0 _ y3)).trans y3
   have hst := HYR.out
   rw [List.drop_eq_getElem_cons hlj, ← rdT_nth kids j hlj, putsT] at hst
   rw [Int.toNat_natCast] at y0 y1 yy y3
   generalize rd_T29 kids (j : Int) = k at *
   obtain ⟨kk, kt, ka, kkids⟩ := k
   dsimp only at y0 y1 yy y3 hc3 hC3
   split at hst
   case h_2 => cases hst
   rename_i x2_ y4 hq1 hq2
   have hst2 := Option.some.inj hst
   have HQ := Lib.hid hq1
   have HY4 := Lib.hid hq2
   have HLJ := Lib.hid hlj
   have HC3 := Lib.hid hC3
   have p6 : (0 ≤ (j : Int)) = True := eq_true (by omega)
   have p7 : ((j : Int) < (kids.length : Int)) = True := eq_true (by omega)
   have HX8 := Lib.hid (HXR.out.below (below_alloc (Below.refl _ _) (.cells #[.int .i64 kk, .string kt, .string ka, .slice A3 kkids.length c3] 29)))
   have HKB := Lib.hid (blk_new wr (.cells #[.int .i64 kk, .string kt, .string ka, .slice A3 kkids.length c3] 29))
   obtain ⟨z0, z1, z2, z3⟩ := HX8.out.cells
   have u0 := (blk_cell HKB.out 0).trans rfl
   have u1 := (blk_cell HKB.out 1).trans rfl
   have u2 := (blk_cell HKB.out 2).trans rfl
   have u3 := (blk_cell HKB.out 3).trans rfl
   clear hC3 HYR hq1 hq2 hst
   by_cases hj0 : j = 0
   ·
    have r8 : decide ((j : Int) > 0) = false := decide_eq_false (by omega)
    have r9 : decide (0 < j) = false := decide_eq_false (by omega)
    have r10 : (0 < j) = False := eq_false (by omega)
    have r11 : decide ((0 : Int) < (j : Int)) = false := decide_eq_false (by omega)
    rw [if_pos hj0, List.nil_append] at hst2
    have hle : y2.length = x2_.length + y4.length := by rw [← hst2, List.length_append]
    have HA2 : Hid ((acc ++ x2_) ++ y4 = L0 ++ y) := Lib.hid (by rw [List.append_assoc, hst2]; exact HAR.out)
    clear hst2 HAR hj0
    go_wp2_with (first | (go_at_call 43; refine (IH.out ⟨kk, kt, ka, kkids⟩ acc x2_ _ A3 c3 HC3.out hc3 HX8.out.bel HX8.out.bld (by have := HX8.out.lt; omega) HQ.out (by omega)).mono ?_; rintro e w10 ⟨rfl, hb10, hbe10, hkp10, hs10⟩; have HXA := Lib.hid (HX8.out.call hb10 hbe10 hkp10 hs10); clear hb10 hbe10 hkp10 hs10))
    go_roundw
    case rel => exact ⟨j + 1, acc ++ x2_, y4, by go_num, HLJ.out, HY4, HA2, HXA⟩
    case measure => have := HLJ.out; simp [intOf]; omega
   have r8 : decide ((j : Int) > 0) = true := decide_eq_true (by omega)
   have r9 : decide (0 < j) = true := decide_eq_true (by omega)
   have r10 : (0 < j) = True := eq_true (by omega)
   have r11 : decide ((0 : Int) < (j : Int)) = true := decide_eq_true (by omega)
   rw [if_neg hj0] at hst2
   have hle : y2.length = 2 + (x2_.length + y4.length) := by rw [← hst2, List.length_append, List.length_append]; rfl
   have HA2 : Hid (((acc ++ (⟨#[44, 32]⟩ : ByteArray).data.toList) ++ x2_) ++ y4 = L0 ++ y) := Lib.hid (by rw [List.append_assoc, List.append_assoc, ← HAR.out, ← hst2])
   clear hst2 HAR hj0
   go_wp2_with (first | (go_at_call 63; refine (HX8.out.text ⟨#[44, 32]⟩ (by rw [show (⟨#[44, 32]⟩ : ByteArray).size = 2 from rfl]; omega)).mono ?_; rintro e w9 ⟨n9, rfl, hX9, hkp9⟩; have HX9 := Lib.hid hX9; have hk9 := hkp9 _ _ HKB.out (fun e => by have := Option.some.inj e; have := HXR.out.lt; omega) (fun c fz e => by injection e with e1 e2; exact absurd e2 (by decide)); clear hX9 hkp9 u0 u1 u2 u3 z0 z1 z2 z3; have u0 := (blk_cell hk9 0).trans rfl; have u1 := (blk_cell hk9 1).trans rfl; have u2 := (blk_cell hk9 2).trans rfl; have u3 := (blk_cell hk9 3).trans rfl; clear hk9) | (go_at_call 43; refine (IH.out ⟨kk, kt, ka, kkids⟩ _ x2_ _ A3 c3 HC3.out hc3 HX9.out.bel HX9.out.bld (by have := HX9.out.lt; omega) HQ.out (by rw [List.length_append, show (⟨#[44, 32]⟩ : ByteArray).data.toList.length = 2 from rfl]; omega)).mono ?_; rintro e w10 ⟨rfl, hb10, hbe10, hkp10, hs10⟩; have HXA := Lib.hid (HX9.out.call hb10 hbe10 hkp10 hs10); clear hb10 hbe10 hkp10 hs10))
   go_roundw
   case rel => exact ⟨j + 1, _, y4, by go_num, HLJ.out, HY4, HA2, HXA⟩
   case measure => have := HLJ.out; simp [intOf]; omega
def flow_Write.f (a0 : Int) (a1 a2 : ByteArray) (l3 : List S29) : Option (ByteArray × Int) :=
 match flow_Right.f a0 a1 a2 l3, putT 66 ⟨a0, a1, a2, l3⟩ with
 | some true, some x => if x.length ≤ 70368744177664 then some (⟨x.toArray⟩, 0) else none
 | _, _ => none
set_option maxHeartbeats 8000000 in
set_option maxRecDepth 100000 in
theorem flow_Write.calls (a0 : Int) (a1 a2 : ByteArray) (A3 : Option Addr) (c3 : Nat) (l3 : List S29) (r1 : ByteArray) (r2 : Int) (w : World) (hr : Kd.C k29 w A3 l3.length l3) (hc : l3.length ≤ c3) (hG : Glob.G w) (h : flow_Write.f a0 a1 a2 l3 = some (r1, r2)) :
  Calls Tryz.prog 27 #[.agg #[.int .i64 a0, .string a1, .string a2, .slice A3 l3.length c3]] w fun e w' => e = .returned (.tuple #[.string r1, .int .i64 r2]) ∧ Below w.heap.size w w' := by
 unfold flow_Write.f at h
 have HR := Lib.hid hr
 clear hr
 split at h
 ·
  rename_i x hrt hp
  by_cases hl : x.length ≤ 70368744177664
  rotate_left
  · rw [if_neg hl] at h; cases h
  rw [if_pos hl] at h
  have HF := Lib.hid (show r1 = ⟨x.toArray⟩ ∧ r2 = 0 from ⟨(Prod.mk.inj (Option.some.inj h)).1.symm, (Prod.mk.inj (Option.some.inj h)).2.symm⟩)
  have HRT := Lib.hid hrt
  have HP := Lib.hid hp
  have HL := Lib.hid hl
  clear h hrt hp hl
  go_enter Tryz.func27, Tryz.ntmps27
  go_wp2_with (first | ((with_reducible refine gate_dst (N := 1) rfl ?_); refine box_event ?hg (N := 1) ?hd (cs := #[.int .i64 a0, .string a1, .string a2, .slice A3 l3.length c3]) (t := 29) ?hr ?_; (case hd => rfl); (case hg => rfl); (case hr => first | (go_simp; done) | (go_simp; rfl)); intro tb ht w1 htb hb1; have HTB := Lib.hid htb; have HB1 := Lib.hid hb1; clear htb hb1 ht; have x0 := (blk_cell HTB.out 0).trans rfl; have x1 := (blk_cell HTB.out 1).trans rfl; have x2 := (blk_cell HTB.out 2).trans rfl; have x3 := (blk_cell HTB.out 3).trans rfl) | (go_at_call 24; refine (flow_Right.calls a0 a1 a2 A3 c3 l3 true _ (Kd.C_below HR.out HB1.out) hc (hG.below HB1.out) HRT.out).mono ?_; rintro e w2 ⟨rfl, hb2⟩; have HB2 := Lib.hid (HB1.out.trans (hb2.mono HB1.out.size)); have HT2 := Lib.hid ((hb2.block tb (blk_lt HTB.out)).trans HTB.out); clear hb2 x0 x1 x2 x3; have ht3 := (Lib.alloc_old w2 (.cells #[.pointer none, .slice none 0 0] 99) tb (blk_lt HT2.out)).trans HT2.out; have x0 := (blk_cell ht3 0).trans rfl; have x1 := (blk_cell ht3 1).trans rfl; have x2 := (blk_cell ht3 2).trans rfl; have x3 := (blk_cell ht3 3).trans rfl; clear ht3) | (go_at_call 43; refine (put_is w w2.heap.size HB2.out.size 66 ⟨a0, a1, a2, l3⟩ [] x _ A3 c3 HR.out hc (below_alloc HB2.out _) (Lib.IsBuilderF.of (Lib.fresh_isBuilder 99 5 w2)) (by simp) HP.out (by simpa using HL.out)).mono ?_; rintro e w3 ⟨rfl, hbl, hb3, _, hs3⟩; have HBL := Lib.hid hbl; have HB3 := Lib.hid hb3; have hs3 : w2.heap.size < w3.heap.size := Nat.lt_of_lt_of_le (by simp) hs3; clear hbl hb3 x0 x1 x2 x3) | (go_at_call 44; refine (Bld.got 99 w2.heap.size w2.heap.size x w3 (by simpa using HBL.out) (by omega)).mono ?_; rintro e w4 ⟨rfl, hb4⟩; have HB4 := Lib.hid (HB3.out.trans (hb4.mono HB2.out.size)); clear hb4))
  go_ret2
  exact ⟨by rw [HF.out.1, HF.out.2]; first | done | rfl, HB4.out⟩
 · cases h
end Go.Proofs.YtnjcpoojgmpmeaaGreatDoor.Plug
namespace Go.Proofs.YtnjcpoojgmpmeaaGreatDoor.PX
open RowKit YtnjcpoojgmpmeaaGreatDoorW.PrintWords YtnjcpoojgmpmeaaGreatDoorW.PrintLast YtnjcpoojgmpmeaaGreatDoorW.PrintMore YtnjcpoojgmpmeaaGreatDoor YtnjcpoojgmpmeaaGreatDoor.Plug
attribute [local go_sem] max2_int min2_int max_two min_two max_three min_three max_four min_four   -- for this text's walks alone
set_option linter.unusedVariables false
set_option linter.unusedSimpArgs false
attribute [local go_sem high] eqA143
def graph_isText.j0 : Nat → Int → ByteArray → Int → Bool → Option (Bool)
  | 0, _, _, _, _ => none
  | k + 1, x0, x1, x7, x8 => if x8 = true then ((plain_Resolve.f x1).bind fun t101 => (some (t101 == x0))) else (if x7 = 4 then ((utf_Decode.f x1).bind fun bt102 => (some (bt102.2.1 == 0 && (bt102.2.2 == 0)))) else (some (x1.toList == ([] : List UInt8))))
def graph_isText.f (k : Nat) (a0 : Int) (a1 : ByteArray) : Option (Bool) := if a0 = 2 then (graph_isText.j0 k a0 a1 a0 (a0 == 2)) else (graph_isText.j0 k a0 a1 a0 (a0 == 3))
theorem qra0_ {P : Prop} (h_ : P := by repeat (first | (with_reducible first | exact HB.out | apply below_alloc | apply pw_below_drewN | apply below_drew1) | exact HB.out)) : P := h_
theorem qra1_ {P : Prop} (h_ : P := by first | ((repeat (first | (with_reducible first | exact HB.out | apply below_alloc | apply pw_below_drewN | apply below_drew1 | (refine Glob.below_set ?_ (by assumption) _ _ _)) | exact HB.out)); done) | (refine Drawn0.below ?_; repeat (first | exact Drawn0.refl _ | assumption | apply Drawn0.step))) : P := h_
theorem qra2_ {P : Prop} (h_ : P := by first | rfl | (simp [errW_none, errW_some] <;> rfl) | (simp [*, errW_none, errW_some] <;> rfl)) : P := h_
theorem qra3_ {P : Prop} (h_ : P := by (try simp only [List.map_toArray, List.map_cons, List.map_nil]); first | done | rfl | (simp only [List.length_drop, List.length_take]; rfl)) : P := h_
set_option maxHeartbeats 8000000 in
set_option maxRecDepth 100000 in
theorem graph_isText.calls (k : Nat) (a0 : Int) (a1 : ByteArray) (r : Bool) (w : World) (hG : Glob.G w) (h : graph_isText.f k a0 a1 = some r) :
  Calls Tryz.prog 70 #[.int .i64 a0, .string a1] w fun e w' => e = .returned (.bool r) ∧ Below w.heap.size w w' := by
 have hu143 := Tryz.underlying143
 have HB := Aside0.mk (Below.refl w.heap.size w)
 have H : (if a0 = 2 then (graph_isText.j0 k a0 a1 a0 (a0 == 2)) else (graph_isText.j0 k a0 a1 a0 (a0 == 3))) = some r := h
 clear h
 have HC3 := Aside0.mk H
 clear H
 go_enter Tryz.func70, Tryz.ntmps70
 go_upto_if 8 with (fail)
 go_cut [8] (fun v8 wc => ∃ (kq : Nat) (x8_2 : Bool), v8 = .bool x8_2 ∧ Aside0 (graph_isText.j0 kq a0 a1 a0 x8_2 = some r) ∧ Aside0 (kq ≤ k) ∧ Aside0 (Below w.heap.size w wc))
 case first =>
  have H := HC3.out
  clear HC3
  by_cases c4 : a0 = 2
  rotate_left
  ·
   rw [if_neg c4] at H
   have c4b0 : (a0 == 2) = false := beq_eq_false_iff_ne.mpr c4
   have c4b1 : (a0 != 2) = true := bne_iff_ne.mpr c4
   (first | rw [c4b0] | (simp only [i64_w, i32_w]; rw [c4b0]) | skip)
   have H' := Aside0.mk H
   clear H
   go_wp2
   go_meet
   case rel => exact ⟨_, ((a0 == 3)), (by first | rfl | (simp; done) | (simp [*]; done)), H', ⟨by first | omega | exact Nat.le_refl _⟩, ⟨qra0_⟩⟩
  rw [if_pos c4] at H
  have c4b0 : (a0 == 2) = true := beq_iff_eq.mpr c4
  have c4b1 : (a0 != 2) = false := bne_eq_false_iff_eq.mpr c4
  clear c4
  (first | rw [c4b0] | (simp only [i64_w, i32_w]; rw [c4b0]) | skip)
  have H' := Aside0.mk H
  clear H
  go_wp2
  go_meet
  case rel => exact ⟨_, ((a0 == 2)), (by first | rfl | (simp; done) | (simp [*]; done)), H', ⟨by first | omega | exact Nat.le_refl _⟩, ⟨qra0_⟩⟩
 case rest =>
  clear HC3
  try clear p2
  try clear c4
  try clear c4b0
  try clear c4b1
  obtain ⟨kq, x8_2, rfl, HA, HJ2, HB⟩ := hcut
  cases kq with
  | zero => exact absurd HA.out (by simp [graph_isText.j0])
  | succ kj2 =>
   have H := HA.out
   clear HA
   simp only [graph_isText.j0] at H
   by_cases c5 : x8_2 = true
   ·
    subst c5
    have H1 : ((plain_Resolve.f a1).bind fun t101 => (some (t101 == a0))) = some r := by rw [if_pos rfl] at H; exact H
    clear H
    have H := H1
    clear H1
    replace H := Option.bind_eq_some_iff.mp H
    obtain ⟨t101, A60, H⟩ := H
    replace H : (some (t101 == a0)) = some r := H
    have A6 := Aside0.mk A60
    clear A60
    obtain rfl := Option.some.inj H
    go_wp2_with (first | ((with_reducible refine gate_callee (f := 76) rfl ?_); refine goesL_ (some 12) rfl rfl Tryz.func76 (by kernel_rfl) rfl #[.string a1] rfl (qra3_) ?_; (with_reducible refine (plain_Resolve.calls a1 t101 _ (hG.below (qra1_)) A6.out).mono ?_); rintro e w7 ⟨rfl, hb⟩; refine ⟨_, rfl, ?_⟩; have n0_ := Aside0.mk (below_step (qra0_) hb); clear HB; have HB := n0_; clear n0_; (try clear hb)))
    go_ret
    exact ⟨qra2_, qra0_⟩
   replace c5 := Bool.eq_false_iff.mpr c5
   subst c5
   have H1 : (if a0 = 4 then ((utf_Decode.f a1).bind fun bt102 => (some (bt102.2.1 == 0 && (bt102.2.2 == 0)))) else (some (a1.toList == ([] : List UInt8)))) = some r := by rw [if_neg (show ¬ (false = true) by decide)] at H; exact H
   clear H
   have H := H1
   clear H1
   by_cases c8 : a0 = 4
   rotate_left
   ·
    rw [if_neg c8] at H
    have c8b0 : (a0 == 4) = false := beq_eq_false_iff_ne.mpr c8
    have c8b1 : (a0 != 4) = true := bne_iff_ne.mpr c8
    obtain rfl := Option.some.inj H
    go_wp2
    go_ret
    exact ⟨qra2_, qra0_⟩
   rw [if_pos c8] at H
   have c8b0 : (a0 == 4) = true := beq_iff_eq.mpr c8
   have c8b1 : (a0 != 4) = false := bne_eq_false_iff_eq.mpr c8
   clear c8
   replace H := Option.bind_eq_some_iff.mp H
   obtain ⟨⟨t102, t105, t106⟩, A90, H⟩ := H
   replace H : (some (t105 == 0 && (t106 == 0))) = some r := H
   have A9 := Aside0.mk A90
   clear A90
   obtain rfl := Option.some.inj H
   go_wp2_with (first | ((with_reducible refine gate_callee (f := 77) rfl ?_); refine goesL_ (some 19) rfl rfl Tryz.func77 (by kernel_rfl) rfl #[.string a1] rfl (qra3_) ?_; (with_reducible refine (utf_Decode.calls a1 t102 t105 t106 _ (hG.below (qra1_)) A9.out).mono ?_); rintro e w10 ⟨v103, rfl, ho0, hb⟩; refine ⟨_, rfl, ?_⟩; have n0_ := Aside0.mk (Kd.R_lower ho0 (below_size (qra0_))); have n1_ := Aside0.mk (below_step (qra0_) hb); clear HB; have HO104 := n0_; have HB := n1_; clear n0_ n1_; (try clear hb); (try clear ho0)) | ((with_reducible refine gate_dst (N := 6) rfl ?_); refine box_event ?hg (N := 6) ?hd (cs := #[.int .i64 0, .int .i64 0]) (t := 143) ?hr ?_; (case hd => rfl); (case hg => rfl); (case hr => first | (go_simp; done) | (go_simp; rfl)); intro gb107 hg w11 hbox hb; have n0_ := Aside0.mk (Kd.R_below (by (with_reducible repeat (first | apply Kd.R_alloc | apply Kd.R_drewN | apply Kd.R_drew)); exact HO104.out) hb); have n1_ := Aside0.mk (below_step (qra0_) hb); have n2_ := Aside0.mk (hbox); have n3_ := Aside0.mk ((by rw [hg]; exact (below_size (qra0_)) : w.heap.size ≤ gb107)); have n4_ := Aside0.mk ((by rw [hg]; exact (below_size (qra0_)) : w.heap.size ≤ gb107)); clear HO104; clear HB; have HO104 := n0_; have HB := n1_; have BK107 := n2_; have GW107 := n3_; have GE107 := n4_; clear n0_ n1_ n2_ n3_ n4_; clear hb hbox hg; have hcz12_0 : w11.cell? ⟨gb107, 0, none⟩ = some (.int .i64 0) := (blk_cell BK107.out 0).trans rfl; have hcz12_1 : w11.cell? ⟨gb107, 1, none⟩ = some (.int .i64 0) := (blk_cell BK107.out 1).trans rfl; have hfz12_0 := blk_frozen BK107.out 0; have hfz12_1 := blk_frozen BK107.out 1))
   go_ret
   exact ⟨qra2_, by repeat (first | (with_reducible first | exact HB.out | apply below_alloc | apply pw_below_drewN | apply below_drew1 | refine below_set ?_ GE107.out) | exact HB.out)⟩
end Go.Proofs.YtnjcpoojgmpmeaaGreatDoor.PX
namespace Go.Proofs.YtnjcpoojgmpmeaaGreatDoor.PX
open RowKit YtnjcpoojgmpmeaaGreatDoorW.PrintWords YtnjcpoojgmpmeaaGreatDoorW.PrintLast YtnjcpoojgmpmeaaGreatDoorW.PrintMore YtnjcpoojgmpmeaaGreatDoor
attribute [local go_sem] max2_int min2_int max_two min_two max_three min_three max_four min_four   -- for this text's walks alone
set_option linter.unusedVariables false
set_option linter.unusedSimpArgs false
def graph_isScalar.f (a0 : Int) : Option (Bool) := if a0 ≥ 1 then (some (decide (a0 ≤ 4))) else (some false)
theorem qsa0_ {P : Prop} (h_ : P := by first | rfl | (simp; done) | (simp [*]; done) | (simp; generalize ByteArray.toList _ = l_; cases l_ <;> rfl)) : P := h_
set_option maxHeartbeats 8000000 in
set_option maxRecDepth 100000 in
theorem graph_isScalar.calls (a0 : Int) (r : Bool) (w : World) (hG : Glob.G w) (h : graph_isScalar.f a0 = some r) :
  Calls Tryz.prog 71 #[.int .i64 a0] w fun e w' => e = .returned (.bool r) ∧ Drawn0 w w' := by
 have H : (if a0 ≥ 1 then (some (decide (a0 ≤ 4))) else (some false)) = some r := h
 clear h
 by_cases c2 : a0 ≥ 1
 ·
  rw [if_pos c2] at H
  have c2b0 : decide (1 ≤ a0) = true := decide_eq_true c2
  clear c2
  obtain rfl := Option.some.inj H
  go_enter Tryz.func71, Tryz.ntmps71
  go_wp2
  go_ret
  exact ⟨qsa0_, by repeat (first | exact Drawn0.refl _ | apply Drawn0.step)⟩
 rw [if_neg c2] at H
 have c2b0 : decide (1 ≤ a0) = false := decide_eq_false c2
 clear c2
 obtain rfl := Option.some.inj H
 go_enter Tryz.func71, Tryz.ntmps71
 go_wp2
 go_ret
 exact ⟨qsa0_, by repeat (first | exact Drawn0.refl _ | apply Drawn0.step)⟩
def graph_keys.l0 : Nat → List Int → Int → Int → ByteArray → List Int → Option (List Int)
  | 0, _, _, _, _, _ => none
  | k + 1, x3, x4, x102000, x102001, x102002 => if (wrap64 (x4 + 1)) < (x102002.length : Int) then (if 0 ≤ x4 then (if x4 < (x102002.length : Int) then (if x3.length < 17592186044416 then (graph_keys.l0 k (x3 ++ [rd x102002 x4]) (wrap64 (x4 + 2)) x102000 x102001 x102002) else (none)) else (none)) else (none)) else (some x3)
def graph_keys.f (k : Nat) (a0_0 : Int) (a0_1 : ByteArray) (l0_2 : List Int) : Option (List Int) := if a0_0 = 6 then (graph_keys.l0 k ([] : List Int) 0 a0_0 a0_1 l0_2) else (some ([] : List Int))
theorem qta0_ {P : Prop} (h_ : P := by repeat (first | (with_reducible first | exact HB.out | apply below_alloc | apply pw_below_drewN | apply below_drew1 | refine below_set ?_ GE101.out) | exact HB.out)) : P := h_
theorem qta1_ {P : Prop} (h_ : P := by repeat (first | (with_reducible first | exact HB.out | apply below_alloc | apply pw_below_drewN | apply below_drew1) | exact HB.out)) : P := h_
theorem qta2_ {P : Prop} (h_ : P := by (with_reducible repeat (first | refine blk_drewN ?_ _ | refine blk_drew ?_ | refine blk_alloc ?_ _)); exact BK101.out) : P := h_
theorem qta3_ {P : Prop} (h_ : P := by first | exact Kd.R_nil _ _ _ _ _ | exact Kd.N_nil _ _ _ _ _ | exact Kd.V_nil _ _ _ _ _ | exact Kd.Q_nil _ _ _ _ _ | exact Kd.S_nil _ _ _ _ _) : P := h_
set_option maxHeartbeats 8000000 in
set_option maxRecDepth 100000 in
theorem graph_keys.calls (k : Nat) (a0_0 : Int) (a0_1 : ByteArray) (A0_2 : Option Addr) (c0_2 : Nat) (l0_2 : List Int) (r : List Int) (w : World) (hr0_2 : Kd.C (Kd.int .i64) w A0_2 l0_2.length l0_2) (hc0_2 : l0_2.length ≤ c0_2) (hG : Glob.G w) (h : graph_keys.f k a0_0 a0_1 l0_2 = some r) :
  Calls Tryz.prog 52 #[.agg #[.int .i64 a0_0, .string a0_1, .slice A0_2 l0_2.length c0_2]] w fun e w' => ∃ v0_ : Value, e = .returned (v0_) ∧ Kd.R (Kd.int .i64) 3 w' w.heap.size (fun _ => True) v0_ r ∧ Below w.heap.size w w' := by
 have hu45 := Tryz.underlying45
 have HR0_2 := Aside0.mk hr0_2
 have HC0_2 := Aside0.mk hc0_2
 clear hr0_2 hc0_2
 have HB := Aside0.mk (Below.refl w.heap.size w)
 have H : (if a0_0 = 6 then (graph_keys.l0 k ([] : List Int) 0 a0_0 a0_1 l0_2) else (some ([] : List Int))) = some r := h
 clear h
 by_cases c2 : a0_0 = 6
 rotate_left
 ·
  rw [if_neg c2] at H
  have c2b0 : (a0_0 == 6) = false := beq_eq_false_iff_ne.mpr c2
  have c2b1 : (a0_0 != 6) = true := bne_iff_ne.mpr c2
  obtain rfl := Option.some.inj H
  go_enter Tryz.func52, Tryz.ntmps52
  go_wp2_with (first | ((with_reducible refine gate_dst (N := 1) rfl ?_); refine box_event ?hg (N := 1) ?hd (cs := #[.int .i64 a0_0, .string a0_1, .slice A0_2 l0_2.length c0_2]) (t := 45) ?hr ?_; (case hd => rfl); (case hg => rfl); (case hr => first | (go_simp; done) | (go_simp; rfl)); intro gb101 hg w12 hbox hb; have n0_ := Aside0.mk (below_step (qta1_) hb); have n1_ := Aside0.mk (hbox); have n2_ := Aside0.mk ((by rw [hg]; exact (below_size (qta1_)) : w.heap.size ≤ gb101)); have n3_ := Aside0.mk ((by rw [hg]; exact (below_size (qta1_)) : w.heap.size ≤ gb101)); clear HB; have HB := n0_; have BK101 := n1_; have GW101 := n2_; have GE101 := n3_; clear n0_ n1_ n2_ n3_; clear hb hbox hg; have hcz13_0 : w12.cell? ⟨gb101, 0, none⟩ = some (.int .i64 a0_0) := (blk_cell BK101.out 0).trans rfl; have hcz13_1 : w12.cell? ⟨gb101, 1, none⟩ = some (.string a0_1) := (blk_cell BK101.out 1).trans rfl; have hcz13_2 : w12.cell? ⟨gb101, 2, none⟩ = some (.slice A0_2 l0_2.length c0_2) := (blk_cell BK101.out 2).trans rfl; have hfz13_0 := blk_frozen BK101.out 0; have hfz13_1 := blk_frozen BK101.out 1; have hfz13_2 := blk_frozen BK101.out 2))
  go_ret
  exact ⟨_, by first | rfl | (simp [errW_none, errW_some] <;> rfl) | (simp [*, errW_none, errW_some] <;> rfl), qta3_, qta0_⟩
 rw [if_pos c2] at H
 have c2b0 : (a0_0 == 6) = true := beq_iff_eq.mpr c2
 have c2b1 : (a0_0 != 6) = false := bne_eq_false_iff_eq.mpr c2
 clear c2
 have H' := Aside0.mk H
 clear H
 go_enter Tryz.func52, Tryz.ntmps52
 go_wp2_with (first | ((with_reducible refine gate_dst (N := 1) rfl ?_); refine box_event ?hg (N := 1) ?hd (cs := #[.int .i64 a0_0, .string a0_1, .slice A0_2 l0_2.length c0_2]) (t := 45) ?hr ?_; (case hd => rfl); (case hg => rfl); (case hr => first | (go_simp; done) | (go_simp; rfl)); intro gb101 hg w3 hbox hb; have n0_ := Aside0.mk (below_step (qta1_) hb); have n1_ := Aside0.mk (hbox); have n2_ := Aside0.mk ((by rw [hg]; exact (below_size (qta1_)) : w.heap.size ≤ gb101)); have n3_ := Aside0.mk ((by rw [hg]; exact (below_size (qta1_)) : w.heap.size ≤ gb101)); clear HB; have HB := n0_; have BK101 := n1_; have GW101 := n2_; have GE101 := n3_; clear n0_ n1_ n2_ n3_; clear hb hbox hg; have hcz4_0 : w3.cell? ⟨gb101, 0, none⟩ = some (.int .i64 a0_0) := (blk_cell BK101.out 0).trans rfl; have hcz4_1 : w3.cell? ⟨gb101, 1, none⟩ = some (.string a0_1) := (blk_cell BK101.out 1).trans rfl; have hcz4_2 : w3.cell? ⟨gb101, 2, none⟩ = some (.slice A0_2 l0_2.length c0_2) := (blk_cell BK101.out 2).trans rfl; have hfz4_0 := blk_frozen BK101.out 0; have hfz4_1 := blk_frozen BK101.out 1; have hfz4_2 := blk_frozen BK101.out 2))
 go_loopg [3, 4] k (fun kq v3 v4 w' => ∃ (x3_1 : List Int) (x4_1 : Int), v4 = .int .i64 x4_1 ∧ Aside0 (graph_keys.l0 kq x3_1 x4_1 a0_0 a0_1 l0_2 = some r) ∧ Aside0 (kq ≤ k) ∧ Aside0 (Kd.R (Kd.int .i64) 3 w' w.heap.size (fun _ => True) v3 x3_1) ∧ Aside0 (w'.heap[gb101]? = some (.cells #[.int .i64 a0_0, .string a0_1, (.slice A0_2 l0_2.length c0_2)] 45 (0, 0))) ∧ Aside0 (Below w.heap.size w w'))
 case atStart => exact ⟨(([] : List Int)), (0), (by first | rfl | (simp; done) | (simp [*]; done)), H', ⟨Nat.le_refl _⟩, ⟨qta3_⟩, ⟨qta2_⟩, ⟨qta0_⟩⟩
 case round =>
  clear H'
  try clear c2
  try clear c2b0
  try clear c2b1
  try clear p2
  try clear hcz4_0
  try clear hcz4_1
  try clear hcz4_2
  try clear hfz4_0
  try clear hfz4_1
  try clear hfz4_2
  obtain ⟨x3_1, x4_1, rfl, HA, HK1, HO_3, BK101, HB⟩ := hrel
  cases gk with
  | zero => exact absurd HA.out (by simp [graph_keys.l0])
  | succ k1 =>
   have H := HA.out
   clear HA
   simp only [graph_keys.l0] at H
   by_cases c5 : (wrap64 (x4_1 + 1)) < (l0_2.length : Int)
   rotate_left
   ·
    rw [if_neg c5] at H
    have c5b0 : decide ((wrap64 (x4_1 + 1)) < (l0_2.length : Int)) = false := decide_eq_false c5
    clear c5
    obtain rfl := Option.some.inj H
    have hcz11_0 : wr.cell? ⟨gb101, 0, none⟩ = some (.int .i64 a0_0) := (blk_cell BK101.out 0).trans rfl
    have hcz11_1 : wr.cell? ⟨gb101, 1, none⟩ = some (.string a0_1) := (blk_cell BK101.out 1).trans rfl
    have hcz11_2 : wr.cell? ⟨gb101, 2, none⟩ = some (.slice A0_2 l0_2.length c0_2) := (blk_cell BK101.out 2).trans rfl
    have hfz11_0 := blk_frozen BK101.out 0
    have hfz11_1 := blk_frozen BK101.out 1
    have hfz11_2 := blk_frozen BK101.out 2
    go_wp2
    go_ret
    exact ⟨_, by first | rfl | (simp [errW_none, errW_some] <;> rfl) | (simp [*, errW_none, errW_some] <;> rfl), by (with_reducible repeat (first | apply Kd.R_alloc | apply Kd.R_drewN | apply Kd.R_drew)); exact HO_3.out, qta0_⟩
   rw [if_pos c5] at H
   have c5b0 : decide ((wrap64 (x4_1 + 1)) < (l0_2.length : Int)) = true := decide_eq_true c5
   clear c5
   by_cases c6 : 0 ≤ x4_1
   rotate_left
   ·
    rw [if_neg c6] at H
    exact absurd H (by simp)
   rw [if_pos c6] at H
   have c6b0 : decide (0 ≤ x4_1) = true := decide_eq_true c6
   clear c6
   by_cases c7 : x4_1 < (l0_2.length : Int)
   rotate_left
   ·
    rw [if_neg c7] at H
    exact absurd H (by simp)
   rw [if_pos c7] at H
   have c7b0 : decide (x4_1 < (l0_2.length : Int)) = true := decide_eq_true c7
   clear c7
   by_cases c8 : x3_1.length < 17592186044416
   rotate_left
   ·
    rw [if_neg c8] at H
    exact absurd H (by simp)
   rw [if_pos c8] at H
   have LMc8 := Aside0.mk c8
   clear c8
   obtain ⟨y103, hy103⟩ : ∃ y_ : List Int, y_ = (x3_1 ++ [rd l0_2 x4_1]) := ⟨_, rfl⟩
   replace H : (graph_keys.l0 k1 y103 (wrap64 (x4_1 + 2)) a0_0 a0_1 l0_2) = some r := by first | (rw [hy103]; with_reducible exact H) | (have H2_ := (Option.bind_some _ _).symm.trans H; rw [hy103]; with_reducible exact H2_) | (have H2_ := (Option.bind_some _ _).symm.trans H; with_reducible exact H2_) | with_reducible exact H | (rw [hy103]; exact H) | exact H
   have Ny103 := Aside0.mk hy103
   clear hy103
   have H' := Aside0.mk H
   clear H
   have hcz9_0 : wr.cell? ⟨gb101, 0, none⟩ = some (.int .i64 a0_0) := (blk_cell BK101.out 0).trans rfl
   have hcz9_1 : wr.cell? ⟨gb101, 1, none⟩ = some (.string a0_1) := (blk_cell BK101.out 1).trans rfl
   have hcz9_2 : wr.cell? ⟨gb101, 2, none⟩ = some (.slice A0_2 l0_2.length c0_2) := (blk_cell BK101.out 2).trans rfl
   have hfz9_0 := blk_frozen BK101.out 0
   have hfz9_1 := blk_frozen BK101.out 1
   have hfz9_2 := blk_frozen BK101.out 2
   have p102 : 0 ≤ (x4_1 : Int) := of_decide_eq_true (by first | (with_reducible assumption) | assumption)
   have q102 : x4_1 < (l0_2.length : Int) := of_decide_eq_true (by first | (with_reducible assumption) | assumption)
   obtain ⟨ad102, e102, hx102_0⟩ := Kd.at_int HR0_2.out x4_1 p102 q102
   cases e102
   replace hx102_0 := (HB.out.cell (World.block_lt_of_cell? w _ hx102_0)).trans hx102_0
   replace p102 := eq_true p102
   replace q102 := eq_true q102
   go_wp2_with (first | ((with_reducible refine gate_builtin (b := .append) (xs := #[.tmp 16, .tmp 22]) rfl ?_); at_builtin; refine Kd.R_append (Kd.int .i64) (w0 := w) w.heap.size rfl (.tmp 16) (.tmp 22) 40 3 (.int .i64 0) 8 rfl Tryz.underlying40 info3 rfl (by decide) (by omega) u3 x3_1 (rd l0_2 x4_1) [.int .i64 (rd l0_2 x4_1)] (fun _ => True) (fun _ => False) rfl rfl ?aP (fun _ hk => hk.elim) ?aF ?aO ?aB ?aS ?aL ?_; (case aP => exact rfl); (case aB => exact (qta0_)); (case aF => exact (fun _ _ => trivial)); (case aO => exact (by (with_reducible repeat (first | apply Kd.R_alloc | apply Kd.R_drewN | apply Kd.R_drew)); exact HO_3.out)); (case aS => exact (below_size (qta0_))); (case aL => have := LMc8.out; omega); intro v104 w10 ho hb hg hat; rw [← Ny103.out] at ho; have n0_ := Aside0.mk (blk_grown (g := gb101) (o := .cells #[.int .i64 a0_0, .string a0_1, .slice (some ad102) l0_2.length c0_2] 45 (0, 0)) (qta2_) hg (Kd.R_ne HO_3.out BK101.out (by decide))); have n1_ := Aside0.mk (hb); have n2_ := Aside0.mk (ho); clear BK101; clear HB; clear HO_3; have BK101 := n0_; have HB := n1_; have HO105 := n2_; clear n0_ n1_ n2_; clear ho hb hg hat))
   go_roundg k1
   case measure => have := HK1.out; omega
   case rel => exact ⟨(y103), (wrap64 (x4_1 + 2)), (by first | rfl | (simp; done) | (simp [*]; done)), H', ⟨by have := HK1.out; omega⟩, ⟨by (with_reducible repeat (first | apply Kd.R_alloc | apply Kd.R_drewN | apply Kd.R_drew)); exact HO105.out⟩, ⟨qta2_⟩, ⟨qta0_⟩⟩
end Go.Proofs.YtnjcpoojgmpmeaaGreatDoor.PX
namespace Go.Proofs.YtnjcpoojgmpmeaaGreatDoor.Mapk
open Go RowKit YtnjcpoojgmpmeaaGreatDoor YtnjcpoojgmpmeaaGreatDoorW.PrintWords Go.Maps
def hl (v : Value) : Option (DataW Value × List MemPlace) := some (.held v, [])
theorem hl_inv {v u : Value} {ps : List MemPlace} (h : hl v = some (.held u, ps)) : v = u := by
  simp only [hl, Option.some.injEq, Prod.mk.injEq, DataW.held.injEq] at h; exact h.1
section
variable {κ : Type} {en : κ → Value}
structure MapIs (P : Program) (k : TypeId) (en : κ → Value) (w : World) (b n : Nat) (F : κ → Option Value) : Prop where
 inj : ∀ x y, en x = en y → x = y
 ex : ∃ D : DataW Value, w.ownsMap P k hl b n D ∧ ∀ x kl, keyOf P k (en x) = some kl → has D kl = (F x).isSome ∧ ∀ z, D.atKey kl (.held z) = .held ((F x).getD z)
variable {P : Program} {k e t : TypeId} {w : World} {b n : Nat} {F : κ → Option Value}
theorem made (w : World) (P : Program) (k : TypeId) (hen : ∀ x y, en x = en y → x = y) : MapIs P k en (w.alloc (.map #[] 0)) w.heap.size 0 (fun _ => none) :=
  ⟨hen, _, World.ownsMap_made w P k hl, fun _ _ _ => ⟨rfl, fun _ => rfl⟩⟩
theorem MapIs.kept {w' : World} {row : Option Nat} (h : MapIs P k en w b n F) (hg : w.grownBy w' row) (hne : some b ≠ row) : MapIs P k en w' b n F := by
  obtain ⟨D, h1, h2⟩ := h.ex; exact ⟨h.inj, D, h1.kept hg hne, h2⟩
theorem MapIs.mono (h : MapIs P k en w b n F) {n' : Nat} (hn : n ≤ n') : MapIs P k en w b n' F := by
  obtain ⟨D, h1, h2⟩ := h.ex; exact ⟨h.inj, D, h1.mono hn, h2⟩
theorem MapIs.lt (h : MapIs P k en w b n F) : b < w.heap.size := by obtain ⟨D, h1, _⟩ := h.ex; exact h1.lt
theorem MapIs.of_block {w' : World} (h : MapIs P k en w b n F) (hb : w'.heap[b]? = w.heap[b]?) : MapIs P k en w' b n F := by
  obtain ⟨D, ⟨es, clock, h1, h3⟩, h2⟩ := h.ex; exact ⟨h.inj, D, ⟨es, clock, hb.trans h1, h3⟩, h2⟩
theorem MapIs.of_below {w' : World} (h : MapIs P k en w b n F) (hb : Below w.heap.size w w') : MapIs P k en w' b n F := h.of_block (hb.block b h.lt)
theorem MapIs.alloc (h : MapIs P k en w b n F) (o : Obj) : MapIs P k en (w.alloc o) b n F := h.of_block (Lib.alloc_old w o b h.lt)
theorem MapIs.look (h : MapIs P k en w b n F) (K : Keyed P k) (ht : P.underlying t = some (.map k e)) {z : Value} (hz : (zeroValue e).run P w = .ok z w) {key : κ} {kl : Lit} (hkey : keyOf P k (en key) = some kl) :
  (Instr.lookup t (.map (some b)) (en key) false).run P w = .ok ((F key).getD z) w := by
 obtain ⟨D, h1, h2⟩ := h.ex
 obtain ⟨v, ps, hr, hv⟩ := h1.lookup K ht hz (zd := .held z) (zp := []) rfl hkey
 rw [(h2 key kl hkey).2 z] at hv
 rw [hr, hl_inv hv]
theorem MapIs.look_ok (h : MapIs P k en w b n F) (K : Keyed P k) (ht : P.underlying t = some (.map k e)) {z : Value} (hz : (zeroValue e).run P w = .ok z w) {key : κ} {kl : Lit} (hkey : keyOf P k (en key) = some kl) :
  (Instr.lookup t (.map (some b)) (en key) true).run P w = .ok (.tuple #[(F key).getD z, .bool (F key).isSome]) w := by
 obtain ⟨D, h1, h2⟩ := h.ex
 obtain ⟨v, ps, hr, hv⟩ := h1.look_ok K ht hz (zd := .held z) (zp := []) rfl hkey
 rw [(h2 key kl hkey).2 z] at hv
 rw [hr, hl_inv hv, (h2 key kl hkey).1]
theorem MapIs.put [DecidableEq κ] (h : MapIs P k en w b n F) (K : Keyed P k) (ht : P.underlying t = some (.map k e)) (hn : n < maxLen) {key : κ} {kl : Lit} (hkey : keyOf P k (en key) = some kl) (v : Value) :
  ∃ w', (Instr.mapUpdate t (.map (some b)) (en key) v).run P w = .ok () w' ∧ MapIs P k en w' b (n + 1) (fun y => if y = key then some v else F y) ∧ w.grownBy w' (some b) := by
 have h0 := h
 obtain ⟨D, h1, h2⟩ := h.ex
 obtain ⟨w', hr, h3, hg⟩ := h1.update K ht hn hkey (d := .held v) (ps := []) rfl
 refine ⟨w', hr, ⟨h.inj, _, h3, fun x kx hx => ?_⟩, hg⟩
 by_cases e1 : x = key
 ·
  subst e1
  have : kx = kl := Option.some.inj (hx.symm.trans hkey)
  subst this
  rw [if_pos rfl]
  exact ⟨has_put_same h1.isMap (K.key hkey) _, fun z => atKey_put_same h1.isMap (K.key hkey) _ _⟩
 rw [if_neg e1]
 have hne : kx ≠ kl := fun h => e1 (h0.inj _ _ (K.inj (h ▸ hx) hkey))
 exact ⟨(has_put_other hne _).trans (h2 x kx hx).1, fun z => (atKey_put_other hne _ _).trans ((h2 x kx hx).2 z)⟩
theorem wpList_look {w : World} {ops : Array Oper} {rest : List Oper} {o : Oper} {a : Act} {Q : Exit → Act → World → Prop}
  (hg : o.guard = none) (m x : Operand) (t : TypeId) (hop : o.op = Op.lookup t m x false) (k e : TypeId) (K : Keyed P k) (ht : P.underlying t = some (.map k e)) (z : Value) (hz : (zeroValue e).run P w = .ok z w)
  (b n : Nat) (F : κ → Option Value) (hm : a.eval m = .map (some b)) (h : MapIs P k en w b n F) (key : κ) (kl : Lit) (hx : a.eval x = en key) (hkey : keyOf P k (en key) = some kl)
  (hK : wpList P ops Q rest (a.put o.dst ((F key).getD z)) w) : wpList P ops Q (o :: rest) a w := by
 refine wpList_plain hg fun K' hK' => ?_
 unfold Oper.wp
 simp [execOp, hop, hm, hx, h.look K ht hz hkey, Result.andThen]
 exact hK' _ _ hK
theorem wpList_put [DecidableEq κ] {w : World} {ops : Array Oper} {rest : List Oper} {o : Oper} {a : Act} {Q : Exit → Act → World → Prop}
  (hg : o.guard = none) (m x v : Operand) (t : TypeId) (hop : o.op = Op.mapUpdate t m x v) (k e : TypeId) (K : Keyed P k) (ht : P.underlying t = some (.map k e))
  (b n : Nat) (F : κ → Option Value) (hm : a.eval m = .map (some b)) (h : MapIs P k en w b n F) (hn : n < maxLen) (key : κ) (val : Value) (kl : Lit) (hx : a.eval x = en key) (hv : a.eval v = val) (hkey : keyOf P k (en key) = some kl)
  (hK : ∀ w', MapIs P k en w' b (n + 1) (fun y => if y = key then some val else F y) → w.grownBy w' (some b) → wpList P ops Q rest (a.put o.dst undef) w') : wpList P ops Q (o :: rest) a w := by
 refine wpList_plain hg fun K' hK' => ?_
 obtain ⟨w', hrun, r1, r2⟩ := h.put K ht hn hkey val
 unfold Oper.wp
 simp [execOp, hop, hm, hx, hv, hrun, Result.andThen]
 exact hK' _ _ (hK w' r1 r2)
end
def kv (x : Int × ByteArray) : Value := .agg #[.int .i64 x.1, .string x.2]
def goodK (x : Int × ByteArray) : Prop := (-9223372036854775808 ≤ x.1 ∧ x.1 ≤ 9223372036854775807) ∧ x.2.size ≤ maxLen
theorem kv_inj {x y : Int × ByteArray} : kv x = kv y ↔ x = y := by
 obtain ⟨a, s⟩ := x; obtain ⟨c, u⟩ := y
 simp [kv]
theorem pair_lits (P : Program) (T a b : TypeId) (fs : Array Field) (hu : P.underlying T = some (.struct fs)) (ha : P.underlying a = some (.int .i64)) (hb : P.underlying b = some .string) (hc : P.cellsOf T = 2) (hca : P.cellsOf a = 1) (hcb : P.cellsOf b = 1)
  (f1 f2 : Field) (hf : fs = #[f1, f2]) (h1 : f1.name ≠ "_") (h2 : f2.name ≠ "_") (ht1 : f1.type = a) (ht2 : f2.type = b) (ho1 : f1.offset = 0) (ho2 : f2.offset = 1)
  (d : Nat) (x : Int × ByteArray) (hx : goodK x) : ∃ ls, P.keyLits (d + 2) T [.int .i64 x.1, .string x.2] = some ls := by
 subst hf ht1 ht2
 obtain ⟨⟨hlo, hhi⟩, hs⟩ := hx
 have hw : (Lit.int .i64 x.1).wf = true := by simp [Lit.wf, IntKind.min, IntKind.max, IntKind.signed, IntKind.bits]; omega
 refine ⟨[.int .i64 x.1, .string x.2.data.toList], ?_⟩
 simp [Program.keyLits, hu, ha, hb, hc, hca, hcb, h1, h2, ho1, ho2, hw, hs]
theorem laid_out : laidOutB Tryz.prog = true := by kernel_rfl
theorem types_two : ∃ d, Tryz.prog.types.size + 1 = d + 2 := by
 have : decide (1 ≤ Tryz.prog.types.size) = true := by kernel_rfl
 have := of_decide_eq_true this
 exact ⟨Tryz.prog.types.size - 1, by omega⟩
theorem gk_deep : Tryz.prog.keyTypeAt (Tryz.prog.types.size + 1) 117 = true := by kernel_rfl
theorem gk_law : Keyed Tryz.prog 117 := Keyed.of_law (deep_law_laid laid_out (m := 2) (by omega) (of_decide_eq_true (by kernel_rfl : decide (117 < Tryz.prog.types.size) = true)) (by kernel_rfl) (by rw [Tryz.underlying117]))
theorem gk_key (x : Int × ByteArray) (hx : goodK x) : ∃ kl, keyOf Tryz.prog 117 (kv x) = some kl := by
 obtain ⟨d, hd⟩ := types_two
 obtain ⟨ls, hl⟩ := pair_lits Tryz.prog 117 3 9 _ Tryz.underlying117 (by kernel_rfl) (by kernel_rfl) (by kernel_rfl) (by kernel_rfl) (by kernel_rfl) _ _ rfl (by decide) (by decide) rfl rfl rfl rfl d x hx
 have hk : Tryz.prog.keyType 117 = true := gk_deep
 have hf : (kv x).formed Tryz.prog 117 = true := by
  have hc : Tryz.prog.cellsOf 117 = 2 := by kernel_rfl
  simp [kv, Value.formed, Tryz.underlying117, hc]
 rw [← hd] at hl
 refine ⟨.string (keyBytes ls), ?_⟩
 simp only [keyOf, Tryz.underlying117, hk, hf, Bool.and_self, if_true]
 have e1 : (kv x).cells.toList = [.int .i64 x.1, .string x.2] := by simp [kv, Value.cells]
 rw [e1, hl]; rfl
end Go.Proofs.YtnjcpoojgmpmeaaGreatDoor.Mapk
namespace Go.Proofs.YtnjcpoojgmpmeaaGreatDoor.Plug
open RowKit YtnjcpoojgmpmeaaGreatDoor YtnjcpoojgmpmeaaGreatDoor.PX YtnjcpoojgmpmeaaGreatDoor.Utf YtnjcpoojgmpmeaaGreatDoorW.PrintWords YtnjcpoojgmpmeaaGreatDoorW.PrintLast
theorem rd_at (l : List Int) (i : Nat) (h : i < l.length) : rd l (i : Int) = l[i] := by
  unfold rd; rw [Int.toNat_natCast, List.getD_eq_getElem?_getD, List.getElem?_eq_getElem h]; rfl
end Go.Proofs.YtnjcpoojgmpmeaaGreatDoor.Plug
namespace Go.Proofs.YtnjcpoojgmpmeaaGreatDoor.Plug
open RowKit YtnjcpoojgmpmeaaGreatDoor YtnjcpoojgmpmeaaGreatDoor.PX YtnjcpoojgmpmeaaGreatDoor.Utf YtnjcpoojgmpmeaaGreatDoor.Mapk YtnjcpoojgmpmeaaGreatDoorW.PrintWords YtnjcpoojgmpmeaaGreatDoorW.PrintLast YtnjcpoojgmpmeaaGreatDoorW.PrintMore
def firstI (p : Int → Bool) : List Int → Nat → Int
 | [], _ => -1
 | x :: r, i => if p x = true then (i : Int) else firstI p r (i + 1)
theorem firstI_any (p : Int → Bool) : ∀ (l : List Int) (i : Nat), decide (firstI p l i ≥ 0) = l.any p
 | [], _ => rfl
 | x :: r, i => by
  rw [firstI, List.any_cons]
  by_cases h : p x = true
  · rw [if_pos h, h]; simp
  rw [if_neg h, firstI_any p r (i + 1)]; simp [h]
set_option maxHeartbeats 2000000 in
set_option maxRecDepth 100000 in
theorem index_any (F : FuncId) (eg : ∀ args w, (callFunc F args).run Tryz.prog w = .ok (.enter F args) w) (fv : Value) (p : Int → Bool) (A : Option Addr) (c : Nat) (xs : List Int) (w : World) (hr : Kd.C (Kd.int .i64) w A xs.length xs)
  (hp : ∀ (x : Int) (w' : World), x ∈ xs → Below w.heap.size w w' → Calls Tryz.prog F #[.int .i64 x, fv] w' fun e w2 => e = .returned (.bool (p x)) ∧ Below w'.heap.size w' w2) :
  Calls Tryz.prog 49 #[.slice A xs.length c, .func (.func F) #[] #[fv]] w fun e w' => e = .returned (.int .i64 (firstI p xs 0)) ∧ Below w.heap.size w w' := by
 have HR := Lib.hid hr
 have hm := hr.2.1
 clear hr
 obtain ⟨R, hR⟩ : ∃ R, firstI p xs 0 = R := ⟨_, rfl⟩
 rw [hR]
 have HP := Lib.hid hp
 clear hp
 go_enter Tryz.func49, Tryz.ntmps49
 go_wp2
 go_loopw [8] (fun v wr => ∃ i : Nat, v = .int .i64 i ∧ i ≤ xs.length ∧ Hid (firstI p (xs.drop i) i = R) ∧ Below w.heap.size w wr) (fun v _ => xs.length - (intOf v).toNat)
 case atStart => exact ⟨0, rfl, by omega, Lib.hid hR, Below.refl _ w⟩
 case round =>
  obtain ⟨i, rfl, hi, hst, hb⟩ := hrel
  by_cases hlt : i < xs.length
  rotate_left
  ·
   have hc : decide ((i : Int) < (xs.length : Int)) = false := by simp; omega
   have hst2 := hst.out
   rw [List.drop_of_length_le (by omega), firstI] at hst2
   have HS := Lib.hid hst2
   clear hst hst2
   go_wp2
   go_ret
   exact ⟨by rw [← HS.out]; first | done | rfl, hb⟩
  have hdrop : xs.drop i = xs[i] :: xs.drop (i + 1) := List.drop_eq_getElem_cons hlt
  have hst2 := hst.out
  rw [hdrop, firstI] at hst2
  have hc : decide ((i : Int) < (xs.length : Int)) = true := by simp; omega
  obtain ⟨ad, rfl, hx⟩ := Kd.at_int HR.out (i : Int) (by omega) (by omega)
  rw [rd_at xs i hlt, Int.toNat_natCast] at hx
  replace hx := (hb.cell (World.block_lt_of_cell? w _ hx)).trans hx
  have p1 : (0 ≤ (i : Int)) = True := eq_true (by omega)
  have p2 : ((i : Int) < (xs.length : Int)) = True := eq_true (by omega)
  have hcall := HP.out xs[i] _ (List.getElem_mem hlt) hb
  generalize xs[i] = x at *
  have HC := Lib.hid hcall
  by_cases hpx : p x = true
  ·
   rw [if_pos hpx] at hst2
   have HS := Lib.hid hst2
   rw [hpx] at HC
   clear hst hst2 hdrop hcall hpx
   go_wp2_with (go_at_fn F; refine HC.out.mono ?_; rintro e w1 ⟨rfl, hb1⟩)
   go_ret
   exact ⟨by rw [← HS.out]; first | done | rfl, hb.trans (hb1.mono hb.size)⟩
  have hpf : p x = false := by simpa using hpx
  rw [if_neg hpx] at hst2
  have HS := Lib.hid hst2
  rw [hpf] at HC
  clear hst hst2 hdrop hcall hpx hpf
  go_wp2_with (go_at_fn F; refine HC.out.mono ?_; rintro e w1 ⟨rfl, hb1⟩)
  go_roundw
  case rel => exact ⟨i + 1, by go_num, by omega, HS, hb.trans (hb1.mono hb.size)⟩
  case measure => simp [intOf]; omega
set_option maxHeartbeats 2000000 in
set_option maxRecDepth 100000 in
theorem contains_any (F : FuncId) (eg : ∀ args w, (callFunc F args).run Tryz.prog w = .ok (.enter F args) w) (fv : Value) (p : Int → Bool) (A : Option Addr) (c : Nat) (xs : List Int) (w : World) (hr : Kd.C (Kd.int .i64) w A xs.length xs)
  (hp : ∀ (x : Int) (w' : World), x ∈ xs → Below w.heap.size w w' → Calls Tryz.prog F #[.int .i64 x, fv] w' fun e w2 => e = .returned (.bool (p x)) ∧ Below w'.heap.size w' w2) :
  Calls Tryz.prog 51 #[.slice A xs.length c, .func (.func F) #[] #[fv]] w fun e w' => e = .returned (.bool (xs.any p)) ∧ Below w.heap.size w w' := by
 have HI := Lib.hid (index_any F eg fv p A c xs w hr hp)
 have HA := Lib.hid (firstI_any p xs 0)
 clear hr hp
 generalize firstI p xs 0 = R at *
 go_enter Tryz.func51, Tryz.ntmps51
 go_wp2_with (go_at_call 49; refine HI.out.mono ?_; rintro e w1 ⟨rfl, hb1⟩)
 go_ret
 exact ⟨by rw [← HA.out]; first | done | rfl, hb1⟩
set_option maxHeartbeats 2000000 in
set_option maxRecDepth 100000 in
theorem far_is (x : Int) (gb : Nat) (A0 : Option Addr) (n c0 : Nat) (root : Int) (w : World) (hbx : w.heap[gb]? = some (.cells #[.slice A0 n c0, .int .i64 root] 24 (0, 0))) :
  Calls Tryz.prog 72 #[.int .i64 x, .pointer (some ⟨gb, 0, none⟩)] w fun e w' => e = .returned (.bool (decide (x < 0) || decide (x ≥ (n : Int)))) ∧ Below w.heap.size w w' := by
 have c0' : w.cell? ⟨gb, 0, none⟩ = some (.slice A0 n c0) := by rw [Lib.cell_of_heap hbx]; rfl
 clear hbx
 go_enter Tryz.func72, Tryz.ntmps72
 by_cases h0 : x < 0
 rotate_left
 ·
  have q0 : decide (x < 0) = false := decide_eq_false h0
  go_wp2
  go_ret
  exact ⟨rfl, Below.refl _ w⟩
 have q0 : decide (x < 0) = true := decide_eq_true h0
 go_wp2
 go_ret
 exact ⟨by rw [q0]; rfl, Below.refl _ w⟩
theorem far_enters : ∀ args w, (callFunc 72 args).run Tryz.prog w = .ok (.enter 72 args) w := fun _ _ => by kernel_rfl
theorem zero_bool (w : World) : (zeroValue 4).run Tryz.prog w = .ok (.bool false) w := by kernel_rfl
theorem grow_alloc {w w2 : World} {o : Obj} {b : Nat} (h : (w.alloc o).grownBy w2 (some b)) : w.grownBy w2 (some b) :=
  ⟨h.os, h.tape, h.output, by have h2 := h.size; simp at h2; omega, fun k hk hne => (h.block k (by simp; omega) hne).trans (Lib.alloc_old w _ k hk)⟩
set_option maxHeartbeats 2000000 in
set_option maxRecDepth 100000 in
theorem add_is (b n : Nat) (F : Int × ByteArray → Option Value) (x : Int × ByteArray) (hx : goodK x) (w : World) (hm : MapIs Tryz.prog 117 kv w b n F) (hn : n < maxLen) (was : Bool) (hF : (F x).getD (.bool false) = .bool was) :
  Calls Tryz.prog 57 #[.map (some b), kv x] w fun e w' => e = .returned (.bool (!was)) ∧ MapIs Tryz.prog 117 kv w' b (n + 1) (fun y => if y = x then some (.bool true) else F y) ∧ w.grownBy w' (some b) := by
 obtain ⟨kl, hk⟩ := gk_key x hx
 obtain ⟨a, s⟩ := x
 have HK := Lib.hid hk
 have HM := Lib.hid hm
 have HF := Lib.hid hF
 clear hk hx hm hF
 rw [show kv (a, s) = .agg #[.int .i64 a, .string s] from rfl]
 go_enter Tryz.func57, Tryz.ntmps57
 go_wp2_with (first | (at_lookup; refine wpList_look rfl _ _ 114 rfl 117 4 gk_law Tryz.underlying114 (.bool false) (zero_bool _) b n F rfl (HM.out.alloc _) (a, s) kl rfl HK.out ?_; rw [HF.out]) | (at_mapUpdate; refine wpList_put rfl _ _ _ 114 rfl 117 4 gk_law Tryz.underlying114 b n F rfl (HM.out.alloc _) hn (a, s) (.bool true) kl rfl rfl HK.out ?_; intro w2 hm2 hg2))
 go_ret
 exact ⟨rfl, hm2, grow_alloc hg2⟩
def keyIs (l : List S45) (k : Int) : Int × ByteArray := ((rd_T45 l k).f0, (rd_T45 l k).f1)
def scB (k : Int) : Bool := decide (1 ≤ k) && decide (k ≤ 4)
def metB (l : List S45) : List Int → List (Int × ByteArray) → Bool
 | [], _ => true
 | k :: ks, met => if scB (rd_T45 l k).f0 = true then (if met.any (fun y => decide (y = keyIs l k)) = true then false else metB l ks (keyIs l k :: met)) else false
def farB (l : List S45) (k : Int) : Bool := decide (k < 0) || decide (k ≥ (l.length : Int))
def nodeB (l : List S45) (n : S45) (tx : Bool) (ks : List Int) : Bool :=
 if n.f0 < 1 then false else if 6 < n.f0 then false else if tx = false then false
 else if ((scB n.f0 && decide (0 < n.f2.length)) || (n.f0 == 6 && n.f2.length % 2 != 0)) = true then false
 else if n.f2.any (farB l) = true then false else metB l ks []
structure Bx (gb nb : Nat) (A0 : Option Addr) (n0 c0 : Nat) (root kd : Int) (tt : ByteArray) (A2 : Option Addr) (n2 c2 : Nat) (w : World) : Prop where
 g : w.heap[gb]? = some (.cells #[.slice A0 n0 c0, .int .i64 root] 24 (0, 0))
 n : w.heap[nb]? = some (.cells #[.int .i64 kd, .string tt, .slice A2 n2 c2] 45 (0, 0))
section
variable {gb nb : Nat} {A0 : Option Addr} {n0 c0 : Nat} {root kd : Int} {tt : ByteArray} {A2 : Option Addr} {n2 c2 : Nat} {w w' : World}
theorem Bx.cells (h : Bx gb nb A0 n0 c0 root kd tt A2 n2 c2 w) : w.cell? ⟨gb, 0, none⟩ = some (.slice A0 n0 c0) ∧ w.cell? ⟨gb, 1, none⟩ = some (.int .i64 root) ∧ w.cell? ⟨nb, 0, none⟩ = some (.int .i64 kd) ∧ w.cell? ⟨nb, 1, none⟩ = some (.string tt) ∧ w.cell? ⟨nb, 2, none⟩ = some (.slice A2 n2 c2) :=
  ⟨(blk_cell h.g 0).trans rfl, (blk_cell h.g 1).trans rfl, (blk_cell h.n 0).trans rfl, (blk_cell h.n 1).trans rfl, (blk_cell h.n 2).trans rfl⟩
theorem Bx.below (h : Bx gb nb A0 n0 c0 root kd tt A2 n2 c2 w) (hb : Below w.heap.size w w') : Bx gb nb A0 n0 c0 root kd tt A2 n2 c2 w' :=
  ⟨(hb.block gb (blk_lt h.g)).trans h.g, (hb.block nb (blk_lt h.n)).trans h.n⟩
theorem Bx.grown {b : Nat} (h : Bx gb nb A0 n0 c0 root kd tt A2 n2 c2 w) (hg : w.grownBy w' (some b)) (h1 : gb ≠ b) (h2 : nb ≠ b) : Bx gb nb A0 n0 c0 root kd tt A2 n2 c2 w' :=
  ⟨(hg.block gb (blk_lt h.g) (fun e => h1 (Option.some.inj e))).trans h.g, (hg.block nb (blk_lt h.n) (fun e => h2 (Option.some.inj e))).trans h.n⟩
end
theorem nodeB_on (l : List S45) (kd : Int) (tt : ByteArray) (kids ks : List Int) (h1 : ¬ kd < 1) (h2 : ¬ 6 < kd) (h3 : ((scB kd && decide (0 < kids.length)) || (kd == 6 && kids.length % 2 != 0)) = false) :
  nodeB l ⟨kd, tt, kids⟩ true ks = (if kids.any (farB l) = true then false else metB l ks []) := by
 unfold nodeB
 rw [if_neg h1, if_neg h2, if_neg (by simp), if_neg (by rw [h3]; simp)]
theorem rd_mem (l : List S45) (k : Int) (h0 : 0 ≤ k) (h1 : k < (l.length : Int)) : rd_T45 l k ∈ l := by
 unfold rd_T45
 rw [List.getD_eq_getElem?_getD, List.getElem?_eq_getElem (by omega : k.toNat < l.length)]
 exact List.getElem_mem _
theorem below_of_grown {w w' : World} {b B : Nat} (h : w.grownBy w' (some b)) (hb : B ≤ b) (hw : B ≤ w.heap.size) : Below B w w' :=
  ⟨h.os, h.tape, h.output, h.size, fun k hk => h.block k (by omega) (fun e => by have := Option.some.inj e; omega)⟩
theorem keep_of_grown {w w' : World} {b : Nat} (h : w.grownBy w' (some b)) : KeepBut w w' b none :=
  ⟨h.size, fun k hk hne _ => h.block k hk (fun e => hne (Option.some.inj e))⟩
theorem scal_of (k : Int) : graph_isScalar.f k = some (scB k) := by
 unfold graph_isScalar.f scB
 by_cases h : (1 : Int) ≤ k
 · rw [if_pos h, decide_eq_true h, Bool.true_and]
 rw [if_neg h, decide_eq_false h, Bool.false_and]
def metF (met : List (Int × ByteArray)) (y : Int × ByteArray) : Option Value := if met.any (fun z => decide (z = y)) = true then some (.bool true) else none
theorem metF_cons (x : Int × ByteArray) (met : List (Int × ByteArray)) : (fun y => if y = x then some (.bool true) else metF met y) = metF (x :: met) := by
 funext y
 unfold metF
 rw [List.any_cons]
 by_cases e : y = x
 · subst e; simp
 rw [if_neg e, decide_eq_false (fun h => e h.symm), Bool.false_or]
theorem metF_was (x : Int × ByteArray) (met : List (Int × ByteArray)) : (metF met x).getD (.bool false) = .bool (met.any (fun z => decide (z = x))) := by
 unfold metF
 by_cases h : met.any (fun z => decide (z = x)) = true
 · rw [if_pos h, h]; rfl
 rw [if_neg h, Bool.eq_false_iff.2 h]; rfl
set_option maxHeartbeats 8000000 in
set_option maxRecDepth 100000 in
theorem isNode_on (K1 K2 : Nat) (A0 : Option Addr) (c0 : Nat) (l : List S45) (root : Int) (kd : Int) (tt : ByteArray) (kids : List Int) (A2 : Option Addr) (c2 : Nat) (ks : List Int) (R : Bool) (w : World)
    (HR : Hid (Kd.C k45 w A0 l.length l)) (H2 : Hid (Kd.C (Kd.int .i64) w A2 kids.length kids)) (hc2 : kids.length ≤ c2) (hG : Glob.G w)
    (HT : Hid (graph_isText.f K1 kd tt = some true)) (HK : Hid (graph_keys.f K2 kd tt kids = some ks)) (HZ : Hid (∀ m ∈ l, m.f1.size ≤ 1099511627776)) (hkl : ks.length ≤ 1099511627776) (HN : Hid (∀ k ∈ ks, k ∈ kids))
    (q1 : decide (kd < 1) = false) (q2 : decide (6 < kd) = false) (hcase : (scB kd = true ∧ kids.length = 0) ∨ (scB kd = false ∧ (kd == 6) = true ∧ kids.length % 2 = 0) ∨ (scB kd = false ∧ (kd == 6) = false))
    (hR : (if kids.any (farB l) = true then false else metB l ks []) = R) :
    Calls Tryz.prog 50 #[.agg #[.slice A0 l.length c0, .int .i64 root], .agg #[.int .i64 kd, .string tt, .slice A2 kids.length c2]] w fun e w' => e = .returned (.bool R) ∧ Below w.heap.size w w' := by
  have q3 : decide (kd > 6) = false := q2
  by_cases hA : kids.any (farB l) = true
  · have HA := Lib.hid hA
    have HF : Hid (R = false) := Lib.hid (by rw [← hR, if_pos hA])
    clear hA hR
    rcases hcase with ⟨hsc, kl⟩ | ⟨hsc, q4, ko⟩ | ⟨hsc, q4⟩
    case' inl =>
      have q4 : (kd == 6) = false := by unfold scB at hsc; rw [Bool.and_eq_true, decide_eq_true_eq, decide_eq_true_eq] at hsc; exact beq_eq_false_iff_ne.2 (by omega)
      have q5 : decide ((0 : Int) < (kids.length : Int)) = false := decide_eq_false (by omega)
      have q6 : decide (0 < kids.length) = false := decide_eq_false (by omega)
      clear kl
    case' inr.inl => have q7 : (kids.length : Int).tmod 2 = 0 := by { rw [Int.tmod_eq_emod_of_nonneg (by omega)]; omega }
    all_goals
      have HS := Lib.hid (scal_of kd)
      rw [hsc] at HS
      clear hsc
      go_enter Tryz.func50, Tryz.ntmps50
      go_wp2_with (first | ((with_reducible refine gate_dst (N := 2) rfl ?_); refine box_event ?hg (N := 2) ?hd (cs := #[.slice A0 l.length c0, .int .i64 root]) (t := 24) ?hr ?_; (case hd => rfl); (case hg => rfl); (case hr => first | (go_simp; done) | (go_simp; rfl)); intro gb hg w1 hgb hb1; have HG1 := Lib.hid hgb; have HB1 := Lib.hid hb1; have HE1 := Lib.hid hg; clear hgb hb1 hg) | ((with_reducible refine gate_dst (N := 3) rfl ?_); refine box_event ?hg (N := 3) ?hd (cs := #[.int .i64 kd, .string tt, .slice A2 kids.length c2]) (t := 45) ?hr ?_; (case hd => rfl); (case hg => rfl); (case hr => first | (go_simp; done) | (go_simp; rfl)); intro nb hn w2 hnb hb2; have HX := Lib.hid (Bx.mk ((hb2.block gb (blk_lt HG1.out)).trans HG1.out) hnb); have HB2 := Lib.hid (HB1.out.trans (hb2.mono HB1.out.size)); have HE2 := Lib.hid hn; clear hnb hb2 hn HG1; obtain ⟨x0, x1, x2, x3, x4⟩ := HX.out.cells) | (go_at_call 70; refine (graph_isText.calls _ _ _ _ _ (hG.below HB2.out) HT.out).mono ?_; rintro e w3 ⟨rfl, hb3⟩; have HX3 := Lib.hid (HX.out.below hb3); have HB3 := Lib.hid (HB2.out.trans (hb3.mono HB2.out.size)); clear hb3 HX HB2 x0 x1 x2 x3 x4; obtain ⟨x0, x1, x2, x3, x4⟩ := HX3.out.cells) | (go_at_call 71; refine (graph_isScalar.calls _ _ _ (hG.below HB3.out) HS.out).mono ?_; rintro e w4 ⟨rfl, hd4⟩; have HX4 := Lib.hid (HX3.out.below hd4.below); have HB4 := Lib.hid (HB3.out.trans (hd4.below.mono HB3.out.size)); clear hd4 HX3 HB3 x0 x1 x2 x3 x4; obtain ⟨x0, x1, x2, x3, x4⟩ := HX4.out.cells) | (go_at_call 51; refine (contains_any 72 far_enters _ (farB l) A2 c2 kids _ (Kd.C_below H2.out HB4.out) (fun x w' _ hb => far_is x gb A0 l.length c0 root w' (HX4.out.below hb).g)).mono ?_; rw [HA.out]; rintro e w5 ⟨rfl, hb5⟩; have HX5 := Lib.hid (HX4.out.below hb5); have HB5 := Lib.hid (HB4.out.trans (hb5.mono HB4.out.size)); clear hb5 HX4 HB4 x0 x1 x2 x3 x4; obtain ⟨x0, x1, x2, x3, x4⟩ := (HX5.out.below (below_alloc (Below.refl _ _) (.map #[] 0))).cells))
      go_ret
      exact ⟨by rw [HF.out]; first | done | rfl, HB5.out⟩
  · have hf : kids.any (farB l) = false := Bool.eq_false_iff.2 hA
    have HA := Lib.hid hf
    have HM := Lib.hid (show metB l ks [] = R by rw [← hR, if_neg hA])
    have HIN := Lib.hid (show ∀ k ∈ ks, 0 ≤ k ∧ k < (l.length : Int) from fun k hk => by
      have h := List.any_eq_false.1 hf k (HN.out k hk)
      simp [farB] at h
      exact h)
    clear hA hR hf HN
    rcases hcase with ⟨hsc, kl⟩ | ⟨hsc, q4, ko⟩ | ⟨hsc, q4⟩
    case' inl =>
      have q4 : (kd == 6) = false := by unfold scB at hsc; rw [Bool.and_eq_true, decide_eq_true_eq, decide_eq_true_eq] at hsc; exact beq_eq_false_iff_ne.2 (by omega)
      have q5 : decide ((0 : Int) < (kids.length : Int)) = false := decide_eq_false (by omega)
      have q6 : decide (0 < kids.length) = false := decide_eq_false (by omega)
      clear kl
    case' inr.inl => have q7 : (kids.length : Int).tmod 2 = 0 := by { rw [Int.tmod_eq_emod_of_nonneg (by omega)]; omega }
    all_goals
      have HS := Lib.hid (scal_of kd)
      rw [hsc] at HS
      clear hsc
      go_enter Tryz.func50, Tryz.ntmps50
      have hmm := @run_makeMap Tryz.prog
      go_wp2_with (first | ((with_reducible refine gate_dst (N := 2) rfl ?_); refine box_event ?hg (N := 2) ?hd (cs := #[.slice A0 l.length c0, .int .i64 root]) (t := 24) ?hr ?_; (case hd => rfl); (case hg => rfl); (case hr => first | (go_simp; done) | (go_simp; rfl)); intro gb hg w1 hgb hb1; have HG1 := Lib.hid hgb; have HB1 := Lib.hid hb1; have HE1 := Lib.hid hg; clear hgb hb1 hg) | ((with_reducible refine gate_dst (N := 3) rfl ?_); refine box_event ?hg (N := 3) ?hd (cs := #[.int .i64 kd, .string tt, .slice A2 kids.length c2]) (t := 45) ?hr ?_; (case hd => rfl); (case hg => rfl); (case hr => first | (go_simp; done) | (go_simp; rfl)); intro nb hn w2 hnb hb2; have HX := Lib.hid (Bx.mk ((hb2.block gb (blk_lt HG1.out)).trans HG1.out) hnb); have HB2 := Lib.hid (HB1.out.trans (hb2.mono HB1.out.size)); have HE2 := Lib.hid hn; clear hnb hb2 hn HG1; obtain ⟨x0, x1, x2, x3, x4⟩ := HX.out.cells) | (go_at_call 70; refine (graph_isText.calls _ _ _ _ _ (hG.below HB2.out) HT.out).mono ?_; rintro e w3 ⟨rfl, hb3⟩; have HX3 := Lib.hid (HX.out.below hb3); have HB3 := Lib.hid (HB2.out.trans (hb3.mono HB2.out.size)); clear hb3 HX HB2 x0 x1 x2 x3 x4; obtain ⟨x0, x1, x2, x3, x4⟩ := HX3.out.cells) | (go_at_call 71; refine (graph_isScalar.calls _ _ _ (hG.below HB3.out) HS.out).mono ?_; rintro e w4 ⟨rfl, hd4⟩; have HX4 := Lib.hid (HX3.out.below hd4.below); have HB4 := Lib.hid (HB3.out.trans (hd4.below.mono HB3.out.size)); clear hd4 HX3 HB3 x0 x1 x2 x3 x4; obtain ⟨x0, x1, x2, x3, x4⟩ := HX4.out.cells) | (go_at_call 51; refine (contains_any 72 far_enters _ (farB l) A2 c2 kids _ (Kd.C_below H2.out HB4.out) (fun x w' _ hb => far_is x gb A0 l.length c0 root w' (HX4.out.below hb).g)).mono ?_; rw [HA.out]; rintro e w5 ⟨rfl, hb5⟩; have HX5 := Lib.hid (HX4.out.below hb5); have HB5 := Lib.hid (HB4.out.trans (hb5.mono HB4.out.size)); clear hb5 HX4 HB4 x0 x1 x2 x3 x4; obtain ⟨x0, x1, x2, x3, x4⟩ := (HX5.out.below (below_alloc (Below.refl _ _) (.map #[] 0))).cells) | (go_at_call 52; refine (graph_keys.calls _ _ _ _ _ _ _ _ (Kd.C_below H2.out (below_alloc HB5.out _)) hc2 (hG.below (below_alloc HB5.out _)) HK.out).mono ?_; rintro e w6 ⟨v, rfl, hv, hb6⟩; obtain ⟨Ak, ck, ek⟩ := Kd.R_slice hv; subst ek; have HMP := Lib.hid ((made w5 Tryz.prog 117 (fun a b => kv_inj.1)).of_below hb6); have HX6 := Lib.hid ((HX5.out.below (below_alloc (Below.refl _ _) _)).below hb6); have HB6 := Lib.hid ((below_alloc HB5.out _).trans (hb6.mono (below_alloc HB5.out _).size)); have HKC := Lib.hid (Kd.C_foot_own (Kd.R_bound hv) (g := w5.heap.size) (fun k hk => by have h := hk.2.1; simp at h; omega)); have HGN := Lib.hid (And.intro (blk_lt HX5.out.g) (And.intro (blk_lt HX5.out.n) HB5.out.size)); clear hv hb6 HX5 HB5 x0 x1 x2 x3 x4))
      generalize hbm : w5.heap.size = bm at *
      clear hbm hmm HS
      go_loopw [54] (fun v wr => ∃ (i : Nat) (met : List (Int × ByteArray)), v = .int .i64 i ∧ i ≤ ks.length ∧ Hid (metB l (ks.drop i) met = R) ∧ Hid (MapIs Tryz.prog 117 kv wr bm i (metF met)) ∧ Hid (Below w.heap.size w wr) ∧ Hid (Bx gb nb A0 l.length c0 root kd tt A2 kids.length c2 wr) ∧ Hid (KeepBut w6 wr bm none)) (fun v _ => ks.length - (intOf v).toNat)
      case atStart => exact ⟨0, [], rfl, by omega, HM, HMP, HB6, HX6, Lib.hid (KeepBut.refl _ _ _)⟩
      case round =>
        obtain ⟨i, met, rfl, hi, hst, HMR, HBR, HXR, HKR⟩ := hrel
        clear HMP HB6 HX6 HM
        obtain ⟨x0, x1, x2, x3, x4⟩ := HXR.out.cells
        by_cases hlt : i < ks.length
        · have hc : decide ((i : Int) < (ks.length : Int)) = true := by simp; omega
          obtain ⟨ad, rfl, hx⟩ := Kd.at_int (HKC.out wr HKR.out) (i : Int) (by omega) (by omega)
          rw [rd_at ks i hlt, Int.toNat_natCast] at hx
          obtain ⟨j0, j1⟩ := HIN.out ks[i] (List.getElem_mem hlt)
          have hst2 := hst.out
          rw [List.drop_eq_getElem_cons hlt, metB] at hst2
          generalize ks[i] = k at *
          obtain ⟨bd, A3, c3, rfl, y0, y1, _, _, _⟩ := at_T45 (Kd.C_below HR.out HBR.out) k j0 j1
          have p1 : (0 ≤ (i : Int)) = True := eq_true (by omega)
          have p2 : ((i : Int) < (ks.length : Int)) = True := eq_true (by omega)
          have p3 : (0 ≤ k) = True := eq_true j0
          have p4 : (k < (l.length : Int)) = True := eq_true j1
          have hsz := HZ.out _ (rd_mem l k j0 j1)
          have hki : keyIs l k = ((rd_T45 l k).f0, (rd_T45 l k).f1) := rfl
          rw [hki] at hst2
          clear hki
          generalize (rd_T45 l k).f0 = a at *
          generalize (rd_T45 l k).f1 = s at *
          have HST := Lib.hid hst2
          clear hst hst2
          go_wp2_with (fail)
          have hal : Below wr.heap.size wr (wr.alloc (.cells #[.int .i64 0, .string ⟨#[]⟩] 117 (0, 0))) := below_alloc (Below.refl _ _) _
          obtain ⟨u0, u1, u2, u3, u4⟩ := (HXR.out.below hal).cells
          have v0 := (hal.cell (World.block_lt_of_cell? wr _ y0)).trans y0
          have v1 := (hal.cell (World.block_lt_of_cell? wr _ y1)).trans y1
          clear hal
          go_region
          have hb8 : Below wr.heap.size wr (World.drew (wr.alloc (.cells #[.int .i64 a, .string s] 117 (0, 0)))) := below_drew1 (below_alloc (Below.refl _ _) _)
          have hk8 : (World.drew (wr.alloc (.cells #[.int .i64 a, .string s] 117 (0, 0)))).heap[wr.heap.size]? = some (.cells #[.int .i64 a, .string s] 117 (0, 0)) := blk_new wr _
          generalize World.drew _ = w8 at hb8 hk8 ⊢
          have HB8 := Lib.hid (HBR.out.trans (hb8.mono HBR.out.size))
          have HM8 := Lib.hid (HMR.out.of_below hb8)
          have HX8 := Lib.hid (HXR.out.below hb8)
          have HK8 := Lib.hid (HKR.out.trans (KeepBut.of_below hb8 bm none) (.inl rfl))
          have h80 := (blk_cell hk8 0).trans rfl
          have h81 := (blk_cell hk8 1).trans rfl
          clear hb8 hk8 HBR HMR HXR HKR x0 x1 x2 x3 x4 y0 y1 u0 u1 u2 u3 u4 v0 v1 hx
          have HSC := Lib.hid (scal_of a)
          by_cases hs : scB a = true
          · rw [hs] at HSC
            have hgd : goodK (a, s) := by
              unfold scB at hs
              rw [Bool.and_eq_true, decide_eq_true_eq, decide_eq_true_eq] at hs
              exact ⟨by dsimp only; omega, by unfold maxLen; dsimp only; omega⟩
            have HGD := Lib.hid hgd
            obtain ⟨was, hw⟩ : ∃ b, met.any (fun z => decide (z = (a, s))) = b := ⟨_, rfl⟩
            have HW := Lib.hid (show (metF met (a, s)).getD (.bool false) = .bool was by rw [metF_was, hw])
            have HS2 := HST.out
            rw [if_pos hs, hw] at HS2
            have HST := Lib.hid HS2
            clear HS2 hs hgd hw hsz
            cases was with
            | true =>
              have HF : Hid (R = false) := Lib.hid (by have h := HST.out; rw [if_pos rfl] at h; exact h.symm)
              clear HST
              go_wp2_with (first | (go_at_call 71; refine (graph_isScalar.calls _ _ _ (hG.below HB8.out) HSC.out).mono ?_; rintro e w9 ⟨rfl, ⟨nd, rfl⟩⟩) | (go_at_call 57; refine (add_is bm i (metF met) (a, s) HGD.out _ (HM8.out.of_block (w' := w8.drewN nd) rfl) (by unfold maxLen; omega) _ HW.out).mono ?_; rintro e w10 ⟨rfl, hm10, hg9⟩; have hg10 : w8.grownBy w10 (some bm) := ⟨hg9.os, hg9.tape, hg9.output, hg9.size, hg9.block⟩; have HB10 := Lib.hid (HB8.out.trans (below_of_grown hg10 HGN.out.2.2 HB8.out.size)); clear hm10 hg10 hg9))
              go_ret
              exact ⟨by rw [HF.out]; first | done | rfl, HB10.out⟩
            | false =>
              have HF : Hid (metB l (ks.drop (i + 1)) ((a, s) :: met) = R) := Lib.hid (by have h := HST.out; rw [if_neg Bool.false_ne_true] at h; exact h)
              clear HST
              go_wp2_with (first | (go_at_call 71; refine (graph_isScalar.calls _ _ _ (hG.below HB8.out) HSC.out).mono ?_; rintro e w9 ⟨rfl, ⟨nd, rfl⟩⟩) | (go_at_call 57; refine (add_is bm i (metF met) (a, s) HGD.out _ (HM8.out.of_block (w' := w8.drewN nd) rfl) (by unfold maxLen; omega) _ HW.out).mono ?_; rintro e w10 ⟨rfl, hm10, hg9⟩; have hg10 : w8.grownBy w10 (some bm) := ⟨hg9.os, hg9.tape, hg9.output, hg9.size, hg9.block⟩; rw [metF_cons] at hm10; have HB10 := Lib.hid (HB8.out.trans (below_of_grown hg10 HGN.out.2.2 HB8.out.size)); have HM10 := Lib.hid hm10; have HX10 := Lib.hid (HX8.out.grown hg10 (Nat.ne_of_lt HGN.out.1) (Nat.ne_of_lt HGN.out.2.1)); have HK10 := Lib.hid (HK8.out.trans (keep_of_grown hg10) (.inl rfl)); clear hm10 hg10 hg9))
              go_roundw
              case rel => exact ⟨i + 1, (a, s) :: met, by go_num, by omega, HF, HM10, HB10, HX10, HK10⟩
              case measure => simp [intOf]; omega
          · have hs' : scB a = false := Bool.eq_false_iff.2 hs
            have HF : Hid (R = false) := Lib.hid (by have h := HST.out; rw [if_neg hs] at h; exact h.symm)
            rw [hs'] at HSC
            clear hs hs' HST
            go_wp2_with (go_at_call 71; refine (graph_isScalar.calls _ _ _ (hG.below HB8.out) HSC.out).mono ?_; rintro e w9 ⟨rfl, ⟨nd, rfl⟩⟩)
            go_ret
            exact ⟨by rw [HF.out]; first | done | rfl, pw_below_drewN HB8.out nd⟩
        · have hc : decide ((i : Int) < (ks.length : Int)) = false := by simp; omega
          have hst2 := hst.out
          rw [List.drop_of_length_le (by omega), metB] at hst2
          have HF := Lib.hid hst2
          clear hst hst2
          go_wp2
          go_ret
          exact ⟨by rw [← HF.out]; first | done | rfl, HBR.out⟩
set_option maxHeartbeats 8000000 in
set_option maxRecDepth 100000 in
theorem isNode_is (K1 K2 : Nat) (A0 : Option Addr) (c0 : Nat) (l : List S45) (root : Int) (n : S45) (A2 : Option Addr) (c2 : Nat) (tx : Bool) (ks : List Int) (w : World)
  (hr : Kd.C k45 w A0 l.length l) (_hc : l.length ≤ c0) (h2 : Kd.C (Kd.int .i64) w A2 n.f2.length n.f2) (hc2 : n.f2.length ≤ c2) (hG : Glob.G w)
  (hT : 1 ≤ n.f0 → n.f0 ≤ 6 → graph_isText.f K1 n.f0 n.f1 = some tx) (hks : graph_keys.f K2 n.f0 n.f1 n.f2 = some ks) (hsz : ∀ m ∈ l, m.f1.size ≤ 1099511627776) (hkl : ks.length ≤ 1099511627776) (hin : ∀ k ∈ ks, k ∈ n.f2) :
  Calls Tryz.prog 50 #[.agg #[.slice A0 l.length c0, .int .i64 root], .agg #[.int .i64 n.f0, .string n.f1, .slice A2 n.f2.length c2]] w fun e w' => e = .returned (.bool (nodeB l n tx ks)) ∧ Below w.heap.size w w' := by
 obtain ⟨kd, tt, kids⟩ := n
 dsimp only at h2 hT hks hin ⊢
 have HR := Lib.hid hr
 have H2 := Lib.hid h2
 have HK := Lib.hid hks
 have HT := Lib.hid hT
 have HZ := Lib.hid hsz
 have HN := Lib.hid hin
 clear hr h2 hks hT hsz hin _hc
 obtain ⟨R, hR⟩ : ∃ R, nodeB l ⟨kd, tt, kids⟩ tx ks = R := ⟨_, rfl⟩
 rw [hR]
 have HR2 := Lib.hid hR
 clear hR
 by_cases k1 : kd < 1
 ·
  have HF : Hid (R = false) := Lib.hid (by rw [← HR2.out]; simp [nodeB, k1])
  have q1 : decide (kd < 1) = true := decide_eq_true k1
  go_enter Tryz.func50, Tryz.ntmps50
  go_wp2_with (first | ((with_reducible refine gate_dst (N := 2) rfl ?_); refine box_event ?hg (N := 2) ?hd (cs := #[.slice A0 l.length c0, .int .i64 root]) (t := 24) ?hr ?_; (case hd => rfl); (case hg => rfl); (case hr => first | (go_simp; done) | (go_simp; rfl)); intro gb hg w1 hgb hb1; have HG1 := Lib.hid hgb; have HB1 := Lib.hid hb1; have HE1 := Lib.hid hg; clear hgb hb1 hg) | ((with_reducible refine gate_dst (N := 3) rfl ?_); refine box_event ?hg (N := 3) ?hd (cs := #[.int .i64 kd, .string tt, .slice A2 kids.length c2]) (t := 45) ?hr ?_; (case hd => rfl); (case hg => rfl); (case hr => first | (go_simp; done) | (go_simp; rfl)); intro nb hn w2 hnb hb2; have HX := Lib.hid (Bx.mk ((hb2.block gb (blk_lt HG1.out)).trans HG1.out) hnb); have HB2 := Lib.hid (HB1.out.trans (hb2.mono HB1.out.size)); have HE2 := Lib.hid hn; clear hnb hb2 hn HG1; obtain ⟨x0, x1, x2, x3, x4⟩ := HX.out.cells))
  go_ret
  exact ⟨by rw [HF.out]; first | done | rfl, HB2.out⟩
 have q1 : decide (kd < 1) = false := decide_eq_false k1
 by_cases k6 : 6 < kd
 ·
  have HF : Hid (R = false) := Lib.hid (by rw [← HR2.out]; simp [nodeB, k1, k6])
  have q2 : decide (6 < kd) = true := decide_eq_true k6
  have q3 : decide (kd > 6) = true := decide_eq_true k6
  go_enter Tryz.func50, Tryz.ntmps50
  go_wp2_with (first | ((with_reducible refine gate_dst (N := 2) rfl ?_); refine box_event ?hg (N := 2) ?hd (cs := #[.slice A0 l.length c0, .int .i64 root]) (t := 24) ?hr ?_; (case hd => rfl); (case hg => rfl); (case hr => first | (go_simp; done) | (go_simp; rfl)); intro gb hg w1 hgb hb1; have HG1 := Lib.hid hgb; have HB1 := Lib.hid hb1; have HE1 := Lib.hid hg; clear hgb hb1 hg) | ((with_reducible refine gate_dst (N := 3) rfl ?_); refine box_event ?hg (N := 3) ?hd (cs := #[.int .i64 kd, .string tt, .slice A2 kids.length c2]) (t := 45) ?hr ?_; (case hd => rfl); (case hg => rfl); (case hr => first | (go_simp; done) | (go_simp; rfl)); intro nb hn w2 hnb hb2; have HX := Lib.hid (Bx.mk ((hb2.block gb (blk_lt HG1.out)).trans HG1.out) hnb); have HB2 := Lib.hid (HB1.out.trans (hb2.mono HB1.out.size)); have HE2 := Lib.hid hn; clear hnb hb2 hn HG1; obtain ⟨x0, x1, x2, x3, x4⟩ := HX.out.cells))
  go_ret
  exact ⟨by rw [HF.out]; first | done | rfl, HB2.out⟩
 have q2 : decide (6 < kd) = false := decide_eq_false k6
 have q3 : decide (kd > 6) = false := decide_eq_false k6
 replace HT := Lib.hid (HT.out (by omega) (by omega))
 cases tx with
 | false =>
  have HF : Hid (R = false) := Lib.hid (by rw [← HR2.out]; simp [nodeB, k1, k6])
  go_enter Tryz.func50, Tryz.ntmps50
  go_wp2_with (first | ((with_reducible refine gate_dst (N := 2) rfl ?_); refine box_event ?hg (N := 2) ?hd (cs := #[.slice A0 l.length c0, .int .i64 root]) (t := 24) ?hr ?_; (case hd => rfl); (case hg => rfl); (case hr => first | (go_simp; done) | (go_simp; rfl)); intro gb hg w1 hgb hb1; have HG1 := Lib.hid hgb; have HB1 := Lib.hid hb1; have HE1 := Lib.hid hg; clear hgb hb1 hg) | ((with_reducible refine gate_dst (N := 3) rfl ?_); refine box_event ?hg (N := 3) ?hd (cs := #[.int .i64 kd, .string tt, .slice A2 kids.length c2]) (t := 45) ?hr ?_; (case hd => rfl); (case hg => rfl); (case hr => first | (go_simp; done) | (go_simp; rfl)); intro nb hn w2 hnb hb2; have HX := Lib.hid (Bx.mk ((hb2.block gb (blk_lt HG1.out)).trans HG1.out) hnb); have HB2 := Lib.hid (HB1.out.trans (hb2.mono HB1.out.size)); have HE2 := Lib.hid hn; clear hnb hb2 hn HG1; obtain ⟨x0, x1, x2, x3, x4⟩ := HX.out.cells) | (go_at_call 70; refine (graph_isText.calls _ _ _ _ _ (hG.below HB2.out) HT.out).mono ?_; rintro e w3 ⟨rfl, hb3⟩; have HX3 := Lib.hid (HX.out.below hb3); have HB3 := Lib.hid (HB2.out.trans (hb3.mono HB2.out.size)); clear hb3 HX HB2 x0 x1 x2 x3 x4; obtain ⟨x0, x1, x2, x3, x4⟩ := HX3.out.cells))
  go_ret
  exact ⟨by rw [HF.out]; first | done | rfl, HB3.out⟩
 | true =>
  have hS : graph_isScalar.f kd = some (scB kd) := by unfold graph_isScalar.f scB; rw [if_pos (by omega), decide_eq_true (by omega : (1 : Int) ≤ kd), Bool.true_and]
  have HS := Lib.hid hS
  clear hS
  by_cases ks4 : kd ≤ 4
  ·
   have hsc : scB kd = true := by unfold scB; rw [decide_eq_true (by omega : (1 : Int) ≤ kd), decide_eq_true ks4]; rfl
   have q4 : (kd == 6) = false := beq_eq_false_iff_ne.2 (by omega)
   by_cases kl : 0 < kids.length
   rotate_left
   ·
    refine isNode_on K1 K2 A0 c0 l root kd tt kids A2 c2 ks R w HR H2 hc2 hG HT HK HZ hkl HN q1 q2 (.inl ⟨hsc, by omega⟩) ?_
    exact (nodeB_on l kd tt kids ks k1 k6 (by rw [q4, decide_eq_false kl]; simp)).symm.trans HR2.out
   have HF : Hid (R = false) := Lib.hid (by rw [← HR2.out, nodeB, if_neg k1, if_neg k6, if_neg (by simp), if_pos (by simp [hsc, kl])])
   rw [hsc] at HS
   have q5 : decide ((0 : Int) < (kids.length : Int)) = true := decide_eq_true (by omega)
   have q6 : decide (0 < kids.length) = true := decide_eq_true kl
   go_enter Tryz.func50, Tryz.ntmps50
   go_wp2_with (first | ((with_reducible refine gate_dst (N := 2) rfl ?_); refine box_event ?hg (N := 2) ?hd (cs := #[.slice A0 l.length c0, .int .i64 root]) (t := 24) ?hr ?_; (case hd => rfl); (case hg => rfl); (case hr => first | (go_simp; done) | (go_simp; rfl)); intro gb hg w1 hgb hb1; have HG1 := Lib.hid hgb; have HB1 := Lib.hid hb1; have HE1 := Lib.hid hg; clear hgb hb1 hg) | ((with_reducible refine gate_dst (N := 3) rfl ?_); refine box_event ?hg (N := 3) ?hd (cs := #[.int .i64 kd, .string tt, .slice A2 kids.length c2]) (t := 45) ?hr ?_; (case hd => rfl); (case hg => rfl); (case hr => first | (go_simp; done) | (go_simp; rfl)); intro nb hn w2 hnb hb2; have HX := Lib.hid (Bx.mk ((hb2.block gb (blk_lt HG1.out)).trans HG1.out) hnb); have HB2 := Lib.hid (HB1.out.trans (hb2.mono HB1.out.size)); have HE2 := Lib.hid hn; clear hnb hb2 hn HG1; obtain ⟨x0, x1, x2, x3, x4⟩ := HX.out.cells) | (go_at_call 70; refine (graph_isText.calls _ _ _ _ _ (hG.below HB2.out) HT.out).mono ?_; rintro e w3 ⟨rfl, hb3⟩; have HX3 := Lib.hid (HX.out.below hb3); have HB3 := Lib.hid (HB2.out.trans (hb3.mono HB2.out.size)); clear hb3 HX HB2 x0 x1 x2 x3 x4; obtain ⟨x0, x1, x2, x3, x4⟩ := HX3.out.cells) | (go_at_call 71; refine (graph_isScalar.calls _ _ _ (hG.below HB3.out) HS.out).mono ?_; rintro e w4 ⟨rfl, hd4⟩; have HX4 := Lib.hid (HX3.out.below hd4.below); have HB4 := Lib.hid (HB3.out.trans (hd4.below.mono HB3.out.size)); clear hd4 HX3 HB3 x0 x1 x2 x3 x4; obtain ⟨x0, x1, x2, x3, x4⟩ := HX4.out.cells))
   go_ret
   exact ⟨by rw [HF.out]; first | done | rfl, HB4.out⟩
  have hsc : scB kd = false := by unfold scB; rw [decide_eq_false ks4, Bool.and_false]
  by_cases k66 : kd = 6
  rotate_left
  ·
   have q4 : (kd == 6) = false := beq_eq_false_iff_ne.2 k66
   refine isNode_on K1 K2 A0 c0 l root kd tt kids A2 c2 ks R w HR H2 hc2 hG HT HK HZ hkl HN q1 q2 (.inr (.inr ⟨hsc, q4⟩)) ?_
   exact (nodeB_on l kd tt kids ks k1 k6 (by rw [hsc, q4]; rfl)).symm.trans HR2.out
  have q4 : (kd == 6) = true := beq_iff_eq.2 k66
  by_cases ko : kids.length % 2 = 0
  ·
   refine isNode_on K1 K2 A0 c0 l root kd tt kids A2 c2 ks R w HR H2 hc2 hG HT HK HZ hkl HN q1 q2 (.inr (.inl ⟨hsc, q4, ko⟩)) ?_
   exact (nodeB_on l kd tt kids ks k1 k6 (by rw [hsc, ko]; simp)).symm.trans HR2.out
  have HF : Hid (R = false) := Lib.hid (by rw [← HR2.out, nodeB, if_neg k1, if_neg k6, if_neg (by simp), if_pos (by simp [k66]; omega)])
  have q7 : (kids.length : Int).tmod 2 = 1 := by rw [Int.tmod_eq_emod_of_nonneg (by omega)]; omega
  rw [hsc] at HS
  clear k66 ko
  go_enter Tryz.func50, Tryz.ntmps50
  go_wp2_with (first | ((with_reducible refine gate_dst (N := 2) rfl ?_); refine box_event ?hg (N := 2) ?hd (cs := #[.slice A0 l.length c0, .int .i64 root]) (t := 24) ?hr ?_; (case hd => rfl); (case hg => rfl); (case hr => first | (go_simp; done) | (go_simp; rfl)); intro gb hg w1 hgb hb1; have HG1 := Lib.hid hgb; have HB1 := Lib.hid hb1; have HE1 := Lib.hid hg; clear hgb hb1 hg) | ((with_reducible refine gate_dst (N := 3) rfl ?_); refine box_event ?hg (N := 3) ?hd (cs := #[.int .i64 kd, .string tt, .slice A2 kids.length c2]) (t := 45) ?hr ?_; (case hd => rfl); (case hg => rfl); (case hr => first | (go_simp; done) | (go_simp; rfl)); intro nb hn w2 hnb hb2; have HX := Lib.hid (Bx.mk ((hb2.block gb (blk_lt HG1.out)).trans HG1.out) hnb); have HB2 := Lib.hid (HB1.out.trans (hb2.mono HB1.out.size)); have HE2 := Lib.hid hn; clear hnb hb2 hn HG1; obtain ⟨x0, x1, x2, x3, x4⟩ := HX.out.cells) | (go_at_call 70; refine (graph_isText.calls _ _ _ _ _ (hG.below HB2.out) HT.out).mono ?_; rintro e w3 ⟨rfl, hb3⟩; have HX3 := Lib.hid (HX.out.below hb3); have HB3 := Lib.hid (HB2.out.trans (hb3.mono HB2.out.size)); clear hb3 HX HB2 x0 x1 x2 x3 x4; obtain ⟨x0, x1, x2, x3, x4⟩ := HX3.out.cells) | (go_at_call 71; refine (graph_isScalar.calls _ _ _ (hG.below HB3.out) HS.out).mono ?_; rintro e w4 ⟨rfl, hd4⟩; have HX4 := Lib.hid (HX3.out.below hd4.below); have HB4 := Lib.hid (HB3.out.trans (hd4.below.mono HB3.out.size)); clear hd4 HX3 HB3 x0 x1 x2 x3 x4; obtain ⟨x0, x1, x2, x3, x4⟩ := HX4.out.cells))
  go_ret
  exact ⟨by rw [HF.out]; first | done | rfl, HB4.out⟩
def textB (kd : Int) (s : ByteArray) : Bool :=
 if kd = 2 then resB s.data.toList == 2 else if kd = 3 then resB s.data.toList == 3
 else if kd = 4 then ((decodeB s.data.toList).2.1 == 0 && (decodeB s.data.toList).2.2 == 0) else s.toList == []
theorem isText_of (K : Nat) (kd : Int) (s : ByteArray) (hs : s.size ≤ 1099511627775) : graph_isText.f (K + 1) kd s = some (textB kd s) := by
 have hR : plain_Resolve.f s = some (resB s.data.toList) := by unfold plain_Resolve.f; rw [if_pos (by omega)]
 have hD : utf_Decode.f s = some (decodeB s.data.toList) := by unfold utf_Decode.f; rw [if_pos hs]
 unfold graph_isText.f textB
 by_cases h2 : kd = 2
 · subst h2; simp [graph_isText.j0, hR]
 by_cases h3 : kd = 3
 · subst h3; simp [graph_isText.j0, hR]
 by_cases h4 : kd = 4
 · subst h4; simp [graph_isText.j0, hD]
 have : (kd == 3) = false := beq_eq_false_iff_ne.2 h3
 simp [graph_isText.j0, h2, h3, h4]
def evens : List Int → List Int
 | a :: _ :: r => a :: evens r
 | _ => []
theorem evens_mem : ∀ (l : List Int) (k : Int), k ∈ evens l → k ∈ l
 | [], k, h => by simp [evens] at h
 | [_], k, h => by simp [evens] at h
 | a :: b :: r, k, h => by
  rw [evens, List.mem_cons] at h
  rcases h with h | h
  · exact h ▸ List.mem_cons_self
  · exact List.mem_cons_of_mem _ (List.mem_cons_of_mem _ (evens_mem r k h))
theorem evens_len : ∀ l : List Int, (evens l).length ≤ l.length
 | [] => by simp [evens]
 | [_] => by simp [evens]
 | a :: b :: r => by have := evens_len r; simp [evens]; omega
def keysB (kd : Int) (kids : List Int) : List Int := if kd = 6 then evens kids else []
theorem keys_l0 (kd : Int) (tt : ByteArray) (kids : List Int) (hk : kids.length ≤ 1099511627776) : ∀ (K i : Nat) (acc : List Int), i ≤ kids.length + 1 → kids.length + 1 < i + K → acc.length ≤ i →
    graph_keys.l0 K acc (i : Int) kd tt kids = some (acc ++ evens (kids.drop i))
  | 0, i, acc, h1, h2, h3 => by omega
  | K + 1, i, acc, h1, h2, h3 => by
    rw [graph_keys.l0, show wrap64 ((i : Int) + 1) = (i : Int) + 1 by unfold wrap64; omega]
    by_cases h : (i : Int) + 1 < (kids.length : Int)
    · have e1 : kids.drop i = kids[i] :: kids[i + 1] :: kids.drop (i + 2) := by rw [List.drop_eq_getElem_cons (by omega), List.drop_eq_getElem_cons (by omega)]
      rw [if_pos h, if_pos (by omega), if_pos (by omega), if_pos (by omega), show wrap64 ((i : Int) + 2) = (i : Int) + 2 by unfold wrap64; omega, show ((i : Int) + 2) = ((i + 2 : Nat) : Int) by omega,
        keys_l0 kd tt kids hk K (i + 2) _ (by omega) (by omega) (by rw [List.length_append]; simp; omega), e1, evens, rd_at kids i (by omega)]
      simp
    · rw [if_neg h]
      have e1 : evens (kids.drop i) = [] := by
        have : (kids.drop i).length ≤ 1 := by rw [List.length_drop]; omega
        match hd : kids.drop i, this with
        | [], _ => rfl
        | [_], _ => rfl
      rw [e1, List.append_nil]
theorem keys_of (kd : Int) (tt : ByteArray) (kids : List Int) (hk : kids.length ≤ 1099511627776) (K : Nat) (hK : kids.length + 1 < K) : graph_keys.f K kd tt kids = some (keysB kd kids) := by
 unfold graph_keys.f keysB
 by_cases h : kd = 6
 rotate_left
 · rw [if_neg h, if_neg h]
 rw [if_pos h, if_pos h]
 have := keys_l0 kd tt kids hk K 0 [] (by omega) (by omega) (by simp)
 simpa using this
theorem keys_sub (kd : Int) (kids : List Int) : ∀ k ∈ keysB kd kids, k ∈ kids := by
 unfold keysB
 split
 · exact evens_mem kids
 · intro k h; simp at h
theorem keys_len (kd : Int) (kids : List Int) : (keysB kd kids).length ≤ kids.length := by
 unfold keysB
 split
 · exact evens_len kids
 · simp
def isN (l : List S45) (n : S45) : Bool := nodeB l n (textB n.f0 n.f1) (keysB n.f0 n.f2)
def bump (u : List Int) (k : Int) : List Int := u.set k.toNat (wrap64 (rd u k + 1))
def usesB (l : List S45) : List S45 → List Int → Option (List Int)
 | [], u => some u
 | n :: r, u => if isN l n = true then usesB l r (n.f2.foldl bump u) else none
def soleN (u : List Int) (n : S45) : Bool := (keysB n.f0 n.f2).any (fun k => decide (rd u k > 1))
def soleB (u : List Int) : List S45 → Bool
 | [] => true
 | n :: r => if soleN u n = true then false else soleB u r
def rightB (l : List S45) (root : Int) : Bool :=
 if l.length = 0 then false else if 4096 < l.length then false else if root < 0 then false else if (l.length : Int) ≤ root then false
 else match usesB l l (bump (List.replicate l.length 0) root) with
 | none => false
 | some u => soleB u l
def sizesB (l : List S45) : Bool := l.all fun m => decide (m.f1.size ≤ 1099511627775) && decide (m.f2.length ≤ 1099511627776)
def graph_Right.f (l : List S45) (root : Int) : Option Bool := if sizesB l = true then some (rightB l root) else none
theorem bump_len (u : List Int) (k : Int) : (bump u k).length = u.length := List.length_set
theorem bumps_len : ∀ (ks : List Int) (u : List Int), (ks.foldl bump u).length = u.length
 | [], _ => rfl
 | k :: ks, u => (bumps_len ks (bump u k)).trans (bump_len u k)
theorem isN_range {l : List S45} {n : S45} (h : isN l n = true) : ∀ k ∈ n.f2, 0 ≤ k ∧ k < (l.length : Int) := by
 unfold isN nodeB at h
 split at h; · cases h
 split at h; · cases h
 split at h; · cases h
 split at h; · cases h
 split at h; · cases h
 ·
  rename_i h5
  intro k hk
  have := List.any_eq_false.1 (Bool.eq_false_iff.2 h5) k hk
  simp [farB] at this
  exact this
theorem usesB_all (l : List S45) : ∀ (r : List S45) (u v : List Int), usesB l r u = some v → ∀ n ∈ r, isN l n = true
 | [], _, _, _, n, hn => by simp at hn
 | m :: r, u, v, h, n, hn => by
  rw [usesB] at h
  by_cases c : isN l m = true
  rotate_left
  · rw [if_neg c] at h; cases h
  rw [if_pos c] at h
  rcases List.mem_cons.1 hn with e | e
  · exact e ▸ c
  · exact usesB_all l r _ v h n e
structure Us (B gb ub rb cp : Nat) (A0 : Option Addr) (n0 c0 : Nat) (root : Int) (u : List Int) (w : World) : Prop where
 g : w.heap[gb]? = some (.cells #[.slice A0 n0 c0, .int .i64 root] 24 (0, 0))
 len : u.length = n0
 b : w.heap[ub]? = some (.cells #[.slice (some ⟨rb, 0, none⟩) n0 cp] 40 (0, 0))
 row : Kd.R (Kd.int .i64) 3 w B (fun _ => True) (.slice (some ⟨rb, 0, none⟩) n0 cp) u
section
variable {B gb ub rb cp : Nat} {A0 : Option Addr} {n0 c0 : Nat} {root : Int} {u : List Int} {w w' : World}
theorem Us.cells (h : Us B gb ub rb cp A0 n0 c0 root u w) : w.cell? ⟨gb, 0, none⟩ = some (.slice A0 n0 c0) ∧ w.cell? ⟨gb, 1, none⟩ = some (.int .i64 root) ∧ w.cell? ⟨ub, 0, none⟩ = some (.slice (some ⟨rb, 0, none⟩) n0 cp) :=
  ⟨(blk_cell h.g 0).trans rfl, (blk_cell h.g 1).trans rfl, (blk_cell h.b 0).trans rfl⟩
theorem Us.below (h : Us B gb ub rb cp A0 n0 c0 root u w) (hb : Below w.heap.size w w') : Us B gb ub rb cp A0 n0 c0 root u w' :=
  ⟨(hb.block gb (blk_lt h.g)).trans h.g, h.len, (hb.block ub (blk_lt h.b)).trans h.b, Kd.R_below h.row hb⟩
theorem Us.at_ (h : Us B gb ub rb cp A0 n0 c0 root u w) (k : Int) (h0 : 0 ≤ k) (h1 : k < (n0 : Int)) : w.cell? ⟨rb, k.toNat, none⟩ = some (.int .i64 (rd u k)) ∧ w.frozen? ⟨rb, k.toNat, none⟩ = false :=
  Kd.R_celln 0 h.row k h0 h1
theorem Us.put (h : Us B gb ub rb cp A0 n0 c0 root u w) (k x : Int) : Us B gb ub rb cp A0 n0 c0 root (u.set k.toNat x) (w.setCell ⟨rb, k.toNat, none⟩ (.int .i64 x)) ∧ w.grownBy (w.setCell ⟨rb, k.toNat, none⟩ (.int .i64 x)) (some rb) := by
 obtain ⟨h1, hg⟩ := Kd.R_putg h.row k x
 have n1 : some gb ≠ some rb := Kd.R_ne h.row h.g (by decide)
 have n2 : some ub ≠ some rb := Kd.R_ne h.row h.b (by decide)
 exact ⟨⟨(hg.block gb (blk_lt h.g) n1).trans h.g, by rw [List.length_set]; exact h.len, (hg.block ub (blk_lt h.b) n2).trans h.b, h1⟩, hg⟩
theorem Us.base (h : Us B gb ub rb cp A0 n0 c0 root u w) : B ≤ rb := Kd.R_base h.row rb rfl
end
set_option maxHeartbeats 2000000 in
set_option maxRecDepth 100000 in
theorem more_is (x : Int) (B gb ub rb cp : Nat) (A0 : Option Addr) (n0 c0 : Nat) (root : Int) (u : List Int) (w : World) (hu : Us B gb ub rb cp A0 n0 c0 root u w) (h0 : 0 ≤ x) (h1 : x < (n0 : Int)) :
  Calls Tryz.prog 53 #[.int .i64 x, .pointer (some ⟨ub, 0, none⟩)] w fun e w' => e = .returned (.bool (decide (rd u x > 1))) ∧ Below w.heap.size w w' := by
 obtain ⟨_, _, c0'⟩ := hu.cells
 obtain ⟨c1, _⟩ := hu.at_ x h0 h1
 have p1 := eq_true h0
 have p2 := eq_true h1
 clear hu h0 h1
 go_enter Tryz.func53, Tryz.ntmps53
 go_wp2
 go_ret
 exact ⟨rfl, Below.refl _ w⟩
theorem more_enters : ∀ args w, (callFunc 53 args).run Tryz.prog w = .ok (.enter 53 args) w := fun _ _ => by kernel_rfl
theorem node_cells {w W : World} (hb : Below w.heap.size w W) {A : Option Addr} {l : List S45} (h : Kd.C k45 w A l.length l) (k : Nat) (hk : k < l.length) :
  ∃ ad A2 c2, A = some ad ∧ W.cell? (ad.add (k * 3)) = some (.int .i64 l[k].f0) ∧ W.cell? ⟨(ad.add (k * 3)).block, (ad.add (k * 3)).off + 1, none⟩ = some (.string l[k].f1) ∧ W.cell? ⟨(ad.add (k * 3)).block, (ad.add (k * 3)).off + 2, none⟩ = some (.slice A2 l[k].f2.length c2) ∧ l[k].f2.length ≤ c2 ∧ Kd.C (Kd.int .i64) w A2 l[k].f2.length l[k].f2 := by
 obtain ⟨ad, A2, c2, eA, h0, h1, h2, h3, h4⟩ := at_T45 h (k : Int) (by omega) (by omega)
 have e : rd_T45 l (k : Int) = l[k] := by unfold rd_T45; rw [Int.toNat_natCast, List.getD_eq_getElem?_getD, List.getElem?_eq_getElem hk]; rfl
 rw [e] at h0 h1 h2 h3 h4
 rw [Int.toNat_natCast] at h0 h1 h2
 exact ⟨ad, A2, c2, eA, (hb.cell (World.block_lt_of_cell? w _ h0)).trans h0, (hb.cell (World.block_lt_of_cell? w _ h1)).trans h1, (hb.cell (World.block_lt_of_cell? w _ h2)).trans h2, h3, h4⟩
def endB (l : List S45) (U : Option (List Int)) : Bool := match U with
 | none => false
 | some u => soleB u l
set_option maxHeartbeats 8000000 in
set_option maxRecDepth 100000 in
theorem graph_Right.calls (A0 : Option Addr) (c0 : Nat) (l : List S45) (root : Int) (r : Bool) (w : World) (hr0 : Kd.C k45 w A0 l.length l) (hc0 : l.length ≤ c0) (hG : Glob.G w) (h : graph_Right.f l root = some r) :
    Calls Tryz.prog 35 #[.agg #[.slice A0 l.length c0, .int .i64 root]] w fun e w' => e = .returned (.bool r) ∧ Below w.heap.size w w' := by
  unfold graph_Right.f at h
  by_cases hz : sizesB l = true
  · rw [if_pos hz] at h
    obtain hR := Option.some.inj h
    have HR := Lib.hid hr0
    have HZ := Lib.hid (show ∀ m ∈ l, m.f1.size ≤ 1099511627775 ∧ m.f2.length ≤ 1099511627776 from fun m hm => by
      have := List.all_eq_true.1 hz m hm
      simp at this
      exact this)
    clear h hz hr0
    by_cases k0 : l.length = 0
    · have HF : Hid (r = false) := Lib.hid (by rw [← hR]; unfold rightB; rw [if_pos k0])
      have q0 : ((l.length : Int) == 0) = true := beq_iff_eq.2 (by omega)
      clear hR
      go_enter Tryz.func35, Tryz.ntmps35
      go_wp2_with (first | ((with_reducible refine gate_dst (N := 1) rfl ?_); refine box_event ?hg (N := 1) ?hd (cs := #[.slice A0 l.length c0, .int .i64 root]) (t := 24) ?hr ?_; (case hd => rfl); (case hg => rfl); (case hr => first | (go_simp; done) | (go_simp; rfl)); intro gb hg w1 hgb hb1; have HG1 := Lib.hid hgb; have HB1 := Lib.hid hb1; clear hgb hb1 hg; have x0 := (blk_cell HG1.out 0).trans rfl; have x1 := (blk_cell HG1.out 1).trans rfl))
      go_ret
      exact ⟨by rw [HF.out]; first | done | rfl, HB1.out⟩
    · have q0 : ((l.length : Int) == 0) = false := beq_eq_false_iff_ne.2 (by omega)
      by_cases k1 : 4096 < l.length
      · have HF : Hid (r = false) := Lib.hid (by rw [← hR]; unfold rightB; rw [if_neg k0, if_pos k1])
        have q1 : decide (4096 < (l.length : Int)) = true := decide_eq_true (by omega)
        clear hR
        go_enter Tryz.func35, Tryz.ntmps35
        go_wp2_with (first | ((with_reducible refine gate_dst (N := 1) rfl ?_); refine box_event ?hg (N := 1) ?hd (cs := #[.slice A0 l.length c0, .int .i64 root]) (t := 24) ?hr ?_; (case hd => rfl); (case hg => rfl); (case hr => first | (go_simp; done) | (go_simp; rfl)); intro gb hg w1 hgb hb1; have HG1 := Lib.hid hgb; have HB1 := Lib.hid hb1; clear hgb hb1 hg; have x0 := (blk_cell HG1.out 0).trans rfl; have x1 := (blk_cell HG1.out 1).trans rfl))
        go_ret
        exact ⟨by rw [HF.out]; first | done | rfl, HB1.out⟩
      · have q1 : decide (4096 < (l.length : Int)) = false := decide_eq_false (by omega)
        by_cases k2 : root < 0
        · have HF : Hid (r = false) := Lib.hid (by rw [← hR]; unfold rightB; rw [if_neg k0, if_neg k1, if_pos k2])
          have q2 : decide (root < 0) = true := decide_eq_true k2
          clear hR
          go_enter Tryz.func35, Tryz.ntmps35
          go_wp2_with (first | ((with_reducible refine gate_dst (N := 1) rfl ?_); refine box_event ?hg (N := 1) ?hd (cs := #[.slice A0 l.length c0, .int .i64 root]) (t := 24) ?hr ?_; (case hd => rfl); (case hg => rfl); (case hr => first | (go_simp; done) | (go_simp; rfl)); intro gb hg w1 hgb hb1; have HG1 := Lib.hid hgb; have HB1 := Lib.hid hb1; clear hgb hb1 hg; have x0 := (blk_cell HG1.out 0).trans rfl; have x1 := (blk_cell HG1.out 1).trans rfl))
          go_ret
          exact ⟨by rw [HF.out]; first | done | rfl, HB1.out⟩
        · have q2 : decide (root < 0) = false := decide_eq_false k2
          by_cases k3 : (l.length : Int) ≤ root
          · have HF : Hid (r = false) := Lib.hid (by rw [← hR]; unfold rightB; rw [if_neg k0, if_neg k1, if_neg k2, if_pos k3])
            have q3 : decide ((l.length : Int) ≤ root) = true := decide_eq_true k3
            clear hR
            go_enter Tryz.func35, Tryz.ntmps35
            go_wp2_with (first | ((with_reducible refine gate_dst (N := 1) rfl ?_); refine box_event ?hg (N := 1) ?hd (cs := #[.slice A0 l.length c0, .int .i64 root]) (t := 24) ?hr ?_; (case hd => rfl); (case hg => rfl); (case hr => first | (go_simp; done) | (go_simp; rfl)); intro gb hg w1 hgb hb1; have HG1 := Lib.hid hgb; have HB1 := Lib.hid hb1; clear hgb hb1 hg; have x0 := (blk_cell HG1.out 0).trans rfl; have x1 := (blk_cell HG1.out 1).trans rfl))
            go_ret
            exact ⟨by rw [HF.out]; first | done | rfl, HB1.out⟩
          · have q3 : decide ((l.length : Int) ≤ root) = false := decide_eq_false k3
            obtain ⟨U, hU⟩ : ∃ U, usesB l l (bump (List.replicate l.length 0) root) = U := ⟨_, rfl⟩
            have HV := Lib.hid (show endB l U = r by rw [← hR, ← hU]; unfold rightB endB; rw [if_neg k0, if_neg k1, if_neg k2, if_neg k3]; first | done | rfl)
            obtain ⟨u0, hu0⟩ : ∃ u, u = List.replicate l.length (0 : Int) := ⟨_, rfl⟩
            rw [← hu0] at hU
            have hul : u0.length = l.length := by rw [hu0, List.length_replicate]
            have HU := Lib.hid hU
            have HU0 := Lib.hid hu0
            have r0 : 0 ≤ root := by omega
            have r1 : root < (l.length : Int) := by omega
            have p1 := eq_true r0
            have p2 := eq_true r1
            have HUA := Lib.hid hU
            have hll : l.length ≤ 4096 := by omega
            clear hR hU hu0 k2 k3
            go_enter Tryz.func35, Tryz.ntmps35
            go_wp2_with (first | ((with_reducible refine gate_dst (N := 1) rfl ?_); refine box_event ?hg (N := 1) ?hd (cs := #[.slice A0 l.length c0, .int .i64 root]) (t := 24) ?hr ?_; (case hd => rfl); (case hg => rfl); (case hr => first | (go_simp; done) | (go_simp; rfl)); intro gb hg w1 hgb hb1; have HG1 := Lib.hid hgb; have HB1 := Lib.hid hb1; clear hgb hb1 hg; have x0 := (blk_cell HG1.out 0).trans rfl; have x1 := (blk_cell HG1.out 1).trans rfl) | ((with_reducible refine gate_dst (N := 36) rfl ?_); refine Kd.R_make (Kd.int .i64) _ 3 rfl (N := 36) rfl 40 _ _ rfl (l.length : Int) rfl rfl Tryz.underlying40 (.int .i64 0) 8 info3 rfl (by decide) (by omega) 0 (ok := fun _ => True) (okp := fun _ => True) rfl (fun _ hk => hk) trivial (by omega) (by omega) (Below.refl _ _) (Nat.le_refl _) ?_; intro v w2 ho hb hg_ hnew_; clear hg_ hnew_; simp only [Int.toNat_natCast] at ho; rw [← HU0.out] at ho; obtain ⟨rb, cp, ev, _, hrb, _, _⟩ := Kd.R_form ho (by omega); subst ev; rw [hul] at ho; have hb2 : Below w2.heap.size w2 (w2.alloc (.cells #[.slice (some ⟨rb, 0, none⟩) l.length cp] 40 (0, 0))) := below_alloc (Below.refl _ _) _; have HUs := Lib.hid (Us.mk ((hb2.block gb (blk_lt ((hb.block gb (blk_lt HG1.out)).trans HG1.out))).trans ((hb.block gb (blk_lt HG1.out)).trans HG1.out)) hul (blk_new w2 _) (Kd.R_below (Kd.R_lower ho HB1.out.size) hb2)); have HB3 := Lib.hid ((HB1.out.trans (hb.mono HB1.out.size)).trans (hb2.mono (HB1.out.trans (hb.mono HB1.out.size)).size)); clear ho hb hb2 HG1 HB1 x0 x1; obtain ⟨y0, y1, y2⟩ := HUs.out.cells; obtain ⟨y3, y4⟩ := HUs.out.at_ root r0 r1; obtain ⟨hu3, hg3⟩ := HUs.out.put root (wrap64 (rd u0 root + 1)); rw [World.setCell_alloc_past _ _ _ _ hrb] at hu3 hg3; have HU3 := Lib.hid hu3; have HB4 := Lib.hid (HB3.out.trans (below_of_grown hg3 HUs.out.base HB3.out.size)); obtain ⟨z0, z1, z2⟩ := hu3.cells; clear hu3 hg3))
            generalize World.alloc _ _ = w5 at HU3 HB4 ⊢
            clear HUs HB3 y0 y1 y2 y3 y4 z0 z1 z2 q0 q1 q2 q3 k0 k1
            go_loopw [47] (fun v wr => ∃ (i : Nat) (u : List Int), v = .int .i64 i ∧ i ≤ l.length ∧ Hid (usesB l (l.drop i) u = U) ∧ Hid (Us w.heap.size gb w2.heap.size rb cp A0 l.length c0 root u wr) ∧ Hid (Below w.heap.size w wr)) (fun v _ => l.length - (intOf v).toNat)
            case atStart => exact ⟨0, _, rfl, by omega, HU, HU3, HB4⟩
            case round =>
              obtain ⟨i, u, rfl, hi, hst, HUR, HBR⟩ := hrel
              clear HU HU3 HB4
              obtain ⟨x0, x1, x2⟩ := HUR.out.cells
              by_cases hlt : i < l.length
              · have hc : decide ((i : Int) < (l.length : Int)) = true := decide_eq_true (by omega)
                have p3 : (0 ≤ (i : Int)) = True := eq_true (by omega)
                have p4 : ((i : Int) < (l.length : Int)) = True := eq_true (by omega)
                obtain ⟨bd, A2, c2, rfl, y0, y1, y2, hc2, hC⟩ := node_cells HBR.out HR.out i hlt
                obtain ⟨hz1, hz2⟩ := HZ.out l[i] (List.getElem_mem hlt)
                have hst2 := hst.out
                rw [List.drop_eq_getElem_cons hlt, usesB] at hst2
                generalize l[i] = n at *
                obtain ⟨kd, tt, kids⟩ := n
                dsimp only at y0 y1 y2 hc2 hC hz1 hz2 hst2
                have HC := Lib.hid hC
                have hb8 : Below wr.heap.size wr (wr.alloc (.cells #[.int .i64 kd, .string tt, .slice A2 kids.length c2] 45 (0, 0))) := below_alloc (Below.refl _ _) _
                have hk8 : (wr.alloc (.cells #[.int .i64 kd, .string tt, .slice A2 kids.length c2] 45 (0, 0))).heap[wr.heap.size]? = some (.cells #[.int .i64 kd, .string tt, .slice A2 kids.length c2] 45 (0, 0)) := blk_new wr _
                have HU8 := Lib.hid (HUR.out.below hb8)
                have HB8 := Lib.hid (HBR.out.trans (hb8.mono HBR.out.size))
                have HK8 := Lib.hid hk8
                obtain ⟨z0, z1, z2⟩ := HU8.out.cells
                clear hC hb8 hk8 HUR HBR
                cases hN : isN l ⟨kd, tt, kids⟩ with
                | false =>
                  have HN := Lib.hid (show nodeB l ⟨kd, tt, kids⟩ (textB kd tt) (keysB kd kids) = false from hN)
                  have HF : Hid (r = false) := Lib.hid (by rw [← HV.out]; rw [hN, if_neg Bool.false_ne_true] at hst2; rw [← hst2]; rfl)
                  clear hst hst2 hN
                  go_wp2_with (first | (go_at_call 50; refine (isNode_is 1 (kids.length + 2) _ c0 l root ⟨kd, tt, kids⟩ A2 c2 (textB kd tt) (keysB kd kids) _ (Kd.C_below HR.out HB8.out) hc0 (Kd.C_below HC.out HB8.out) hc2 (hG.below HB8.out) (fun _ _ => isText_of 0 kd tt hz1) (keys_of kd tt kids hz2 _ (by omega)) (fun m hm => Nat.le_trans (HZ.out m hm).1 (by omega)) (Nat.le_trans (keys_len kd kids) hz2) (keys_sub kd kids)).mono ?_; rw [HN.out]; rintro e w9 ⟨rfl, hb9⟩; have HU9 := Lib.hid (HU8.out.below hb9); have HK9 := Lib.hid ((hb9.block _ (blk_lt HK8.out)).trans HK8.out); have HB9 := Lib.hid (HB8.out.trans (hb9.mono HB8.out.size)); clear hb9 HU8 HK8 HB8; have q0 := (blk_cell HK9.out 0).trans rfl; have q1 := (blk_cell HK9.out 1).trans rfl; have q2 := (blk_cell HK9.out 2).trans rfl))
                  go_ret
                  exact ⟨by rw [HF.out]; first | done | rfl, HB9.out⟩
                | true =>
                  have HN := Lib.hid (show nodeB l ⟨kd, tt, kids⟩ (textB kd tt) (keysB kd kids) = true from hN)
                  have HST := Lib.hid (show usesB l (l.drop (i + 1)) (kids.foldl bump u) = U by rw [hN, if_pos rfl] at hst2; exact hst2)
                  have HRG := Lib.hid (isN_range hN)
                  have HLO := Lib.hid hlt
                  clear hst hst2 hN
                  go_wp2_with (first | (go_at_call 50; refine (isNode_is 1 (kids.length + 2) _ c0 l root ⟨kd, tt, kids⟩ A2 c2 (textB kd tt) (keysB kd kids) _ (Kd.C_below HR.out HB8.out) hc0 (Kd.C_below HC.out HB8.out) hc2 (hG.below HB8.out) (fun _ _ => isText_of 0 kd tt hz1) (keys_of kd tt kids hz2 _ (by omega)) (fun m hm => Nat.le_trans (HZ.out m hm).1 (by omega)) (Nat.le_trans (keys_len kd kids) hz2) (keys_sub kd kids)).mono ?_; rw [HN.out]; rintro e w9 ⟨rfl, hb9⟩; have HU9 := Lib.hid (HU8.out.below hb9); have HK9 := Lib.hid ((hb9.block _ (blk_lt HK8.out)).trans HK8.out); have HB9 := Lib.hid (HB8.out.trans (hb9.mono HB8.out.size)); clear hb9 HU8 HK8 HB8; have q0 := (blk_cell HK9.out 0).trans rfl; have q1 := (blk_cell HK9.out 1).trans rfl; have q2 := (blk_cell HK9.out 2).trans rfl))
                  clear x0 x1 x2 y0 y1 y2 z0 z1 z2 q0 q1 q2
                  go_loopw [58] (fun v wr => ∃ (j : Nat) (u2 : List Int), v = .int .i64 j ∧ j ≤ kids.length ∧ Hid ((kids.drop j).foldl bump u2 = kids.foldl bump u) ∧ Hid (Us w.heap.size gb w2.heap.size rb cp (some bd) l.length c0 root u2 wr) ∧ Hid (Below w.heap.size w wr)) (fun v _ => kids.length - (intOf v).toNat)
                  case atStart => exact ⟨0, u, rfl, by omega, Lib.hid rfl, HU9, HB9⟩
                  case round =>
                    obtain ⟨j, u2, rfl, hj, hst, HUR, HBR⟩ := hrel
                    clear HU9 HB9 HK9
                    obtain ⟨x0, x1, x2⟩ := HUR.out.cells
                    by_cases hlt2 : j < kids.length
                    · have hd : decide ((j : Int) < (kids.length : Int)) = true := decide_eq_true (by omega)
                      obtain ⟨cd, rfl, hx⟩ := Kd.at_int (Kd.C_below HC.out HBR.out) (j : Int) (by omega) (by omega)
                      rw [rd_at kids j hlt2, Int.toNat_natCast] at hx
                      obtain ⟨j0, j1⟩ := HRG.out kids[j] (List.getElem_mem hlt2)
                      have hst2 := hst.out
                      rw [List.drop_eq_getElem_cons hlt2, List.foldl_cons] at hst2
                      have HS := Lib.hid hst2
                      clear hst hst2
                      generalize kids[j] = k at *
                      obtain ⟨y3, y4⟩ := HUR.out.at_ k j0 j1
                      obtain ⟨hu3, hg3⟩ := HUR.out.put k (wrap64 (rd u2 k + 1))
                      have HU3 := Lib.hid hu3
                      have HB3 := Lib.hid (HBR.out.trans (below_of_grown hg3 HUR.out.base HBR.out.size))
                      have p5 : (0 ≤ k) = True := eq_true j0
                      have p6 : (k < (l.length : Int)) = True := eq_true j1
                      have p7 : (0 ≤ (j : Int)) = True := eq_true (by omega)
                      have p8 : ((j : Int) < (kids.length : Int)) = True := eq_true (by omega)
                      have HL := Lib.hid hlt2
                      clear hu3 hg3 HUR HBR
                      go_wp2
                      go_roundw
                      case rel => have := HL.out; exact ⟨j + 1, bump u2 k, by go_num, HL.out, HS, HU3, HB3⟩
                      case measure => have := HL.out; simp [intOf]; omega
                    · have hd : decide ((j : Int) < (kids.length : Int)) = false := decide_eq_false (by omega)
                      have hst2 := hst.out
                      rw [List.drop_of_length_le (by omega), List.foldl_nil] at hst2
                      subst hst2
                      clear hst
                      go_wp2
                      go_roundw
                      case rel => have := HLO.out; exact ⟨i + 1, _, by go_num, HLO.out, HST, HUR, HBR⟩
                      case measure => have := HLO.out; simp [intOf]; omega
              · have hc : decide ((i : Int) < (l.length : Int)) = false := decide_eq_false (by omega)
                have hst2 := hst.out
                rw [List.drop_of_length_le (by omega), usesB] at hst2
                subst hst2
                have HVS := Lib.hid (show soleB u l = r from HV.out)
                have HALL := Lib.hid (usesB_all l l _ _ HUA.out)
                clear hst
                go_wp2
                clear x0 x1 x2 hc
                go_loopw [73] (fun v wr => ∃ i : Nat, v = .int .i64 i ∧ i ≤ l.length ∧ Hid (soleB u (l.drop i) = r) ∧ Hid (Us w.heap.size gb w2.heap.size rb cp A0 l.length c0 root u wr) ∧ Hid (Below w.heap.size w wr)) (fun v _ => l.length - (intOf v).toNat)
                case atStart => exact ⟨0, rfl, by omega, HVS, HUR, HBR⟩
                case round =>
                  clear HUR HBR HVS hlt hi
                  obtain ⟨i, rfl, hi, hst, HUR, HBR⟩ := hrel
                  obtain ⟨x0, x1, x2⟩ := HUR.out.cells
                  by_cases hlt : i < l.length
                  · have hc : decide ((i : Int) < (l.length : Int)) = true := decide_eq_true (by omega)
                    have p3 : (0 ≤ (i : Int)) = True := eq_true (by omega)
                    have p4 : ((i : Int) < (l.length : Int)) = True := eq_true (by omega)
                    obtain ⟨bd, A2, c2, rfl, y0, y1, y2, hc2, hC⟩ := node_cells HBR.out HR.out i hlt
                    obtain ⟨hz1, hz2⟩ := HZ.out l[i] (List.getElem_mem hlt)
                    have hst2 := hst.out
                    rw [List.drop_eq_getElem_cons hlt, soleB] at hst2
                    have HNR := Lib.hid (HALL.out l[i] (List.getElem_mem hlt))
                    generalize l[i] = n at *
                    obtain ⟨kd, tt, kids⟩ := n
                    dsimp only at y0 y1 y2 hc2 hC hz1 hz2 hst2
                    have HC := Lib.hid hC
                    have hb8 : Below wr.heap.size wr (wr.alloc (.cells #[.int .i64 kd, .string tt, .slice A2 kids.length c2] 45 (0, 0))) := below_alloc (Below.refl _ _) _
                    have hk8 : (wr.alloc (.cells #[.int .i64 kd, .string tt, .slice A2 kids.length c2] 45 (0, 0))).heap[wr.heap.size]? = some (.cells #[.int .i64 kd, .string tt, .slice A2 kids.length c2] 45 (0, 0)) := blk_new wr _
                    have HU8 := Lib.hid (HUR.out.below hb8)
                    have HB8 := Lib.hid (HBR.out.trans (hb8.mono HBR.out.size))
                    have HK8 := Lib.hid hk8
                    obtain ⟨z0, z1, z2⟩ := HU8.out.cells
                    clear hC hb8 hk8 HUR HBR
                    have q0 := (blk_cell HK8.out 0).trans rfl
                    have q1 := (blk_cell HK8.out 1).trans rfl
                    have q2 := (blk_cell HK8.out 2).trans rfl
                    have HKR := Lib.hid (show ∀ x ∈ keysB kd kids, 0 ≤ x ∧ x < (l.length : Int) from fun x hx => isN_range HNR.out x (keys_sub kd kids x hx))
                    cases hN : soleN u ⟨kd, tt, kids⟩ with
                    | true =>
                      have HSO := Lib.hid (show (keysB kd kids).any (fun k => decide (rd u k > 1)) = true from hN)
                      have HF : Hid (r = false) := Lib.hid (by rw [hN, if_pos rfl] at hst2; exact hst2.symm)
                      clear hst hst2 hN
                      go_wp2_with (first | (go_at_call 52; refine (graph_keys.calls (kids.length + 2) kd tt A2 c2 kids _ _ (Kd.C_below HC.out HB8.out) hc2 (hG.below HB8.out) (keys_of kd tt kids hz2 _ (by omega))).mono ?_; rintro e w9 ⟨v, rfl, hv, hb9⟩; obtain ⟨Ak, ck, ek⟩ := Kd.R_slice hv; subst ek; have HU9 := Lib.hid (HU8.out.below hb9); have HB9 := Lib.hid (HB8.out.trans (hb9.mono HB8.out.size)); have HCK := Lib.hid (Kd.R_reads' hv).2.2; clear hv hb9 HU8 HB8) | (go_at_call 51; refine (contains_any 53 more_enters _ (fun k => decide (rd u k > 1)) Ak ck (keysB kd kids) _ HCK.out (fun x w' hx hb => more_is x _ gb _ rb cp _ l.length c0 root u w' (HU9.out.below hb) (HKR.out x hx).1 (HKR.out x hx).2)).mono ?_; rw [HSO.out]; rintro e w10 ⟨rfl, hb10⟩; have HU10 := Lib.hid (HU9.out.below hb10); have HB10 := Lib.hid (HB9.out.trans (hb10.mono HB9.out.size)); clear hb10 HU9 HB9))
                      go_ret
                      exact ⟨by rw [HF.out]; first | done | rfl, HB10.out⟩
                    | false =>
                      have HSO := Lib.hid (show (keysB kd kids).any (fun k => decide (rd u k > 1)) = false from hN)
                      have HST := Lib.hid (show soleB u (l.drop (i + 1)) = r by rw [hN, if_neg Bool.false_ne_true] at hst2; exact hst2)
                      have HL := Lib.hid hlt
                      clear hst hst2 hN
                      go_wp2_with (first | (go_at_call 52; refine (graph_keys.calls (kids.length + 2) kd tt A2 c2 kids _ _ (Kd.C_below HC.out HB8.out) hc2 (hG.below HB8.out) (keys_of kd tt kids hz2 _ (by omega))).mono ?_; rintro e w9 ⟨v, rfl, hv, hb9⟩; obtain ⟨Ak, ck, ek⟩ := Kd.R_slice hv; subst ek; have HU9 := Lib.hid (HU8.out.below hb9); have HB9 := Lib.hid (HB8.out.trans (hb9.mono HB8.out.size)); have HCK := Lib.hid (Kd.R_reads' hv).2.2; clear hv hb9 HU8 HB8) | (go_at_call 51; refine (contains_any 53 more_enters _ (fun k => decide (rd u k > 1)) Ak ck (keysB kd kids) _ HCK.out (fun x w' hx hb => more_is x _ gb _ rb cp _ l.length c0 root u w' (HU9.out.below hb) (HKR.out x hx).1 (HKR.out x hx).2)).mono ?_; rw [HSO.out]; rintro e w10 ⟨rfl, hb10⟩; have HU10 := Lib.hid (HU9.out.below hb10); have HB10 := Lib.hid (HB9.out.trans (hb10.mono HB9.out.size)); clear hb10 HU9 HB9))
                      go_roundw
                      case rel => have := HL.out; exact ⟨i + 1, by go_num, HL.out, HST, HU10, HB10⟩
                      case measure => have := HL.out; simp [intOf]; omega
                  · have hc : decide ((i : Int) < (l.length : Int)) = false := decide_eq_false (by omega)
                    have hst2 := hst.out
                    rw [List.drop_of_length_le (by omega), soleB] at hst2
                    have HF : Hid (r = true) := Lib.hid hst2.symm
                    clear hst hst2
                    go_wp2
                    go_ret
                    exact ⟨by rw [HF.out]; first | done | rfl, HBR.out⟩
  · rw [if_neg hz] at h; cases h
theorem cell_al {w : World} {o : Obj} {a : Addr} {v : Value} (h : w.cell? a = some v) : (w.alloc o).cell? a = some v := ((below_alloc (Below.refl _ _) o).cell (World.block_lt_of_cell? w _ h)).trans h
end Go.Proofs.YtnjcpoojgmpmeaaGreatDoor.Plug
namespace Go.Proofs.YtnjcpoojgmpmeaaGreatDoor.Graphs
open RowKit YtnjcpoojgmpmeaaGreatDoor YtnjcpoojgmpmeaaGreatDoor.PX YtnjcpoojgmpmeaaGreatDoor.Plug YtnjcpoojgmpmeaaGreatDoor.Mapk YtnjcpoojgmpmeaaGreatDoorW.PrintWords YtnjcpoojgmpmeaaGreatDoorW.PrintLast
abbrev Nd := S45
theorem rd_set_ (u : List Int) (k j v : Int) (hk0 : 0 ≤ k) (hk1 : k < (u.length : Int)) (hj : 0 ≤ j) : rd (u.set k.toNat v) j = if j = k then v else rd u j := by
 unfold rd
 rw [List.getD_eq_getElem?_getD, List.getD_eq_getElem?_getD, List.getElem?_set]
 by_cases h : j = k
 rotate_left
 · rw [if_neg (by omega), if_neg h]
 subst h; rw [if_pos rfl, if_pos rfl, if_pos (by omega)]; rfl
theorem bumps_rd : ∀ (ks : List Int) (u : List Int) (j : Int), (∀ k ∈ ks, 0 ≤ k ∧ k < (u.length : Int)) → 0 ≤ j → 0 ≤ rd u j → rd u j + ks.length < 4611686018427387904 → rd (ks.foldl bump u) j = rd u j + (ks.count j : Nat)
 | [], u, j, _, _, _, _ => by simp
 | k :: ks, u, j, hk, hj, h0, h1 => by
  obtain ⟨k0, k1⟩ := hk k List.mem_cons_self
  simp only [List.length_cons] at h1
  have e : rd (bump u k) j = if j = k then rd u j + 1 else rd u j := by
   unfold bump
   rw [rd_set_ u k j _ k0 k1 hj]
   split
   · rename_i e; subst e; unfold wrap64; omega
   · rfl
  rw [List.foldl_cons, bumps_rd ks (bump u k) j (fun x hx => by rw [bump_len]; exact hk x (List.mem_cons_of_mem _ hx)) hj (by rw [e]; split <;> omega) (by rw [e]; split <;> omega), e, List.count_cons]
  by_cases h : j = k
  · subst h; simp; omega
  have : (k == j) = false := beq_eq_false_iff_ne.2 (fun q => h q.symm)
  simp [h, this]
def cntL (r : List Nd) (j : Int) : Nat := (r.map fun n => n.f2.count j).sum
def allL (r : List Nd) : Nat := (r.map fun n => n.f2.length).sum
theorem usesB_rd (l : List Nd) : ∀ (r : List Nd) (u v : List Int) (j : Int), usesB l r u = some v → u.length = l.length → 0 ≤ j → 0 ≤ rd u j → rd u j + allL r < 4611686018427387904 → rd v j = rd u j + (cntL r j : Nat)
 | [], u, v, j, h, _, _, _, _ => by rw [usesB] at h; cases h; simp [cntL]
 | n :: r, u, v, j, h, hu, hj, h0, h1 => by
  rw [usesB] at h
  by_cases c : isN l n = true
  rotate_left
  · rw [if_neg c] at h; cases h
  rw [if_pos c] at h
  have ha : allL (n :: r) = n.f2.length + allL r := by simp [allL]
  have hc : cntL (n :: r) j = n.f2.count j + cntL r j := by simp [cntL]
  have hcl : n.f2.count j ≤ n.f2.length := List.count_le_length
  have e := bumps_rd n.f2 u j (fun k hk => by rw [hu]; exact isN_range c k hk) hj h0 (by omega)
  rw [usesB_rd l r _ v j h (by rw [bumps_len]; exact hu) hj (by omega) (by omega), e, hc]
  omega
theorem usesB_some (l : List Nd) : ∀ (r : List Nd) (u : List Int), (∀ n ∈ r, isN l n = true) → ∃ v, usesB l r u = some v
 | [], u, _ => ⟨u, rfl⟩
 | n :: r, u, h => by
  rw [usesB, if_pos (h n List.mem_cons_self)]
  exact usesB_some l r _ (fun m hm => h m (List.mem_cons_of_mem _ hm))
theorem soleB_iff (u : List Int) : ∀ r : List Nd, soleB u r = true ↔ ∀ n ∈ r, ∀ k ∈ keysB n.f0 n.f2, rd u k ≤ 1
 | [] => by simp [soleB]
 | n :: r => by
  rw [soleB]
  by_cases c : soleN u n = true
  ·
   rw [if_pos c]
   refine ⟨fun h => (by cases h), fun h => ?_⟩
   unfold soleN at c
   obtain ⟨k, hk, hd⟩ := List.any_eq_true.1 c
   have := h n List.mem_cons_self k hk
   have := of_decide_eq_true hd
   omega
  rw [if_neg c, soleB_iff u r]
  have c2 := List.any_eq_false.1 (Bool.eq_false_iff.2 c)
  refine ⟨fun h m hm => ?_, fun h m hm => h m (List.mem_cons_of_mem _ hm)⟩
  rcases List.mem_cons.1 hm with e | e
  ·
   subst e
   intro k hk
   have := c2 k hk
   simp at this
   omega
  · exact h m e
theorem all_le (l : List Nd) (N : Nat) (h : ∀ m ∈ l, m.f2.length ≤ N) : allL l ≤ l.length * N := by
 induction l with
 | nil => simp [allL]
 | cons n r ih =>
  have := ih (fun m hm => h m (List.mem_cons_of_mem _ hm))
  have := h n List.mem_cons_self
  simp only [allL, List.map_cons, List.sum_cons, List.length_cons] at *
  rw [Nat.add_mul]; omega
structure RightG (l : List Nd) (root : Int) : Prop where
 ne : l.length ≠ 0
 le : l.length ≤ 4096
 r0 : 0 ≤ root
 r1 : root < (l.length : Int)
 is : ∀ n ∈ l, isN l n = true
 sole : ∀ n ∈ l, ∀ k ∈ keysB n.f0 n.f2, cntL l k + (if k = root then 1 else 0) ≤ 1
theorem sizes_iff {l : List Nd} (hs : sizesB l = true) : ∀ m ∈ l, m.f1.size ≤ 1099511627775 ∧ m.f2.length ≤ 1099511627776 := fun m hm => by
 have := List.all_eq_true.1 hs m hm
 simp at this
 exact this
theorem right_iff (l : List Nd) (root : Int) (hs : sizesB l = true) : rightB l root = true ↔ RightG l root := by
 unfold rightB
 by_cases k0 : l.length = 0
 · rw [if_pos k0]; exact ⟨fun h => (by cases h), fun h => absurd k0 h.ne⟩
 rw [if_neg k0]
 by_cases k1 : 4096 < l.length
 · rw [if_pos k1]; exact ⟨fun h => (by cases h), fun h => absurd h.le (by omega)⟩
 rw [if_neg k1]
 by_cases k2 : root < 0
 · rw [if_pos k2]; exact ⟨fun h => (by cases h), fun h => absurd h.r0 (by omega)⟩
 rw [if_neg k2]
 by_cases k3 : (l.length : Int) ≤ root
 · rw [if_pos k3]; exact ⟨fun h => (by cases h), fun h => absurd h.r1 (by omega)⟩
 rw [if_neg k3]
 have hal : allL l ≤ 4096 * 1099511627776 := Nat.le_trans (all_le l _ (fun m hm => (sizes_iff hs m hm).2)) (Nat.mul_le_mul_right _ (by omega))
 have e0 : ∀ j : Int, 0 ≤ j → rd (bump (List.replicate l.length 0) root) j = if j = root then 1 else 0 := fun j hj => by
  have := bumps_rd [root] (List.replicate l.length 0) j (fun k hk => by rw [List.mem_singleton.1 hk, List.length_replicate]; omega) hj (by unfold rd; simp [List.getD_eq_getElem?_getD, List.getElem?_replicate]; split <;> simp) (by unfold rd; simp [List.getD_eq_getElem?_getD, List.getElem?_replicate]; split <;> simp)
  rw [List.foldl_cons, List.foldl_nil] at this
  rw [this]
  have z : rd (List.replicate l.length 0) j = 0 := by unfold rd; simp [List.getD_eq_getElem?_getD, List.getElem?_replicate]; split <;> simp
  rw [z]
  by_cases e : j = root
  · subst e; simp
  have : (root == j) = false := beq_eq_false_iff_ne.2 (fun q => e q.symm)
  simp [e, List.count_cons, this]
 have e1 : ∀ v, usesB l l (bump (List.replicate l.length 0) root) = some v → ∀ j : Int, 0 ≤ j → rd v j = (if j = root then 1 else 0) + (cntL l j : Nat) := fun v hv j hj => by
  have := usesB_rd l l _ v j hv (by rw [bump_len, List.length_replicate]) hj (by rw [e0 j hj]; split <;> omega) (by rw [e0 j hj]; split <;> omega)
  rw [this, e0 j hj]
 constructor
 ·
  intro h
  split at h
  · cases h
  ·
   rename_i u hu
   refine ⟨k0, by omega, by omega, by omega, usesB_all l l _ u hu, fun n hn k hk => ?_⟩
   have h1 := (soleB_iff u l).1 h n hn k hk
   have h2 := isN_range (usesB_all l l _ u hu n hn) k (keys_sub _ _ k hk)
   rw [e1 u hu k h2.1] at h1
   split at h1 <;> rename_i h3
   · rw [if_pos h3]; omega
   · rw [if_neg h3]; omega
 ·
  intro h
  obtain ⟨u, hu⟩ := usesB_some l l (bump (List.replicate l.length 0) root) h.is
  rw [hu]
  refine (soleB_iff u l).2 fun n hn k hk => ?_
  have h1 := h.sole n hn k hk
  have h2 := isN_range (h.is n hn) k (keys_sub _ _ k hk)
  rw [e1 u hu k h2.1]
  split at h1 <;> rename_i h3
  · rw [if_pos h3]; omega
  · rw [if_neg h3]; omega
theorem metB_keys (l : List Nd) : ∀ (ks : List Int) (met : List (Int × ByteArray)), metB l ks met = true → (ks.map (keyIs l)).Nodup ∧ ∀ k ∈ ks, scB (rd_T45 l k).f0 = true ∧ keyIs l k ∉ met
 | [], _, _ => ⟨List.nodup_nil, fun k h => by simp at h⟩
 | k :: ks, met, h => by
  rw [metB] at h
  by_cases h1 : scB (rd_T45 l k).f0 = true
  rotate_left
  · rw [if_neg h1] at h; cases h
  rw [if_pos h1] at h
  by_cases h2 : met.any (fun y => decide (y = keyIs l k)) = true
  · rw [if_pos h2] at h; cases h
  rw [if_neg h2] at h
  obtain ⟨a, b⟩ := metB_keys l ks _ h
  have h3 : keyIs l k ∉ met := fun hm => h2 (List.any_eq_true.2 ⟨_, hm, decide_eq_true rfl⟩)
  refine ⟨?_, fun x hx => ?_⟩
  ·
   rw [List.map_cons, List.nodup_cons]
   refine ⟨fun hm => ?_, a⟩
   obtain ⟨y, hy, e⟩ := List.mem_map.1 hm
   exact (b y hy).2 (e ▸ List.mem_cons_self)
  ·
   rcases List.mem_cons.1 hx with e | e
   · subst e; exact ⟨h1, h3⟩
   · exact ⟨(b x e).1, fun hm => (b x e).2 (List.mem_cons_of_mem _ hm)⟩
structure NodeG (l : List Nd) (n : Nd) : Prop where
 k1 : 1 ≤ n.f0
 k6 : n.f0 ≤ 6
 text : textB n.f0 n.f1 = true
 scal : n.f0 ≤ 4 → n.f2 = []
 even : n.f0 = 6 → n.f2.length % 2 = 0
 range : ∀ k ∈ n.f2, 0 ≤ k ∧ k < (l.length : Int)
 nodup : ((keysB n.f0 n.f2).map (keyIs l)).Nodup
 keys : ∀ k ∈ keysB n.f0 n.f2, 1 ≤ (rd_T45 l k).f0 ∧ (rd_T45 l k).f0 ≤ 4
theorem isN_node {l : List Nd} {n : Nd} (h : isN l n = true) : NodeG l n := by
 have hr := isN_range h
 unfold isN nodeB at h
 split at h; · cases h
 split at h; · cases h
 split at h; · cases h
 split at h; · cases h
 split at h; · cases h
 rename_i h1 h2 h3 h4 h5
 obtain ⟨a, b⟩ := metB_keys l _ _ h
 have h4' := Bool.eq_false_iff.2 h4
 rw [Bool.or_eq_false_iff] at h4'
 refine ⟨by omega, by omega, by simpa using h3, fun h => ?_, fun h => ?_, hr, a, fun k hk => ?_⟩
 ·
  have h6 := h4'.1
  have : scB n.f0 = true := by unfold scB; rw [decide_eq_true (by omega : 1 ≤ n.f0), decide_eq_true h]; rfl
  rw [this, Bool.true_and, decide_eq_false_iff_not] at h6
  exact List.eq_nil_of_length_eq_zero (by omega)
 ·
  have h6 := h4'.2
  rw [h] at h6
  simp at h6
  exact h6
 ·
  have := (b k hk).1
  unfold scB at this
  rw [Bool.and_eq_true, decide_eq_true_eq, decide_eq_true_eq] at this
  exact this
theorem RightG.node {l : List Nd} {root : Int} (h : RightG l root) {n : Nd} (hn : n ∈ l) : NodeG l n := isN_node (h.is n hn)
end Go.Proofs.YtnjcpoojgmpmeaaGreatDoor.Graphs
namespace Go.Proofs.YtnjcpoojgmpmeaaGreatDoor.Plug
open RowKit YtnjcpoojgmpmeaaGreatDoor YtnjcpoojgmpmeaaGreatDoor.PX YtnjcpoojgmpmeaaGreatDoor.Utf YtnjcpoojgmpmeaaGreatDoor.Mapk YtnjcpoojgmpmeaaGreatDoor.Graphs YtnjcpoojgmpmeaaGreatDoorW.PrintWords YtnjcpoojgmpmeaaGreatDoorW.PrintLast YtnjcpoojgmpmeaaGreatDoorW.PrintMore
attribute [local go_sem] max2_int max_two
abbrev WS := List Bool × List Int × Int
def goO (l : List Nd) : Nat → Int → Int → WS → Option WS
 | 0, _, _, _ => none
 | k + 1, at_, deep, s => if rdOf false s.1 at_ = true then some s else
  (rd_T45 l at_).f2.foldlM (fun s x => goO l k x (deep + 1) s) (s.1.set at_.toNat true, s.2.1 ++ [at_], if s.2.2 < deep then deep else s.2.2)
structure Wk (w0 : World) (wb mb cp : Nat) (A0 : Option Addr) (n0 c0 : Nat) (root : Int) (vo : Value) (s : WS) (w : World) : Prop where
 b : w.heap[wb]? = some (.cells #[.slice A0 n0 c0, .int .i64 root, .slice (some ⟨mb, 0, none⟩) n0 cp, vo, .int .i64 s.2.2] 79 (0, 0))
 len : s.1.length = n0
 row : Kd.R Kd.bool 4 w w0.heap.size (fun _ => True) (.slice (some ⟨mb, 0, none⟩) n0 cp) s.1
 out : Kd.R (Kd.int .i64) 3 w w0.heap.size (fun _ => True) vo s.2.1
 bel : Below w0.heap.size w0 w
 ge : w0.heap.size ≤ wb
 cnt : s.2.1.length = s.1.count true
section
variable {w0 : World} {wb mb cp : Nat} {A0 : Option Addr} {n0 c0 : Nat} {root : Int} {vo : Value} {m : List Bool} {o : List Int} {x : Int} {w w' : World}
theorem Wk.cells (h : Wk w0 wb mb cp A0 n0 c0 root vo (m, o, x) w) : w.cell? ⟨wb, 0, none⟩ = some (.slice A0 n0 c0) ∧ w.cell? ⟨wb, 1, none⟩ = some (.int .i64 root) ∧ w.cell? ⟨wb, 2, none⟩ = some (.slice (some ⟨mb, 0, none⟩) n0 cp) ∧ w.cell? ⟨wb, 3, none⟩ = some vo ∧ w.cell? ⟨wb, 4, none⟩ = some (.int .i64 x) :=
  ⟨(blk_cell h.b 0).trans rfl, (blk_cell h.b 1).trans rfl, (blk_cell h.b 2).trans rfl, (blk_cell h.b 3).trans rfl, (blk_cell h.b 4).trans rfl⟩
theorem Wk.at_ (h : Wk w0 wb mb cp A0 n0 c0 root vo (m, o, x) w) (k : Int) (h0 : 0 ≤ k) (h1 : k < (n0 : Int)) : w.cell? ⟨mb, k.toNat, none⟩ = some (.bool (rdOf false m k)) ∧ w.frozen? ⟨mb, k.toNat, none⟩ = false :=
  Kd.R_celln false h.row k h0 h1
theorem Wk.ne (h : Wk w0 wb mb cp A0 n0 c0 root vo (m, o, x) w) : wb ≠ mb := fun e => Kd.R_ne h.row h.b (by decide) (by rw [e]; rfl)
theorem Wk.mark (h : Wk w0 wb mb cp A0 n0 c0 root vo (m, o, x) w) (k : Int) :
  w.grownBy (w.setCell ⟨mb, k.toNat, none⟩ (.bool true)) (some mb) ∧ (w.setCell ⟨mb, k.toNat, none⟩ (.bool true)).heap[wb]? = some (.cells #[.slice A0 n0 c0, .int .i64 root, .slice (some ⟨mb, 0, none⟩) n0 cp, vo, .int .i64 x] 79 (0, 0)) ∧
  Kd.R Kd.bool 4 (w.setCell ⟨mb, k.toNat, none⟩ (.bool true)) w0.heap.size (fun _ => True) (.slice (some ⟨mb, 0, none⟩) n0 cp) (m.set k.toNat true) ∧ Kd.R (Kd.int .i64) 3 (w.setCell ⟨mb, k.toNat, none⟩ (.bool true)) w0.heap.size (fun _ => True) vo o ∧ Below w0.heap.size w0 (w.setCell ⟨mb, k.toNat, none⟩ (.bool true)) := by
 obtain ⟨h1, hg⟩ := Kd.R_putg h.row k true
 exact ⟨hg, (hg.block wb (blk_lt h.b) (fun e => h.ne (Option.some.inj e))).trans h.b, h1, Kd.R_over h.out h.row (by decide) hg, h.bel.trans (below_of_grown hg (Kd.R_base h.row mb rfl) h.bel.size)⟩
theorem count_set : ∀ (m : List Bool) (k : Nat), k < m.length → m.getD k false = false → (m.set k true).count true = m.count true + 1
 | [], k, h, _ => by simp at h
 | b :: m, 0, _, hb => by
  have : b = false := by simpa using hb
  subst this; simp
 | b :: m, k + 1, h, hb => by
  have := count_set m k (by simpa using h) (by simpa using hb)
  rw [List.set_cons_succ, List.count_cons, List.count_cons, this]; omega
end
set_option maxHeartbeats 8000000 in
set_option maxRecDepth 100000 in
theorem to_is (w0 : World) (wb mb cp : Nat) (A0 : Option Addr) (c0 : Nat) (l : List Nd) (root : Int) (hr : Kd.C k45 w0 A0 l.length l) (hl : l.length ≤ 4096) (hz : ∀ n ∈ l, n.f2.length ≤ 1099511627776) (hk : ∀ n ∈ l, ∀ k ∈ n.f2, 0 ≤ k ∧ k < (l.length : Int)) :
  ∀ (k : Nat) (at_ deep : Int) (vo : Value) (s s' : WS) (w : World), Wk w0 wb mb cp A0 l.length c0 root vo s w → goO l k at_ deep s = some s' → 0 ≤ at_ → at_ < (l.length : Int) → 0 ≤ deep → deep + k ≤ 4611686018427387904 →
   Calls Tryz.prog 54 #[.pointer (some ⟨wb, 0, none⟩), .int .i64 at_, .int .i64 deep] w fun e w' => e = .returned (.tuple #[]) ∧ ∃ vo', Wk w0 wb mb cp A0 l.length c0 root vo' s' w' := by
 intro k
 induction k with
 | zero => intro at_ deep vo s s' w _ h; simp [goO] at h
 | succ k ih =>
  intro at_ deep vo s s' w hW h h0 h1 hd0 hd1
  obtain ⟨m, o, x⟩ := s
  rw [goO] at h
  dsimp only at h
  have HR := Lib.hid hr
  have HW := Lib.hid hW
  have HZ := Lib.hid hz
  have HKK := Lib.hid hk
  have HIH := Lib.hid ih
  clear hr hW hz hk ih
  obtain ⟨x0, x1, x2, x3, x4⟩ := HW.out.cells
  obtain ⟨y0, y1⟩ := HW.out.at_ at_ h0 h1
  have p1 : (0 ≤ at_) = True := eq_true h0
  have p2 : (at_ < (l.length : Int)) = True := eq_true h1
  by_cases hm : rdOf false m at_ = true
  ·
   rw [if_pos hm] at h
   have HF := Lib.hid (Option.some.inj h)
   rw [hm] at y0
   clear h hm
   go_enter Tryz.func54, Tryz.ntmps54
   go_wp2
   (try simp only [Exit.inBlock, Exit.then])
   refine bodyPost_ret (results_none rfl _ _ _) rfl ?_
   exact ⟨rfl, vo, by rw [← HF.out]; exact HW.out⟩
  rw [if_neg hm] at h
  have HS := Lib.hid h
  have hm' := Bool.eq_false_iff.2 hm
  rw [hm'] at y0
  have hmem := rd_mem l at_ h0 h1
  obtain ⟨bd, A2, c2, eA, _, _, g2, hc2, hC⟩ := at_T45 HR.out at_ h0 h1
  subst eA
  have hkr := HKK.out _ hmem
  have hkz := HZ.out _ hmem
  generalize (rd_T45 l at_).f2 = kids at *
  have HC := Lib.hid hC
  have HKR := Lib.hid hkr
  obtain ⟨hg, hb, hro, hou, hbl⟩ := HW.out.mark at_
  have hcs : (m.set at_.toNat true).count true = m.count true + 1 := count_set m at_.toNat (by have := HW.out.len; dsimp only at this; omega) hm'
  have hol : o.length = m.count true := HW.out.cnt
  have hml : m.length = l.length := HW.out.len
  have hcl : m.count true ≤ m.length := List.count_le_length
  have HBK := Lib.hid hb
  have HRO := Lib.hid hro
  have HOU := Lib.hid hou
  have HBL := Lib.hid hbl
  have HGE := Lib.hid HW.out.ge
  have HCN := Lib.hid (show (o ++ [at_]).length = (m.set at_.toNat true).count true by rw [List.length_append, List.length_singleton, hcs]; omega)
  have HLN := Lib.hid (show (m.set at_.toNat true).length = l.length by rw [List.length_set]; exact hml)
  have z0 := (blk_cell hb 0).trans rfl
  have z1 := (blk_cell hb 1).trans rfl
  have z2 := (blk_cell hb 2).trans rfl
  have z3 := (blk_cell hb 3).trans rfl
  have z4 := (blk_cell hb 4).trans rfl
  clear h hm hm' hg hb hro hou hbl hC hkr hmem hcs
  obtain ⟨M, hM⟩ : ∃ M, (if x < deep then deep else x) = M := ⟨_, rfl⟩
  rw [hM] at HS
  go_enter Tryz.func54, Tryz.ntmps54
  go_wp2_with (first | (at_builtin; refine Kd.R_append (Kd.int .i64) (w0 := w0) w0.heap.size rfl (.tmp 25) (.tmp 27) 40 3 (.int .i64 0) 8 rfl Tryz.underlying40 info3 rfl (by decide) (by omega) _ o at_ [.int .i64 at_] (fun _ => True) (fun _ => False) rfl (by first | (go_simp; done) | (go_simp; rfl)) rfl (fun _ hk => hk.elim) (fun _ _ => trivial) HOU.out HBL.out HBL.out.size (by omega) ?_; intro v7 w7 ho hb hg hat; obtain ⟨A7, c7, ev⟩ := Kd.R_slice ho; obtain ⟨n7, hn7⟩ : ∃ n, (o ++ [at_]).length = n := ⟨_, rfl⟩; rw [hn7] at ev; subst ev; clear hn7; have b7 := (hg.block wb (blk_lt HBK.out) (Kd.R_ne HOU.out HBK.out (by decide))).trans HBK.out; have r7 := Kd.R_over HRO.out HOU.out (by decide) hg; have b8 : (w7.setCell ⟨wb, 3, none⟩ (.slice A7 n7 c7)).heap[wb]? = some (.cells #[.slice (some bd) l.length c0, .int .i64 root, .slice (some ⟨mb, 0, none⟩) l.length cp, .slice A7 n7 c7, .int .i64 x] 79 (0, 0)) := (by simpa using blk_set b7 3 (.slice A7 n7 c7)); have b9 : ((w7.setCell ⟨wb, 3, none⟩ (.slice A7 n7 c7)).setCell ⟨wb, 4, none⟩ (.int .i64 M)).heap[wb]? = some (.cells #[.slice (some bd) l.length c0, .int .i64 root, .slice (some ⟨mb, 0, none⟩) l.length cp, .slice A7 n7 c7, .int .i64 M] 79 (0, 0)) := (by simpa using blk_set b8 4 (.int .i64 M)); have l9 : Below w0.heap.size w0 ((w7.setCell ⟨wb, 3, none⟩ (.slice A7 n7 c7)).setCell ⟨wb, 4, none⟩ (.int .i64 M)) := (hb.setCell (p := ⟨wb, 3, none⟩) HGE.out _).setCell (p := ⟨wb, 4, none⟩) HGE.out _; have HW9 := Lib.hid (Wk.mk (s := (m.set at_.toNat true, o ++ [at_], M)) b9 HLN.out (Kd.R_set (Kd.R_set r7 b7 (by decide) 3 (.slice A7 n7 c7)) b8 (by decide) 4 _) (Kd.R_set (Kd.R_set ho b7 (by decide) 3 (.slice A7 n7 c7)) b8 (by decide) 4 _) l9 HGE.out HCN.out); have u0 := (blk_cell b7 0).trans rfl; have u3 := (blk_cell b7 3).trans rfl; have v4 := (blk_cell b8 4).trans rfl; have f7 := blk_frozen b7 3; have f8 := blk_frozen b8 4; have t0 := (blk_cell b9 0).trans rfl; have g9 := (l9.cell (World.block_lt_of_cell? w0 _ g2)).trans g2; clear ho hb hg hat b7 r7 b8 b9 l9))
  clear x0 x1 x2 x3 x4 y0 y1 z0 z1 z2 z3 z4 p1 p2 g2 u0 u3 v4 f7 f8 t0 g9 HW HBK HRO HOU HBL HCN HLN hM
  go_loopw [50] (fun v wr => ∃ (j : Nat) (vo : Value) (s : WS), v = .int .i64 j ∧ j ≤ kids.length ∧ Hid ((kids.drop j).foldlM (fun s x => goO l k x (deep + 1) s) s = some s') ∧ Hid (Wk w0 wb mb cp (some bd) l.length c0 root vo s wr)) (fun v _ => kids.length - (intOf v).toNat)
  case atStart => exact ⟨0, _, _, rfl, by omega, HS, HW9⟩
  case round =>
   obtain ⟨j, vo2, s2, rfl, hj, hst, HWR⟩ := hrel
   clear HS HW9
   by_cases hlt : j < kids.length
   rotate_left
   ·
    have hc : decide ((j : Int) < (kids.length : Int)) = false := decide_eq_false (by omega)
    have hst2 := hst.out
    rw [List.drop_of_length_le (by omega), List.foldlM_nil] at hst2
    have HF := Lib.hid (Option.some.inj hst2)
    clear hst hst2
    go_wp2
    go_end0
    exact ⟨rfl, vo2, by rw [← HF.out]; exact HWR.out⟩
   have hc : decide ((j : Int) < (kids.length : Int)) = true := decide_eq_true (by omega)
   obtain ⟨cd, eA2, hx⟩ := Kd.at_int (Kd.C_below HC.out HWR.out.bel) (j : Int) (by omega) (by omega)
   subst eA2
   rw [rd_at kids j hlt, Int.toNat_natCast] at hx
   have hst2 := hst.out
   rw [List.drop_eq_getElem_cons hlt, List.foldlM_cons] at hst2
   obtain ⟨j0, j1⟩ := HKR.out kids[j] (List.getElem_mem hlt)
   generalize kids[j] = kx at *
   obtain ⟨s3, hs3⟩ : ∃ s3, goO l k kx (deep + 1) s2 = some s3 := by
    cases hv : goO l k kx (deep + 1) s2 with
    | none => rw [hv] at hst2; cases hst2
    | some s3 => exact ⟨s3, rfl⟩
   rw [hs3] at hst2
   have HST := Lib.hid (show (kids.drop (j + 1)).foldlM (fun s x => goO l k x (deep + 1) s) s3 = some s' from hst2)
   have HGO := Lib.hid hs3
   have HJ := Lib.hid (And.intro j0 j1)
   have HL := Lib.hid hlt
   have p3 : (0 ≤ (j : Int)) = True := eq_true (by omega)
   have p4 : ((j : Int) < (kids.length : Int)) = True := eq_true (by omega)
   have hwd : wrap64 (deep + 1) = deep + 1 := by unfold wrap64; omega
   clear hst hst2 hs3 j0 j1
   go_wp2_with (first | (go_at_call 54; refine (HIH.out kx (deep + 1) vo2 s2 s3 _ HWR.out HGO.out HJ.out.1 HJ.out.2 (by omega) (by omega)).mono ?_; rintro e w9 ⟨rfl, vo3, hW3⟩; have HW3 := Lib.hid hW3; clear hW3))
   go_roundw
   case rel => have := HL.out; exact ⟨j + 1, vo3, s3, by go_num, HL.out, HST, HW3⟩
   case measure => have := HL.out; simp [intOf]; omega
end Go.Proofs.YtnjcpoojgmpmeaaGreatDoor.Plug
namespace Go.Proofs.YtnjcpoojgmpmeaaGreatDoor.Plug
open RowKit YtnjcpoojgmpmeaaGreatDoor YtnjcpoojgmpmeaaGreatDoor.PX YtnjcpoojgmpmeaaGreatDoor.Utf YtnjcpoojgmpmeaaGreatDoor.Mapk YtnjcpoojgmpmeaaGreatDoor.Graphs YtnjcpoojgmpmeaaGreatDoorW.PrintWords YtnjcpoojgmpmeaaGreatDoorW.PrintLast YtnjcpoojgmpmeaaGreatDoorW.PrintMore
theorem R_fresh {α : Type} (d : Kd α) (base e : Nat) (W : World) {xs : List α} {inner : List Value} {ok okp : Nat → Prop} (hrep : Reps (d.M W base okp) d.sz xs inner) (hok : ∀ k, okp k → ok k) (hfresh : ok W.heap.size) (hbase : base ≤ W.heap.size) (hm : xs.length ≤ 9223372036854775807) :
  d.R e (W.alloc (.cells inner.toArray e)) base ok (.slice (some ⟨W.heap.size, 0, none⟩) xs.length xs.length) xs := by
 refine ⟨fun k hk => ?_, inner, ?_, ?_⟩
 ·
  have : W.heap.size = k := by simpa [Value.ownBlock] using hk
  subst this
  exact hfresh
 ·
  have h2 := World.ownsRow_lit (base := base) (e := e) (size := d.sz) W inner.toArray xs.length hbase (by simpa [maxLen] using hm) (by simpa using hrep.1)
  simpa using h2
 ·
  refine hrep.imp_ (fun p c hp => d.M_mono (fun k hk => ⟨hok k hk.1, fun he => ?_⟩) (Kd.M_below (d.M_bound hp) (below_alloc (Below.refl _ _) _)))
  have h3 : k = W.heap.size := by simpa [Value.ownBlock] using he
  have := hk.2.2.1
  omega
theorem make_bools (n : Nat) (hn : n ≤ 4096) : ∃ C : Array Value, (∀ W : World, (Instr.makeSlice 72 (.int .i64 (n : Int)) (.int .i64 (n : Int))).run Tryz.prog W = .ok (.slice (some ⟨W.heap.size, 0, none⟩) n n) (W.alloc (.cells C 4))) ∧
  ∀ (W : World) (base : Nat), base ≤ W.heap.size → Kd.R Kd.bool 4 (W.alloc (.cells C 4)) base (fun _ => True) (.slice (some ⟨W.heap.size, 0, none⟩) n n) (List.replicate n false) := by
 obtain ⟨i0, hi, hzz⟩ := Option.map_eq_some_iff.1 info4
 simp only [Prod.mk.injEq] at hzz
 obtain ⟨hz, hs, hb⟩ := hzz
 refine ⟨madeCells (Value.bool false).cells (n * 1), fun W => ?_, fun W base hbs => ?_⟩
 ·
  have h := run_make (P := Tryz.prog) (w := W) 72 4 i0 (.bool false) Tryz.underlying72 hi hz .i64 .i64 (n : Int) (n : Int) (by omega) (by omega) (by rw [hb]; omega) (by omega)
  rw [hs, Int.toNat_natCast] at h
  exact h
 ·
  have h := R_fresh Kd.bool base 4 W (xs := List.replicate n false) (inner := (madeCells (Value.bool false).cells (n * 1)).toList) (ok := fun _ => True) (okp := fun _ => True) (Kd.reps_made (R := Kd.bool.M W base (fun _ => True)) (z := .bool false) (size := 1) (z0 := false) rfl (by decide) rfl n) (fun _ _ => trivial) trivial hbs (by simp; omega)
  simpa using h
set_option maxHeartbeats 8000000 in
set_option maxRecDepth 100000 in
theorem walk_is (A0 : Option Addr) (c0 : Nat) (l : List Nd) (root at_ : Int) (s' : WS) (K : Nat) (w : World) (hr : Kd.C k45 w A0 l.length l) (hl : l.length ≤ 4096) (hz : ∀ n ∈ l, n.f2.length ≤ 1099511627776) (hk : ∀ n ∈ l, ∀ k ∈ n.f2, 0 ≤ k ∧ k < (l.length : Int))
    (h0 : 0 ≤ at_) (h1 : at_ < (l.length : Int)) (h : goO l K at_ 1 (List.replicate l.length false, [], 0) = some s') (hK : K ≤ 1099511627776) :
    Calls Tryz.prog 36 #[.agg #[.slice A0 l.length c0, .int .i64 root], .int .i64 at_] w fun e w' => ∃ wb mb cp vo, e = .returned (.pointer (some ⟨wb, 0, none⟩)) ∧ Wk w wb mb cp A0 l.length c0 root vo s' w' := by
  have HR := Lib.hid hr
  have HZ := Lib.hid hz
  have HKK := Lib.hid hk
  have HS := Lib.hid h
  clear hr hz hk h
  obtain ⟨C, hmk, hrow⟩ := make_bools l.length hl
  have HROW := Lib.hid hrow
  clear hrow
  go_enter Tryz.func36, Tryz.ntmps36
  go_wp2_with (first | ((with_reducible refine gate_dst (N := 2) rfl ?_); refine box_event ?hg (N := 2) ?hd (cs := #[.slice A0 l.length c0, .int .i64 root]) (t := 24) ?hr ?_; (case hd => rfl); (case hg => rfl); (case hr => first | (go_simp; done) | (go_simp; rfl)); intro gb hg w1 hgb hb1; have HG := Lib.hid hgb; have HB := Lib.hid hb1; clear hgb hb1 hg; have x0 := (blk_cell HG.out 0).trans rfl; have x1 := (blk_cell HG.out 1).trans rfl))
  go_region_held3 (fun W' => W'.cell? ⟨gb, 0, none⟩ = some (.slice A0 l.length c0) ∧ W'.cell? ⟨gb, 1, none⟩ = some (.int .i64 root))
    (first | exact ⟨x0, x1⟩ | exact ⟨cell_al x0, cell_al x1⟩ | exact ⟨cell_al (cell_al x0), cell_al (cell_al x1)⟩)
    (first | fail)
  all_goals
    have HW := Lib.hid (show Wk w (w1.heap.size + 1) w1.heap.size l.length A0 l.length c0 root (.slice none 0 0) (List.replicate l.length false, [], 0) ((w1.alloc (.cells C 4)).alloc (.cells #[.slice A0 l.length c0, .int .i64 root, .slice (some ⟨w1.heap.size, 0, none⟩) l.length l.length, .slice none 0 0, .int .i64 0] 79)).drew from
      ⟨by have h := blk_new (w1.alloc (.cells C 4)) (.cells #[.slice A0 l.length c0, .int .i64 root, .slice (some ⟨w1.heap.size, 0, none⟩) l.length l.length, .slice none 0 0, .int .i64 0] 79); rw [show (w1.alloc (.cells C 4)).heap.size = w1.heap.size + 1 by simp] at h; exact h, by simp, Kd.R_drew (Kd.R_alloc (HROW.out w1 w.heap.size HB.out.size) _), Kd.R_nil _ _ _ _ _, below_drew1 (below_alloc (below_alloc HB.out _) _), by have := HB.out.size; omega, by simp [List.count_replicate]⟩)
    clear x0 x1 hmk
    go_wp2_with (first | (go_at_call 54; refine (to_is w _ _ _ A0 c0 l root HR.out hl HZ.out HKK.out K at_ 1 _ _ s' _ HW.out HS.out h0 h1 (by omega) (by omega)).mono ?_; rintro e w9 ⟨rfl, vo, hW9⟩; have HW9 := Lib.hid hW9; clear hW9))
    go_ret
    exact ⟨_, _, _, vo, rfl, HW9.out⟩
def graph_Order.f (l : List Nd) (root : Int) : Option (List Int × Int) := if sizesB l = true then (if rightB l root = true then (goO l (l.length + 1) root 1 (List.replicate l.length false, [], 0)).map (fun s => (s.2.1, 0)) else some ([], 1)) else none
set_option maxHeartbeats 8000000 in
set_option maxRecDepth 100000 in
theorem graph_Order.calls (A0 : Option Addr) (c0 : Nat) (l : List Nd) (root : Int) (r1 : List Int) (r2 : Int) (w : World) (hr0 : Kd.C k45 w A0 l.length l) (hc0 : l.length ≤ c0) (hG : Glob.G w) (h : graph_Order.f l root = some (r1, r2)) :
  Calls Tryz.prog 17 #[.agg #[.slice A0 l.length c0, .int .i64 root]] w fun e w' => ∃ v : Value, e = .returned (.tuple #[v, .int .i64 r2]) ∧ Kd.R (Kd.int .i64) 3 w' w.heap.size (fun _ => True) v r1 ∧ Below w.heap.size w w' := by
 unfold graph_Order.f at h
 by_cases hs : sizesB l = true
 rotate_left
 · rw [if_neg hs] at h; cases h
 rw [if_pos hs] at h
 have HR := Lib.hid hr0
 obtain ⟨rt, hrt⟩ : ∃ b, rightB l root = b := ⟨_, rfl⟩
 have HRT := Lib.hid (show graph_Right.f l root = some rt by unfold graph_Right.f; rw [if_pos hs, hrt])
 rw [hrt] at h
 clear hr0
 cases rt with
 | false =>
  rw [if_neg Bool.false_ne_true] at h
  have HF : Hid (r1 = [] ∧ r2 = 1) := Lib.hid ⟨(Prod.mk.inj (Option.some.inj h)).1.symm, (Prod.mk.inj (Option.some.inj h)).2.symm⟩
  clear h hs hrt
  go_enter Tryz.func17, Tryz.ntmps17
  go_wp2_with (first | ((with_reducible refine gate_dst (N := 1) rfl ?_); refine box_event ?hg (N := 1) ?hd (cs := #[.slice A0 l.length c0, .int .i64 root]) (t := 24) ?hr ?_; (case hd => rfl); (case hg => rfl); (case hr => first | (go_simp; done) | (go_simp; rfl)); intro gb hg w1 hgb hb1; have HG := Lib.hid hgb; have HB := Lib.hid hb1; clear hgb hb1 hg; have x0 := (blk_cell HG.out 0).trans rfl; have x1 := (blk_cell HG.out 1).trans rfl) | (go_at_call 35; refine (graph_Right.calls _ _ _ _ _ _ (Kd.C_below HR.out HB.out) hc0 (hG.below HB.out) HRT.out).mono ?_; rintro e w2 ⟨rfl, hb⟩; have n0_ := Lib.hid ((hb.block _ (blk_lt HG.out)).trans HG.out); have n1_ := Lib.hid (HB.out.trans (hb.mono HB.out.size)); clear hb HG HB x0 x1; have HG := n0_; have HB := n1_; clear n0_ n1_; have x0 := (blk_cell HG.out 0).trans rfl; have x1 := (blk_cell HG.out 1).trans rfl))
  go_ret2
  exact ⟨.slice none 0 0, by rw [HF.out.2]; first | done | rfl, by rw [HF.out.1]; exact Kd.R_nil _ _ _ _ _, HB.out⟩
 | true =>
  rw [if_pos rfl] at h
  have hg := (right_iff l root hs).1 hrt
  obtain ⟨s, hs1, hs2⟩ := Option.map_eq_some_iff.1 h
  have HF := Lib.hid (show r1 = s.2.1 ∧ r2 = 0 from ⟨(Prod.mk.inj hs2).1.symm, (Prod.mk.inj hs2).2.symm⟩)
  have HS := Lib.hid hs1
  have HGG := Lib.hid hg
  have HZ := Lib.hid (show ∀ n ∈ l, n.f2.length ≤ 1099511627776 from fun n hn => (sizes_iff hs n hn).2)
  have hll := hg.le
  clear h hs hs1 hs2 hrt hg
  go_enter Tryz.func17, Tryz.ntmps17
  go_wp2_with (first | ((with_reducible refine gate_dst (N := 1) rfl ?_); refine box_event ?hg (N := 1) ?hd (cs := #[.slice A0 l.length c0, .int .i64 root]) (t := 24) ?hr ?_; (case hd => rfl); (case hg => rfl); (case hr => first | (go_simp; done) | (go_simp; rfl)); intro gb hg w1 hgb hb1; have HG := Lib.hid hgb; have HB := Lib.hid hb1; clear hgb hb1 hg; have x0 := (blk_cell HG.out 0).trans rfl; have x1 := (blk_cell HG.out 1).trans rfl) | (go_at_call 35; refine (graph_Right.calls _ _ _ _ _ _ (Kd.C_below HR.out HB.out) hc0 (hG.below HB.out) HRT.out).mono ?_; rintro e w2 ⟨rfl, hb⟩; have n0_ := Lib.hid ((hb.block _ (blk_lt HG.out)).trans HG.out); have n1_ := Lib.hid (HB.out.trans (hb.mono HB.out.size)); clear hb HG HB x0 x1; have HG := n0_; have HB := n1_; clear n0_ n1_; have x0 := (blk_cell HG.out 0).trans rfl; have x1 := (blk_cell HG.out 1).trans rfl) | (go_at_call 36; refine (walk_is A0 c0 l root root s (l.length + 1) _ (Kd.C_below HR.out HB.out) HGG.out.le HZ.out (fun n hn k hk => (HGG.out.node hn).range k hk) HGG.out.r0 HGG.out.r1 HS.out (by omega)).mono ?_; rintro e w9 ⟨wb, mb, cp, vo, rfl, hW⟩; obtain ⟨s1, s2, s3⟩ := s; obtain ⟨u0, u1, u2, u3, u4⟩ := hW.cells; have HW := Lib.hid hW; clear hW))
  go_ret2
  exact ⟨vo, by rw [HF.out.2]; first | done | rfl, by rw [HF.out.1]; exact Kd.R_lower HW.out.out HB.out.size, HB.out.trans (HW.out.bel.mono HB.out.size)⟩
abbrev RowI (w : World) (B rb n cap : Nat) (xs : List Int) : Prop := Kd.R (Kd.int .i64) 3 w B (fun _ => True) (.slice (some ⟨rb, 0, none⟩) n cap) xs
theorem grownBy_trans {a b c : World} {r : Nat} (h : a.grownBy b (some r)) (k : b.grownBy c (some r)) : a.grownBy c (some r) :=
  ⟨k.os.trans h.os, k.tape.trans h.tape, k.output.trans h.output, Nat.le_trans h.size k.size, fun i hi hne => (k.block i (Nat.lt_of_lt_of_le hi h.size) hne).trans (h.block i hi hne)⟩
theorem grownBy_refl (w : World) (r : Nat) : w.grownBy w (some r) := ⟨rfl, rfl, rfl, Nat.le_refl _, fun _ _ _ => rfl⟩
theorem grownBy_below {w w' : World} {r : Nat} (h : Below w.heap.size w w') : w.grownBy w' (some r) := ⟨h.os, h.tape, h.output, h.size, fun i hi _ => h.block i hi⟩
theorem R_zeros (B rb n cap : Nat) : ∀ (m i : Nat) (w : World) (xs : List Int), RowI w B rb n cap xs → ∃ ys, RowI (w.setCells rb i (List.replicate m (.int .i64 0))) B rb n cap ys ∧ ys.take i = xs.take i ∧ w.grownBy (w.setCells rb i (List.replicate m (.int .i64 0))) (some rb)
 | 0, i, w, xs, h => ⟨xs, h, rfl, grownBy_refl w rb⟩
 | m + 1, i, w, xs, h => by
  obtain ⟨h1, hg⟩ := Kd.R_putg h (i : Int) 0
  rw [Int.toNat_natCast] at h1 hg
  obtain ⟨ys, h2, h3, h4⟩ := R_zeros B rb n cap m (i + 1) _ _ h1
  refine ⟨ys, h2, ?_, grownBy_trans hg h4⟩
  have : (ys.take (i + 1)).take i = ((xs.set i 0).take (i + 1)).take i := by rw [h3]
  rw [List.take_take, List.take_take, Nat.min_eq_left (by omega)] at this
  rw [this, List.take_set_of_le (Nat.le_refl _)]
theorem zero_int (w : World) : (zeroValue 3).run Tryz.prog w = .ok (.int .i64 0) w := by kernel_rfl
theorem firstI_cases (p : Int → Bool) : ∀ (l : List Int) (i : Nat), (firstI p l i = -1 ∧ l.filter (fun x => !p x) = l) ∨ ∃ k, k < l.length ∧ firstI p l i = ((i + k : Nat) : Int) ∧ (l.take (k + 1)).filter (fun x => !p x) = l.take k
 | [], _ => .inl ⟨rfl, rfl⟩
 | x :: r, i => by
  rw [firstI]
  by_cases h : p x = true
  ·
   rw [if_pos h]
   exact .inr ⟨0, by simp, by simp, by simp [h]⟩
  rw [if_neg h]
  rcases firstI_cases p r (i + 1) with ⟨a, b⟩ | ⟨k, a, b, c⟩
  · exact .inl ⟨a, by rw [List.filter_cons, if_pos (by simp [h]), b]⟩
  ·
   refine .inr ⟨k + 1, by simp; omega, by rw [b]; congr 1; omega, ?_⟩
   rw [List.take_succ_cons, List.filter_cons, if_pos (by simp [h]), c]; rfl
set_option maxHeartbeats 8000000 in
set_option maxRecDepth 100000 in
theorem delete_is (F : FuncId) (eg : ∀ args w, (callFunc F args).run Tryz.prog w = .ok (.enter F args) w) (fv : Value) (p : Int → Bool) (B rb n cap : Nat) (xs : List Int) (w : World) (J : World → Prop) (hr : RowI w B rb n cap xs) (hn : n = xs.length) (hn0 : 0 < n) (hcap : n ≤ cap) (hcb : cap ≤ 9223372036854775807)
    (hJ : J w) (hJb : ∀ w1 w2, J w1 → Below w1.heap.size w1 w2 → J w2) (hJg : ∀ w1 w2, J w1 → w.heap.size ≤ w1.heap.size → w1.grownBy w2 (some rb) → J w2)
    (hp : ∀ (x : Int) (w' : World), x ∈ xs → J w' → Calls Tryz.prog F #[.int .i64 x, fv] w' fun e w2 => e = .returned (.bool (p x)) ∧ Below w'.heap.size w' w2) :
    Calls Tryz.prog 33 #[.slice (some ⟨rb, 0, none⟩) n cap, .func (.func F) #[] #[fv]] w fun e w' => ∃ m, e = .returned (.slice (some ⟨rb, 0, none⟩) m cap) ∧ RowI w' B rb m cap (xs.filter (fun x => !p x)) ∧ J w' ∧ w.grownBy w' (some rb) := by
  have HR := Lib.hid hr
  have hC := (Kd.R_reads' hr).2.2
  have HP := Lib.hid hp
  have HJ := Lib.hid hJ
  have HJB := Lib.hid hJb
  have HJG := Lib.hid hJg
  have HI := Lib.hid (index_any F eg fv p (some ⟨rb, 0, none⟩) cap xs w hC (fun x w' hx hb => hp x w' hx (hJb w w' hJ hb)))
  subst hn
  clear hr hp hJ hJb hJg hC
  rcases firstI_cases p xs 0 with ⟨e1, e2⟩ | ⟨k0, hk, e1, e2⟩
  · rw [e1] at HI
    have HF := Lib.hid e2
    clear e1 e2
    go_enter Tryz.func33, Tryz.ntmps33
    go_wp2_with (go_at_call 49; refine HI.out.mono ?_; rintro e w1 ⟨rfl, hb1⟩; have HB1 := Lib.hid hb1; clear hb1)
    go_ret
    exact ⟨xs.length, rfl, by rw [HF.out]; exact Kd.R_below HR.out HB1.out, HJB.out _ _ HJ.out HB1.out, grownBy_below HB1.out⟩
  · rw [e1, Nat.zero_add] at HI
    have HF := Lib.hid e2
    have q0 : ((k0 : Int) == -1) = false := beq_eq_false_iff_ne.2 (by omega)
    clear e1 e2
    go_enter Tryz.func33, Tryz.ntmps33
    go_wp2_with (go_at_call 49; refine HI.out.mono ?_; rintro e w1 ⟨rfl, hb1⟩; have HB1 := Lib.hid hb1; clear hb1)
    have HR1 := Lib.hid (Kd.R_below HR.out HB1.out)
    have HJ1 := Lib.hid (HJB.out _ _ HJ.out HB1.out)
    have HG1 := Lib.hid (grownBy_below (r := rb) HB1.out)
    go_loopw [5, 6, 7] (fun vi vj _ wr => ∃ (i j : Nat) (ys : List Int), vi = .int .i64 i ∧ vj = .int .i64 j ∧ i < j ∧ j ≤ xs.length ∧ Hid (RowI wr B rb xs.length cap ys) ∧ Hid (ys.drop j = xs.drop j) ∧ Hid (ys.take i = (xs.take j).filter (fun x => !p x)) ∧ Hid (J wr) ∧ Hid (w.grownBy wr (some rb))) (fun _ vj _ _ => xs.length - (intOf vj).toNat)
    case atStart => exact ⟨k0, k0 + 1, xs, rfl, by go_num, by omega, by omega, HR1, Lib.hid rfl, Lib.hid HF.out.symm, HJ1, HG1⟩
    case round =>
      clear HR1 HJ1 HG1 HF HB1 HI q0
      obtain ⟨i, j, ys, rfl, rfl, hij, hjx, HRR, HDR, HTK, HJR, HGR⟩ := hrel
      have hyl : ys.length = xs.length := (Kd.R_reads' HRR.out).1.symm
      by_cases hlt : j < xs.length
      · have hc : decide ((j : Int) < (xs.length : Int)) = true := decide_eq_true (by omega)
        obtain ⟨cj, _⟩ := Kd.R_celln 0 HRR.out (j : Int) (by omega) (by omega)
        obtain ⟨ci, fi⟩ := Kd.R_celln 0 HRR.out (i : Int) (by omega) (by omega)
        rw [Int.toNat_natCast] at cj ci fi
        have hxj : rdOf 0 ys (j : Int) = xs[j] := by
          have h := HDR.out
          rw [List.drop_eq_getElem_cons (by omega), List.drop_eq_getElem_cons hlt] at h
          unfold rdOf
          rw [Int.toNat_natCast, List.getD_eq_getElem?_getD, List.getElem?_eq_getElem (by omega)]
          exact (List.cons.inj h).1
        rw [hxj] at cj
        have HX := Lib.hid (show (xs.take (j + 1)).filter (fun x => !p x) = (xs.take j).filter (fun x => !p x) ++ (if p xs[j] = true then [] else [xs[j]]) by
          rw [List.take_succ_eq_append_getElem hlt, List.filter_append, List.filter_cons]
          by_cases h : p xs[j] = true
          · simp [h]
          · simp [h])
        have HD2 := Lib.hid (show ys.drop (j + 1) = xs.drop (j + 1) by
          have h := HDR.out
          rw [List.drop_eq_getElem_cons (by omega), List.drop_eq_getElem_cons hlt] at h
          exact (List.cons.inj h).2)
        have HT2 := Lib.hid (show ∀ x, (ys.set i x).take (i + 1) = ys.take i ++ [x] by
          intro x
          rw [List.take_succ_eq_append_getElem (by simp; omega), List.take_set_of_le (Nat.le_refl _), List.getElem_set_self])
        have hcall := HP.out xs[j] _ (List.getElem_mem hlt) HJR.out
        generalize xs[j] = x at *
        have HCL := Lib.hid hcall
        have p1 : (0 ≤ (j : Int)) = True := eq_true (by omega)
        have p2 : ((j : Int) < (xs.length : Int)) = True := eq_true (by omega)
        have p3 : (0 ≤ (i : Int)) = True := eq_true (by omega)
        have p4 : ((i : Int) < (xs.length : Int)) = True := eq_true (by omega)
        have HSZ := Lib.hid HGR.out.size
        clear hcall hxj HDR
        cases hq : p x with
        | true =>
          rw [hq] at HCL HX
          clear hq
          go_wp2_with (go_at_fn F; refine HCL.out.mono ?_; rintro e w2 ⟨rfl, hb2⟩; have HB2 := Lib.hid hb2; clear hb2)
          go_roundw
          case rel => exact ⟨i, j + 1, ys, rfl, by go_num, by omega, by omega, Lib.hid (Kd.R_below HRR.out HB2.out), HD2, Lib.hid (by rw [HX.out, HTK.out]; simp), Lib.hid (HJB.out _ _ HJR.out HB2.out), Lib.hid (grownBy_trans HGR.out (grownBy_below HB2.out))⟩
          case measure => simp [intOf]; omega
        | false =>
          rw [hq] at HCL HX
          clear hq
          go_wp2_with (go_at_fn F; refine HCL.out.mono ?_; rintro e w2 ⟨rfl, hb2⟩; have HB2 := Lib.hid hb2; have ci2 := (hb2.cell (World.block_lt_of_cell? _ _ ci)).trans ci; have fi2 := (Kd.R_celln 0 (Kd.R_below HRR.out hb2) (i : Int) (by omega) (by omega)).2; rw [Int.toNat_natCast] at fi2; clear hb2)
          have hpt := Kd.R_putg (Kd.R_below HRR.out HB2.out) (i : Int) x
          rw [Int.toNat_natCast] at hpt
          have HPT := Lib.hid hpt
          clear hpt
          go_roundw
          case rel => exact ⟨i + 1, j + 1, ys.set i x, by go_num, by go_num, by omega, by omega, Lib.hid HPT.out.1, Lib.hid (by rw [List.drop_set_of_lt (by omega)]; exact HD2.out), Lib.hid (by rw [HX.out, HT2.out, HTK.out]; simp), Lib.hid (HJG.out _ _ (HJB.out _ _ HJR.out HB2.out) (Nat.le_trans HSZ.out HB2.out.size) HPT.out.2), Lib.hid (grownBy_trans (grownBy_trans HGR.out (grownBy_below HB2.out)) HPT.out.2)⟩
          case measure => simp [intOf]; omega
      · have hc : decide ((j : Int) < (xs.length : Int)) = false := decide_eq_false (by omega)
        have hje : j = xs.length := by omega
        have hcl : ∀ ty, (Builtin.clear_ #[40] ty #[.slice (some ⟨rb, i, none⟩) (xs.length - i) (cap - i)]).run Tryz.prog wr = .ok (.tuple #[]) (wr.setCells rb i (List.replicate (xs.length - i) (.int .i64 0))) :=
          fun ty => Lib.run_clear_slice wr _ 3 ty _ rfl zero_int rfl rfl rb i _ _ (by omega) (fun k hk => by
            obtain ⟨c, _⟩ := Kd.R_celln 0 HRR.out ((i + k : Nat) : Int) (by omega) (by omega)
            rw [Int.toNat_natCast] at c
            rw [c]; rfl) (fun k hk => by
            obtain ⟨_, c⟩ := Kd.R_celln 0 HRR.out ((i + k : Nat) : Int) (by omega) (by omega)
            rw [Int.toNat_natCast] at c
            exact c)
        have p3 : (0 ≤ (i : Int)) = True := eq_true (by omega)
        have p4 : ((i : Int) ≤ (xs.length : Int)) = True := eq_true (by omega)
        have p5 : ((i : Int) ≤ (cap : Int)) = True := eq_true (by omega)
        have p6 : ((xs.length : Int) ≤ (cap : Int)) = True := eq_true (by omega)
        have HZ := Lib.hid (R_zeros B rb xs.length cap (xs.length - i) i wr ys HRR.out)
        go_wp2
        go_ret
        obtain ⟨zs, z1, z2, z3⟩ := HZ.out
        have hzl : zs.length = xs.length := (Kd.R_reads' z1).1.symm
        refine ⟨i, rfl, ?_, ?_, ?_⟩
        · have := Kd.R_take z1 (m := i) (by omega)
          rw [z2, HTK.out, hje, List.take_length] at this
          exact this
        · exact HJG.out _ _ HJR.out HGR.out.size z3
        · exact grownBy_trans HGR.out z3
end Go.Proofs.YtnjcpoojgmpmeaaGreatDoor.Plug
namespace Go.Proofs.YtnjcpoojgmpmeaaGreatDoor.Plug
open Go.Maps RowKit YtnjcpoojgmpmeaaGreatDoor YtnjcpoojgmpmeaaGreatDoor.PX YtnjcpoojgmpmeaaGreatDoor.Utf YtnjcpoojgmpmeaaGreatDoor.Mapk YtnjcpoojgmpmeaaGreatDoor.Graphs YtnjcpoojgmpmeaaGreatDoorW.PrintWords YtnjcpoojgmpmeaaGreatDoorW.PrintLast YtnjcpoojgmpmeaaGreatDoorW.PrintMore
theorem row_block {w : World} {B : Nat} {v : Value} {xs : List Int} (h : Kd.R (Kd.int .i64) 3 w B (fun _ => True) v xs) (hne : xs ≠ []) : ∃ rb cap, v = .slice (some ⟨rb, 0, none⟩) xs.length cap ∧ B ≤ rb ∧ rb < w.heap.size ∧ xs.length ≤ cap ∧ cap ≤ maxLen := by
 obtain ⟨inner, ho⟩ := Kd.R_own h
 rcases ho.2 with ⟨_, h0⟩ | ⟨g, cap, cur, rfl, h1, h2, h3, h4, _⟩
 · exact absurd (List.length_eq_zero_iff.1 h0) hne
 · exact ⟨g, cap, rfl, h1, blk_lt h2, h3, h4⟩
theorem int_law : Keyed Tryz.prog 3 := int_keyed Tryz.underlying3
theorem int_key (x : Int) (h : -9223372036854775808 ≤ x ∧ x ≤ 9223372036854775807) : keyOf Tryz.prog 3 (.int .i64 x) = some (.int .i64 x) :=
  keyOf_int_mk Tryz.underlying3 (by simp [Lit.wf, IntKind.min, IntKind.max, IntKind.signed, IntKind.bits]; omega)
theorem intV_inj (x y : Int) (h : Value.int .i64 x = Value.int .i64 y) : x = y := by injection h
def bumpC (c : Int → Nat) (k : Int) : Int → Nat := fun y => if y = k then c k + 1 else c y
def cntV (c : Int → Nat) (k : Int) : Option Value := if c k = 0 then none else some (.int .i64 (c k : Int))
theorem cntV_put (c : Int → Nat) (k : Int) : (fun y => if y = k then some (Value.int .i64 ((c k : Int) + 1)) else cntV c y) = cntV (bumpC c k) := by
 funext y
 unfold cntV bumpC
 by_cases e : y = k
 rotate_left
 · simp [e]
 subst e; simp
theorem cntV_get (c : Int → Nat) (k : Int) : (cntV c k).getD (.int .i64 0) = .int .i64 (c k : Int) := by
 unfold cntV
 by_cases e : c k = 0
 rotate_left
 · rw [if_neg e]; rfl
 rw [if_pos e, e]; rfl
def usesC (l : List Nd) : List Int → (Int → Nat) → Int → Nat
 | [], c => c
 | a :: r, c => usesC l r ((rd_T45 l a).f2.foldl bumpC c)
structure Sh (w0 : World) (gb ub bm rb cap : Nat) (A0 : Option Addr) (n c0 : Nat) (root : Int) (xs : List Int) (c : Int → Nat) (m : Nat) (W : World) : Prop where
 g : W.heap[gb]? = some (.cells #[.slice A0 n c0, .int .i64 root] 24)
 u : W.cell? ⟨ub, 0, none⟩ = some (.map (some bm))
 mp : MapIs Tryz.prog 3 (Value.int .i64) W bm m (cntV c)
 row : RowI W w0.heap.size rb xs.length cap xs
 cs : ∀ y, c y ≤ m
 bel : Below w0.heap.size w0 W
 lts : gb < bm ∧ bm < ub ∧ rb < bm ∧ w0.heap.size ≤ bm ∧ w0.heap.size ≤ rb
theorem row_kept {w w1 : World} {B rb n cap b m : Nat} {xs : List Int} {F : Int → Option Value} (h : RowI w B rb n cap xs) (hm : MapIs Tryz.prog 3 (Value.int .i64) w b m F) (hg : w.grownBy w1 (some b)) : RowI w1 B rb n cap xs := by
 obtain ⟨D, ⟨es, clock, hb, _⟩, _⟩ := hm.ex
 refine Kd.R_mono (Kd.R_step (Kd.R_bound h) (fun k hk hlt => hg.block k hlt (fun e => ?_))) (fun _ hk => hk.1)
 obtain ⟨_, _, _, q, _, cells, hc⟩ := hk
 have e1 := Option.some.inj e
 subst e1
 rw [hb] at hc
 cases hc
theorem sh_start {w w2 w9 : World} {gb rb cap n c0 : Nat} {A0 : Option Addr} {root : Int} {xs : List Int} (hg : w2.heap[gb]? = some (.cells #[.slice A0 n c0, .int .i64 root] 24)) (hrow : RowI w2 w.heap.size rb xs.length cap xs) (hb : Below w.heap.size w w2)
  (hm : MapIs Tryz.prog 3 (Value.int .i64) w9 w2.heap.size (0 + 1) (fun y => if y = root then some (.int .i64 1) else none)) (hgr : (w2.alloc (.map #[] 0)).grownBy w9 (some w2.heap.size)) (h1 : rb < w2.heap.size) (h2 : w.heap.size ≤ rb) (h3 : gb < w2.heap.size) :
  Sh w gb w9.heap.size w2.heap.size rb cap A0 n c0 root xs (bumpC (fun _ => 0) root) 1 (w9.alloc (.cells #[.map (some w2.heap.size)] 75)) := by
 have hs := hgr.size
 have e1 : (w2.alloc (.map #[] 0)).heap.size = w2.heap.size + 1 := by simp
 have hB9 : Below w2.heap.size w2 w9 := (below_alloc (Below.refl _ _) (.map #[] 0)).trans (below_of_grown hgr (Nat.le_refl _) (by omega))
 have hB := below_alloc hB9 (.cells #[.map (some w2.heap.size)] 75)
 refine ⟨(hB.block gb h3).trans hg, (blk_cell (blk_new w9 _) 0).trans rfl, ?_, Kd.R_below hrow hB, fun y => ?_, hb.trans (hB.mono hb.size), ?_⟩
 ·
  have h := hm.alloc (.cells #[.map (some w2.heap.size)] 75)
  have e2 : (fun y => if y = root then some (Value.int .i64 1) else none) = cntV (bumpC (fun _ => 0) root) := by
   funext y
   unfold cntV bumpC
   by_cases e : y = root
   rotate_left
   · simp [e]
   subst e; simp
  rw [e2] at h
  exact h
 · simp only [bumpC]; split <;> omega
 · have := hb.size; omega
theorem sh_bump {w W : World} {gb ub bm rb cap n c0 m : Nat} {A0 : Option Addr} {root k : Int} {xs : List Int} {c : Int → Nat} (h : Sh w gb ub bm rb cap A0 n c0 root xs c m W) (hk : -9223372036854775808 ≤ k ∧ k ≤ 9223372036854775807) (hm : m ≤ 4611686018427387904) :
  (Instr.lookup 75 (.map (some bm)) (.int .i64 k) false).run Tryz.prog W = .ok (.int .i64 (c k : Int)) W ∧ ∃ W', (Instr.mapUpdate 75 (.map (some bm)) (.int .i64 k) (.int .i64 ((c k : Int) + 1))).run Tryz.prog W = .ok () W' ∧ Sh w gb ub bm rb cap A0 n c0 root xs (bumpC c k) (m + 1) W' := by
 obtain ⟨l1, l2, l3, l4, l5⟩ := h.lts
 refine ⟨by rw [h.mp.look int_law Tryz.underlying75 (zero_int W) (int_key k hk), cntV_get], ?_⟩
 obtain ⟨W', hr, hm', hg⟩ := h.mp.put int_law Tryz.underlying75 (by unfold maxLen; omega) (int_key k hk) (.int .i64 ((c k : Int) + 1))
 rw [cntV_put] at hm'
 refine ⟨W', hr, (hg.block gb (blk_lt h.g) (fun e => by have := Option.some.inj e; omega)).trans h.g, ?_, hm', row_kept h.row h.mp hg, fun y => ?_, h.bel.trans (below_of_grown hg l4 h.bel.size), h.lts⟩
 · exact (World.cell?_of_block (hg.block ub (World.block_lt_of_cell? W _ h.u) (fun e => by have := Option.some.inj e; omega))).trans h.u
 ·
  have h1 := h.cs y
  have h2 := h.cs k
  unfold bumpC; split <;> omega
set_option maxHeartbeats 8000000 in
set_option maxRecDepth 100000 in
theorem shared1_is (ub bm m : Nat) (c : Int → Nat) (x : Int) (W : World) (hx : -9223372036854775808 ≤ x ∧ x ≤ 9223372036854775807) (hu : W.cell? ⟨ub, 0, none⟩ = some (.map (some bm))) (hm : MapIs Tryz.prog 3 (Value.int .i64) W bm m (cntV c)) :
  Calls Tryz.prog 34 #[.int .i64 x, .pointer (some ⟨ub, 0, none⟩)] W fun e W2 => e = .returned (.bool (decide ((c x : Int) < 2))) ∧ Below W.heap.size W W2 := by
 have hl := hm.look int_law Tryz.underlying75 (zero_int W) (int_key x hx)
 rw [cntV_get] at hl
 clear hm
 go_enter Tryz.func34, Tryz.ntmps34
 go_wp2_with (fail)
 go_ret
 exact ⟨rfl, Below.refl _ _⟩
theorem sh_le {i m n : Nat} (h : m ≤ i * 1099511627776 + 1 + n) (hn : n ≤ 1099511627776) : m ≤ (i + 1) * 1099511627776 + 1 := by
 rw [Nat.succ_mul]
 generalize i * 1099511627776 = q at *
 omega
theorem shared1_enters : ∀ args w, (callFunc 34 args).run Tryz.prog w = .ok (.enter 34 args) w := fun _ _ => by kernel_rfl
def iso_Shared.f (l : List Nd) (root : Int) : Option (List Int × Int) :=
 match graph_Order.f l root with
 | none => none
 | some (xs, e) => if e ≠ 0 then some ([], e) else if xs ≠ [] ∧ xs.length ≤ 4194304 ∧ (xs.all fun x => decide (0 ≤ x) && decide (x < (l.length : Int))) = true then some (xs.filter (fun x => !decide ((usesC l xs (bumpC (fun _ => 0) root) x : Int) < 2)), 0) else none
set_option maxHeartbeats 8000000 in
set_option maxRecDepth 100000 in
theorem iso_Shared.calls (A0 : Option Addr) (c0 : Nat) (l : List Nd) (root : Int) (r1 : List Int) (r2 : Int) (w : World) (hr0 : Kd.C k45 w A0 l.length l) (hc0 : l.length ≤ c0) (hG : Glob.G w) (h : iso_Shared.f l root = some (r1, r2)) :
    Calls Tryz.prog 16 #[.agg #[.slice A0 l.length c0, .int .i64 root]] w fun e w' => ∃ v : Value, e = .returned (.tuple #[v, .int .i64 r2]) ∧ Kd.R (Kd.int .i64) 3 w' w.heap.size (fun _ => True) v r1 ∧ Below w.heap.size w w' := by
  unfold iso_Shared.f at h
  have HR := Lib.hid hr0
  clear hr0
  cases ho : graph_Order.f l root with
  | none => rw [ho] at h; cases h
  | some p =>
    obtain ⟨xs, e⟩ := p
    rw [ho] at h
    dsimp only at h
    have HO := Lib.hid ho
    by_cases he : e ≠ 0
    · rw [if_pos he] at h
      have HF := Lib.hid (show r1 = [] ∧ r2 = e from ⟨(Prod.mk.inj (Option.some.inj h)).1.symm, (Prod.mk.inj (Option.some.inj h)).2.symm⟩)
      have q0 : (e != 0) = true := bne_iff_ne.2 he
      clear h ho he
      go_enter Tryz.func16, Tryz.ntmps16
      go_wp2_with (first | ((with_reducible refine gate_dst (N := 1) rfl ?_); refine box_event ?hg (N := 1) ?hd (cs := #[.slice A0 l.length c0, .int .i64 root]) (t := 24) ?hr ?_; (case hd => rfl); (case hg => rfl); (case hr => first | (go_simp; done) | (go_simp; rfl)); intro gb hg w1 hgb hb1; have HG := Lib.hid hgb; have HB := Lib.hid hb1; clear hgb hb1 hg; have x0 := (blk_cell HG.out 0).trans rfl; have x1 := (blk_cell HG.out 1).trans rfl) | (go_at_call 17; refine (graph_Order.calls A0 c0 l root xs e _ (Kd.C_below HR.out HB.out) hc0 (hG.below HB.out) HO.out).mono ?_; rintro ee w2 ⟨v, rfl, hrow, hb⟩; have HB2 := Lib.hid (HB.out.trans (hb.mono HB.out.size)); clear hrow hb))
      go_ret2
      exact ⟨.slice none 0 0, by rw [HF.out.2]; first | done | rfl, by rw [HF.out.1]; exact Kd.R_nil _ _ _ _ _, HB2.out⟩
    · have he0 : e = 0 := Decidable.not_not.1 he
      subst he0
      rw [if_neg he] at h
      by_cases hcx : xs ≠ [] ∧ xs.length ≤ 4194304 ∧ (xs.all fun x => decide (0 ≤ x) && decide (x < (l.length : Int))) = true
      · rw [if_pos hcx] at h
        obtain ⟨hne, hxl, hall⟩ := hcx
        have HF := Lib.hid (show r1 = xs.filter (fun x => !decide ((usesC l xs (bumpC (fun _ => 0) root) x : Int) < 2)) ∧ r2 = 0 from ⟨(Prod.mk.inj (Option.some.inj h)).1.symm, (Prod.mk.inj (Option.some.inj h)).2.symm⟩)
        have hrt : sizesB l = true ∧ rightB l root = true := by
          unfold graph_Order.f at ho
          by_cases hs : sizesB l = true
          · refine ⟨hs, ?_⟩
            rw [if_pos hs] at ho
            by_cases hrr : rightB l root = true
            · exact hrr
            · rw [if_neg hrr] at ho
              have := (Prod.mk.inj (Option.some.inj ho)).2
              omega
          · rw [if_neg hs] at ho; cases ho
        have hgood := (right_iff l root hrt.1).1 hrt.2
        have HGG := Lib.hid hgood
        have HSZ := Lib.hid hrt.1
        have hr0 := hgood.r0
        have hr1 := hgood.r1
        have hll := hgood.le
        have HIN := Lib.hid (show ∀ x ∈ xs, 0 ≤ x ∧ x < (l.length : Int) from fun x hx => by have := List.all_eq_true.1 hall x hx; simpa using this)
        have HNE := Lib.hid hne
        have hn0 : 0 < xs.length := List.length_pos_iff.2 hne
        have hkr := int_key root (by omega)
        clear h ho he hrt hgood hall hne
        have hmm := @run_makeMap Tryz.prog
        go_enter Tryz.func16, Tryz.ntmps16
        go_wp2_with (first | ((with_reducible refine gate_dst (N := 1) rfl ?_); refine box_event ?hg (N := 1) ?hd (cs := #[.slice A0 l.length c0, .int .i64 root]) (t := 24) ?hr ?_; (case hd => rfl); (case hg => rfl); (case hr => first | (go_simp; done) | (go_simp; rfl)); intro gb hg w1 hgb hb1; have HG := Lib.hid hgb; have HB := Lib.hid hb1; clear hgb hb1 hg; have x0 := (blk_cell HG.out 0).trans rfl; have x1 := (blk_cell HG.out 1).trans rfl) | (go_at_call 17; refine (graph_Order.calls A0 c0 l root xs 0 _ (Kd.C_below HR.out HB.out) hc0 (hG.below HB.out) HO.out).mono ?_; rintro ee w2 ⟨v, rfl, hrow, hb⟩; obtain ⟨rb, cap, rfl, hrb0, hrb1, hcap, hcm⟩ := row_block hrow HNE.out; have HROW := Lib.hid (Kd.R_lower hrow HB.out.size); have HB2 := Lib.hid (HB.out.trans (hb.mono HB.out.size)); have n0_ := Lib.hid ((hb.block _ (blk_lt HG.out)).trans HG.out); have hgb := hb.size; have hgl := blk_lt HG.out; have hrb2 := Nat.le_trans HB.out.size hrb0; have y1 := cell_al (o := .map #[] 0) ((blk_cell n0_.out 1).trans rfl); clear hrow hb HG HB x0 x1; have HG := n0_; clear n0_; obtain ⟨w9, hrun, hm9, hg9⟩ := (made w2 Tryz.prog 3 intV_inj).put int_law Tryz.underlying75 (by unfold maxLen; omega) hkr (.int .i64 1); have HM9 := Lib.hid hm9; have HG9 := Lib.hid hg9; clear hm9 hg9))
        have HS := Lib.hid (sh_start HG.out HROW.out HB2.out HM9.out HG9.out hrb1 hrb2 (Nat.lt_of_lt_of_le hgl hgb))
        obtain ⟨C, hC⟩ : ∃ C, usesC l xs (bumpC (fun _ => 0) root) = C := ⟨_, rfl⟩
        rw [hC] at HF
        have HC := Lib.hid hC
        clear hC hmm hrun HG HROW HB2 HM9 HG9 hgb hgl hrb0 hrb1 hrb2 y1
        generalize World.alloc _ _ = w3 at HS ⊢
        generalize w2.heap.size = bm at HS ⊢
        generalize w9.heap.size = ub at HS ⊢
        go_loopw [25] (fun v wr => ∃ (i m : Nat) (c : Int → Nat), v = .int .i64 i ∧ i ≤ xs.length ∧ m ≤ i * 1099511627776 + 1 ∧ Hid (usesC l (xs.drop i) c = C) ∧ Hid (Sh w gb ub bm rb cap A0 l.length c0 root xs c m wr)) (fun v _ => xs.length - (intOf v).toNat)
        case atStart => exact ⟨0, 1, _, rfl, by omega, by omega, HC, HS⟩
        case round =>
          clear HS HC
          obtain ⟨i, m, c, rfl, hi, hm, HCR, HSR⟩ := hrel
          by_cases hlt : i < xs.length
          · have hc : decide ((i : Int) < (xs.length : Int)) = true := decide_eq_true (by omega)
            obtain ⟨ci, fi⟩ := Kd.R_celln 0 HSR.out.row (i : Int) (by omega) (by omega)
            rw [Int.toNat_natCast] at ci fi
            have hxi : rdOf 0 xs (i : Int) = xs[i] := by
              unfold rdOf
              rw [Int.toNat_natCast, List.getD_eq_getElem?_getD, List.getElem?_eq_getElem (by omega)]
              rfl
            rw [hxi] at ci
            obtain ⟨j0, j1⟩ := HIN.out xs[i] (List.getElem_mem _)
            have hst := HCR.out
            rw [List.drop_eq_getElem_cons hlt, usesC] at hst
            have HL := Lib.hid hlt
            clear hxi HCR
            generalize xs[i] = at_ at *
            have hnd := HGG.out.node (rd_mem l at_ j0 j1)
            have hrg := hnd.range
            have hkz := (sizes_iff HSZ.out _ (rd_mem l at_ j0 j1)).2
            obtain ⟨bd, A2, c2, eA, y0, y1, y2, hc2, hC2⟩ := at_T45 HR.out at_ j0 j1
            subst eA
            generalize (rd_T45 l at_).f2 = kids at *
            have HST := Lib.hid hst
            have HRG := Lib.hid hrg
            have HC2 := Lib.hid hC2
            have ha2 := (HSR.out.bel.cell (World.block_lt_of_cell? w _ y2)).trans y2
            have g0 := (blk_cell HSR.out.g 0).trans rfl
            have p1 : (0 ≤ (i : Int)) = True := eq_true (by omega)
            have p2 : ((i : Int) < (xs.length : Int)) = True := eq_true (by omega)
            have p3 : (0 ≤ at_) = True := eq_true j0
            have p4 : (at_ < (l.length : Int)) = True := eq_true j1
            clear hst hnd hrg hC2 y0 y1 y2
            go_wp2_with (fail)
            clear ci fi ha2 g0
            go_loopw [36] (fun v wr => ∃ (j m2 : Nat) (c2 : Int → Nat), v = .int .i64 j ∧ j ≤ kids.length ∧ m2 ≤ i * 1099511627776 + 1 + j ∧ Hid (usesC l (xs.drop (i + 1)) ((kids.drop j).foldl bumpC c2) = C) ∧ Hid (Sh w gb ub bm rb cap (some bd) l.length c0 root xs c2 m2 wr)) (fun v _ => kids.length - (intOf v).toNat)
            case atStart => exact ⟨0, m, c, rfl, by omega, by omega, HST, HSR⟩
            case round =>
              clear HSR HST
              obtain ⟨j, m2, cc, rfl, hj, hm2, HCJ, HSJ⟩ := hrel
              by_cases hlj : j < kids.length
              · have hc : decide ((j : Int) < (kids.length : Int)) = true := decide_eq_true (by omega)
                obtain ⟨cd, eA, hx0⟩ := Kd.at_int (Kd.C_below HC2.out HSJ.out.bel) (j : Int) (by omega) (by omega)
                subst eA
                rw [rd_at kids j hlj, Int.toNat_natCast] at hx0
                obtain ⟨k0, k1⟩ := HRG.out kids[j] (List.getElem_mem _)
                have hst := HCJ.out
                rw [List.drop_eq_getElem_cons hlj, List.foldl_cons] at hst
                have HLJ := Lib.hid hlj
                clear HCJ
                generalize kids[j] = k at *
                obtain ⟨hlook, W', hput, hS'⟩ := sh_bump HSJ.out (k := k) (by omega) (by omega)
                have hcb := HSJ.out.cs k
                have hu := HSJ.out.u
                have HST := Lib.hid hst
                have HS2 := Lib.hid hS'
                have p5 : (0 ≤ (j : Int)) = True := eq_true (by omega)
                have p6 : ((j : Int) < (kids.length : Int)) = True := eq_true (by omega)
                clear hst hS'
                generalize hck : cc k = ck at *
                have HCK := Lib.hid hck
                clear hck
                go_wp2_with (fail)
                go_roundw
                case rel => have := HLJ.out; exact ⟨j + 1, m2 + 1, _, by go_num, by omega, by omega, HST, HS2⟩
                case measure => have := HLJ.out; simp [intOf]; omega
              · have hc : decide ((j : Int) < (kids.length : Int)) = false := decide_eq_false (by omega)
                have hje : j = kids.length := by omega
                have HST := Lib.hid (show usesC l (xs.drop (i + 1)) cc = C by have h := HCJ.out; rw [hje, List.drop_length] at h; exact h)
                clear HCJ
                go_wp2_with (fail)
                go_roundw
                case rel =>
                  have h1 := HL.out
                  subst hje
                  have h2 := sh_le hm2 hkz
                  exact ⟨i + 1, m2, cc, by go_num, by omega, h2, HST, HSJ⟩
                case measure => have := HL.out; simp [intOf]; omega
          · have hc : decide ((i : Int) < (xs.length : Int)) = false := decide_eq_false (by omega)
            have hie : i = xs.length := by omega
            have hCc : c = C := by have h := HCR.out; rw [hie, List.drop_length] at h; exact h
            subst hCc
            have HD := Lib.hid (delete_is 34 shared1_enters (.pointer (some ⟨ub, 0, none⟩)) (fun x => decide ((c x : Int) < 2)) w.heap.size rb xs.length cap xs wr (fun W => W.cell? ⟨ub, 0, none⟩ = some (.map (some bm)) ∧ MapIs Tryz.prog 3 (Value.int .i64) W bm m (cntV c)) HSR.out.row rfl hn0 hcap (by unfold maxLen at hcm; omega)
              ⟨HSR.out.u, HSR.out.mp⟩ (fun w1 w2 h hb => ⟨(hb.cell (World.block_lt_of_cell? w1 _ h.1)).trans h.1, h.2.of_below hb⟩)
              (fun w1 w2 h _ hg => by
                obtain ⟨l1, l2, l3, l4, l5⟩ := HSR.out.lts
                exact ⟨(World.cell?_of_block (hg.block ub (World.block_lt_of_cell? w1 _ h.1) (fun e => by have := Option.some.inj e; omega))).trans h.1, h.2.kept hg (fun e => by have := Option.some.inj e; omega)⟩)
              (fun x W hx h => shared1_is ub bm m c x W (by have := HIN.out x hx; omega) h.1 h.2))
            clear HCR hc
            have hc : decide ((i : Int) < (xs.length : Int)) = false := decide_eq_false (by omega)
            go_wp2_with (go_at_call 33; refine HD.out.mono ?_; rintro e w9 ⟨mm, rfl, hrow, _, hg⟩; have HROW := Lib.hid hrow; have HGR := Lib.hid hg; clear hrow hg)
            go_ret2
            exact ⟨_, by rw [HF.out.2]; first | done | rfl, by rw [HF.out.1]; exact HROW.out, HSR.out.bel.trans (below_of_grown HGR.out HSR.out.lts.2.2.2.2 HSR.out.bel.size)⟩
      · rw [if_neg hcx] at h; cases h
def nameB (n : Nat) : ByteArray := ⟨#[97]⟩ ++ ⟨(Lib.itoa (n : Int)).toArray⟩
set_option maxHeartbeats 8000000 in
set_option maxRecDepth 100000 in
theorem next_is (w0 : World) (nb n : Nat) (W : World) (hG : Glob.G w0) (hb : Below w0.heap.size w0 W) (hnb : w0.heap.size ≤ nb) (hn : n ≤ 1099511627776) (h : W.heap[nb]? = some (.cells #[.int .i64 n] 68)) :
  Calls Tryz.prog 28 #[.pointer (some ⟨nb, 0, none⟩)] W fun e W' => e = .returned (.string (nameB (n + 1))) ∧ W'.heap[nb]? = some (.cells #[.int .i64 ((n + 1 : Nat) : Int)] 68) ∧ W.grownBy W' (some nb) := by
 have c0 : W.cell? ⟨nb, 0, none⟩ = some (.int .i64 n) := (blk_cell h 0).trans rfl
 have f0 : W.frozen? ⟨nb, 0, none⟩ = false := by rw [World.frozen?]; simp [h]
 have c1 : (W.setCell ⟨nb, 0, none⟩ (.int .i64 ((n : Int) + 1))).cell? ⟨nb, 0, none⟩ = some (.int .i64 ((n : Int) + 1)) := World.cell?_setCell_same' _ _ _ (by rw [c0]; rfl)
 have HS := Lib.hid (show (W.setCell ⟨nb, 0, none⟩ (.int .i64 ((n : Int) + 1))).heap[nb]? = some (.cells #[.int .i64 ((n : Int) + 1)] 68) by simpa using blk_set h 0 (.int .i64 ((n : Int) + 1)))
 have HG := Lib.hid (grownBy_setCell' W nb (.int .i64 ((n : Int) + 1)))
 have HB := Lib.hid (hb.setCell (p := ⟨nb, 0, none⟩) hnb (.int .i64 ((n : Int) + 1)))
 obtain ⟨tx, htx⟩ : ∃ tx : ByteArray, ⟨(Lib.itoa ((n : Int) + 1)).toArray⟩ = tx := ⟨_, rfl⟩
 have HT := Lib.hid (show plain_Text.f ((n : Int) + 1) = some tx by rw [← htx]; unfold plain_Text.f strconv_Itoa.f; rw [if_pos (by omega)]; rfl)
 have HX := Lib.hid htx
 have hsz : tx.size ≤ 21 := by rw [← htx]; show (Lib.itoa ((n : Int) + 1)).toArray.size ≤ 21; rw [List.size_toArray]; exact Lib.itoa_length_le ((n : Int) + 1) (by omega) (by omega)
 have hadd : ∀ W : World, (Op.stringOp .add ⟨#[97]⟩ tx).run Tryz.prog W = .ok (.string (⟨#[97]⟩ ++ tx)) W := fun W => run_string_add_sum W _ _ (by rw [show (⟨#[97]⟩ : ByteArray).size = 1 from rfl]; omega)
 clear h hb htx
 go_enter Tryz.func28, Tryz.ntmps28
 go_wp2_with (go_at_call 45; refine (plain_Text.calls _ _ _ (hG.below HB.out) HT.out).mono ?_; rintro e w2 ⟨rfl, hb2⟩; have HB2 := Lib.hid hb2; clear hb2 c0 c1 f0)
 go_ret
 refine ⟨by unfold nameB; rw [show ((n + 1 : Nat) : Int) = (n : Int) + 1 by omega, HX.out]; rfl, (HB2.out.block nb (blk_lt HS.out)).trans HS.out, grownBy_trans HG.out (grownBy_below HB2.out)⟩
abbrev Tr := S29
def noTr : Tr := ⟨0, ⟨#[]⟩, ⟨#[]⟩, []⟩
theorem info_tree : (Tryz.prog.info? 29).map (fun i => (i.zero, i.size, i.bytes)) = some (some (.agg #[.int .i64 0, .string ⟨#[]⟩, .string ⟨#[]⟩, .slice none 0 0]), 4, 64) := by kernel_rfl
abbrev LS := (Int → Bool) × Int × Nat
def seen (m : Int → Bool) (k : Int) : Int → Bool := fun y => if y = k then true else m y
def treeO (l : List Nd) (an : Int → ByteArray) : Nat → Int → Int → LS → Option (Tr × LS)
 | 0, _, _, _ => none
 | K + 1, at_, deep, s =>
  if s.1 at_ = true then some (⟨7, ⟨#[]⟩, an at_, []⟩, s)
  else if 1099511627776 < s.2.2 then none
  else
   let n := rd_T45 l at_
   let why := if 5 ≤ n.f0 ∧ deep = 64 then 10 else s.2.1
   let s1 : LS := (seen s.1 at_, why, s.2.2 + 1)
   if why ≠ 0 then some (noTr, s1)
   else (n.f2.foldlM (fun (p : List Tr × LS) k => (treeO l an K k (deep + 1) p.2).map fun q => (p.1 ++ [q.1], q.2)) ([], s1)).map fun p => (⟨n.f0, n.f1, an at_, p.1⟩, p.2)
def anV (F : Int → Option ByteArray) (k : Int) : Option Value := (F k).map Value.string
def metV (m : Int → Bool) (k : Int) : Option Value := if m k = true then some (.bool true) else none
structure Lw (w0 : World) (lb am mm na : Nat) (A0 : Option Addr) (n c0 : Nat) (F : Int → Option ByteArray) (s : LS) (W : World) : Prop where
 l : W.heap[lb]? = some (.cells #[.slice A0 n c0, .map (some am), .map (some mm), .int .i64 s.2.1] 64)
 a : MapIs Tryz.prog 3 (Value.int .i64) W am na (anV F)
 m : MapIs Tryz.prog 3 (Value.int .i64) W mm s.2.2 (metV s.1)
 bel : Below w0.heap.size w0 W
 lts : w0.heap.size ≤ lb ∧ w0.heap.size ≤ am ∧ w0.heap.size ≤ mm ∧ lb ≠ am ∧ lb ≠ mm ∧ am ≠ mm
theorem Lw.keep {w0 W W' : World} {lb am mm na n c0 : Nat} {A0 : Option Addr} {F : Int → Option ByteArray} {s : LS} (h : Lw w0 lb am mm na A0 n c0 F s W) (hb : Below W.heap.size W W') : Lw w0 lb am mm na A0 n c0 F s W' :=
  ⟨(hb.block lb (blk_lt h.l)).trans h.l, h.a.of_below hb, h.m.of_below hb, h.bel.trans (hb.mono h.bel.size), h.lts⟩
theorem Lw.cells {w0 W : World} {lb am mm na n c0 : Nat} {A0 : Option Addr} {F : Int → Option ByteArray} {s : LS} (h : Lw w0 lb am mm na A0 n c0 F s W) :
  W.cell? ⟨lb, 0, none⟩ = some (.slice A0 n c0) ∧ W.cell? ⟨lb, 1, none⟩ = some (.map (some am)) ∧ W.cell? ⟨lb, 2, none⟩ = some (.map (some mm)) ∧ W.cell? ⟨lb, 3, none⟩ = some (.int .i64 s.2.1) ∧ W.frozen? ⟨lb, 3, none⟩ = false :=
 ⟨(blk_cell h.l 0).trans rfl, (blk_cell h.l 1).trans rfl, (blk_cell h.l 2).trans rfl, (blk_cell h.l 3).trans rfl, by rw [World.frozen?]; simp [h.l]⟩
theorem Lw.look {w0 W : World} {lb am mm na n c0 : Nat} {A0 : Option Addr} {F : Int → Option ByteArray} {s : LS} (h : Lw w0 lb am mm na A0 n c0 F s W) (k : Int) (hk : -9223372036854775808 ≤ k ∧ k ≤ 9223372036854775807) :
  (Instr.lookup 62 (.map (some mm)) (.int .i64 k) false).run Tryz.prog W = .ok (.bool (s.1 k)) W ∧ (Instr.lookup 61 (.map (some am)) (.int .i64 k) false).run Tryz.prog W = .ok (.string ((F k).getD ⟨#[]⟩)) W := by
 refine ⟨?_, ?_⟩
 ·
  rw [h.m.look int_law Tryz.underlying62 (zero_bool W) (int_key k hk)]
  unfold metV
  cases s.1 k <;> rfl
 ·
  rw [h.a.look int_law Tryz.underlying61 (show (zeroValue 9).run Tryz.prog W = .ok (.string ⟨#[]⟩) W by kernel_rfl) (int_key k hk)]
  unfold anV
  cases F k <;> rfl
theorem Lw.put {w0 W : World} {lb am mm na n c0 : Nat} {A0 : Option Addr} {F : Int → Option ByteArray} {s : LS} (h : Lw w0 lb am mm na A0 n c0 F s W) (k : Int) (hk : -9223372036854775808 ≤ k ∧ k ≤ 9223372036854775807) (hm : s.2.2 ≤ 1099511627776) :
  ∃ W', (Instr.mapUpdate 62 (.map (some mm)) (.int .i64 k) (.bool true)).run Tryz.prog W = .ok () W' ∧ Lw w0 lb am mm na A0 n c0 F (seen s.1 k, s.2.1, s.2.2 + 1) W' ∧ W.grownBy W' (some mm) := by
 obtain ⟨l1, l2, l3, l4, l5, l6⟩ := h.lts
 obtain ⟨W', hr, hm', hg⟩ := h.m.put int_law Tryz.underlying62 (by unfold maxLen; omega) (int_key k hk) (.bool true)
 have e2 : (fun y => if y = k then some (Value.bool true) else metV s.1 y) = metV (seen s.1 k) := by
  funext y
  unfold metV seen
  by_cases e : y = k
  · simp [e]
  simp [e]
 rw [e2] at hm'
 exact ⟨W', hr, ⟨(hg.block lb (blk_lt h.l) (fun e => l5 (Option.some.inj e))).trans h.l, h.a.kept hg (fun e => l6 (Option.some.inj e)), hm', h.bel.trans (below_of_grown hg l3 h.bel.size), h.lts⟩, hg⟩
theorem Lw.set {w0 W : World} {lb am mm na n c0 : Nat} {A0 : Option Addr} {F : Int → Option ByteArray} {s : LS} (h : Lw w0 lb am mm na A0 n c0 F s W) {b : Nat} (hb : w0.heap.size ≤ b) (h1 : b ≠ lb) (h2 : b ≠ am) (h3 : b ≠ mm) (i : Nat) (v : Value) : Lw w0 lb am mm na A0 n c0 F s (W.setCell ⟨b, i, none⟩ v) :=
  ⟨(Below.heap_setCell W ⟨b, i, none⟩ v lb (Ne.symm h1)).trans h.l, h.a.of_block (Below.heap_setCell W ⟨b, i, none⟩ v am (Ne.symm h2)), h.m.of_block (Below.heap_setCell W ⟨b, i, none⟩ v mm (Ne.symm h3)), h.bel.setCell (p := ⟨b, i, none⟩) hb v, h.lts⟩
theorem Lw.why {w0 W : World} {lb am mm na n c0 : Nat} {A0 : Option Addr} {F : Int → Option ByteArray} {s : LS} (h : Lw w0 lb am mm na A0 n c0 F s W) (x : Int) : Lw w0 lb am mm na A0 n c0 F (s.1, x, s.2.2) (W.setCell ⟨lb, 3, none⟩ (.int .i64 x)) := by
 obtain ⟨l1, l2, l3, l4, l5, l6⟩ := h.lts
 exact ⟨by simpa using blk_set h.l 3 (.int .i64 x), h.a.of_block (Below.heap_setCell W ⟨lb, 3, none⟩ _ am (Ne.symm l4)), h.m.of_block (Below.heap_setCell W ⟨lb, 3, none⟩ _ mm (Ne.symm l5)), h.bel.setCell (p := ⟨lb, 3, none⟩) l1 _, h.lts⟩
structure Lv (w0 W : World) (lb am mm na : Nat) (A0 : Option Addr) (n c0 : Nat) (F : Int → Option ByteArray) (s : LS) (cs : Array Value) (Z : World) : Prop where
 lw : Lw w0 lb am mm na A0 n c0 F s Z
 kb : KeepBut W Z lb (some mm)
 rb : Z.heap[W.heap.size]? = some (.cells cs 29)
 lt : lb < W.heap.size ∧ am < W.heap.size ∧ mm < W.heap.size ∧ w0.heap.size ≤ W.heap.size
section
variable {w0 W Z Z' : World} {lb am mm na n c0 : Nat} {A0 : Option Addr} {F : Int → Option ByteArray} {s : LS} {cs : Array Value}
theorem Lv.below (h : Lv w0 W lb am mm na A0 n c0 F s cs Z) (hb : Below Z.heap.size Z Z') : Lv w0 W lb am mm na A0 n c0 F s cs Z' :=
  ⟨h.lw.keep hb, h.kb.trans (KeepBut.of_below hb lb (some mm)) (.inl rfl), (hb.block _ (blk_lt h.rb)).trans h.rb, h.lt⟩
theorem Lv.set (h : Lv w0 W lb am mm na A0 n c0 F s cs Z) {b : Nat} (hb : W.heap.size < b) (i : Nat) (v : Value) : Lv w0 W lb am mm na A0 n c0 F s cs (Z.setCell ⟨b, i, none⟩ v) := by
 obtain ⟨l1, l2, l3, l4⟩ := h.lt
 exact ⟨h.lw.set (by omega) (by omega) (by omega) (by omega) i v, ⟨by simpa [World.setCell] using h.kb.1, fun k hk h1 h2 => (Below.heap_setCell Z ⟨b, i, none⟩ v k (by show k ≠ b; omega)).trans (h.kb.2 k hk h1 h2)⟩, (Below.heap_setCell Z ⟨b, i, none⟩ v _ (by show W.heap.size ≠ b; omega)).trans h.rb, h.lt⟩
theorem Lv.why (h : Lv w0 W lb am mm na A0 n c0 F s cs Z) (x : Int) : Lv w0 W lb am mm na A0 n c0 F (s.1, x, s.2.2) cs (Z.setCell ⟨lb, 3, none⟩ (.int .i64 x)) :=
  ⟨h.lw.why x, h.kb.set_ 3 _, (Below.heap_setCell Z ⟨lb, 3, none⟩ _ _ (by show W.heap.size ≠ lb; have := h.lt; omega)).trans h.rb, h.lt⟩
theorem Lv.put1 (h : Lv w0 W lb am mm na A0 n c0 F s cs Z) (i : Nat) (y : Value) : Lv w0 W lb am mm na A0 n c0 F s (cs.set! i y) (Z.setCell ⟨W.heap.size, i, none⟩ y) := by
 obtain ⟨l1, l2, l3, l4⟩ := h.lt
 refine ⟨h.lw.set l4 (by omega) (by omega) (by omega) i y, ⟨by simpa [World.setCell] using h.kb.1, fun k hk h1 h2 => (Below.heap_setCell Z ⟨W.heap.size, i, none⟩ y k (by show k ≠ W.heap.size; omega)).trans (h.kb.2 k hk h1 h2)⟩, ?_, h.lt⟩
 simpa using blk_set h.rb i y
theorem Lv.put4 {x0 x1 x2 x3 : Value} (h : Lv w0 W lb am mm na A0 n c0 F s #[x0, x1, x2, x3] Z) (y0 y1 y2 y3 : Value) : Lv w0 W lb am mm na A0 n c0 F s #[y0, y1, y2, y3] ((((Z.setCell ⟨W.heap.size, 0, none⟩ y0).setCell ⟨W.heap.size, 1, none⟩ y1).setCell ⟨W.heap.size, 2, none⟩ y2).setCell ⟨W.heap.size, 3, none⟩ y3) := by
  simpa using (((h.put1 0 y0).put1 1 y1).put1 2 y2).put1 3 y3
theorem Lv.res {x0 x1 x2 x3 : Value} (h : Lv w0 W lb am mm na A0 n c0 F s #[x0, x1, x2, x3] Z) :
  (Z.cell? ⟨W.heap.size, 0, none⟩ = some x0 ∧ Z.cell? ⟨W.heap.size, 1, none⟩ = some x1 ∧ Z.cell? ⟨W.heap.size, 2, none⟩ = some x2 ∧ Z.cell? ⟨W.heap.size, 3, none⟩ = some x3) ∧
  Z.frozen? ⟨W.heap.size, 0, none⟩ = false ∧ Z.frozen? ⟨W.heap.size, 1, none⟩ = false ∧ Z.frozen? ⟨W.heap.size, 2, none⟩ = false ∧ Z.frozen? ⟨W.heap.size, 3, none⟩ = false :=
 ⟨⟨(blk_cell h.rb 0).trans rfl, (blk_cell h.rb 1).trans rfl, (blk_cell h.rb 2).trans rfl, (blk_cell h.rb 3).trans rfl⟩, blk_frozen h.rb 0, blk_frozen h.rb 1, blk_frozen h.rb 2, blk_frozen h.rb 3⟩
end
end Go.Proofs.YtnjcpoojgmpmeaaGreatDoor.Plug
