/- Texts that stand behind one another, laid into one: what this claim needs of them. -/
import Derived.Test.YtnjcpoojgmpmeaaGreatDoorBZ0
import Derived.Laws.StructEq
import Derived.Test.YtnjcpoojgmpmeaaGreatDoorProg
import Derived.Below
import Derived.Deep.Draws
import Derived.Deep.AppendLies
import Derived.Maps.AppendAt
import Derived.OwnWalk
import Derived.Laws.BytesArg
import Derived.Laws.MakeOwn
import Derived.Laws.OwnMore
import Derived.Deep.OwnRows
import Derived.Tactics
import Derived.Lib.ConvBytes
import Derived.Laws.Slices
import Derived.WalkKit
import Derived.KernelRfl
import Derived.RowKit3
import Derived.Deep.LoopGhost
import Derived.Deep.QuietTactic
import Derived.BigQuiet
import Derived.WideLaws
import Derived.Deep.DeepCutAuto
import Derived.Deep.CutBlock
import Derived.Deep.RegionHeld3
import Derived.Laws.Rows
import Derived.Lib.AppendStr
import Derived.ArgAppend
import Derived.Laws.IdiomCopy
import Derived.OrdersHeld
import Derived.Laws.BitsLemmas
import Derived.RowKit
import Derived.Deep.Slices
import Derived.Deep.Fields
import Derived.ChangeSame
import Derived.Lib.DecodeNEq
import Derived.Lib.Strings
import Derived.Lib.SlTrimSet
import Derived.Shelf.Strings.SlTrimAscii
import Derived.Lib.AppendIntMem
import Derived.Outline
import Derived.Lib.OthersKept
import Derived.Lib.FrozenHead2
import Derived.Lib.RuneBytes
import Derived.Lib.Walk
import Derived.Lib.UnsafeStr
import Derived.Lib.Hide
import Derived.WalkSmall
import Derived.Laws.Externs
import Derived.Lib.MapLaws
namespace Go.Proofs.YtnjcpoojgmpmeaaGreatDoorW.PrintWords
open RowKit
def Kept (w W : World) (S : Nat → Prop) : Prop := w.heap.size ≤ W.heap.size ∧ ∀ i, i < w.heap.size → ¬ S i → W.heap[i]? = w.heap[i]?
section
variable {w W W2 : World} {S S2 S' : Nat → Prop}
theorem Kept.refl (w : World) (S : Nat → Prop) : Kept w w S := ⟨Nat.le_refl _, fun _ _ _ => rfl⟩
theorem Kept.of_below (h : Below w.heap.size w W) (S : Nat → Prop) : Kept w W S := ⟨h.size, fun i hi _ => h.block i hi⟩
theorem Kept.mono (h : Kept w W S) (hs : ∀ k, S k → S' k) : Kept w W S' := ⟨h.1, fun i hi hn => h.2 i hi (fun hk => hn (hs i hk))⟩
theorem Kept.then_ (h : Kept w W S) (k : Kept W W2 S2) (hs : ∀ k, S2 k → S k ∨ w.heap.size ≤ k) : Kept w W2 S :=
  ⟨Nat.le_trans h.1 k.1, fun i hi hn => (k.2 i (Nat.lt_of_lt_of_le hi h.1) (fun h2 => (hs i h2).elim hn (fun h3 => by omega))).trans (h.2 i hi hn)⟩
theorem Kept.of_grown {row : Option Nat} (hg : W.grownBy W2 row) (h : Kept w W S) (hr : ∀ k, row = some k → S k ∨ w.heap.size ≤ k) : Kept w W2 S :=
  h.then_ (S2 := fun k => row = some k) ⟨hg.size, fun i hi hn => hg.block i hi (fun he => hn he.symm)⟩ hr
theorem Kept.below (h : Kept w W S) (hb : Below W.heap.size W W2) : Kept w W2 S := h.then_ (Kept.of_below hb (fun _ => False)) (fun _ hk => hk.elim)
theorem Kept.alloc (h : Kept w W S) (o : Obj) : Kept w (W.alloc o) S := h.below (below_alloc (Below.refl _ _) o)
theorem Kept.drew (h : Kept w W S) : Kept w W.drew S := h
theorem Kept.drewN (h : Kept w W S) (m : Nat) : Kept w (W.drewN m) S := h
theorem Kept.setCell (h : Kept w W S) {p : Addr} (hp : S p.block ∨ w.heap.size ≤ p.block) (u : Value) : Kept w (W.setCell p u) S :=
  h.then_ (S2 := fun k => k = p.block) ⟨by simp [World.setCell], fun i _ hn => Below.heap_setCell W p u i hn⟩ (fun k hk => by rw [hk]; exact hp)
theorem Kept.keep {g : Nat} (h : KeepBut w W g none) (k : Kept W W2 S2) (hs : ∀ k, S2 k → w.heap.size ≤ k) : KeepBut w W2 g none :=
  ⟨Nat.le_trans h.1 k.1, fun i hi hg hr => (k.2 i (Nat.lt_of_lt_of_le hi h.1) (fun h2 => by have := hs i h2; omega)).trans (h.2 i hi hg hr)⟩
end
namespace Kd
section
variable {α : Type} {d : Kd α} {e base n c : Nat} {ok oki S S2 : Nat → Prop} {w w0 W W1 W2 : World} {v : Value} {A : Option Addr} {xs : List α} {i : Int} {cs : List Value}
end
end Kd
end Go.Proofs.YtnjcpoojgmpmeaaGreatDoorW.PrintWords
namespace Go.Proofs.YtnjcpoojgmpmeaaGreatDoorW.PrintWords
open RowKit
def Foot (P : World → Prop) (W : World) (ok : Nat → Prop) : Prop := ∀ W' : World, (∀ k, ok k → k < W.heap.size → W'.heap[k]? = W.heap[k]?) → P W'
theorem heap_lt {W W1 : World} {k : Nat} (h : W1.heap[k]? = W.heap[k]?) (hlt : k < W.heap.size) : k < W1.heap.size := by
 rw [Array.getElem?_eq_getElem hlt] at h
 exact (Array.getElem?_eq_some_iff.1 h).1
namespace Foot
variable {P Q : World → Prop} {W W1 : World} {ok ok' : Nat → Prop}
theorem now (h : Foot P W ok) : P W := h W (fun _ _ _ => rfl)
theorem mono (h : Foot P W ok) (hok : ∀ k, ok k → ok' k) : Foot P W ok' := fun W' hW => h W' (fun k hk hlt => hW k (hok k hk) hlt)
theorem bound (h : Foot P W ok) : Foot P W (fun k => ok k ∧ k < W.heap.size) := fun W' hW => h W' (fun k hk hlt => hW k ⟨hk, hlt⟩ hlt)
theorem step (h : Foot P W ok) (hm : ∀ k, ok k → k < W.heap.size → W1.heap[k]? = W.heap[k]?) : Foot P W1 ok := fun W' hW => h W' (fun k hk hlt => (hW k hk (heap_lt (hm k hk hlt) hlt)).trans (hm k hk hlt))
end Foot
namespace Kd
def F {α : Type} (d : Kd α) (W : World) (ok : Nat → Prop) (A : Option Addr) (n : Nat) (xs : List α) : Prop := Foot (fun W => d.C W A n xs) W ok
def FK {α : Type} (d : Kd α) (W : World) (ok : Nat → Prop) (x : α) (c : List Value) : Prop := Foot (fun W => d.K W x c) W ok
section
variable {α β : Type} {d : Kd α} {e base n n' cc g N : Nat} {ok ok' okp S : Nat → Prop} {w w0 w1 W W1 : World} {A A' : Option Addr} {u v v1 : Value} {xs : List α} {xs' : List β} {d' : Kd β} {x : α} {c : List Value}
theorem F_nil (d : Kd α) (W : World) (ok : Nat → Prop) : F d W ok none ([] : List α).length [] := fun W' _ => C_nil d W'
theorem R_F (h : d.R e W base ok (.slice A n cc) xs) : F d W ok A n xs := fun W' hW => by
 have h2 := R_reads' (R_step h hW)
 rw [h2.1]
 exact h2.2.2
theorem FK_now (h : FK d W ok x c) : d.K W x c := Foot.now h
theorem FK_mono (h : FK d W ok x c) (hok : ∀ k, ok k → ok' k) : FK d W ok' x c := Foot.mono h hok
theorem FK_bound (h : FK d W ok x c) : FK d W (fun k => ok k ∧ k < W.heap.size) x c := Foot.bound h
theorem FK_step (h : FK d W ok x c) (hm : ∀ k, ok k → k < W.heap.size → W1.heap[k]? = W.heap[k]?) : FK d W1 ok x c := Foot.step h hm
theorem FK_of_M (h : d.M W base ok x c) : FK d W ok x c := fun _ hW => d.K_of_M (M_step h hW)
end
end Kd
end Go.Proofs.YtnjcpoojgmpmeaaGreatDoorW.PrintWords
namespace Go.Proofs.YtnjcpoojgmpmeaaGreatDoorW.PrintWords
open RowKit
namespace Kd
def chunks (sz : Nat) (n : Nat) (inner : List Value) : List (List Value) := (List.range n).map fun j => (inner.drop (j * sz)).take sz
theorem chunks_length (sz n : Nat) (inner : List Value) : (chunks sz n inner).length = n := by simp [chunks]
theorem chunks_at {sz n : Nat} {inner : List Value} {j : Nat} (hj : j < n) : (chunks sz n inner)[j]? = some ((inner.drop (j * sz)).take sz) := by simp [chunks, hj]
theorem chunks_get {sz n : Nat} {inner : List Value} {j : Nat} {c : List Value} (h : (chunks sz n inner)[j]? = some c) : c = (inner.drop (j * sz)).take sz := by
 have hj : j < n := by have := (List.getElem?_eq_some_iff.1 h).1; rwa [chunks_length] at this
 rw [chunks_at hj] at h
 injection h with h
 exact h.symm
theorem reps_raw {α : Type} {Rr : α → List Value → Prop} {sz : Nat} {xs : List α} {inner : List Value} (h : Reps Rr sz xs inner) (hR : ∀ x c, Rr x c → c.length = sz ∧ ∀ u ∈ c, u.oneCell' = true) : Reps (fun x cs => cs = x ∧ cs.length = sz ∧ ∀ u ∈ cs, u.oneCell' = true) sz (chunks sz xs.length inner) inner := by
 refine ⟨by rw [chunks_length]; exact h.1, fun j p hj => ?_⟩
 have hjl : j < xs.length := by have := (List.getElem?_eq_some_iff.1 hj).1; rwa [chunks_length] at this
 have hp := chunks_get hj
 exact ⟨hp.symm, hR _ _ (h.2 j _ (List.getElem?_eq_getElem hjl))⟩
section
variable {α : Type} {d : Kd α} {e base n cc g : Nat} {ok ok' okp S : Nat → Prop} {w w1 W W1 : World} {A : Option Addr} {u v v1 : Value} {xs : List α} {x : α} {c : List Value}
def N {α : Type} (d : Kd α) (e : Nat) (w : World) (base : Nat) (ok : Nat → Prop) (v : Value) (xs : List α) : Prop :=
  (∀ k, v.ownBlock = some k → ok k) ∧ ∃ rows : List (List Value), rows.length = xs.length ∧ (raw d.sz).R e w base (fun k => some k = v.ownBlock) v rows ∧ ∀ (j : Nat) (x : α) (c : List Value), xs[j]? = some x → rows[j]? = some c → FK d w (fun k => ok k ∧ some k ≠ v.ownBlock) x c
theorem raw_tight {sz : Nat} {rows : List (List Value)} (h : (raw sz).R e w base ok v rows) : (raw sz).R e w base (fun k => some k = v.ownBlock) v rows := R_tight rfl h
theorem R_N (h : d.R e w base ok v xs) : N d e w base ok v xs := by
 obtain ⟨h0, inner, ho, hr⟩ := h
 refine ⟨h0, chunks d.sz xs.length inner, chunks_length _ _ _, ⟨fun k hk => hk.symm, inner, by rw [chunks_length]; exact ho, reps_raw hr (fun x c hp => ⟨d.K_len (d.K_of_M hp), d.K_one (d.K_of_M hp)⟩)⟩, fun j x c hx hc => ?_⟩
 rw [chunks_get hc]
 exact FK_of_M (hr.2 j x hx)
theorem N_nil (d : Kd α) (e : Nat) (w : World) (base : Nat) (ok : Nat → Prop) : N d e w base ok (.slice none 0 0) [] := R_N (R_nil _ _ _ _ _)
theorem N_mono (h : N d e w base ok v xs) (hok : ∀ k, ok k → ok' k) : N d e w base ok' v xs := by
 obtain ⟨h0, rows, hl, hR, hf⟩ := h
 exact ⟨fun k hk => hok k (h0 k hk), rows, hl, hR, fun j x c hx hc => FK_mono (hf j x c hx hc) (fun k hk => ⟨hok k hk.1, hk.2⟩)⟩
theorem N_lt (h : N d e w base ok v xs) : ∀ k, v.ownBlock = some k → k < w.heap.size := by
 obtain ⟨_, rows, _, hR, _⟩ := h
 exact R_lt hR
theorem N_bound (h : N d e w base ok v xs) : N d e w base (fun k => ok k ∧ k < w.heap.size) v xs := by
 have hlt := N_lt h
 obtain ⟨h0, rows, hl, hR, hf⟩ := h
 exact ⟨fun k hk => ⟨h0 k hk, hlt k hk⟩, rows, hl, hR, fun j x c hx hc => FK_mono (FK_bound (hf j x c hx hc)) (fun k hk => ⟨⟨hk.1.1, hk.2⟩, hk.1.2⟩)⟩
theorem N_lower {base' : Nat} (h : N d e w base ok v xs) (hb : base' ≤ base) : N d e w base' ok v xs := by
 obtain ⟨h0, rows, hl, hR, hf⟩ := h
 exact ⟨h0, rows, hl, R_lower hR hb, hf⟩
theorem N_step (h : N d e w base ok v xs) (hm : ∀ k, ok k → k < w.heap.size → w1.heap[k]? = w.heap[k]?) : N d e w1 base ok v xs := by
 obtain ⟨h0, rows, hl, hR, hf⟩ := h
 exact ⟨h0, rows, hl, R_step hR (fun k hk hlt => hm k (h0 k hk.symm) hlt), fun j x c hx hc => FK_step (hf j x c hx hc) (fun k hk hlt => hm k hk.1 hlt)⟩
theorem N_below (h : N d e w base ok v xs) (hb : Below w.heap.size w w1) : N d e w1 base ok v xs := N_step h (fun k _ hk => hb.block k hk)
theorem N_alloc (h : N d e w base ok v xs) (o : Obj) : N d e (w.alloc o) base ok v xs := N_below h (below_alloc (Below.refl _ _) o)
theorem N_drew (h : N d e w base ok v xs) : N d e w.drew base ok v xs := N_below h (below_drew (Below.refl _ _))
theorem N_drewN (h : N d e w base ok v xs) (m : Nat) : N d e (w.drewN m) base ok v xs := N_below h (pw_below_drewN (Below.refl _ _) m)
theorem N_far (h : N d e w base ok v xs) {p : Addr} (hok : ∀ k, ok k → k ≠ p.block) (u : Value) : N d e (w.setCell p u) base ok v xs := N_step h (fun k ho _ => Below.heap_setCell w p u k (hok k ho))
theorem N_elder' (h : N d e W base ok v xs) (hbase : ∀ k, u.ownBlock = some k → W.heap.size ≤ k) (hb : Below W.heap.size W w1) : N d e w1 base (fun k => ok k ∧ some k ≠ u.ownBlock) v xs :=
  N_mono (N_below (N_bound h) hb) (fun k hk => ⟨hk.1, fun he => by have := hbase k he.symm; have := hk.2; omega⟩)
theorem N_elderB (h : N d e w base ok v xs) (a : Nat) (ha : w.heap.size ≤ a) : N d e w base (fun k => ok k ∧ k ≠ a) v xs := N_mono (N_bound h) (fun k hk => ⟨hk.1, by have := hk.2; omega⟩)
theorem N_slice (h : N d e w base ok v xs) : ∃ A c, v = .slice A xs.length c := by
 obtain ⟨_, rows, hl, hR, _⟩ := h
 obtain ⟨A, c, he⟩ := R_slice hR
 exact ⟨A, c, by rw [he, hl]⟩
theorem N_reads' {n c : Nat} (h : N d e w base ok (.slice A n c) xs) : n = xs.length ∧ n ≤ c ∧ d.C w A xs.length xs := by
 obtain ⟨_, rows, hl, hR, hf⟩ := h
 obtain ⟨hn, hc, hC⟩ := R_reads' hR
 refine ⟨by omega, hc, ?_⟩
 rw [hl] at hC
 refine ⟨rfl, hC.2.1, fun hp => ?_⟩
 obtain ⟨ad, he, hcell⟩ := hC.2.2 hp
 refine ⟨ad, he, fun j p hj => ?_⟩
 have hjl : j < rows.length := by have := (List.getElem?_eq_some_iff.1 hj).1; omega
 obtain ⟨c', hcl, hK, hcc⟩ := hcell j _ (List.getElem?_eq_getElem hjl)
 have hk := FK_now (hf j p _ hj (List.getElem?_eq_getElem hjl))
 refine ⟨c', hcl, ?_, hcc⟩
 rw [show c' = rows[j] from hK.1]
 exact hk
end
end Kd
end Go.Proofs.YtnjcpoojgmpmeaaGreatDoorW.PrintWords
namespace Go.Proofs.YtnjcpoojgmpmeaaGreatDoorW.PrintWords
open RowKit
section
variable {P : Program} {d : Nat} {xs ys : Array Value} {f : Field} {fs : List Field} {a b : Value} {r s : Bool} {w : World}
theorem eqf_last (hn : (f.name == "_") = false) (ha : (part f.type xs f.offset).run P w = .ok a w) (hb : (part f.type ys f.offset).run P w = .ok b w) (he : (Op.equalIn d f.type a b).run P w = .ok r w) : (Op.eqFields d xs ys [f]).run P w = .ok r w := by
 have hn' : f.name ≠ "_" := by simpa using hn
 simp only [Op.eqFields, if_pos hn', Sem.run_bind, ha, hb, he, Result.andThen_ok]
 cases r <;> simp
theorem eqf_cons (hn : (f.name == "_") = false) (ha : (part f.type xs f.offset).run P w = .ok a w) (hb : (part f.type ys f.offset).run P w = .ok b w) (he : (Op.equalIn d f.type a b).run P w = .ok r w) (hr : (Op.eqFields d xs ys fs).run P w = .ok s w) : (Op.eqFields d xs ys (f :: fs)).run P w = .ok (r && s) w := by
 have hn' : f.name ≠ "_" := by simpa using hn
 rw [Op.eqFields]
 simp only [if_pos hn', Sem.run_bind, ha, hb, he, Result.andThen_ok]
 cases r
 · simp
 · simpa using hr
theorem eqA_of {t : TypeId} {fs : Array Field} (hu : P.underlying t = some (.struct fs)) (hp : P.stoodInHeld t = false) (h : (Op.eqFields d xs ys fs.toList).run P w = .ok r w) : (Op.equalIn (d + 1) t (.agg xs) (.agg ys)).run P w = .ok r w := by
 have hf : P.fieldsOf t = fs := by simp [Program.fieldsOf, hu]
 rw [run_equalIn_struct (P := P) w d t xs ys (by rw [hf]; exact hu) hp, hf]
 exact h
end
end Go.Proofs.YtnjcpoojgmpmeaaGreatDoorW.PrintWords
namespace Go.Proofs.YtnjcpoojgmpmeaaGreatDoorW.PrintWords
theorem Reps.one {α : Type} {R : α → List Value → Prop} {ps : List α} {cs : List Value} {p : α} {v : Value} (hp : R p [v]) (h : Reps R 1 ps cs) : Reps R 1 (p :: ps) (v :: cs) := by
 refine ⟨by simp [h.1], fun j q hq => ?_⟩
 cases j with
 | zero =>
  simp only [List.getElem?_cons_zero, Option.some.injEq] at hq
  subst hq
  simpa using hp
 | succ j =>
  simp only [List.getElem?_cons_succ] at hq
  have h1 := h.2 j q hq
  simpa [Nat.mul_one] using h1
theorem Reps.front {α : Type} {R : α → List Value → Prop} {size : Nat} {ps : List α} {cs c all : List Value} {p : α} (hp : R p c) (hc : c.length = size) (h : Reps R size ps cs) (ha : c ++ cs = all) : Reps R size (p :: ps) all := by
 subst ha
 refine ⟨by rw [List.length_append, hc, h.1, List.length_cons, Nat.succ_mul, Nat.add_comm], fun j q hq => ?_⟩
 cases j with
 | zero =>
  simp only [List.getElem?_cons_zero, Option.some.injEq] at hq
  subst hq
  rw [Nat.zero_mul, List.drop_zero, List.take_append_of_le_length (by omega), List.take_of_length_le (by omega)]
  exact hp
 | succ j =>
  simp only [List.getElem?_cons_succ] at hq
  have h1 := h.2 j q hq
  rw [Nat.succ_mul, List.drop_append, List.drop_of_length_le (by rw [hc]; exact Nat.le_add_left _ _), List.nil_append, hc, Nat.add_sub_cancel]
  exact h1
theorem Reps.c2 {α : Type} {R : α → List Value → Prop} {ps : List α} {cs : List Value} {p : α} {va vb : Value} (hp : R p [va, vb]) (h : Reps R 2 ps cs) : Reps R 2 (p :: ps) (va :: vb :: cs) := Reps.front hp rfl h rfl
theorem Reps.c3 {α : Type} {R : α → List Value → Prop} {ps : List α} {cs : List Value} {p : α} {va vb vc : Value} (hp : R p [va, vb, vc]) (h : Reps R 3 ps cs) : Reps R 3 (p :: ps) (va :: vb :: vc :: cs) := Reps.front hp rfl h rfl
theorem Reps.c4 {α : Type} {R : α → List Value → Prop} {ps : List α} {cs : List Value} {p : α} {va vb vc vd : Value} (hp : R p [va, vb, vc, vd]) (h : Reps R 4 ps cs) : Reps R 4 (p :: ps) (va :: vb :: vc :: vd :: cs) := Reps.front hp rfl h rfl
theorem Reps.c5 {α : Type} {R : α → List Value → Prop} {ps : List α} {cs : List Value} {p : α} {va vb vc vd ve : Value} (hp : R p [va, vb, vc, vd, ve]) (h : Reps R 5 ps cs) : Reps R 5 (p :: ps) (va :: vb :: vc :: vd :: ve :: cs) := Reps.front hp rfl h rfl
theorem Reps.c6 {α : Type} {R : α → List Value → Prop} {ps : List α} {cs : List Value} {p : α} {va vb vc vd ve vf : Value} (hp : R p [va, vb, vc, vd, ve, vf]) (h : Reps R 6 ps cs) : Reps R 6 (p :: ps) (va :: vb :: vc :: vd :: ve :: vf :: cs) := Reps.front hp rfl h rfl
theorem Reps.c7 {α : Type} {R : α → List Value → Prop} {ps : List α} {cs : List Value} {p : α} {va vb vc vd ve vf vg : Value} (hp : R p [va, vb, vc, vd, ve, vf, vg]) (h : Reps R 7 ps cs) : Reps R 7 (p :: ps) (va :: vb :: vc :: vd :: ve :: vf :: vg :: cs) := Reps.front hp rfl h rfl
theorem Reps.c8 {α : Type} {R : α → List Value → Prop} {ps : List α} {cs : List Value} {p : α} {va vb vc vd ve vf vg vh : Value} (hp : R p [va, vb, vc, vd, ve, vf, vg, vh]) (h : Reps R 8 ps cs) : Reps R 8 (p :: ps) (va :: vb :: vc :: vd :: ve :: vf :: vg :: vh :: cs) := Reps.front hp rfl h rfl
theorem Reps.c9 {α : Type} {R : α → List Value → Prop} {ps : List α} {cs : List Value} {p : α} {va vb vc vd ve vf vg vh vi : Value} (hp : R p [va, vb, vc, vd, ve, vf, vg, vh, vi]) (h : Reps R 9 ps cs) : Reps R 9 (p :: ps) (va :: vb :: vc :: vd :: ve :: vf :: vg :: vh :: vi :: cs) := Reps.front hp rfl h rfl
theorem Reps.c10 {α : Type} {R : α → List Value → Prop} {ps : List α} {cs : List Value} {p : α} {va vb vc vd ve vf vg vh vi vj : Value} (hp : R p [va, vb, vc, vd, ve, vf, vg, vh, vi, vj]) (h : Reps R 10 ps cs) : Reps R 10 (p :: ps) (va :: vb :: vc :: vd :: ve :: vf :: vg :: vh :: vi :: vj :: cs) := Reps.front hp rfl h rfl
end Go.Proofs.YtnjcpoojgmpmeaaGreatDoorW.PrintWords
namespace Go.Proofs.YtnjcpoojgmpmeaaGreatDoorW.PrintWords
open RowKit
section
variable {P : Program} {ops : Array Oper} {rest : List Oper} {o : Oper} {a : Act} {Q : Exit → Act → World → Prop} {W : World}
theorem gate_guard (hw : Region.wanted o (yielded ops a.tmps) = true) (h : wpList P ops Q ({ o with guard := none } :: rest) a W) : wpList P ops Q (o :: rest) a W := by
 have h1 : Region.wanted { o with guard := none } (yielded ops a.tmps) = true := rfl
 unfold wpList at h ⊢
 rw [if_pos h1] at h
 rw [if_pos hw]
 exact h
end
namespace Kd
section
variable {α : Type} {d : Kd α} {e base n cap g : Nat} {ok ok' okp : Nat → Prop} {w w1 W : World} {v v1 : Value} {xs ys : List α}
theorem N_made {rows : List (List Value)} (hR : (raw d.sz).R e w1 base (fun k => k = W.heap.size) v1 rows) (hg : W.grownBy w1 none) (hat : ∃ b, v1.ownBlock = some b ∧ W.heap.size ≤ b) (hl : rows.length = xs.length) (hf : ∀ (j : Nat) (x : α) (c : List Value), xs[j]? = some x → rows[j]? = some c → FK d W okp x c)
  (hok : ∀ k, okp k → ok k) (hfresh : ok W.heap.size) : N d e w1 base ok v1 xs := by
 obtain ⟨b, hb, hle⟩ := hat
 refine ⟨fun k hk => by rw [hR.1 k hk]; exact hfresh, rows, hl, raw_tight hR, fun j x c hx hc => ?_⟩
 refine FK_mono (FK_step (FK_bound (hf j x c hx hc)) (fun k hk hlt => hg.block k hlt (by simp))) (fun k hk => ⟨hok k hk.1, fun he => ?_⟩)
 rw [hb] at he
 injection he with he
 have := hk.2
 omega
end
section
variable {P : Program} {ops : Array Oper} {rest : List Oper} {o : Oper} {a : Act} {Q : Exit → Act → World → Prop} {Kc : Act → World → Prop} {α : Type}
theorem N_lit (d : Kd α) {w0 W : World} (base e : Nat) (hgd : o.guard = none) {N' : Tmp} (_hd : o.dst = some N') {xs : List α} {inner : List Value} {ok okp : Nat → Prop}
  (hrun : (execOp a.eval o).run P W = .ok (.value (.slice (some ⟨W.heap.size, 0, none⟩) xs.length xs.length)) (W.alloc (.cells inner.toArray e)))
  (hrep : Reps (FK d W okp) d.sz xs inner) (hok : ∀ k, okp k → ok k) (hfresh : ok W.heap.size) (HB : Below base w0 W) (hbase : base ≤ W.heap.size) (hm : xs.length ≤ 9223372036854775807)
  (h : ∀ v1 w1, N d e w1 base ok v1 xs → Below base w0 w1 → W.grownBy w1 none → (∃ b, v1.ownBlock = some b ∧ W.heap.size ≤ b) → wpList P ops Q rest (a.put o.dst v1) w1) :
  wpList P ops Q (o :: rest) a W := by
 refine R_lit (raw d.sz) base e hgd _hd (xs := chunks d.sz xs.length inner) (inner := inner) (ok := fun k => k = W.heap.size) (okp := fun _ => False) (by rw [chunks_length]; exact hrun) (reps_raw hrep (fun y c hk => ⟨d.K_len (FK_now hk), d.K_one (FK_now hk)⟩)) (fun _ hk => hk.elim) rfl HB hbase (by rw [chunks_length]; exact hm) ?_
 intro v1 w1 hr hb hg hat
 exact h v1 w1 (N_made hr hg hat (chunks_length _ _ _) (fun j y c hy hc => by rw [chunks_get hc]; exact hrep.2 j y hy) hok hfresh) hb hg hat
end
end Kd
end Go.Proofs.YtnjcpoojgmpmeaaGreatDoorW.PrintWords
namespace Go.Proofs.YtnjcpoojgmpmeaaGreatDoorW.PrintMore
open RowKit YtnjcpoojgmpmeaaGreatDoorW.PrintWords
namespace Kd
open YtnjcpoojgmpmeaaGreatDoorW.PrintWords.Kd
end Kd
namespace Kd
open YtnjcpoojgmpmeaaGreatDoorW.PrintWords.Kd
section
variable {α : Type} {d : Kd α} {e base g N : Nat} {ok : Nat → Prop} {W w1 : World} {u v : Value} {xs : List α}
end
end Kd
theorem max2_int (k k' : IntKind) (x y : Int) : Builtin.max2 (.int k x) (.int k' y) = pure (.int k (if x < y then y else x)) := by simp only [Builtin.max2, gt_iff_lt]
theorem min2_int (k k' : IntKind) (x y : Int) : Builtin.min2 (.int k x) (.int k' y) = pure (.int k (if y < x then y else x)) := by simp only [Builtin.min2]
theorem max_two (ats : Array TypeId) (ty : TypeId) (a b : Value) : Builtin.max_ ats ty #[a, b] = (Builtin.max2 a b >>= fun s => pure s) := by simp only [Builtin.max_, List.foldlM_cons, List.foldlM_nil]
theorem min_two (ats : Array TypeId) (ty : TypeId) (a b : Value) : Builtin.min_ ats ty #[a, b] = (Builtin.min2 a b >>= fun s => pure s) := by simp only [Builtin.min_, List.foldlM_cons, List.foldlM_nil]
theorem max_three (ats : Array TypeId) (ty : TypeId) (a b c : Value) : Builtin.max_ ats ty #[a, b, c] = (Builtin.max2 a b >>= fun s => Builtin.max2 s c >>= fun s => pure s) := by simp only [Builtin.max_, List.foldlM_cons, List.foldlM_nil]
theorem min_three (ats : Array TypeId) (ty : TypeId) (a b c : Value) : Builtin.min_ ats ty #[a, b, c] = (Builtin.min2 a b >>= fun s => Builtin.min2 s c >>= fun s => pure s) := by simp only [Builtin.min_, List.foldlM_cons, List.foldlM_nil]
theorem max_four (ats : Array TypeId) (ty : TypeId) (a b c d : Value) : Builtin.max_ ats ty #[a, b, c, d] = (Builtin.max2 a b >>= fun s => Builtin.max2 s c >>= fun s => Builtin.max2 s d >>= fun s => pure s) := by simp only [Builtin.max_, List.foldlM_cons, List.foldlM_nil]
theorem min_four (ats : Array TypeId) (ty : TypeId) (a b c d : Value) : Builtin.min_ ats ty #[a, b, c, d] = (Builtin.min2 a b >>= fun s => Builtin.min2 s c >>= fun s => Builtin.min2 s d >>= fun s => pure s) := by simp only [Builtin.min_, List.foldlM_cons, List.foldlM_nil]
end Go.Proofs.YtnjcpoojgmpmeaaGreatDoorW.PrintMore
namespace Go.Proofs.YtnjcpoojgmpmeaaGreatDoorW.PrintWords
open RowKit
section
variable {P : Program} {ops : Array Oper} {rest : List Oper} {o : Oper} {a : Act} {Q : Exit → Act → World → Prop} {W : World}
theorem gate_callee {f : FuncId} {as_ : Array Operand} {ts : Array TypeId} (_ho : o.op = .call { callee := .value (.func f), args := as_, argTypes := ts }) (h : wpList P ops Q (o :: rest) a W) : wpList P ops Q (o :: rest) a W := h
theorem gate_builtin {b : Builtin} {xs : Array Operand} {ts : Array TypeId} (_ho : o.op = .call { callee := .builtin b, args := xs, argTypes := ts }) (h : wpList P ops Q (o :: rest) a W) : wpList P ops Q (o :: rest) a W := h
end
def mn (a b : Int) : Int := if b < a then b else a
namespace Kd
section
variable {α : Type} {d : Kd α} {e base : Nat} {ok : Nat → Prop} {W w1 : World} {v : Value} {xs : List α}
end
section
variable {α : Type} {d : Kd α} {e base g n cap : Nat} {ok oki okp : Nat → Prop} {W : World} {xs : List α} {i : Int} {c : List Value}
end
section
variable {α : Type} {d : Kd α} {e base b b' g N : Nat} {ok ok1 : Nat → Prop} {W W2 w1 : World} {u v : Value} {xs ys : List α} {S : Nat → Prop}
theorem R_tight2 (hE : d.E = []) (h : d.R e W base ok v xs) : d.R e W base (fun k => some k = v.ownBlock ∧ ok k) v xs := R_mono (R_tight hE h) (fun k hk => ⟨hk, h.1 k hk.symm⟩)
end
end Kd
end Go.Proofs.YtnjcpoojgmpmeaaGreatDoorW.PrintWords
namespace Go.Proofs.YtnjcpoojgmpmeaaGreatDoorW.PrintWords
open RowKit
namespace Kd
def V {α : Type} (d : Kd α) (_e : Nat) (W : World) (_base : Nat) (ok : Nat → Prop) (v : Value) (xs : List α) : Prop := ∃ A c, v = .slice A xs.length c ∧ xs.length ≤ c ∧ F d W ok A xs.length xs
section
variable {α β : Type} {d : Kd α} {e base base' n m c g N' lo hi : Nat} {ok ok' S : Nat → Prop} {w W w1 : World} {A : Option Addr} {ad : Addr} {u v v1 : Value} {xs : List α}
theorem V_nil (d : Kd α) (e : Nat) (W : World) (base : Nat) (ok : Nat → Prop) : V d e W base ok (.slice none 0 0) [] := ⟨none, 0, rfl, Nat.le_refl _, F_nil d W ok⟩
end
end Kd
end Go.Proofs.YtnjcpoojgmpmeaaGreatDoorW.PrintWords
namespace Go.Proofs.YtnjcpoojgmpmeaaGreatDoor.PX
open RowKit YtnjcpoojgmpmeaaGreatDoorW.PrintWords YtnjcpoojgmpmeaaGreatDoorW.PrintLast YtnjcpoojgmpmeaaGreatDoorW.PrintMore YtnjcpoojgmpmeaaGreatDoor
attribute [local go_sem] max2_int min2_int max_two min_two max_three min_three max_four min_four   -- for this text's walks alone
set_option linter.unusedVariables false
set_option linter.unusedSimpArgs false
def errW : Option Int → Value
  | none => .nilIface
  | some c => .iface 0 (.int .i64 c)
theorem errW_none : errW none = .nilIface := rfl
theorem errW_some (c : Int) : errW (some c) = .iface 0 (.int .i64 c) := rfl
theorem info3 : (Tryz.prog.info? 3).map (fun i => (i.zero, i.size, i.bytes)) = some (some (.int .i64 0), 1, 8) := by kernel_rfl
theorem info4 : (Tryz.prog.info? 4).map (fun i => (i.zero, i.size, i.bytes)) = some (some (.bool false), 1, 1) := by kernel_rfl
theorem info45 : (Tryz.prog.info? 45).map (fun i => (i.zero, i.size, i.bytes)) = some (some (.agg #[(.int .i64 0), (.string ⟨#[]⟩), (.slice none 0 0)]), 3, 48) := by kernel_rfl
structure S45 where
  f0 : Int
  f1 : ByteArray
  f2 : (List Int)
def z45 : S45 := ⟨(0 : Int), (⟨#[]⟩ : ByteArray), ([] : List Int)⟩
def k45 : Kd S45 := Kd.iso (Kd.pair (Kd.int .i64) (Kd.pair Kd.string (Kd.slice 3 (Kd.int .i64)))) (fun x : S45 => (x.f0, x.f1, x.f2))
theorem k45_open {w : World} {x : S45} {cs : List Value} (h : k45.K w x cs) : ∃ A2 c2, cs = [.int .i64 x.f0, .string x.f1, .slice A2 x.f2.length c2] ∧ x.f2.length ≤ c2 ∧ (Kd.int .i64).C w A2 x.f2.length x.f2 := by
  obtain ⟨_, _, rfl, rfl, ⟨_, _, rfl, rfl, ⟨A2, c2, rfl, l2, g2⟩⟩⟩ := h
  exact ⟨A2, c2, rfl, l2, g2⟩
theorem k45_openM {w : World} {base : Nat} {ok : Nat → Prop} {x : S45} {cs : List Value} (h : k45.M w base ok x cs) : ∃ v2, cs = [.int .i64 x.f0, .string x.f1, v2] ∧ (Kd.int .i64).R 3 w base ok v2 x.f2 := by
  obtain ⟨_, _, rfl, rfl, ⟨_, _, rfl, rfl, ⟨v2, rfl, g2⟩⟩⟩ := h
  exact ⟨v2, rfl, g2⟩
theorem k45_mk (w : World) (x : S45) {A2 : Option Addr} {c2 : Nat} (l2 : x.f2.length ≤ c2) (g2 : (Kd.int .i64).C w A2 x.f2.length x.f2) : k45.K w x [.int .i64 x.f0, .string x.f1, .slice A2 x.f2.length c2] := ⟨[.int .i64 x.f0], [.string x.f1, .slice A2 x.f2.length c2], rfl, rfl, ⟨[.string x.f1], [.slice A2 x.f2.length c2], rfl, rfl, ⟨A2, c2, rfl, l2, g2⟩⟩⟩
theorem k45_mkM (w : World) (base : Nat) (ok : Nat → Prop) (x : S45) {v2 : Value} (g2 : (Kd.int .i64).R 3 w base ok v2 x.f2) : k45.M w base ok x [.int .i64 x.f0, .string x.f1, v2] := ⟨[.int .i64 x.f0], [.string x.f1, v2], rfl, rfl, ⟨[.string x.f1], [v2], rfl, rfl, ⟨v2, rfl, g2⟩⟩⟩
theorem k45_mkF (W : World) (ok : Nat → Prop) (x : S45) {A2 : Option Addr} {c2 : Nat} (l2 : x.f2.length ≤ c2) (g2 : Kd.F (Kd.int .i64) W ok A2 x.f2.length x.f2) : Kd.FK k45 W ok x [.int .i64 x.f0, .string x.f1, .slice A2 x.f2.length c2] := fun W2 hW => k45_mk W2 x l2 (g2 W2 hW)
def rd_T45 (xs : List S45) (i : Int) : S45 := xs.getD i.toNat z45
theorem at_T45 {w : World} {A : Option Addr} {n : Nat} {xs : List S45} (h : Kd.C k45 w A n xs) (i : Int) (h0 : 0 ≤ i) (h1 : i < n) : ∃ ad A2 c2, A = some ad ∧ w.cell? (ad.add (i.toNat * 3)) = some (.int .i64 (rd_T45 xs i).f0) ∧ w.cell? ⟨(ad.add (i.toNat * 3)).block, (ad.add (i.toNat * 3)).off + 1, none⟩ = some (.string (rd_T45 xs i).f1) ∧ w.cell? ⟨(ad.add (i.toNat * 3)).block, (ad.add (i.toNat * 3)).off + 2, none⟩ = some (.slice A2 (rd_T45 xs i).f2.length c2) ∧ (rd_T45 xs i).f2.length ≤ c2 ∧ (Kd.int .i64).C w A2 (rd_T45 xs i).f2.length (rd_T45 xs i).f2 := by
  obtain ⟨ad, c, e, _, hK, hc0⟩ := Kd.C_get h z45 i h0 h1
  have hc : ∀ j u, c[j]? = some u → w.cell? (ad.add (i.toNat * 3 + j)) = some u := hc0
  obtain ⟨A2, c2, rfl, l2, g2⟩ := k45_open hK
  exact ⟨ad, A2, c2, e, hc 0 _ rfl, by rw [← add_field _ _ 1 (by omega)]; exact hc 1 _ rfl, by rw [← add_field _ _ 2 (by omega)]; exact hc 2 _ rfl, l2, g2⟩
structure S29 where
  f0 : Int
  f1 : ByteArray
  f2 : ByteArray
  f3 : (List S29)
def z29 : S29 := ⟨(0 : Int), (⟨#[]⟩ : ByteArray), (⟨#[]⟩ : ByteArray), ([] : List S29)⟩
def F29 (d : Kd S29) : Kd S29 := Kd.iso (Kd.pair (Kd.int .i64) (Kd.pair Kd.string (Kd.pair Kd.string (Kd.slice 29 d)))) (fun x : S29 => (x.f0, x.f1, x.f2, x.f3))
theorem mono29 : Kd.Mono F29 := Kd.mono_iso _ (Kd.mono_pair (Kd.mono_const _) (Kd.mono_pair (Kd.mono_const _) (Kd.mono_pair (Kd.mono_const _) (Kd.mono_slice 29 Kd.mono_id))))
theorem sub29 : Kd.Sub F29 [29] := Kd.sub_iso _ (Kd.sub_pair (Kd.sub_const _ (by decide)) (Kd.sub_pair (Kd.sub_const _ (by decide)) (Kd.sub_pair (Kd.sub_const _ (by decide)) (Kd.sub_slice 29 (by decide) Kd.sub_id))))
theorem sz29 : ∀ n, (Kd.upto F29 4 [29] n).sz = 4 := Kd.upto_sz (fun _ => rfl)
def k29 : Kd S29 := Kd.fix F29 4 [29] sz29 (Kd.upto_E sub29)
theorem k29_open {w : World} {x : S29} {cs : List Value} (h : k29.K w x cs) : ∃ A3 c3, cs = [.int .i64 x.f0, .string x.f1, .string x.f2, .slice A3 x.f3.length c3] ∧ x.f3.length ≤ c3 ∧ k29.C w A3 x.f3.length x.f3 := by
  obtain ⟨n, h⟩ := h
  cases n with
  | zero => exact h.elim
  | succ n =>
    obtain ⟨_, _, rfl, rfl, ⟨_, _, rfl, rfl, ⟨_, _, rfl, rfl, ⟨A3, c3, rfl, l3, g3⟩⟩⟩⟩ := h
    exact ⟨A3, c3, rfl, l3, Kd.fix_C g3⟩
theorem k29_openM {w : World} {base : Nat} {ok : Nat → Prop} {x : S29} {cs : List Value} (h : k29.M w base ok x cs) : ∃ v3, cs = [.int .i64 x.f0, .string x.f1, .string x.f2, v3] ∧ k29.R 29 w base ok v3 x.f3 := by
  obtain ⟨n, h⟩ := h
  cases n with
  | zero => exact h.elim
  | succ n =>
    obtain ⟨_, _, rfl, rfl, ⟨_, _, rfl, rfl, ⟨_, _, rfl, rfl, ⟨v3, rfl, g3⟩⟩⟩⟩ := h
    exact ⟨v3, rfl, Kd.fix_R g3⟩
theorem k29_mkM (w : World) (base : Nat) (ok : Nat → Prop) (x : S29) {v3 : Value} (g3 : k29.R 29 w base ok v3 x.f3) : k29.M w base ok x [.int .i64 x.f0, .string x.f1, .string x.f2, v3] := by
  obtain ⟨n3, q3⟩ := Kd.fix_R_back mono29 g3
  have r3 := Kd.upto_R_le mono29 sz29 (show n3 ≤ n3 by omega) q3
  exact ⟨n3 + 1, ⟨[.int .i64 x.f0], [.string x.f1, .string x.f2, v3], rfl, rfl, ⟨[.string x.f1], [.string x.f2, v3], rfl, rfl, ⟨[.string x.f2], [v3], rfl, rfl, ⟨v3, rfl, r3⟩⟩⟩⟩⟩
def rd_T29 (xs : List S29) (i : Int) : S29 := xs.getD i.toNat z29
theorem at_T29 {w : World} {A : Option Addr} {n : Nat} {xs : List S29} (h : Kd.C k29 w A n xs) (i : Int) (h0 : 0 ≤ i) (h1 : i < n) : ∃ ad A3 c3, A = some ad ∧ w.cell? (ad.add (i.toNat * 4)) = some (.int .i64 (rd_T29 xs i).f0) ∧ w.cell? ⟨(ad.add (i.toNat * 4)).block, (ad.add (i.toNat * 4)).off + 1, none⟩ = some (.string (rd_T29 xs i).f1) ∧ w.cell? ⟨(ad.add (i.toNat * 4)).block, (ad.add (i.toNat * 4)).off + 2, none⟩ = some (.string (rd_T29 xs i).f2) ∧ w.cell? ⟨(ad.add (i.toNat * 4)).block, (ad.add (i.toNat * 4)).off + 3, none⟩ = some (.slice A3 (rd_T29 xs i).f3.length c3) ∧ (rd_T29 xs i).f3.length ≤ c3 ∧ k29.C w A3 (rd_T29 xs i).f3.length (rd_T29 xs i).f3 := by
  obtain ⟨ad, c, e, _, hK, hc0⟩ := Kd.C_get h z29 i h0 h1
  have hc : ∀ j u, c[j]? = some u → w.cell? (ad.add (i.toNat * 4 + j)) = some u := hc0
  obtain ⟨A3, c3, rfl, l3, g3⟩ := k29_open hK
  exact ⟨ad, A3, c3, e, hc 0 _ rfl, by rw [← add_field _ _ 1 (by omega)]; exact hc 1 _ rfl, by rw [← add_field _ _ 2 (by omega)]; exact hc 2 _ rfl, by rw [← add_field _ _ 3 (by omega)]; exact hc 3 _ rfl, l3, g3⟩
structure S141 where
  f0 : ByteArray
  f1 : Int
end Go.Proofs.YtnjcpoojgmpmeaaGreatDoor.PX
namespace Go.Proofs.YtnjcpoojgmpmeaaGreatDoor.Opened
open Go.ChangeShapes Go.WideShapes Go.Deep RowKit YtnjcpoojgmpmeaaGreatDoor.PX YtnjcpoojgmpmeaaGreatDoorW.PrintWords YtnjcpoojgmpmeaaGreatDoorW.PrintLast
def Opens {α : Type} (d : Kd α) (t : TypeId) (good : α → Prop) (bulk : α → Nat) : Prop :=
  ∀ (H : Type) (enc : TypeId × Value → H) (w : World) (base : Nat) (sp : Nat → Bool) (held : Bool) (fuel : Nat) (cs : List Value) (x : DataW H × List MemPlace), DataW.trod enc Tryz.prog w base sp held fuel t cs = some x → ∃ a, d.K w a cs ∧ good a ∧ bulk a ≤ Rows.uptoBulk x.1
theorem opens_int {t : TypeId} {k : IntKind} (ht : Tryz.prog.underlying t = some (.int k)) : Opens (Kd.int k) t (fun a => (Lit.int k a).wf = true) (fun _ => 1) := by
 intro H enc w base sp held fuel cs x h
 obtain ⟨n, rfl, rfl, hw⟩ := DataW.trod_int ht h
 exact ⟨n, rfl, hw, by simp [Rows.uptoBulk]⟩
theorem choose_list {α : Type} {Q : Nat → α → Prop} : ∀ n : Nat, (∀ i, i < n → ∃ x, Q i x) → ∃ xs : List α, xs.length = n ∧ ∀ i x, xs[i]? = some x → Q i x
 | 0, _ => ⟨[], rfl, fun i x h => by simp at h⟩
 | n + 1, h => by
  obtain ⟨xs, hl, hq⟩ := choose_list n (fun i hi => h i (by omega))
  obtain ⟨y, hy⟩ := h n (by omega)
  refine ⟨xs ++ [y], by simp [hl], fun i x hx => ?_⟩
  by_cases hi : i < n
  · rw [List.getElem?_append_left (by omega)] at hx; exact hq i x hx
  rw [List.getElem?_append_right (by omega)] at hx
  have : i - xs.length = 0 := by
   by_cases h0 : i - xs.length = 0
   · exact h0
   rw [List.getElem?_eq_none (by simp; omega)] at hx; cases hx
  rw [this] at hx
  cases Option.some.inj hx
  rw [show i = n by omega]; exact hy
def bulkL {α : Type} (bulk : α → Nat) : List α → Nat
 | [] => 0
 | x :: xs => bulk x + bulkL bulk xs
theorem bulkAll_append {H : Type} : ∀ a b : List (DataW H), Rows.uptoBulkAll (a ++ b) = Rows.uptoBulkAll a + Rows.uptoBulkAll b
 | [], b => by simp [Rows.uptoBulkAll]
 | x :: a, b => by rw [List.cons_append, Rows.uptoBulkAll, Rows.uptoBulkAll, bulkAll_append a b]; omega
theorem bulkL_append {α : Type} (bulk : α → Nat) : ∀ a b : List α, bulkL bulk (a ++ b) = bulkL bulk a + bulkL bulk b
 | [], b => by simp [bulkL]
 | x :: a, b => by rw [List.cons_append, bulkL, bulkL, bulkL_append bulk a b]; omega
theorem bulk_range {α H : Type} (bulk : α → Nat) (D : Nat → DataW H) : ∀ (n : Nat) (xs : List α), xs.length = n → (∀ i x, xs[i]? = some x → bulk x ≤ Rows.uptoBulk (D i)) → bulkL bulk xs ≤ Rows.uptoBulkAll ((List.range n).map D)
  | 0, xs, hl, _ => by have : xs = [] := List.eq_nil_of_length_eq_zero hl; subst this; simp [bulkL]
  | n + 1, xs, hl, h => by
    have hne : xs ≠ [] := fun e => by subst e; simp at hl
    have hx := List.dropLast_concat_getLast hne
    have h1 := bulk_range bulk D n xs.dropLast (by simp [hl]) (fun i x hi => h i x (by
      have := List.getElem?_eq_some_iff.1 hi
      obtain ⟨hlt, e⟩ := this
      rw [List.getElem_dropLast] at e
      rw [List.getElem?_eq_getElem (by simp at hlt; omega), e]))
    have h2 := h n (xs.getLast hne) (by rw [List.getLast_eq_getElem, List.getElem?_eq_getElem (by omega)]; simp [hl])
    rw [← hx, bulkL_append, List.range_succ, List.map_append, bulkAll_append]
    simp only [bulkL, List.map_cons, List.map_nil, Rows.uptoBulkAll]
    omega
theorem opens_slice {α : Type} {d : Kd α} {e t : TypeId} {good : α → Prop} {bulk : α → Nat} (hd : Opens d e good bulk) (ht : Tryz.prog.underlying t = some (.slice e)) (hs : Tryz.prog.cellsOf e = d.sz) :
    Opens (Kd.slice e d) t (fun xs => ∀ x ∈ xs, good x) (fun xs => bulkL bulk xs + 1) := by
  intro H enc w base sp held fuel cs x h
  rcases open_slice ht h with ⟨rfl, rfl⟩ | ⟨a, len, cap, m, n, D, Pl, rfl, hb, hl, hm, hmm, rfl, hi⟩
  · exact ⟨[], ⟨none, 0, rfl, Nat.le_refl _, Kd.C_nil _ _⟩, by simp, by simp [bulkL, Rows.uptoBulk]⟩
  · have hlm : len ≤ m := by rw [hmm]; split <;> omega
    obtain ⟨xs, hxl, hxs⟩ := choose_list (Q := fun i x => ∃ cs', w.cells? base (a.add (i * Tryz.prog.cellsOf e)) (Tryz.prog.cellsOf e) = some cs' ∧ d.K w x cs' ∧ good x ∧ bulk x ≤ Rows.uptoBulk (D i)) len (fun i hil => by
      obtain ⟨cs', hc, htr⟩ := hi i (by omega)
      obtain ⟨y, hy, hg, hbk⟩ := hd H enc w base sp held n cs' _ htr
      exact ⟨y, cs', hc, hy, hg, hbk⟩)
    refine ⟨xs, ⟨some a, cap, by rw [hxl], by omega, ⟨rfl, by unfold maxLen at hm; omega, fun _ => ⟨a, rfl, fun j p hj => ?_⟩⟩⟩, fun y hy => ?_, ?_⟩
    · obtain ⟨cs', hc, hk, _, _⟩ := hxs j p hj
      rw [hs] at hc
      obtain ⟨_, hcl, hat⟩ := World.cells?_some hc
      refine ⟨cs', hcl, hk, fun i u hu => ?_⟩
      have hlt : i < d.sz := by rw [← hcl]; exact (List.getElem?_eq_some_iff.1 hu).1
      rw [← Go.Deep.add_add, hat i hlt]; exact hu
    · obtain ⟨i, hil, e1⟩ := List.getElem_of_mem hy
      obtain ⟨_, _, _, hg, _⟩ := hxs i y (by rw [List.getElem?_eq_getElem hil, e1])
      exact hg
    · have := bulk_range bulk D len xs hxl (fun i y hy => (hxs i y hy).choose_spec.2.2.2)
      simp only [Rows.uptoBulk]
      omega
theorem three_cells {α : Type} {cs : List α} {a b c : α} (hl : cs.length = 3) (h0 : (cs.drop 0).take 1 = [a]) (h1 : (cs.drop 1).take 1 = [b]) (h2 : (cs.drop 2).take 1 = [c]) : cs = [a, b, c] := by
 match cs, hl with
 | [x, y, z], _ => simp at h0 h1 h2; rw [h0, h1, h2]
abbrev goodNode (x : S45) : Prop := (Lit.int .i64 x.f0).wf = true ∧ ∀ k ∈ x.f2, (Lit.int .i64 k).wf = true
abbrev bulkNode (x : S45) : Nat := x.f1.size + x.f2.length + 4
theorem bulk_ones {α : Type} : ∀ l : List α, bulkL (fun _ => 1) l = l.length
 | [] => rfl
 | x :: l => by rw [bulkL, bulk_ones l, List.length_cons]; omega
theorem opens_ints : Opens (Kd.slice 3 (Kd.int .i64)) 40 (fun xs => ∀ x ∈ xs, (Lit.int .i64 x).wf = true) (fun xs => bulkL (fun _ => 1) xs + 1) :=
  opens_slice (opens_int Tryz.underlying3) Tryz.underlying40 (by kernel_rfl)
set_option maxRecDepth 100000 in
theorem opens_node : Opens k45 45 goodNode bulkNode := by
 intro H enc w base sp held fuel cs x h
 obtain ⟨xs, n, _, rfl, hl, hlen, hf⟩ := DataW.trod_struct Tryz.underlying45 h
 have h0 := hf 0 _ rfl
 have h1 := hf 1 _ rfl
 have h2 := hf 2 _ rfl
 match xs, hlen with
 | [y0, y1, y2], _ =>
  obtain ⟨i, e0, rfl, hw⟩ := DataW.trod_int Tryz.underlying3 h0
  obtain ⟨s, e1, rfl, _⟩ := DataW.trod_string Tryz.underlying9 h1
  obtain ⟨ks, ⟨A, c, e2, hc, hC⟩, hg, hb⟩ := opens_ints H enc w base sp held n _ _ h2
  obtain rfl := three_cells (hl.trans (by kernel_rfl)) e0 e1 e2
  refine ⟨⟨i, s, ks⟩, k45_mk w ⟨i, s, ks⟩ hc hC, ⟨hw, hg⟩, ?_⟩
  replace hb : bulkL (fun _ => 1) ks + 1 ≤ _ := hb
  rw [bulk_ones] at hb
  simp only [Rows.uptoBulk, Rows.uptoBulkAll, List.map_cons, List.map_nil, bulkNode]
  have : s.data.toList.length = s.size := by simp
  omega
abbrev goodGraph (x : List S45 × Int) : Prop := (∀ n ∈ x.1, goodNode n) ∧ (Lit.int .i64 x.2).wf = true
abbrev bulkGraph (x : List S45 × Int) : Nat := bulkL bulkNode x.1 + 2
theorem two_cells {α : Type} {cs : List α} {a b : α} (hl : cs.length = 2) (h0 : (cs.drop 0).take 1 = [a]) (h1 : (cs.drop 1).take 1 = [b]) : cs = [a, b] := by
 match cs, hl with
 | [x, y], _ => simp at h0 h1; rw [h0, h1]
theorem opens_nodes : Opens (Kd.slice 45 k45) 22 (fun xs => ∀ x ∈ xs, goodNode x) (fun xs => bulkL bulkNode xs + 1) :=
  opens_slice opens_node Tryz.underlying22 (by kernel_rfl)
set_option maxRecDepth 100000 in
theorem opens_graph (H : Type) (enc : TypeId × Value → H) (w : World) (base : Nat) (sp : Nat → Bool) (held : Bool) (fuel : Nat) (cs : List Value) (x : DataW H × List MemPlace) (h : DataW.trod enc Tryz.prog w base sp held fuel 24 cs = some x) :
  ∃ l root A c, cs = [.slice A l.length c, .int .i64 root] ∧ l.length ≤ c ∧ Kd.C k45 w A l.length l ∧ goodGraph (l, root) ∧ bulkGraph (l, root) ≤ Rows.uptoBulk x.1 := by
 obtain ⟨xs, n, _, rfl, hl, hlen, hf⟩ := DataW.trod_struct Tryz.underlying24 h
 have h0 := hf 0 _ rfl
 have h1 := hf 1 _ rfl
 match xs, hlen with
 | [y0, y1], _ =>
  obtain ⟨l, ⟨A, c, e0, hc, hC⟩, hg, hb⟩ := opens_nodes H enc w base sp held n _ _ h0
  obtain ⟨i, e1, rfl, hw⟩ := DataW.trod_int Tryz.underlying3 h1
  obtain rfl := two_cells (hl.trans (by kernel_rfl)) e0 e1
  refine ⟨l, i, A, c, rfl, hc, hC, ⟨hg, hw⟩, ?_⟩
  replace hb : bulkL bulkNode l + 1 ≤ _ := hb
  simp only [Rows.uptoBulk, Rows.uptoBulkAll, List.map_cons, List.map_nil, bulkGraph]
  omega
theorem nodes_bulk : ∀ l : List S45, (∀ n ∈ l, n.f1.size + n.f2.length ≤ bulkL bulkNode l) ∧ l.length + (l.map fun n => n.f2.length).sum ≤ bulkL bulkNode l
 | [] => ⟨by simp, by simp [bulkL]⟩
 | m :: l => by
  obtain ⟨h1, h2⟩ := nodes_bulk l
  have hb : bulkL bulkNode (m :: l) = m.f1.size + m.f2.length + 4 + bulkL bulkNode l := rfl
  refine ⟨fun n hn => ?_, ?_⟩
  ·
   rcases List.mem_cons.1 hn with e | e
   · subst e; omega
   · have := h1 n e; omega
  · rw [List.map_cons, List.sum_cons, List.length_cons]; omega
end Go.Proofs.YtnjcpoojgmpmeaaGreatDoor.Opened
namespace Go.Proofs.YtnjcpoojgmpmeaaGreatDoor.PX
open RowKit YtnjcpoojgmpmeaaGreatDoorW.PrintWords YtnjcpoojgmpmeaaGreatDoorW.PrintLast YtnjcpoojgmpmeaaGreatDoorW.PrintMore YtnjcpoojgmpmeaaGreatDoor
attribute [local go_sem] max2_int min2_int max_two min_two max_three min_three max_four min_four   -- for this text's walks alone
set_option linter.unusedVariables false
set_option linter.unusedSimpArgs false
def grommetlaw14_large.l0 : Nat → Int → List (S45) → Int → Int → List (S45) → Int → Option (Bool)
  | 0, _, _, _, _, _, _ => none
  | k + 1, x3, x12, x13, x14, x102000, x102001 => if x14 < x13 then (if 0 ≤ x14 then (if x14 < (x12.length : Int) then (grommetlaw14_large.l0 k (wrap64 (x3 + ((mn (((rd_T45 x12 x14).f2).length : Int) 2000) + (mn (((rd_T45 x12 x14).f1).size : Int) 2000)))) x12 x13 (wrap64 (x14 + 1)) x102000 x102001) else (none)) else (none)) else (if (x102000.length : Int) > 200 then (if (x102000.length : Int) ≤ 4096 then (some true) else (some (decide (x3 > 1200)))) else (some (decide (x3 > 1200))))
def grommetlaw14_large.f (k : Nat) (l0_0 : List (S45)) (a0_1 : Int) : Option (Bool) := if 0 ≤ (mn (l0_0.length : Int) 200) then (if (mn (l0_0.length : Int) 200) ≤ (l0_0.length : Int) then ((some (l0_0.take ((mn (l0_0.length : Int) 200) : Int).toNat : List (S45))).bind fun y102 => (grommetlaw14_large.l0 k 0 y102 (y102.length : Int) 0 l0_0 a0_1)) else (none)) else (none)
theorem qca0_ {P : Prop} (h_ : P := by repeat (first | (with_reducible first | exact HB.out | apply below_alloc | apply pw_below_drewN | apply below_drew1 | refine below_set ?_ GE101.out) | exact HB.out)) : P := h_
theorem qca1_ {P : Prop} (h_ : P := by (with_reducible repeat (first | refine blk_drewN ?_ _ | refine blk_drew ?_ | refine blk_alloc ?_ _)); exact BK101.out) : P := h_
theorem qca2_ {P : Prop} (h_ : P := by first | rfl | (simp [errW_none, errW_some] <;> rfl) | (simp only [← hji2]; first | rfl | (simp [errW_none, errW_some] <;> rfl)) | (simp [*, errW_none, errW_some] <;> rfl)) : P := h_
theorem qca3_ {P : Prop} (h_ : P := by repeat (first | (with_reducible first | exact HB.out | apply below_alloc | apply pw_below_drewN | apply below_drew1) | exact HB.out)) : P := h_
theorem qca4_ {P : Prop} (h_ : P := by first | (with_reducible assumption) | assumption) : P := h_
set_option maxHeartbeats 8000000 in
set_option maxRecDepth 100000 in
theorem grommetlaw14_large.calls (k : Nat) (A0_0 : Option Addr) (c0_0 : Nat) (l0_0 : List (S45)) (a0_1 : Int) (r : Bool) (w : World) (hr0_0 : Kd.C k45 w A0_0 l0_0.length l0_0) (hc0_0 : l0_0.length ≤ c0_0) (hG : Glob.G w) (h : grommetlaw14_large.f k l0_0 a0_1 = some r) :
  Calls Tryz.prog 9 #[.agg #[.slice A0_0 l0_0.length c0_0, .int .i64 a0_1]] w fun e w' => e = .returned (.bool r) ∧ Below w.heap.size w w' := by
 have hu24 := Tryz.underlying24
 have hu45 := Tryz.underlying45
 have HR0_0 := Aside0.mk hr0_0
 have HC0_0 := Aside0.mk hc0_0
 clear hr0_0 hc0_0
 have HB := Aside0.mk (Below.refl w.heap.size w)
 have H : (if 0 ≤ (mn (l0_0.length : Int) 200) then (if (mn (l0_0.length : Int) 200) ≤ (l0_0.length : Int) then ((some (l0_0.take ((mn (l0_0.length : Int) 200) : Int).toNat : List (S45))).bind fun y102 => (grommetlaw14_large.l0 k 0 y102 (y102.length : Int) 0 l0_0 a0_1)) else (none)) else (none)) = some r := h
 clear h
 obtain ⟨ji2, hji2⟩ : ∃ j_ : Int, (mn (l0_0.length : Int) 200) = j_ := ⟨_, rfl⟩
 replace H : (if 0 ≤ (ji2) then (if (ji2) ≤ (l0_0.length : Int) then ((some (l0_0.take ((ji2) : Int).toNat : List (S45))).bind fun y102 => (grommetlaw14_large.l0 k 0 y102 (y102.length : Int) 0 l0_0 a0_1)) else (none)) else (none)) = some r := by first | (rw [hji2] at H; exact H) | (simp only [hji2] at H ⊢; exact H)
 (try (have hji2h : ji2 ≤ 200 := by (rw [← hji2]; unfold mn; (repeat' split) <;> omega)))
 (try (have hji2g : ji2 ≤ 64 := by omega))
 (try (have hji2l : 0 ≤ ji2 := by (rw [← hji2]; unfold mn; (repeat' split) <;> omega)))
 (try (have hji2m : 0 ≤ ji2 := by omega))
 have hji2_ : (if 200 < (l0_0.length : Int) then 200 else (l0_0.length : Int)) = ji2 := hji2
 by_cases c3 : 0 ≤ (ji2)
 rotate_left
 ·
  rw [if_neg c3] at H
  exact absurd H (by simp)
 rw [if_pos c3] at H
 have c3b0 := eq_true c3
 have c3b1 : decide (0 ≤ (ji2)) = true := decide_eq_true c3
 clear c3
 by_cases c4 : (ji2) ≤ (l0_0.length : Int)
 rotate_left
 ·
  rw [if_neg c4] at H
  exact absurd H (by simp)
 rw [if_pos c4] at H
 have c4b0 := eq_true c4
 have c4b1 : decide ((ji2) ≤ (l0_0.length : Int)) = true := decide_eq_true c4
 clear c4
 obtain ⟨y102, hy102⟩ : ∃ y_ : List (S45), y_ = (l0_0.take ((ji2) : Int).toNat) := ⟨_, rfl⟩
 replace H : (grommetlaw14_large.l0 k 0 y102 (y102.length : Int) 0 l0_0 a0_1) = some r := by first | (rw [hy102]; with_reducible exact H) | (have H2_ := (Option.bind_some _ _).symm.trans H; rw [hy102]; with_reducible exact H2_) | (have H2_ := (Option.bind_some _ _).symm.trans H; with_reducible exact H2_) | with_reducible exact H | (rw [hy102]; exact H) | exact H
 have Ny102 := Aside0.mk hy102
 clear hy102
 have H' := Aside0.mk H
 clear H
 go_enter Tryz.func9, Tryz.ntmps9
 go_wp2_with (first | ((with_reducible refine gate_dst (N := 1) rfl ?_); (try (refine gate_guard (by rfl) ?_; dsimp only)); refine box_event ?hg (N := 1) ?hd (cs := #[.slice A0_0 l0_0.length c0_0, .int .i64 a0_1]) (t := 24) ?hr ?_; (case hd => rfl); (case hg => rfl); (case hr => first | (go_simp; done) | (go_simp; rfl)); intro gb101 hg w5 hbox hb; have n0_ := Aside0.mk (below_step (qca3_) hb); have n1_ := Aside0.mk (hbox); have n2_ := Aside0.mk ((by rw [hg]; exact (below_size (qca3_)) : w.heap.size ≤ gb101)); have n3_ := Aside0.mk ((by rw [hg]; exact (below_size (qca3_)) : w.heap.size ≤ gb101)); clear HB; have HB := n0_; have BK101 := n1_; have GW101 := n2_; have GE101 := n3_; clear n0_ n1_ n2_ n3_; clear hb hbox hg; have hcz6_0 : w5.cell? ⟨gb101, 0, none⟩ = some (.slice A0_0 l0_0.length c0_0) := (blk_cell BK101.out 0).trans rfl; have hcz6_1 : w5.cell? ⟨gb101, 1, none⟩ = some (.int .i64 a0_1) := (blk_cell BK101.out 1).trans rfl; have hfz6_0 := blk_frozen BK101.out 0; have hfz6_1 := blk_frozen BK101.out 1; have q7 : ((ji2) : Int) ≤ ((l0_0.length : Int) : Int) := of_decide_eq_true (qca4_); obtain ⟨i07, hi07, _, hsz7, _⟩ := info_parts info45; have hroom7 : l0_0.length ≤ c0_0 := HC0_0.out; have hC7 : Kd.C k45 _ A0_0 l0_0.length l0_0 := HR0_0.out; have hcut7 := cut_to (P := Tryz.prog) 22 45 .i64 Tryz.underlying22 hi07 A0_0 l0_0.length c0_0 (ji2) (of_decide_eq_true (qca4_)) q7 hroom7; have hr7 := Kd.C_take (m := ((ji2) : Int).toNat) hC7 (by omega); have hy7 : y102.length = ((ji2) : Int).toNat := (by rw [Ny102.out, List.length_take]; omega); rw [← Ny102.out] at hr7; rw [← hy7] at hcut7; have HR105 := Aside0.mk hr7; have HC105 := Aside0.mk (show y102.length ≤ c0_0 from by omega); clear hr7 hC7 hroom7 hi07 hsz7; have KY7 := Aside0.mk hy7; clear hy7; replace q7 := eq_true q7))
 go_loopg [3, 14] k (fun kq v3 v14 w' => ∃ (x3_1 : Int) (x14_1 : Int), v3 = .int .i64 x3_1 ∧ v14 = .int .i64 x14_1 ∧ Aside0 (grommetlaw14_large.l0 kq x3_1 y102 (y102.length : Int) x14_1 l0_0 a0_1 = some r) ∧ Aside0 (kq ≤ k) ∧ Aside0 (w'.heap[gb101]? = some (.cells #[(.slice A0_0 l0_0.length c0_0), .int .i64 a0_1] 24 (0, 0))) ∧ Aside0 (Below w.heap.size w w'))
 case atStart => exact ⟨(0), (0), (by first | rfl | (simp; done) | (simp [*]; done)), (by first | rfl | (simp; done) | (simp [*]; done)), H', ⟨Nat.le_refl _⟩, ⟨qca1_⟩, ⟨qca0_⟩⟩
 case round =>
  clear H'
  try clear p2
  try clear c3
  try clear c3b0
  try clear c3b1
  try clear c4
  try clear c4b0
  try clear c4b1
  try clear q7
  try clear hcz6_0
  try clear hcz6_1
  try clear hfz6_0
  try clear hfz6_1
  try clear q7
  obtain ⟨x3_1, x14_1, rfl, rfl, HA, HK1, BK101, HB⟩ := hrel
  cases gk with
  | zero => exact absurd HA.out (by simp [grommetlaw14_large.l0])
  | succ k1 =>
   have H := HA.out
   clear HA
   simp only [grommetlaw14_large.l0] at H
   by_cases c8 : x14_1 < (y102.length : Int)
   rotate_left
   ·
    rw [if_neg c8] at H
    have c8b0 : decide (x14_1 < (y102.length : Int)) = false := decide_eq_false c8
    clear c8
    by_cases c16 : (l0_0.length : Int) > 200
    rotate_left
    ·
     rw [if_neg c16] at H
     have c16b0 : decide (200 < (l0_0.length : Int)) = false := decide_eq_false c16
     have c16b1 : decide (200 < l0_0.length) = false := decide_eq_false (by omega)
     clear c16
     obtain rfl := Option.some.inj H
     have hcz20_0 : wr.cell? ⟨gb101, 0, none⟩ = some (.slice A0_0 l0_0.length c0_0) := (blk_cell BK101.out 0).trans rfl
     have hcz20_1 : wr.cell? ⟨gb101, 1, none⟩ = some (.int .i64 a0_1) := (blk_cell BK101.out 1).trans rfl
     have hfz20_0 := blk_frozen BK101.out 0
     have hfz20_1 := blk_frozen BK101.out 1
     go_wp2
     go_ret
     exact ⟨qca2_, qca0_⟩
    rw [if_pos c16] at H
    have c16b0 : decide (200 < (l0_0.length : Int)) = true := decide_eq_true c16
    have c16b1 : decide (200 < l0_0.length) = true := decide_eq_true (by omega)
    clear c16
    by_cases c17 : (l0_0.length : Int) ≤ 4096
    ·
     rw [if_pos c17] at H
     have c17b0 : decide ((l0_0.length : Int) ≤ 4096) = true := decide_eq_true c17
     have c17b1 : decide (l0_0.length ≤ 4096) = true := decide_eq_true (by omega)
     clear c17
     obtain rfl := Option.some.inj H
     have hcz18_0 : wr.cell? ⟨gb101, 0, none⟩ = some (.slice A0_0 l0_0.length c0_0) := (blk_cell BK101.out 0).trans rfl
     have hcz18_1 : wr.cell? ⟨gb101, 1, none⟩ = some (.int .i64 a0_1) := (blk_cell BK101.out 1).trans rfl
     have hfz18_0 := blk_frozen BK101.out 0
     have hfz18_1 := blk_frozen BK101.out 1
     go_wp2
     go_ret
     exact ⟨qca2_, qca0_⟩
    rw [if_neg c17] at H
    have c17b0 : decide ((l0_0.length : Int) ≤ 4096) = false := decide_eq_false c17
    have c17b1 : decide (l0_0.length ≤ 4096) = false := decide_eq_false (by omega)
    clear c17
    obtain rfl := Option.some.inj H
    have hcz19_0 : wr.cell? ⟨gb101, 0, none⟩ = some (.slice A0_0 l0_0.length c0_0) := (blk_cell BK101.out 0).trans rfl
    have hcz19_1 : wr.cell? ⟨gb101, 1, none⟩ = some (.int .i64 a0_1) := (blk_cell BK101.out 1).trans rfl
    have hfz19_0 := blk_frozen BK101.out 0
    have hfz19_1 := blk_frozen BK101.out 1
    go_wp2
    go_ret
    exact ⟨qca2_, qca0_⟩
   rw [if_pos c8] at H
   have c8b0 : decide (x14_1 < (y102.length : Int)) = true := decide_eq_true c8
   clear c8
   by_cases c9 : 0 ≤ x14_1
   rotate_left
   ·
    rw [if_neg c9] at H
    exact absurd H (by simp)
   rw [if_pos c9] at H
   have c9b0 : decide (0 ≤ x14_1) = true := decide_eq_true c9
   clear c9
   by_cases c10 : x14_1 < (y102.length : Int)
   rotate_left
   · exact absurd (of_decide_eq_true c8b0) c10
   rw [if_pos c10] at H
   have c10b0 : decide (x14_1 < (y102.length : Int)) = true := decide_eq_true c10
   clear c10
   obtain ⟨ji11, hji11⟩ : ∃ j_ : Int, (mn (((rd_T45 y102 x14_1).f2).length : Int) 2000) = j_ := ⟨_, rfl⟩
   replace H : (grommetlaw14_large.l0 k1 (wrap64 (x3_1 + ((ji11) + (mn (((rd_T45 y102 x14_1).f1).size : Int) 2000)))) y102 (y102.length : Int) (wrap64 (x14_1 + 1)) l0_0 a0_1) = some r := by first | (rw [hji11] at H; exact H) | (simp only [hji11] at H ⊢; exact H)
   have hji11_ : (if 2000 < (((rd_T45 y102 x14_1).f2).length : Int) then 2000 else (((rd_T45 y102 x14_1).f2).length : Int)) = ji11 := hji11
   obtain ⟨ji12, hji12⟩ : ∃ j_ : Int, (mn (((rd_T45 y102 x14_1).f1).size : Int) 2000) = j_ := ⟨_, rfl⟩
   replace H : (grommetlaw14_large.l0 k1 (wrap64 (x3_1 + ((ji11) + (ji12)))) y102 (y102.length : Int) (wrap64 (x14_1 + 1)) l0_0 a0_1) = some r := by first | (rw [hji12] at H; exact H) | (simp only [hji12] at H ⊢; exact H)
   have hji12_ : (if 2000 < (((rd_T45 y102 x14_1).f1).size : Int) then 2000 else (((rd_T45 y102 x14_1).f1).size : Int)) = ji12 := hji12
   have H' := Aside0.mk H
   clear H
   have p106 : 0 ≤ (x14_1 : Int) := of_decide_eq_true (qca4_)
   have q106 : x14_1 < (y102.length : Int) := of_decide_eq_true (qca4_)
   obtain ⟨ad106, A106_2, c106_2, e106, hx106_0, hx106_1, hx106_2, hl106_2, hi106_2⟩ := at_T45 HR105.out x14_1 p106 q106
   have KX106_2 := Aside0.mk hx106_2
   cases e106
   replace hx106_0 := (HB.out.cell (World.block_lt_of_cell? w _ hx106_0)).trans hx106_0
   replace hx106_1 := (HB.out.cell (World.block_lt_of_cell? w _ hx106_1)).trans hx106_1
   replace hx106_2 := (HB.out.cell (World.block_lt_of_cell? w _ hx106_2)).trans hx106_2
   have HR106_2 := Aside0.mk hi106_2
   have HC106_2 := Aside0.mk hl106_2
   clear hi106_2 hl106_2
   replace p106 := eq_true p106
   replace q106 := eq_true q106
   go_wp2_with (first | ((with_reducible refine gate_dst (N := 5) rfl ?_); (try (refine gate_guard (by rfl) ?_; dsimp only)); refine box_event ?hg (N := 5) ?hd (cs := #[.int .i64 0, .string (⟨#[]⟩ : ByteArray), .slice none 0 0]) (t := 45) ?hr ?_; (case hd => rfl); (case hg => rfl); (case hr => first | (go_simp; done) | (go_simp; rfl)); intro gb107 hg w13 hbox hb; have n0_ := Aside0.mk (blk_below (g := gb101) (o := .cells #[.slice (some ad106) l0_0.length c0_0, .int .i64 a0_1] 24 (0, 0)) (qca1_) hb); have n1_ := Aside0.mk (below_step (qca0_) hb); have n2_ := Aside0.mk (hbox); have n3_ := Aside0.mk ((by rw [hg]; exact (below_size (qca0_)) : w.heap.size ≤ gb107)); have n4_ := Aside0.mk ((by rw [hg]; exact (below_size (qca0_)) : w.heap.size ≤ gb107)); have n5_ := Aside0.mk ((by rw [hg]; exact Nat.ne_of_lt (blk_lt (g := gb101) (o := .cells #[.slice (some ad106) l0_0.length c0_0, .int .i64 a0_1] 24 (0, 0)) (qca1_)) : gb101 ≠ gb107)); have n6_ := Aside0.mk ((by rw [hg]; exact Nat.ne_of_gt (blk_lt (g := gb101) (o := .cells #[.slice (some ad106) l0_0.length c0_0, .int .i64 a0_1] 24 (0, 0)) (qca1_)) : gb107 ≠ gb101)); clear BK101; clear HB; have BK101 := n0_; have HB := n1_; have BK107 := n2_; have GW107 := n3_; have GE107 := n4_; have NB101_107 := n5_; have NB107_101 := n6_; clear n0_ n1_ n2_ n3_ n4_ n5_ n6_; clear hb hbox hg; have hnb14 := NB107_101.out; have hnc14 := NB101_107.out; have hcz15_0 : w13.cell? ⟨gb107, 0, none⟩ = some (.int .i64 0) := (blk_cell BK107.out 0).trans rfl; have hcz15_1 : w13.cell? ⟨gb107, 1, none⟩ = some (.string (⟨#[]⟩ : ByteArray)) := (blk_cell BK107.out 1).trans rfl; have hcz15_2 : w13.cell? ⟨gb107, 2, none⟩ = some (.slice none 0 0) := (blk_cell BK107.out 2).trans rfl; have hfz15_0 := blk_frozen BK107.out 0; have hfz15_1 := blk_frozen BK107.out 1; have hfz15_2 := blk_frozen BK107.out 2))
   go_roundg k1
   case measure => have := HK1.out; omega
   case rel => exact ⟨(wrap64 (x3_1 + ((ji11) + (ji12)))), (wrap64 (x14_1 + 1)), (by first | rfl | (simp; done) | (simp only [← hji11, ← hji12] <;> (first | rfl | simp)) | (simp [*]; done)), (by first | rfl | (simp; done) | (simp [*]; done)), H', ⟨by have := HK1.out; omega⟩, ⟨by (with_reducible repeat (first | refine blk_drewN ?_ _ | refine blk_drew ?_ | refine blk_alloc ?_ _)); refine blk_far ?_ NB101_107.out _; (with_reducible repeat (first | refine blk_drewN ?_ _ | refine blk_drew ?_ | refine blk_alloc ?_ _)); refine blk_far ?_ NB101_107.out _; (with_reducible repeat (first | refine blk_drewN ?_ _ | refine blk_drew ?_ | refine blk_alloc ?_ _)); refine blk_far ?_ NB101_107.out _; (with_reducible repeat (first | refine blk_drewN ?_ _ | refine blk_drew ?_ | refine blk_alloc ?_ _)); exact BK101.out⟩, ⟨by repeat (first | (with_reducible first | exact HB.out | apply below_alloc | apply pw_below_drewN | apply below_drew1 | refine below_set ?_ GE101.out | refine below_set ?_ GE107.out) | exact HB.out)⟩⟩
theorem eqA143 (d : Nat) (w : World) (x0 y0 : Int) (x1 y1 : Int) :
    (Op.equalIn (d + 2) 143 (.agg #[.int .i64 x0, .int .i64 x1]) (.agg #[.int .i64 y0, .int .i64 y1])).run Tryz.prog w = .ok (x0 == y0 && (x1 == y1)) w := by
  refine eqA_of Tryz.underlying143 (by kernel_rfl) ?_
  refine eqf_cons (by rfl) (by go_simp; rfl) (by go_simp; rfl) (by go_simp) ?_
  exact eqf_last (by rfl) (by go_simp; rfl) (by go_simp; rfl) (by go_simp)
end Go.Proofs.YtnjcpoojgmpmeaaGreatDoor.PX
namespace Go.Proofs.YtnjcpoojgmpmeaaGreatDoor.Utf
open RowKit YtnjcpoojgmpmeaaGreatDoor.PX YtnjcpoojgmpmeaaGreatDoorW.PrintWords YtnjcpoojgmpmeaaGreatDoorW.PrintLast
def at_ (l : List UInt8) (i : Nat) : Nat := (l.getD i 0).toNat
theorem at_lt (l : List UInt8) (i : Nat) : at_ l i < 256 := UInt8.toNat_lt _
def dec (l : List UInt8) : Int × Nat :=
 if l = [] then (-1, 0) else
 if (Lib.decodeN l.length (at_ l 0) (at_ l 1) (at_ l 2) (at_ l 3)).1 = 65533 ∧ (Lib.decodeN l.length (at_ l 0) (at_ l 1) (at_ l 2) (at_ l 3)).2 < 3 then
  (-1, (Lib.decodeN l.length (at_ l 0) (at_ l 1) (at_ l 2) (at_ l 3)).2)
 else (((Lib.decodeN l.length (at_ l 0) (at_ l 1) (at_ l 2) (at_ l 3)).1 : Int), (Lib.decodeN l.length (at_ l 0) (at_ l 1) (at_ l 2) (at_ l 3)).2)
theorem u8 (n : Nat) (h : n < 256) : (UInt8.ofNat n).toNat = n := by
  rw [UInt8.toNat_ofNat']; exact Nat.mod_eq_of_lt h
theorem size_list (s : ByteArray) : s.size = s.data.toList.length := by rw [Array.length_toList]; rfl
end Go.Proofs.YtnjcpoojgmpmeaaGreatDoor.Utf
namespace Go.Proofs.YtnjcpoojgmpmeaaGreatDoor.Plug
open RowKit YtnjcpoojgmpmeaaGreatDoor YtnjcpoojgmpmeaaGreatDoorW.PrintWords YtnjcpoojgmpmeaaGreatDoorW.PrintLast
def utf8_DecodeRuneInString.f (a0 : ByteArray) : Option (Int × Int) := some (((Lib.decodeGo a0).1 : Int), ((Lib.decodeGo a0).2 : Int))
theorem utf8_DecodeRuneInString.calls (a0 : ByteArray) (r1 r2 : Int) (w : World) (hG : Glob.G w) (h : utf8_DecodeRuneInString.f a0 = some (r1, r2)) :
  Calls Tryz.prog 115 #[.string a0] w fun e w' => e = .returned (.tuple #[.int .i32 r1, .int .i64 r2]) ∧ Below w.heap.size w w' := by
 simp only [utf8_DecodeRuneInString.f, Option.some.injEq, Prod.mk.injEq] at h
 obtain ⟨rfl, rfl⟩ := h
 exact Tryz.utf8_DecodeRuneInString a0 w hG.utf
def asciiB (cs : List UInt8) : Bool := cs.all fun b => decide (b.toNat < 128)
theorem info_set : (Tryz.prog.info? (Tryz.lays160_ren.t 116)).map (fun i => (i.zero, i.size)) = some (some (.agg (Array.replicate 256 (.bool false))), 256) := by kernel_rfl
def strings_Trim.f (a0 a1 : ByteArray) : Option ByteArray :=
  if a0.size ≤ 9223372036854775807 ∧ a1.size < 4294967281 ∧ asciiB a1.data.toList = true then some ⟨(Lib.trimS a0.data.toList a1.data.toList).toArray⟩ else none
theorem strings_Trim.calls (a0 a1 : ByteArray) (r : ByteArray) (w : World) (_hG : Glob.G w) (h : strings_Trim.f a0 a1 = some r) :
  Calls Tryz.prog 78 #[.string a0, .string a1] w fun e w' => e = .returned (.string r) ∧ Below w.heap.size w w' := by
 unfold strings_Trim.f at h
 by_cases c : a0.size ≤ 9223372036854775807 ∧ a1.size < 4294967281 ∧ asciiB a1.data.toList = true
 rotate_left
 · rw [if_neg c] at h; cases h
 rw [if_pos c] at h
 obtain rfl := Option.some.inj h
 exact Any.strings_Trim_laid Tryz.lays160 info_set a0 a1 w c.1 c.2.1 (ascii_of_all c.2.2)
def strconv_Itoa.f (a0 : Int) : Option ByteArray := if -9223372036854775808 ≤ a0 ∧ a0 ≤ 9223372036854775807 then some ⟨(Lib.itoa a0).toArray⟩ else none
theorem strconv_Itoa.calls (a0 : Int) (r : ByteArray) (w : World) (hG : Glob.G w) (h : strconv_Itoa.f a0 = some r) :
  Calls Tryz.prog 66 #[.int .i64 a0] w fun e w' => e = .returned (.string r) ∧ Below w.heap.size w w' := by
 unfold strconv_Itoa.f at h
 by_cases c : -9223372036854775808 ≤ a0 ∧ a0 ≤ 9223372036854775807
 rotate_left
 · rw [if_neg c] at h; cases h
 rw [if_pos c] at h
 obtain rfl := Option.some.inj h
 exact (Tryz.strconv_Itoa a0 c.1 c.2 w hG.pow).mono fun e w' ⟨he, k, os, hw⟩ => ⟨he, by rw [hw]; exact Lib.below_grow _ _ (Nat.le_refl _) _ _⟩
end Go.Proofs.YtnjcpoojgmpmeaaGreatDoor.Plug
namespace Go.Proofs.YtnjcpoojgmpmeaaGreatDoor.PX
open RowKit YtnjcpoojgmpmeaaGreatDoorW.PrintWords YtnjcpoojgmpmeaaGreatDoorW.PrintLast YtnjcpoojgmpmeaaGreatDoorW.PrintMore YtnjcpoojgmpmeaaGreatDoor YtnjcpoojgmpmeaaGreatDoor.Plug
attribute [local go_sem] max2_int min2_int max_two min_two max_three min_three max_four min_four   -- for this text's walks alone
set_option linter.unusedVariables false
set_option linter.unusedSimpArgs false
def utf_First.f (a0 : ByteArray) : Option (Int × Int) := (utf8_DecodeRuneInString.f a0).bind fun bt101 => (if bt101.1 = 65533 then (if bt101.2 < 3 then (some ((-1), bt101.2)) else (some (wrap64 (bt101.1), bt101.2))) else (some (wrap64 (bt101.1), bt101.2)))
theorem qla0_ {P : Prop} (h_ : P := by repeat (first | (with_reducible first | exact HB.out | apply below_alloc | apply pw_below_drewN | apply below_drew1) | exact HB.out)) : P := h_
theorem qla1_ {P : Prop} (h_ : P := by first | ((repeat (first | (with_reducible first | exact HB.out | apply below_alloc | apply pw_below_drewN | apply below_drew1 | (refine Glob.below_set ?_ (by assumption) _ _ _)) | exact HB.out)); done) | (refine Drawn0.below ?_; repeat (first | exact Drawn0.refl _ | assumption | apply Drawn0.step))) : P := h_
theorem qla2_ {P : Prop} (h_ : P := by (try simp only [List.map_toArray, List.map_cons, List.map_nil]); first | done | rfl | (simp only [List.length_drop, List.length_take]; rfl)) : P := h_
theorem qla3_ {P : Prop} (h_ : P := by first | rfl | (simp [errW_none, errW_some] <;> rfl) | (simp [*, errW_none, errW_some] <;> rfl)) : P := h_
set_option maxHeartbeats 8000000 in
set_option maxRecDepth 100000 in
theorem utf_First.calls (a0 : ByteArray) (r1 : Int) (r2 : Int) (w : World) (hG : Glob.G w) (h : utf_First.f a0 = some (r1, r2)) :
  Calls Tryz.prog 113 #[.string a0] w fun e w' => e = .returned (.tuple #[.int .i64 r1, .int .i64 r2]) ∧ Below w.heap.size w w' := by
 have HB := Aside0.mk (Below.refl w.heap.size w)
 have H : ((utf8_DecodeRuneInString.f a0).bind fun bt101 => (if bt101.1 = 65533 then (if bt101.2 < 3 then (some ((-1), bt101.2)) else (some (wrap64 (bt101.1), bt101.2))) else (some (wrap64 (bt101.1), bt101.2)))) = some (r1, r2) := h
 clear h
 replace H := Option.bind_eq_some_iff.mp H
 obtain ⟨⟨t101, t102⟩, A20, H⟩ := H
 replace H : (if t101 = 65533 then (if t102 < 3 then (some ((-1), t102)) else (some (wrap64 (t101), t102))) else (some (wrap64 (t101), t102))) = some (r1, r2) := H
 have A2 := Aside0.mk A20
 clear A20
 by_cases c3 : t101 = 65533
 rotate_left
 ·
  rw [if_neg c3] at H
  have c3b0 : (t101 == 65533) = false := beq_eq_false_iff_ne.mpr c3
  have c3b1 : (t101 != 65533) = true := bne_iff_ne.mpr c3
  simp only [Option.some.injEq, Prod.mk.injEq] at H
  obtain ⟨rfl, rfl⟩ := H
  go_enter Tryz.func113, Tryz.ntmps113
  go_wp2_with (first | ((with_reducible refine gate_callee (f := 115) rfl ?_); refine goesL_ (some 8) rfl rfl Tryz.func115 (by kernel_rfl) rfl #[.string a0] rfl (qla2_) ?_; (with_reducible refine (utf8_DecodeRuneInString.calls a0 t101 t102 _ (hG.below (qla1_)) A2.out).mono ?_); rintro e w7 ⟨rfl, hb⟩; refine ⟨_, rfl, ?_⟩; have n0_ := Aside0.mk (below_step (qla0_) hb); clear HB; have HB := n0_; clear n0_; (try clear hb)))
  go_ret2
  exact ⟨qla3_, qla0_⟩
 rw [if_pos c3] at H
 have c3b0 : (t101 == 65533) = true := beq_iff_eq.mpr c3
 have c3b1 : (t101 != 65533) = false := bne_eq_false_iff_eq.mpr c3
 clear c3
 by_cases c4 : t102 < 3
 ·
  rw [if_pos c4] at H
  have c4b0 : decide (t102 < 3) = true := decide_eq_true c4
  clear c4
  simp only [Option.some.injEq, Prod.mk.injEq] at H
  obtain ⟨rfl, rfl⟩ := H
  go_enter Tryz.func113, Tryz.ntmps113
  go_wp2_with (first | ((with_reducible refine gate_callee (f := 115) rfl ?_); refine goesL_ (some 8) rfl rfl Tryz.func115 (by kernel_rfl) rfl #[.string a0] rfl (qla2_) ?_; (with_reducible refine (utf8_DecodeRuneInString.calls a0 t101 t102 _ (hG.below (qla1_)) A2.out).mono ?_); rintro e w5 ⟨rfl, hb⟩; refine ⟨_, rfl, ?_⟩; have n0_ := Aside0.mk (below_step (qla0_) hb); clear HB; have HB := n0_; clear n0_; (try clear hb)))
  go_ret2
  exact ⟨qla3_, qla0_⟩
 rw [if_neg c4] at H
 have c4b0 : decide (t102 < 3) = false := decide_eq_false c4
 clear c4
 simp only [Option.some.injEq, Prod.mk.injEq] at H
 obtain ⟨rfl, rfl⟩ := H
 go_enter Tryz.func113, Tryz.ntmps113
 go_wp2_with (first | ((with_reducible refine gate_callee (f := 115) rfl ?_); refine goesL_ (some 8) rfl rfl Tryz.func115 (by kernel_rfl) rfl #[.string a0] rfl (qla2_) ?_; (with_reducible refine (utf8_DecodeRuneInString.calls a0 t101 t102 _ (hG.below (qla1_)) A2.out).mono ?_); rintro e w6 ⟨rfl, hb⟩; refine ⟨_, rfl, ?_⟩; have n0_ := Aside0.mk (below_step (qla0_) hb); clear HB; have HB := n0_; clear n0_; (try clear hb)))
 go_ret2
 exact ⟨qla3_, qla0_⟩
end Go.Proofs.YtnjcpoojgmpmeaaGreatDoor.PX
namespace Go.Proofs.YtnjcpoojgmpmeaaGreatDoor.Utf
open RowKit YtnjcpoojgmpmeaaGreatDoor.PX YtnjcpoojgmpmeaaGreatDoor.Plug YtnjcpoojgmpmeaaGreatDoorW.PrintWords YtnjcpoojgmpmeaaGreatDoorW.PrintLast
theorem decodeN_wide (n b0 b1 b2 b3 : Nat) (h : 1 ≤ n) : 1 ≤ (Lib.decodeN n b0 b1 b2 b3).2 ∧ (Lib.decodeN n b0 b1 b2 b3).2 ≤ 4 ∧ (Lib.decodeN n b0 b1 b2 b3).2 ≤ n := by
 unfold Lib.decodeN
 repeat' split
 all_goals (simp only; omega)
theorem decodeN_most (n b0 b1 b2 b3 : Nat) (h : b0 < 256) : (Lib.decodeN n b0 b1 b2 b3).1 ≤ 1114111 := by
 unfold Lib.decodeN
 repeat' split
 all_goals (simp only; omega)
theorem dec_wide (l : List UInt8) (h : l ≠ []) : 1 ≤ (dec l).2 ∧ (dec l).2 ≤ 4 ∧ (dec l).2 ≤ l.length := by
 have hl : 1 ≤ l.length := List.length_pos_iff.2 h
 have := decodeN_wide l.length (at_ l 0) (at_ l 1) (at_ l 2) (at_ l 3) hl
 unfold dec
 rw [if_neg h]
 split <;> exact this
theorem decodeGo_eq (s : ByteArray) : Lib.decodeGo s = if s.data.toList = [] then (65533, 0) else Lib.decodeN s.data.toList.length (at_ s.data.toList 0) (at_ s.data.toList 1) (at_ s.data.toList 2) (at_ s.data.toList 3) := by
 unfold Lib.decodeGo
 have hL := size_list s
 have g : ∀ i, (s.get! i).toNat = at_ s.data.toList i := by
  intro i
  unfold at_
  by_cases h : i < s.size
  · rw [Utf8W.get!_of_lt s i h, List.getD_eq_getElem?_getD, List.getElem?_eq_getElem (by omega)]; rfl
  rw [List.getD_eq_getElem?_getD, List.getElem?_eq_none (by omega)]
  cases s with
  | mk d => simp only [ByteArray.get!]; rw [getElem!_neg d i (show ¬ i < d.size from h)]; rfl
 by_cases h : s.data.toList = []
 · rw [if_pos h, if_pos (by rw [hL, h]; rfl)]
 rw [if_neg h, if_neg (fun e => h (List.eq_nil_of_length_eq_zero (by omega))), Lib.decode_at, g, g, g, g, Nat.sub_zero, hL]
theorem prog_first (s : ByteArray) : utf_First.f s = some ((dec s.data.toList).1, ((dec s.data.toList).2 : Int)) := by
 unfold utf_First.f utf8_DecodeRuneInString.f
 simp only [Option.bind_some]
 rw [decodeGo_eq]
 unfold dec
 by_cases h : s.data.toList = []
 · rw [if_pos h, if_pos h]; rfl
 rw [if_neg h, if_neg h]
 have hm := decodeN_most s.data.toList.length (at_ s.data.toList 0) (at_ s.data.toList 1) (at_ s.data.toList 2) (at_ s.data.toList 3) (at_lt _ _)
 generalize Lib.decodeN s.data.toList.length (at_ s.data.toList 0) (at_ s.data.toList 1) (at_ s.data.toList 2) (at_ s.data.toList 3) = d at *
 obtain ⟨r, n⟩ := d
 simp only at *
 have hw : wrap64 (r : Int) = r := by unfold wrap64; omega
 by_cases a : r = 65533
 rotate_left
 · rw [if_neg (by omega), if_neg (fun x => a x.1)]; simp; exact hw
 by_cases b : n < 3
 · rw [if_pos (by omega), if_pos (by omega), if_pos ⟨a, b⟩]
 rw [if_pos (by omega), if_neg (by omega), if_neg (fun x => b x.2)]; simp; exact hw
theorem drop_list (s : ByteArray) (i : Nat) : (s.extract i s.size).data.toList = s.data.toList.drop i := by
 rw [Lib.extract_data, List.take_of_length_le]
 rw [List.length_drop, ← size_list]
 omega
end Go.Proofs.YtnjcpoojgmpmeaaGreatDoor.Utf
namespace Go.Proofs.YtnjcpoojgmpmeaaGreatDoor.PX
open RowKit YtnjcpoojgmpmeaaGreatDoorW.PrintWords YtnjcpoojgmpmeaaGreatDoorW.PrintLast YtnjcpoojgmpmeaaGreatDoorW.PrintMore YtnjcpoojgmpmeaaGreatDoor
attribute [local go_sem] max2_int min2_int max_two min_two max_three min_three max_four min_four   -- for this text's walks alone
set_option linter.unusedVariables false
set_option linter.unusedSimpArgs false
def utf_fault.f (a0 : ByteArray) (a1 : Int) : Option (Int × Int) := if a1 < (a0.size : Int) then (some (8, a1)) else (some (0, 0))
theorem qna0_ {P : Prop} (h_ : P := by repeat (first | (with_reducible first | exact HB.out | apply below_alloc | apply pw_below_drewN | apply below_drew1) | exact HB.out)) : P := h_
theorem qna1_ {P : Prop} (h_ : P := by repeat (first | (with_reducible first | exact HB.out | apply below_alloc | apply pw_below_drewN | apply below_drew1 | refine below_set ?_ GE101.out) | exact HB.out)) : P := h_
set_option maxHeartbeats 8000000 in
set_option maxRecDepth 100000 in
theorem utf_fault.calls (a0 : ByteArray) (a1 : Int) (r1 : Int) (r2 : Int) (w : World) (hG : Glob.G w) (h : utf_fault.f a0 a1 = some (r1, r2)) :
  Calls Tryz.prog 93 #[.string a0, .int .i64 a1] w fun e w' => e = .returned (.agg #[.int .i64 r1, .int .i64 r2]) ∧ Below w.heap.size w w' := by
 have hu143 := Tryz.underlying143
 have HB := Aside0.mk (Below.refl w.heap.size w)
 have H : (if a1 < (a0.size : Int) then (some (8, a1)) else (some (0, 0))) = some (r1, r2) := h
 clear h
 by_cases c3 : a1 < (a0.size : Int)
 ·
  rw [if_pos c3] at H
  have c3b0 : decide (a1 < (a0.size : Int)) = true := decide_eq_true c3
  clear c3
  simp only [Option.some.injEq, Prod.mk.injEq] at H
  obtain ⟨rfl, rfl⟩ := H
  go_enter Tryz.func93, Tryz.ntmps93
  go_wp2_with (first | ((with_reducible refine gate_dst (N := 4) rfl ?_); refine box_event ?hg (N := 4) ?hd (cs := #[.int .i64 0, .int .i64 0]) (t := 143) ?hr ?_; (case hd => rfl); (case hg => rfl); (case hr => first | (go_simp; done) | (go_simp; rfl)); intro gb101 hg w4 hbox hb; have n0_ := Aside0.mk (below_step (qna0_) hb); have n1_ := Aside0.mk (hbox); have n2_ := Aside0.mk ((by rw [hg]; exact (below_size (qna0_)) : w.heap.size ≤ gb101)); have n3_ := Aside0.mk ((by rw [hg]; exact (below_size (qna0_)) : w.heap.size ≤ gb101)); clear HB; have HB := n0_; have BK101 := n1_; have GW101 := n2_; have GE101 := n3_; clear n0_ n1_ n2_ n3_; clear hb hbox hg; have hcz5_0 : w4.cell? ⟨gb101, 0, none⟩ = some (.int .i64 0) := (blk_cell BK101.out 0).trans rfl; have hcz5_1 : w4.cell? ⟨gb101, 1, none⟩ = some (.int .i64 0) := (blk_cell BK101.out 1).trans rfl; have hfz5_0 := blk_frozen BK101.out 0; have hfz5_1 := blk_frozen BK101.out 1))
  refine bodyPost_ret (results_cell_row rfl _ _ gb101 143 #[.int .i64 8, .int .i64 a1] (0, 0) _ rfl (by (with_reducible repeat (first | refine blk_drewN ?_ _ | refine blk_drew ?_ | refine blk_alloc ?_ _)); refine blk_put (cs := #[.int .i64 8, .int .i64 0]) ?_ 1 _ rfl; (with_reducible repeat (first | refine blk_drewN ?_ _ | refine blk_drew ?_ | refine blk_alloc ?_ _)); refine blk_put (cs := #[.int .i64 0, .int .i64 0]) ?_ 0 _ rfl; (with_reducible repeat (first | refine blk_drewN ?_ _ | refine blk_drew ?_ | refine blk_alloc ?_ _)); exact BK101.out) Tryz.underlying143 rfl (by kernel_rfl)) rfl ?_
  exact ⟨by first | rfl | (simp [errW_none, errW_some] <;> rfl) | (simp [*, errW_none, errW_some] <;> rfl), qna1_⟩
 rw [if_neg c3] at H
 have c3b0 : decide (a1 < (a0.size : Int)) = false := decide_eq_false c3
 clear c3
 simp only [Option.some.injEq, Prod.mk.injEq] at H
 obtain ⟨rfl, rfl⟩ := H
 go_enter Tryz.func93, Tryz.ntmps93
 go_wp2_with (first | ((with_reducible refine gate_dst (N := 4) rfl ?_); refine box_event ?hg (N := 4) ?hd (cs := #[.int .i64 0, .int .i64 0]) (t := 143) ?hr ?_; (case hd => rfl); (case hg => rfl); (case hr => first | (go_simp; done) | (go_simp; rfl)); intro gb101 hg w6 hbox hb; have n0_ := Aside0.mk (below_step (qna0_) hb); have n1_ := Aside0.mk (hbox); have n2_ := Aside0.mk ((by rw [hg]; exact (below_size (qna0_)) : w.heap.size ≤ gb101)); have n3_ := Aside0.mk ((by rw [hg]; exact (below_size (qna0_)) : w.heap.size ≤ gb101)); clear HB; have HB := n0_; have BK101 := n1_; have GW101 := n2_; have GE101 := n3_; clear n0_ n1_ n2_ n3_; clear hb hbox hg; have hcz7_0 : w6.cell? ⟨gb101, 0, none⟩ = some (.int .i64 0) := (blk_cell BK101.out 0).trans rfl; have hcz7_1 : w6.cell? ⟨gb101, 1, none⟩ = some (.int .i64 0) := (blk_cell BK101.out 1).trans rfl; have hfz7_0 := blk_frozen BK101.out 0; have hfz7_1 := blk_frozen BK101.out 1))
 refine bodyPost_ret (results_cell_row rfl _ _ gb101 143 #[.int .i64 0, .int .i64 0] (0, 0) _ rfl (by (with_reducible repeat (first | refine blk_drewN ?_ _ | refine blk_drew ?_ | refine blk_alloc ?_ _)); refine blk_put (cs := #[.int .i64 0, .int .i64 0]) ?_ 1 _ rfl; (with_reducible repeat (first | refine blk_drewN ?_ _ | refine blk_drew ?_ | refine blk_alloc ?_ _)); refine blk_put (cs := #[.int .i64 0, .int .i64 0]) ?_ 0 _ rfl; (with_reducible repeat (first | refine blk_drewN ?_ _ | refine blk_drew ?_ | refine blk_alloc ?_ _)); exact BK101.out) Tryz.underlying143 rfl (by kernel_rfl)) rfl ?_
 exact ⟨by first | rfl | (simp [errW_none, errW_some] <;> rfl) | (simp [*, errW_none, errW_some] <;> rfl), qna1_⟩
end Go.Proofs.YtnjcpoojgmpmeaaGreatDoor.PX
namespace Go.Proofs.YtnjcpoojgmpmeaaGreatDoor.PX
open RowKit YtnjcpoojgmpmeaaGreatDoorW.PrintWords YtnjcpoojgmpmeaaGreatDoorW.PrintLast YtnjcpoojgmpmeaaGreatDoorW.PrintMore YtnjcpoojgmpmeaaGreatDoor YtnjcpoojgmpmeaaGreatDoor.Plug
attribute [local go_sem] max2_int min2_int max_two min_two max_three min_three max_four min_four   -- for this text's walks alone
set_option linter.unusedVariables false
set_option linter.unusedSimpArgs false
def plain_Text.f (a0 : Int) : Option (ByteArray) := (strconv_Itoa.f a0).bind fun t101 => (some t101)
theorem qoa0_ {P : Prop} (h_ : P := by repeat (first | (with_reducible first | exact HB.out | apply below_alloc | apply pw_below_drewN | apply below_drew1) | exact HB.out)) : P := h_
set_option maxHeartbeats 8000000 in
set_option maxRecDepth 100000 in
theorem plain_Text.calls (a0 : Int) (r : ByteArray) (w : World) (hG : Glob.G w) (h : plain_Text.f a0 = some r) :
  Calls Tryz.prog 45 #[.int .i64 a0] w fun e w' => e = .returned (.string r) ∧ Below w.heap.size w w' := by
 have HB := Aside0.mk (Below.refl w.heap.size w)
 have H : ((strconv_Itoa.f a0).bind fun t101 => (some t101)) = some r := h
 clear h
 replace H := Option.bind_eq_some_iff.mp H
 obtain ⟨t101, A20, H⟩ := H
 replace H : (some t101) = some r := H
 have A2 := Aside0.mk A20
 clear A20
 obtain rfl := Option.some.inj H
 go_enter Tryz.func45, Tryz.ntmps45
 go_wp2_with (first | ((with_reducible refine gate_callee (f := 66) rfl ?_); refine goesL_ (some 4) rfl rfl Tryz.func66 (by kernel_rfl) rfl #[.int .i64 a0] rfl (by (try simp only [List.map_toArray, List.map_cons, List.map_nil]); first | done | rfl | (simp only [List.length_drop, List.length_take]; rfl)) ?_; (with_reducible refine (strconv_Itoa.calls a0 t101 _ (hG.below (by first | ((repeat (first | (with_reducible first | exact HB.out | apply below_alloc | apply pw_below_drewN | apply below_drew1 | (refine Glob.below_set ?_ (by assumption) _ _ _)) | exact HB.out)); done) | (refine Drawn0.below ?_; repeat (first | exact Drawn0.refl _ | assumption | apply Drawn0.step)))) A2.out).mono ?_); rintro e w3 ⟨rfl, hb⟩; refine ⟨_, rfl, ?_⟩; have n0_ := Aside0.mk (below_step (qoa0_) hb); clear HB; have HB := n0_; clear n0_; (try clear hb)))
 go_ret
 exact ⟨by first | rfl | (simp [errW_none, errW_some] <;> rfl) | (simp [*, errW_none, errW_some] <;> rfl), qoa0_⟩
end Go.Proofs.YtnjcpoojgmpmeaaGreatDoor.PX
namespace Go.Proofs.YtnjcpoojgmpmeaaGreatDoor.Plug
open RowKit YtnjcpoojgmpmeaaGreatDoor YtnjcpoojgmpmeaaGreatDoor.PX YtnjcpoojgmpmeaaGreatDoor.Utf YtnjcpoojgmpmeaaGreatDoorW.PrintWords YtnjcpoojgmpmeaaGreatDoorW.PrintLast
def numB (l : List UInt8) : Int × Bool := match Lib.atoiAll l with
 | .ok v => if Lib.itoa v = l then (v, true) else (0, false)
 | _ => (0, false)
def plain_Number.f (a0 : ByteArray) : Option (Int × Bool) := if a0.size ≤ 140737488351232 then some (numB a0.data.toList) else none
theorem atoi_ok (s : ByteArray) (w : World) (hs : s.size ≤ 140737488351232) (v : Int) (h : Lib.atoiAll s.data.toList = .ok v) :
    Calls Tryz.prog 112 #[.string s] w fun e w' => e = .returned (.tuple #[.int .i64 v, .nilIface]) ∧ Below w.heap.size w w' :=
  (Tryz.strconv_Atoi_ok s (by omega) v h w).mono fun e w' ⟨he, hw⟩ => ⟨he, by
    rcases hw with rfl | ⟨t, rfl⟩
    · exact Below.refl _ _
    · exact Lib.bytesWorld_below _ _ _⟩
theorem atoi_bad (s : ByteArray) (w : World) (hG : Glob.G w) (hs : s.size ≤ 140737488351232) (h : ∀ v, Lib.atoiAll s.data.toList ≠ .ok v) :
  ∃ n : Int, Calls Tryz.prog 112 #[.string s] w fun e w' => ∃ p : Addr, e = .returned (.tuple #[.int .i64 n, .iface 206 (.pointer (some p))]) ∧ Below w.heap.size w w' := by
 rcases hc : Lib.atoiAll s.data.toList with v | _ | _
 · exact absurd hc (h v)
 ·
  obtain ⟨tp, pp, hv⟩ := hG.syn
  exact ⟨0, (Any.strconv_Atoi_syntax_var Tryz.laysC172 s (by omega) hc tp pp w hv).mono fun e w' ⟨N, he, _, _, hb⟩ => ⟨_, he, hb⟩⟩
 ·
  obtain ⟨tp, pp, hv⟩ := hG.rng
  exact ⟨_, (Tryz.strconv_Atoi_range_var s (by omega) hc tp pp w hv).mono fun e w' ⟨N, he, _, _, hb⟩ => ⟨_, he, hb⟩⟩
set_option maxHeartbeats 1000000 in
theorem plain_Number.calls (a0 : ByteArray) (r1 : Int) (r2 : Bool) (w : World) (hG : Glob.G w) (h : plain_Number.f a0 = some (r1, r2)) :
  Calls Tryz.prog 90 #[.string a0] w fun e w' => e = .returned (.tuple #[.int .i64 r1, .bool r2]) ∧ Below w.heap.size w w' := by
 unfold plain_Number.f at h
 by_cases c : a0.size ≤ 140737488351232
 rotate_left
 · rw [if_neg c] at h; cases h
 rw [if_pos c] at h
 by_cases hv : ∃ v, Lib.atoiAll a0.data.toList = .ok v
 rotate_left
 ·
  obtain ⟨n, hA⟩ := atoi_bad a0 w hG c (fun v hv' => hv ⟨v, hv'⟩)
  have hN : numB a0.data.toList = (0, false) := by
   unfold numB
   rcases hc : Lib.atoiAll a0.data.toList with v | _ | _
   · exact absurd ⟨v, hc⟩ hv
   · rfl
   · rfl
  rw [hN] at h
  obtain ⟨rfl, rfl⟩ := Prod.mk.inj (Option.some.inj h)
  have HA := Lib.hid hA
  clear hA h hv hN
  go_enter Tryz.func90, Tryz.ntmps90
  go_wp2_with (first | (go_at_call 112; refine HA.out.mono ?_; rintro e w1 ⟨p, rfl, hb1⟩))
  go_ret2
  exact ⟨rfl, hb1⟩
 obtain ⟨v, hv⟩ := hv
 have hbd := Lib.atoiAll_bounds hv
 unfold numB at h
 rw [hv] at h
 simp only at h
 have hT : plain_Text.f v = some ⟨(Lib.itoa v).toArray⟩ := by unfold plain_Text.f strconv_Itoa.f; rw [if_pos hbd]; rfl
 have HV := Lib.hid hv; have HT := Lib.hid hT
 obtain ⟨b1, b2⟩ := hbd
 clear hv hT
 by_cases he : Lib.itoa v = a0.data.toList
 ·
  rw [if_pos he] at h
  obtain ⟨rfl, rfl⟩ := Prod.mk.inj (Option.some.inj h)
  have hne : (Lib.itoa v == a0.toList) = true := by rw [Lib.toList_data, he]; simp
  clear h he
  go_enter Tryz.func90, Tryz.ntmps90
  go_wp2_with (first | (go_at_call 112; refine (atoi_ok _ _ c _ HV.out).mono ?_; rintro e w1 ⟨rfl, hb1⟩) | (go_at_call 45; refine (plain_Text.calls _ _ _ (hG.below hb1) HT.out).mono ?_; rintro e w2 ⟨rfl, hb2⟩))
  go_ret2
  exact ⟨rfl, hb1.trans (hb2.mono hb1.size)⟩
 rw [if_neg he] at h
 obtain ⟨rfl, rfl⟩ := Prod.mk.inj (Option.some.inj h)
 have hne : (Lib.itoa v == a0.toList) = false := by rw [Lib.toList_data]; simpa using he
 clear h he
 go_enter Tryz.func90, Tryz.ntmps90
 go_wp2_with (first | (go_at_call 112; refine (atoi_ok _ _ c _ HV.out).mono ?_; rintro e w1 ⟨rfl, hb1⟩) | (go_at_call 45; refine (plain_Text.calls _ _ _ (hG.below hb1) HT.out).mono ?_; rintro e w2 ⟨rfl, hb2⟩))
 go_ret2
 exact ⟨rfl, hb1.trans (hb2.mono hb1.size)⟩
def resB (l : List UInt8) : Int :=
  if l = [] ∨ l = [126] ∨ l = [110, 117, 108, 108] then 1 else if l = [116, 114, 117, 101] ∨ l = [102, 97, 108, 115, 101] then 2 else if (numB l).2 = true then 3 else 4
def plain_Resolve.f (a0 : ByteArray) : Option Int := if a0.size ≤ 140737488351232 then some (resB a0.data.toList) else none
theorem of_list {s : ByteArray} {l : List UInt8} (h : s.data.toList = l) : s = ⟨l.toArray⟩ := by
 cases s with
 | mk d => subst h; rfl
set_option maxHeartbeats 2000000 in
theorem plain_Resolve.calls (a0 : ByteArray) (r : Int) (w : World) (hG : Glob.G w) (h : plain_Resolve.f a0 = some r) :
  Calls Tryz.prog 76 #[.string a0] w fun e w' => e = .returned (.int .i64 r) ∧ Below w.heap.size w w' := by
 unfold plain_Resolve.f at h
 by_cases c : a0.size ≤ 140737488351232
 rotate_left
 · rw [if_neg c] at h; cases h
 rw [if_pos c] at h
 obtain rfl := Option.some.inj h
 clear h
 by_cases h0 : a0.data.toList = []
 ·
  obtain rfl := of_list h0; clear h0 c hG
  rw [show resB (⟨([] : List UInt8).toArray⟩ : ByteArray).data.toList = 1 from rfl]
  go_enter Tryz.func76, Tryz.ntmps76
  go_wp2_with (fail)
  go_ret
  exact ⟨rfl, Below.refl _ _⟩
 by_cases h1 : a0.data.toList = [126]
 ·
  obtain rfl := of_list h1; clear h0 h1 c hG
  rw [show resB (⟨([126] : List UInt8).toArray⟩ : ByteArray).data.toList = 1 from rfl]
  go_enter Tryz.func76, Tryz.ntmps76
  go_wp2_with (fail)
  go_ret
  exact ⟨rfl, Below.refl _ _⟩
 by_cases h2 : a0.data.toList = [110, 117, 108, 108]
 ·
  obtain rfl := of_list h2; clear h0 h1 h2 c hG
  rw [show resB (⟨([110, 117, 108, 108] : List UInt8).toArray⟩ : ByteArray).data.toList = 1 from rfl]
  go_enter Tryz.func76, Tryz.ntmps76
  go_wp2_with (fail)
  go_ret
  exact ⟨rfl, Below.refl _ _⟩
 by_cases h3 : a0.data.toList = [116, 114, 117, 101]
 ·
  obtain rfl := of_list h3; clear h0 h1 h2 h3 c hG
  rw [show resB (⟨([116, 114, 117, 101] : List UInt8).toArray⟩ : ByteArray).data.toList = 2 from rfl]
  go_enter Tryz.func76, Tryz.ntmps76
  go_wp2_with (fail)
  go_ret
  exact ⟨rfl, Below.refl _ _⟩
 by_cases h4 : a0.data.toList = [102, 97, 108, 115, 101]
 ·
  obtain rfl := of_list h4; clear h0 h1 h2 h3 h4 c hG
  rw [show resB (⟨([102, 97, 108, 115, 101] : List UInt8).toArray⟩ : ByteArray).data.toList = 2 from rfl]
  go_enter Tryz.func76, Tryz.ntmps76
  go_wp2_with (fail)
  go_ret
  exact ⟨rfl, Below.refl _ _⟩
 have hN : plain_Number.f a0 = some ((numB a0.data.toList).1, (numB a0.data.toList).2) := by unfold plain_Number.f; rw [if_pos c]
 have hR : resB a0.data.toList = if (numB a0.data.toList).2 = true then 3 else 4 := by
  unfold resB
  rw [if_neg (by simp [h0, h1, h2]), if_neg (by simp [h3, h4])]
 have e0 : a0.toList.isEmpty = false := by rw [Lib.toList_data]; simpa using h0
 have e1 : (a0.toList == [126]) = false := by rw [Lib.toList_data]; simpa using h1
 have e2 : (a0.toList == [110, 117, 108, 108]) = false := by rw [Lib.toList_data]; simpa using h2
 have e3 : (a0.toList == [116, 114, 117, 101]) = false := by rw [Lib.toList_data]; simpa using h3
 have e4 : (a0.toList == [102, 97, 108, 115, 101]) = false := by rw [Lib.toList_data]; simpa using h4
 rw [hR]
 generalize numB a0.data.toList = nb at hN
 obtain ⟨n, b⟩ := nb
 have HN := Lib.hid hN
 clear hN hR h0 h1 h2 h3 h4
 cases b
 all_goals
  go_enter Tryz.func76, Tryz.ntmps76
  go_wp2_with (go_at_call 90; refine (plain_Number.calls _ _ _ _ hG HN.out).mono ?_; rintro e w1 ⟨rfl, hb1⟩)
  go_ret
  exact ⟨rfl, hb1⟩
end Go.Proofs.YtnjcpoojgmpmeaaGreatDoor.Plug
set_option linter.unusedVariables false
namespace Go.Proofs.YtnjcpoojgmpmeaaGreatDoor.Bld
open RowKit YtnjcpoojgmpmeaaGreatDoor
structure Lies (T : TypeId) : Prop where
 lies : liesAt Tryz.prog Tryz.prog.depth T (2 / Tryz.prog.cellsOf T) 0 99 1 = true
 ne : T ≠ 5
theorem lies_plain : Lies 99 := ⟨by kernel_rfl, by decide⟩
theorem size_bld : (Tryz.prog.info? 99).map (·.size) = some 2 := by kernel_rfl
theorem info_byte : (Tryz.prog.info? 5).map (fun i => (i.zero, i.size, i.bytes)) = some (some (.int .u8 0), 1, 1) := by kernel_rfl
theorem ptr_bld : Tryz.prog.underlying 96 = some (.pointer 99) := by kernel_rfl
theorem ptr_raw : Tryz.prog.underlying 165 = some .unsafePointer := by kernel_rfl
theorem row_byte : Tryz.prog.underlying 97 = some (.slice 5) := by kernel_rfl
theorem str_t : Tryz.prog.underlying 9 = some .string := by kernel_rfl
set_option maxHeartbeats 2000000 in
set_option maxRecDepth 100000 in
theorem check (T : TypeId) (hT : Lies T) (B b : Nat) (bs : List Value) (w : World) (h : Lib.IsBuilderF T 5 B b bs w) :
  Calls Tryz.prog 81 #[.pointer (some ⟨b, 0, none⟩)] w fun e w' => e = .returned (.tuple #[]) ∧ (Lib.BuilderAtF T 5 B b (.pointer (some ⟨b, 0, none⟩)) bs w' ∧ Below B w w' ∧ Lib.OthersKept 5 (some b) w w') := by
 obtain ⟨j, hj, hjs⟩ := Option.map_eq_some_iff.1 size_bld
 rcases h with h | h
 ·
  have h0 := h.cell0; have hsh := h.shape; have hfz := h.frozen0
  have HE : Hid (Lib.BuilderAtF T 5 B b (.pointer (some ⟨b, 0, none⟩)) bs (w.setCell ⟨b, 0, none⟩ (.pointer (some ⟨b, 0, none⟩))) ∧ Below B w (w.setCell ⟨b, 0, none⟩ (.pointer (some ⟨b, 0, none⟩))) ∧ Lib.OthersKept 5 (some b) w (w.setCell ⟨b, 0, none⟩ (.pointer (some ⟨b, 0, none⟩)))) :=
   Lib.hid ⟨h.used _, (Below.refl B w).setCell (p := ⟨b, 0, none⟩) h.1 _, (Lib.OthersKept.refl _ _ w).setCell ⟨b, 0, none⟩ rfl _⟩
  clear h
  go_enter Tryz.func81, Tryz.ntmps81
  go_wp2
  rw [Lib.run_to_unsafe w ⟨b, 0, none⟩ ptr_bld ptr_raw hj (by rw [hjs]; decide) hsh (Nat.zero_lt_succ 1)]
  simp only [Result.andThen]
  rw [Oper.upon_value]
  go_wp2
  rw [run_callFunc_extern Tryz.func102 (by kernel_rfl) (by kernel_rfl) (by kernel_rfl) (e := Extern.AbiNoEscape.same) (by kernel_rfl)]
  rw [Lib.run_noEscape]
  simp only [Result.andThen]
  rw [Oper.upon_value]
  go_wp2
  rw [Lib.run_from_unsafe w ⟨b, 0, none⟩ ptr_raw ptr_bld hj hsh hT.lies]
  simp only [Result.andThen]
  rw [Oper.upon_value]
  go_wp2
  go_end0
  exact ⟨rfl, HE.out⟩
 ·
  have h0 := h.cell0
  have HE : Hid (Lib.BuilderAtF T 5 B b (.pointer (some ⟨b, 0, none⟩)) bs w ∧ Below B w w ∧ Lib.OthersKept 5 (some b) w w) := Lib.hid ⟨h, Below.refl B _, Lib.OthersKept.refl _ _ _⟩
  clear h
  go_enter Tryz.func81, Tryz.ntmps81
  go_wp2
  rw [Lib.run_neq_ptr_same w _ ptr_bld hj]
  go_wp2
  go_end0
  exact ⟨rfl, HE.out⟩
def Wrote (T : TypeId) (B b : Nat) (bs : List Value) (w w' : World) : Prop :=
  Lib.BuilderAtF T 5 B b (.pointer (some ⟨b, 0, none⟩)) bs w' ∧ Below B w w' ∧ Lib.OthersKept 5 (some b) w w'
theorem at_lt {w : World} {b : Nat} {o : Obj} (h : w.heap[b]? = some o) : b < w.heap.size := by
 rcases Nat.lt_or_ge b w.heap.size with h' | h'
 · exact h'
 · simp [Array.getElem?_eq_none h'] at h
set_option maxHeartbeats 2000000 in
set_option maxRecDepth 100000 in
theorem byte (T : TypeId) (hT : Lies T) (B b : Nat) (bs : List Value) (c : Int) (w : World) (h : Lib.IsBuilderF T 5 B b bs w) (hlen : bs.length + 1 ≤ 140737488355328) (hBw : B ≤ w.heap.size) :
  Calls Tryz.prog 65 #[.pointer (some ⟨b, 0, none⟩), .int .u8 c] w fun e w' => e = .returned .nilIface ∧ Wrote T B b (bs ++ [.int .u8 c]) w w' := by
 obtain ⟨i0, hi, hz0, hz1, hz2⟩ := info_parts info_byte
 go_enter Tryz.func65, Tryz.ntmps65
 go_wp2_with (go_at_call 81; refine (check T hT B b bs _ h).mono ?_)
 rintro e w1 ⟨rfl, h1, hb1, hk1⟩
 obtain ⟨hB, v, hbk, hown, hne⟩ := h1
 have c0 : w1.cell? ⟨b, 0, none⟩ = some (.pointer (some ⟨b, 0, none⟩)) := by rw [Lib.cell_of_heap hbk]; rfl
 have c1 : w1.cell? ⟨b, 1, none⟩ = some v := by rw [Lib.cell_of_heap hbk]; rfl
 go_wp2_with (at_builtin; refine wpList_append_ownF _ rfl _ _ 97 rfl B 5 i0 (.int .u8 0) 1 1 row_byte hi hz0 hz1 hz2 rfl (by decide) _ _ _ rfl (hown.alloc _) ⟨w1.heap.size, 0, none⟩ 1 1 [.int .u8 c] rfl rfl ?c1 ?c2 ?c3 ?c4 ?c5 ?_)
 case c1 =>
  intro j u hj
  match j, hj with
  | 0, hj => simp at hj; subst hj; simp [Addr.add]
 case c2 => intro u hu; simp at hu; subst hu; rfl
 case c3 => unfold maxLen; omega
 case c4 => omega
 case c5 => have := hb1.size; simp; omega
 intro v' w2 hown' hgrow _
 have hlt := at_lt hbk
 have hb2 : w2.heap[b]? = some (.cells #[.pointer (some ⟨b, 0, none⟩), v] T (0, 0)) := by
  rw [hgrow.block b (by simp; omega) (fun e => hne e.symm), Lib.alloc_old w1 _ b hlt]
  exact hbk
 have d0 : w2.cell? ⟨b, 0, none⟩ = some (.pointer (some ⟨b, 0, none⟩)) := by rw [Lib.cell_of_heap hb2]; rfl
 have d1 : w2.cell? ⟨b, 1, none⟩ = some v := by rw [Lib.cell_of_heap hb2]; rfl
 have f1 : w2.frozen? ⟨b, 1, none⟩ = false := Lib.frozen_of_heap hb2 1
 obtain ⟨g, cap, rfl⟩ : ∃ g cap, v' = .slice (some ⟨g, 0, none⟩) (bs.length + 1) cap := by
  rcases hown'.2 with ⟨_, h0⟩ | ⟨g, cap, cur, fz, hv, _⟩
  · omega
  · exact ⟨g, cap, hv⟩
 go_wp2
 go_ret
 refine ⟨rfl, ?_, ?_, ((hk1.alloc _).grown hgrow (Lib.ownsRowF_kind (hown.alloc _))).setCell ⟨b, 1, none⟩ rfl _⟩
 · exact Lib.BuilderAtF.put (T := T) (e := 5) hB hb2 (bs' := bs ++ [.int .u8 c]) (by simpa using hown') hT.ne
 · exact ((hb1.alloc (by have := hb1.size; omega) _).grown hgrow (by have := hb1.size; simp; omega) (fun k hk => (hown.lt k hk).1)).setCell (p := ⟨b, 1, none⟩) hB _
set_option maxHeartbeats 2000000 in
set_option maxRecDepth 100000 in
theorem text (T : TypeId) (hT : Lies T) (B b : Nat) (bs : List Value) (s : ByteArray) (w : World) (h : Lib.IsBuilderF T 5 B b bs w) (hlen : bs.length + s.size ≤ 140737488355328) (hBw : B ≤ w.heap.size) :
  Calls Tryz.prog 63 #[.pointer (some ⟨b, 0, none⟩), .string s] w fun e w' => e = .returned (.tuple #[.int .i64 s.size, .nilIface]) ∧ Wrote T B b (bs ++ Lib.strCells s) w w' := by
 obtain ⟨i0, hi, hz0, hz1, hz2⟩ := info_parts info_byte
 go_enter Tryz.func63, Tryz.ntmps63
 go_wp2_with (go_at_call 81; refine (check T hT B b bs _ h).mono ?_)
 rintro e w1 ⟨rfl, h1, hb1, hk1⟩
 obtain ⟨hB, v, hbk, hown, hne⟩ := h1
 have c0 : w1.cell? ⟨b, 0, none⟩ = some (.pointer (some ⟨b, 0, none⟩)) := by rw [Lib.cell_of_heap hbk]; rfl
 have c1 : w1.cell? ⟨b, 1, none⟩ = some v := by rw [Lib.cell_of_heap hbk]; rfl
 go_wp2_with (at_builtin; refine Lib.wpList_append_own_stringF _ rfl _ _ 97 9 rfl B 5 i0 row_byte str_t hi hz0 hz1 hz2 _ _ _ rfl hown s rfl ?c3 ?c4 ?c5 ?_)
 case c3 => unfold maxLen; omega
 case c4 => omega
 case c5 => have := hb1.size; omega
 intro v' w2 hown' hgrow _
 have hlt := at_lt hbk
 have hb2 : w2.heap[b]? = some (.cells #[.pointer (some ⟨b, 0, none⟩), v] T (0, 0)) := by
  rw [hgrow.block b hlt (fun e => hne e.symm)]
  exact hbk
 have d0 : w2.cell? ⟨b, 0, none⟩ = some (.pointer (some ⟨b, 0, none⟩)) := by rw [Lib.cell_of_heap hb2]; rfl
 have d1 : w2.cell? ⟨b, 1, none⟩ = some v := by rw [Lib.cell_of_heap hb2]; rfl
 have f1 : w2.frozen? ⟨b, 1, none⟩ = false := Lib.frozen_of_heap hb2 1
 obtain ⟨ao, n', cap, rfl⟩ : ∃ ao n' cap, v' = .slice ao n' cap := by
  rcases hown'.2 with ⟨hv, _⟩ | ⟨g, cap, cur, fz, hv, _⟩
  · exact ⟨_, _, _, hv⟩
  · exact ⟨_, _, _, hv⟩
 go_wp2
 go_ret2
 refine ⟨rfl, ?_, ?_, (hk1.grown hgrow (Lib.ownsRowF_kind hown)).setCell ⟨b, 1, none⟩ rfl _⟩
 · exact Lib.BuilderAtF.put (T := T) (e := 5) hB hb2 (bs' := bs ++ Lib.strCells s) (by simpa [Lib.strCells_length] using hown') hT.ne
 · exact (hb1.grown hgrow (by have := hb1.size; omega) (fun k hk => (hown.lt k hk).1)).setCell (p := ⟨b, 1, none⟩) hB _
set_option maxHeartbeats 4000000 in
set_option maxRecDepth 100000 in
theorem put4 (B : Nat) (v : Value) (n : Nat) (xs : List Value) (r : Int) (h0 : 65536 ≤ r) (h1 : r ≤ 1114111) (w : World) (hown : w.ownsRowF B 5 1 v n xs) (hlen : n + 4 ≤ 140737488355328) (hBw : B ≤ w.heap.size) :
  Calls Tryz.prog 158 #[v, .int .i32 r] w fun e w' => ∃ v', e = .returned v' ∧ w'.ownsRowF B 5 1 v' (n + 4) (xs ++ [.int .u8 (240 + r / 262144), .int .u8 (128 + r / 4096 % 64), .int .u8 (128 + r / 64 % 64), .int .u8 (128 + r % 64)]) ∧ ∃ o, (w.alloc o).grownBy w' v.ownBlock := by
 obtain ⟨i0, hi, hz0, hz1, hz2⟩ := info_parts info_byte
 go_enter Tryz.func158, Tryz.ntmps158
 go_wp2_with (at_builtin; refine wpList_append_ownF _ rfl _ _ 97 rfl B 5 i0 (.int .u8 0) 1 1 row_byte hi hz0 hz1 hz2 rfl (by decide) _ _ _ rfl (hown.alloc _) ⟨w.heap.size, 0, none⟩ 4 4 [.int .u8 (240 + r / 262144), .int .u8 (128 + r / 4096 % 64), .int .u8 (128 + r / 64 % 64), .int .u8 (128 + r % 64)] rfl rfl ?c1 ?c2 ?c3 ?c4 ?c5 ?_)
 case c1 =>
  intro j u hj
  match j, hj with
  | 0, hj => simp at hj; subst hj; simp [Addr.add]
  | 1, hj => simp at hj; subst hj; simp [Addr.add]
  | 2, hj => simp at hj; subst hj; simp [Addr.add]
  | 3, hj => simp at hj; subst hj; simp [Addr.add]
  | (j + 4), hj => simp at hj
 case c2 => intro u hu; simp at hu; rcases hu with rfl | rfl | rfl | rfl <;> rfl
 case c3 => unfold maxLen; omega
 case c4 => omega
 case c5 => simp; omega
 intro v' w2 hown' hgrow _
 go_wp2
 go_ret
 exact ⟨_, rfl, hown', _, hgrow⟩
theorem ptr_byte : Tryz.prog.underlying 134 = some (.pointer 5) := by kernel_rfl
theorem cells_byte : Tryz.prog.cellsOf 5 = 1 := by kernel_rfl
set_option maxHeartbeats 2000000 in
set_option maxRecDepth 100000 in
theorem got (T : TypeId) (B b : Nat) (l : List UInt8) (w : World) (h : Lib.IsBuilderF T 5 B b (Lib.byteCells l) w) (hBw : B ≤ w.heap.size) :
  Calls Tryz.prog 44 #[.pointer (some ⟨b, 0, none⟩)] w fun e w' => e = .returned (.string ⟨l.toArray⟩) ∧ Below B w w' := by
 obtain ⟨p, hAt⟩ : ∃ p, Lib.BuilderAtF T 5 B b p (Lib.byteCells l) w := by
  rcases h with h | h
  · exact ⟨_, h⟩
  · exact ⟨_, h⟩
 clear h
 obtain ⟨hB, v, hbk, hown, hne⟩ := hAt
 rw [Lib.byteCells_length] at hown
 have hlt := at_lt hbk
 by_cases hl : l = []
 rotate_left
 ·
  have hl0 : l.length ≠ 0 := by simpa using hl
  obtain ⟨g, cap, cur, fz, rfl, hbg, hg, hfz, hnc, hcm, hcs, htake⟩ : ∃ g cap cur fz, v = .slice (some ⟨g, 0, none⟩) l.length cap ∧ B ≤ g ∧ w.heap[g]? = some (.cells cur 5 fz) ∧ fz.2 ≤ l.length * 1 ∧ l.length ≤ cap ∧ cap ≤ maxLen ∧ cur.size = cap * 1 ∧ cur.toList.take (l.length * 1) = Lib.byteCells l := by
   rcases hown.2 with ⟨_, hz⟩ | ⟨g, cap, cur, fz, hv, r⟩
   · exact absurd hz hl0
   · exact ⟨g, cap, cur, fz, hv, r⟩
  have c1 : w.drew.cell? ⟨b, 1, none⟩ = some (.slice (some ⟨g, 0, none⟩) l.length cap) := by
   have : w.drew.heap[b]? = some (.cells #[p, .slice (some ⟨g, 0, none⟩) l.length cap] T (0, 0)) := hbk
   rw [Lib.cell_of_heap this]; rfl
  have hSD : (Builtin.unsafeSliceData_ #[97] 134 #[.slice (some ⟨g, 0, none⟩) l.length cap]).run Tryz.prog w.drew = .ok (.pointer (some ⟨g, 0, none⟩)) w.drew :=
   Lib.run_unsafeSliceData_row _ _ _ _ _ _ (by omega)
  have hUS : (Builtin.unsafeString_ #[134, 3] 9 #[.pointer (some ⟨g, 0, none⟩), .int .i64 l.length]).run Tryz.prog w.drew = .ok (.string ⟨l.toArray⟩) (w.drew.freeze ⟨g, 0, none⟩ l.length) := by
   refine Lib.run_unsafeString_row w.drew 134 3 9 5 ptr_byte cells_byte g cur.size (by have hg' : w.drew.heap[g]? = some (.cells cur 5 fz) := hg; simp [World.shape?, hg']) l hl (by omega) (by unfold maxLen at hcm; omega) ?_
   intro j x hx
   have := hown.cells (g := g) rfl j (.int .u8 x.toNat) (by simp [Lib.byteCells, hx])
   exact this
  clear hown htake hcs hnc hfz
  go_enter Tryz.func44, Tryz.ntmps44
  go_wp2
  go_region
  all_goals (go_wp2; go_ret; exact ⟨rfl, Lib.below_freeze (Below.drew (Below.refl B w)) (p := ⟨g, 0, none⟩) hbg _⟩)
 subst hl
 have hUS : ∀ (W : World) (q : Option Addr), (Builtin.unsafeString_ #[134, 3] 9 #[.pointer q, .int .i64 0]).run Tryz.prog W = .ok (.string .empty) W := fun W q => Lib.run_unsafeString_none W _ _ _ q
 rcases hown.2 with ⟨rfl, _⟩ | ⟨g, cap, cur, fz, rfl, hbg, hg, _, _, _, _, _⟩
 ·
  have c1 : w.drew.cell? ⟨b, 1, none⟩ = some (.slice none 0 0) := by
   have : w.drew.heap[b]? = some (.cells #[p, .slice none 0 0] T (0, 0)) := hbk
   rw [Lib.cell_of_heap this]; rfl
  have hSD : (Builtin.unsafeSliceData_ #[97] 134 #[.slice none 0 0]).run Tryz.prog w.drew = .ok (.pointer none) w.drew := rfl
  clear hown
  go_enter Tryz.func44, Tryz.ntmps44
  go_wp2
  go_region
  all_goals (go_wp2; go_ret; exact ⟨rfl, Below.drew (Below.refl B w)⟩)
 ·
  by_cases hc0 : cap = 0
  rotate_left
  ·
   have c1 : w.drew.cell? ⟨b, 1, none⟩ = some (.slice (some ⟨g, 0, none⟩) 0 cap) := by
    have : w.drew.heap[b]? = some (.cells #[p, .slice (some ⟨g, 0, none⟩) 0 cap] T (0, 0)) := hbk
    rw [Lib.cell_of_heap this]; rfl
   have hSD : (Builtin.unsafeSliceData_ #[97] 134 #[.slice (some ⟨g, 0, none⟩) 0 cap]).run Tryz.prog w.drew = .ok (.pointer (some ⟨g, 0, none⟩)) w.drew :=
    Lib.run_unsafeSliceData_row _ _ _ _ _ _ hc0
   clear hc0 hown
   go_enter Tryz.func44, Tryz.ntmps44
   go_wp2
   go_region
   all_goals (go_wp2; go_ret; exact ⟨rfl, Below.drew (Below.refl B w)⟩)
  subst hc0
  have c1 : w.drew.cell? ⟨b, 1, none⟩ = some (.slice (some ⟨g, 0, none⟩) 0 0) := by
   have : w.drew.heap[b]? = some (.cells #[p, .slice (some ⟨g, 0, none⟩) 0 0] T (0, 0)) := hbk
   rw [Lib.cell_of_heap this]; rfl
  have hSD : (Builtin.unsafeSliceData_ #[97] 134 #[.slice (some ⟨g, 0, none⟩) 0 0]).run Tryz.prog w.drew = .ok (.pointer (some ⟨w.drew.heap.size, 0, none⟩)) (w.drew.alloc (.view ⟨g, 0, none⟩ 5)) :=
   Lib.run_unsafeSliceData_zero w.drew _ _ 5 ptr_byte ⟨g, 0, none⟩ 0 (5, cur.size) (by have hg' : w.drew.heap[g]? = some (.cells cur 5 fz) := hg; simp [World.shape?, hg'])
  have c2 : (w.drew.alloc (.view ⟨g, 0, none⟩ 5)).cell? ⟨b, 1, none⟩ = some (.slice (some ⟨g, 0, none⟩) 0 0) := by
   have : (w.drew.alloc (.view ⟨g, 0, none⟩ 5)).heap[b]? = _ := (Lib.alloc_old w.drew _ b hlt).trans hbk
   rw [Lib.cell_of_heap this]; rfl
  have c3 : (w.alloc (.view ⟨g, 0, none⟩ 5)).drew.cell? ⟨b, 1, none⟩ = some (.slice (some ⟨g, 0, none⟩) 0 0) := c2
  have c0 : w.cell? ⟨b, 1, none⟩ = some (.slice (some ⟨g, 0, none⟩) 0 0) := c1
  clear hown
  go_enter Tryz.func44, Tryz.ntmps44
  go_wp2
  go_region
  all_goals (go_wp2; go_ret; exact ⟨rfl, (Below.drew (Below.refl B w)).alloc hBw _⟩)
end Go.Proofs.YtnjcpoojgmpmeaaGreatDoor.Bld
namespace Go.Proofs.YtnjcpoojgmpmeaaGreatDoor.Utf
def enc (n : Int) : List UInt8 := Lib.encodeRune n
end Go.Proofs.YtnjcpoojgmpmeaaGreatDoor.Utf
namespace Go.Proofs.YtnjcpoojgmpmeaaGreatDoor.Plug
open RowKit YtnjcpoojgmpmeaaGreatDoor YtnjcpoojgmpmeaaGreatDoor.PX YtnjcpoojgmpmeaaGreatDoor.Utf YtnjcpoojgmpmeaaGreatDoorW.PrintWords YtnjcpoojgmpmeaaGreatDoorW.PrintLast
def goF : Nat → List UInt8 → Nat → List Int → List Int × Nat
 | 0, _, i, acc => (acc, i)
 | k + 1, l, i, acc => if i < l.length then (if (dec (l.drop i)).1 < 0 then (acc ++ [(dec (l.drop i)).1], i) else goF k l (i + (dec (l.drop i)).2) (acc ++ [(dec (l.drop i)).1])) else (acc, i)
def goB (l : List UInt8) : List Int × Nat := goF l.length l 0 []
def decodeB (l : List UInt8) : List Int × Int × Int := if (goB l).2 < l.length then ([], 8, ((goB l).2 : Int)) else ((goB l).1, 0, 0)
theorem goF_end (k : Nat) (l : List UInt8) (i : Nat) (acc : List Int) (h : ¬ i < l.length) : goF k l i acc = (acc, i) := by
 cases k with
 | zero => rfl
 | succ k => simp [goF, h]
theorem info_int : (Tryz.prog.info? 3).map (fun i => (i.zero, i.size, i.bytes)) = some (some (.int .i64 0), 1, 8) := by kernel_rfl
theorem row_int : Tryz.prog.underlying 40 = some (.slice 3) := by kernel_rfl
structure Box (B g : Nat) (xs : List Int) (W : World) : Prop where
  ex : ∃ v, W.heap[g]? = some (.cells #[v] 40 (0, 0)) ∧ W.ownsRow B 3 1 v xs.length (nums .i64 xs)
def Stays (B g : Nat) (W W' : World) : Prop := Below B W W' ∧ ∀ k c t, W.heap[k]? = some (.cells c t (0, 0)) → t ≠ 3 → k ≠ g → W'.heap[k]? = some (.cells c t (0, 0))
theorem Stays.refl (B g : Nat) (W : World) : Stays B g W W := ⟨Below.refl B W, fun _ _ _ h _ _ => h⟩
theorem Stays.trans {B g : Nat} {W W1 W2 : World} (h : Stays B g W W1) (h2 : Stays B g W1 W2) : Stays B g W W2 := ⟨h.1.trans h2.1, fun k c t a b d => h2.2 k c t (h.2 k c t a b d) b d⟩
theorem Stays.of_below {B g : Nat} {W W1 : World} (h : Below W.heap.size W W1) (hB : B ≤ W.heap.size) : Stays B g W W1 :=
  ⟨h.mono hB, fun k _ _ a _ _ => (h.block k (Bld.at_lt a)).trans a⟩
theorem Box.of_below {B g : Nat} {xs : List Int} {W W1 : World} (h : Box B g xs W) (hb : Below W.heap.size W W1) : Box B g xs W1 := by
 obtain ⟨v, h1, h2⟩ := h.ex
 exact ⟨v, (hb.block g (Bld.at_lt h1)).trans h1, own_move h2 (fun k hk => hb.block k (own_lt h2 k hk))⟩
set_option maxHeartbeats 2000000 in
set_option maxRecDepth 100000 in
theorem on_is (x : Int) (B g : Nat) (xs : List Int) (W : World) (hbx : Box B g xs W) (hlen : xs.length + 1 ≤ 1099511627776) (hB : B ≤ g) (hBw : B ≤ W.heap.size) :
  Calls Tryz.prog 92 #[.int .i64 x, .pointer (some ⟨g, 0, none⟩)] W fun e w' => e = .returned (.bool (decide (x ≥ 0))) ∧ Box B g (xs ++ [x]) w' ∧ Stays B g W w' := by
 obtain ⟨v, hg, hown⟩ := hbx.ex
 clear hbx
 obtain ⟨i0, hi, hz0, hz1, hz2⟩ := info_parts info_int
 have c0 : W.cell? ⟨g, 0, none⟩ = some v := by rw [Lib.cell_of_heap hg]; rfl
 have hne := own_ne hown hg (by decide)
 go_enter Tryz.func92, Tryz.ntmps92
 go_wp2_with (at_builtin; refine wpList_append_own _ rfl _ _ 40 rfl B 3 i0 (.int .i64 0) 1 8 row_int hi hz0 hz1 hz2 rfl (by decide) _ _ _ rfl (hown.alloc _) ⟨W.heap.size, 0, none⟩ 1 1 [.int .i64 x] rfl rfl ?c1 ?c2 ?c3 ?c4 ?c5 ?_)
 case c1 =>
  intro j u hj
  match j, hj with
  | 0, hj => simp at hj; subst hj; simp [Addr.add]
 case c2 => intro u hu; simp at hu; subst hu; rfl
 case c3 => unfold maxLen; omega
 case c4 => omega
 case c5 => simp; omega
 intro v' w2 hown' hgrow _
 obtain ⟨ao, cap, rfl⟩ : ∃ ao cap, v' = .slice ao (xs.length + 1) cap := own_slice hown'
 have hlt := Bld.at_lt hg
 have hb2 : w2.heap[g]? = some (.cells #[v] 40 (0, 0)) := by
  rw [hgrow.block g (by simp; omega) hne, Lib.alloc_old W _ g hlt]
  exact hg
 have d0 : w2.cell? ⟨g, 0, none⟩ = some v := by rw [Lib.cell_of_heap hb2]; rfl
 have f0 : w2.frozen? ⟨g, 0, none⟩ = false := Lib.frozen_of_heap hb2 0
 have hne2 := own_ne hown' hb2 (by decide)
 have HR : Hid (Box B g (xs ++ [x]) (w2.setCell ⟨g, 0, none⟩ (.slice ao (xs.length + 1) cap)) ∧ Stays B g W (w2.setCell ⟨g, 0, none⟩ (.slice ao (xs.length + 1) cap))) := by
  refine Lib.hid ⟨⟨.slice ao (xs.length + 1) cap, ?_, ?_⟩, ?_, ?_⟩
  · exact blk_set hb2 0 _
  ·
   have h3 := own_setCell (p := ⟨g, 0, none⟩) hown' hne2 (.slice ao (xs.length + 1) cap)
   rw [List.length_append, List.length_singleton, nums_append]
   exact h3
  · exact ((((Below.refl B W).alloc hBw _).grown hgrow (by simp; omega) (fun k hk => own_base hown k hk)).setCell (p := ⟨g, 0, none⟩) hB _)
  ·
   intro k c t hk ht hkg
   rw [Below.heap_setCell w2 ⟨g, 0, none⟩ _ k hkg, hgrow.block k (by have := Bld.at_lt hk; simp; omega) (own_ne hown hk (Ne.symm ht)), Lib.alloc_old W _ k (Bld.at_lt hk)]
   exact hk
 clear hown hown' hgrow hg hne hne2
 go_wp2
 go_ret
 exact ⟨rfl, HR.out⟩
set_option maxHeartbeats 2000000 in
theorem walk_dec (s : ByteArray) (B g : Nat) (w w0 : World) (hG : Glob.G w0) (hw0 : Below B w0 w) (hB0 : w0.heap.size = B) (hs : s.size ≤ 1099511627775) (hbx : Box B g [] w) (hB : B ≤ g) (hBw : B ≤ w.heap.size) :
  Calls Tryz.prog 91 #[.string s, .func (.func 92) #[] #[.pointer (some ⟨g, 0, none⟩)]] w fun e w' => e = .returned (.int .i64 (goB s.data.toList).2) ∧ Box B g (goB s.data.toList).1 w' ∧ Stays B g w w' := by
 have hL := Lib.hid (size_list s)
 go_enter Tryz.func91, Tryz.ntmps91
 go_wp2
 go_loopw [5] (fun a wr => ∃ (i k : Nat) (xs : List Int), i ≤ s.size ∧ s.size ≤ i + k ∧ xs.length ≤ i ∧ Hid (goF k s.data.toList i xs = goB s.data.toList) ∧ a = .int .i64 i ∧ Box B g xs wr ∧ Stays B g w wr) (fun a _ => s.size - (intOf a).toNat)
 case atStart => exact ⟨0, s.size, [], Nat.zero_le _, by omega, Nat.le_refl _, by rw [hL.out]; rfl, rfl, hbx, Stays.refl _ _ _⟩
 case round =>
  obtain ⟨i, k, xs, hi, hk, hxl, hst, rfl, hbx, hb⟩ := hrel
  have hGr : Glob.G wr := hG.below (by rw [hB0]; exact hw0.trans hb.1)
  by_cases hlt : i < s.size
  rotate_left
  ·
   have hc : decide ((i : Int) < (s.size : Int)) = false := by simp; omega
   have HE := Lib.hid (hst.out.symm.trans (goF_end k s.data.toList i xs (by rw [← hL.out]; exact hlt)))
   clear hst
   go_wp2
   go_ret
   exact ⟨by rw [HE.out]; rfl, by rw [HE.out]; exact hbx, hb⟩
  have hne : s.data.toList.drop i ≠ [] := by
   intro e; have h2 := congrArg List.length e; rw [List.length_drop, ← hL.out, List.length_nil] at h2; omega
  have hw := dec_wide _ hne
  have hf := prog_first (s.extract i s.size)
  rw [drop_list] at hf
  have hlen : (s.data.toList.drop i).length = s.size - i := by rw [List.length_drop, ← hL.out]
  have hstep : goF k s.data.toList i xs = if (dec (s.data.toList.drop i)).1 < 0 then (xs ++ [(dec (s.data.toList.drop i)).1], i) else goF (k - 1) s.data.toList (i + (dec (s.data.toList.drop i)).2) (xs ++ [(dec (s.data.toList.drop i)).1]) := by
   obtain ⟨k, rfl⟩ : ∃ m, k = m + 1 := ⟨k - 1, by omega⟩
   rw [goF, if_pos (by have := hL.out; omega)]; rfl
  generalize dec (s.data.toList.drop i) = d at *
  obtain ⟨r, n⟩ := d
  simp only at hw hf hstep
  rw [hlen] at hw
  obtain ⟨hw1, hw2, hw3⟩ := hw
  have HF := Lib.hid hf; have HS := Lib.hid hstep
  clear hf hstep hlen hne
  by_cases hr : r < 0
  ·
   rw [if_pos hr] at HS
   have hge : decide (r ≥ 0) = false := by simp; omega
   have HQ := Lib.hid (hst.out.symm.trans HS.out)
   clear hst HS
   go_wp2_with (first | (go_at_call 113; refine (utf_First.calls _ _ _ _ hGr HF.out).mono ?_; rintro e w1 ⟨rfl, hb1⟩) | (go_at_call 92; refine (on_is r B g xs _ (hbx.of_below hb1) (by omega) hB (Nat.le_trans hBw (Nat.le_trans hb.1.size hb1.size))).mono ?_; rw [hge]; rintro e w2 ⟨rfl, hbx2, hs2⟩))
   go_ret
   exact ⟨by rw [HQ.out]; rfl, by rw [HQ.out]; exact hbx2, hb.trans ((Stays.of_below hb1 (Nat.le_trans hBw hb.1.size)).trans hs2)⟩
  rw [if_neg hr] at HS
  have hge : decide (r ≥ 0) = true := by simp; omega
  have HQ := Lib.hid (HS.out.symm.trans hst.out)
  clear hst HS
  go_wp2_with (first | (go_at_call 113; refine (utf_First.calls _ _ _ _ hGr HF.out).mono ?_; rintro e w1 ⟨rfl, hb1⟩) | (go_at_call 92; refine (on_is r B g xs _ (hbx.of_below hb1) (by omega) hB (Nat.le_trans hBw (Nat.le_trans hb.1.size hb1.size))).mono ?_; rw [hge]; rintro e w2 ⟨rfl, hbx2, hs2⟩))
  have hall := hb.trans ((Stays.of_below hb1 (Nat.le_trans hBw hb.1.size)).trans hs2)
  go_roundw
  case rel => exact ⟨i + n, k - 1, xs ++ [r], by omega, by omega, by rw [List.length_append]; simp; omega, Lib.hid HQ.out, by go_num, hbx2, hall⟩
  case measure => simp [intOf]; omega
theorem two_set {w2 : World} {B t : Nat} {x y : Value} (h : w2.heap[B]? = some (.cells #[x, y] t (0, 0))) (a b : Value) (o : Obj) :
  (((w2.setCell ⟨B, 0, none⟩ a).setCell ⟨B, 1, none⟩ b).alloc o).cell? ⟨B, 0, none⟩ = some a ∧ (((w2.setCell ⟨B, 0, none⟩ a).setCell ⟨B, 1, none⟩ b).alloc o).cell? ⟨B, 1, none⟩ = some b := by
 have h1 := blk_set h 0 a
 have h2 := blk_set h1 1 b
 have h3 : (((w2.setCell ⟨B, 0, none⟩ a).setCell ⟨B, 1, none⟩ b).alloc o).heap[B]? = some (.cells ((#[x, y].setIfInBounds 0 a).setIfInBounds 1 b) t (0, 0)) := (Lib.alloc_old _ _ _ (Bld.at_lt h2)).trans h2
 exact ⟨by rw [blk_cell h3]; rfl, by rw [blk_cell h3]; rfl⟩
def utf_Decode.f (a0 : ByteArray) : Option (List Int × Int × Int) := if a0.size ≤ 1099511627775 then some (decodeB a0.data.toList) else none
set_option maxHeartbeats 2000000 in
set_option maxRecDepth 100000 in
theorem utf_Decode.calls (a0 : ByteArray) (r1 : List Int) (r2 r3 : Int) (w : World) (hG : Glob.G w) (h : utf_Decode.f a0 = some (r1, r2, r3)) :
  Calls Tryz.prog 77 #[.string a0] w fun e w' => ∃ v0_ : Value, e = .returned (.tuple #[v0_, .agg #[.int .i64 r2, .int .i64 r3]]) ∧ Kd.R (Kd.int .i64) 3 w' w.heap.size (fun _ => True) v0_ r1 ∧ Below w.heap.size w w' := by
 unfold utf_Decode.f at h
 by_cases c : a0.size ≤ 1099511627775
 rotate_left
 · rw [if_neg c] at h; cases h
 rw [if_pos c] at h
 have hL := size_list a0
 unfold decodeB at h
 rw [← hL] at h
 have hH : Glob.G ((w.alloc (.cells #[.int .i64 0, .int .i64 0] 143)).alloc (.cells #[.slice none 0 0] 40)) := hG.below (((Below.refl _ w).alloc (Nat.le_refl _) _).alloc (by simp) _)
 obtain ⟨W0, hW0⟩ : ∃ W0, W0 = (w.alloc (.cells #[.int .i64 0, .int .i64 0] 143)).alloc (.cells #[.slice none 0 0] 40) := ⟨_, rfl⟩
 have hbx : Box w.heap.size (w.heap.size + 1) [] W0 := by
  refine ⟨.slice none 0 0, ?_, ?_⟩
  · rw [hW0]; have := heap_alloc_new (w.alloc (.cells #[.int .i64 0, .int .i64 0] 143)) (.cells #[.slice none 0 0] 40); simpa using this
  · exact ⟨rfl, .inl ⟨rfl, rfl⟩⟩
 have hf0 : W0.heap[w.heap.size]? = some (.cells #[.int .i64 0, .int .i64 0] 143 (0, 0)) := by
  rw [hW0, Lib.alloc_old _ _ _ (by simp)]; exact heap_alloc_new w _
 have hbel : Below w.heap.size w W0 := by rw [hW0]; exact ((Below.refl _ w).alloc (Nat.le_refl _) _).alloc (by simp) _
 have hsz : w.heap.size ≤ W0.heap.size := hbel.size
 have HW := Lib.hid (walk_dec a0 w.heap.size (w.heap.size + 1) W0 w hG hbel rfl c hbx (by omega) hsz)
 subst hW0
 go_enter Tryz.func77, Tryz.ntmps77
 go_wp2_with (first | (go_at_call 91; refine HW.out.mono ?_; rintro e w1 ⟨rfl, hbx1, hs1⟩))
 have hbel1 := hbel.trans hs1.1
 have hG1 := hG.below hbel1
 by_cases q : (goB a0.data.toList).2 < a0.size
 ·
  rw [if_pos q] at h
  simp only [Option.some.injEq, Prod.mk.injEq] at h
  obtain ⟨rfl, rfl, rfl⟩ := h
  have h2 : utf_fault.f a0 (goB a0.data.toList).2 = some (8, ((goB a0.data.toList).2 : Int)) := by unfold utf_fault.f; rw [if_pos (by omega)]
  have H2 := Lib.hid h2
  clear h2 HW q
  go_wp2_with (first | (go_at_call 93; refine (utf_fault.calls _ _ _ _ _ hG1 H2.out).mono ?_; rintro e w2 ⟨rfl, hb2⟩; have hf2 := (hb2.block w.heap.size (Bld.at_lt (hs1.2 _ _ _ hf0 (by decide) (by omega)))).trans (hs1.2 _ _ _ hf0 (by decide) (by omega)); have hc0 : w2.cell? ⟨w.heap.size, 0, none⟩ = some (.int .i64 0) := by { rw [blk_cell hf2]; rfl }; have hc1 : w2.cell? ⟨w.heap.size, 1, none⟩ = some (.int .i64 0) := by { rw [blk_cell hf2]; rfl }; have hz0 := blk_frozen hf2 0; have hz1 := blk_frozen hf2 1; have hz := Bld.at_lt hf2))
  have HBel := Lib.hid (hbel1.trans (hb2.mono hbel1.size))
  have hzz := hb2.size
  go_region
  all_goals
   go_wp2
   have hset := two_set hf2 (.int .i64 8) (.int .i64 (goB a0.data.toList).2) (.cells #[.int .i64 8, .int .i64 (goB a0.data.toList).2] 143)
   refine bodyPost_ret (v := .tuple #[.slice none 0 0, .agg #[.int .i64 8, .int .i64 (goB a0.data.toList).2]]) (by simp [results, Tryz.results77, go_sem, hset.1, hset.2]) rfl ?_
   refine ⟨.slice none 0 0, rfl, Kd.R_nil _ _ _ _ _, ?_⟩
   exact Below.drew ((((HBel.out.setCell (p := ⟨w.heap.size, 0, none⟩) (Nat.le_refl _) _).setCell (p := ⟨w.heap.size, 1, none⟩) (Nat.le_refl _) _).alloc (by simp; omega) _))
 rw [if_neg q] at h
 simp only [Option.some.injEq, Prod.mk.injEq] at h
 obtain ⟨rfl, rfl, rfl⟩ := h
 have h2 : utf_fault.f a0 (goB a0.data.toList).2 = some (0, 0) := by unfold utf_fault.f; rw [if_neg (by omega)]
 have H2 := Lib.hid h2
 clear h2 HW q
 generalize (goB a0.data.toList).2 = n at *
 go_wp2_with (first | (go_at_call 93; refine (utf_fault.calls _ _ _ _ _ hG1 H2.out).mono ?_; rintro e w2 ⟨rfl, hb2⟩; have hf2 := (hb2.block w.heap.size (Bld.at_lt (hs1.2 _ _ _ hf0 (by decide) (by omega)))).trans (hs1.2 _ _ _ hf0 (by decide) (by omega)); have hc0 : w2.cell? ⟨w.heap.size, 0, none⟩ = some (.int .i64 0) := by { rw [blk_cell hf2]; rfl }; have hc1 : w2.cell? ⟨w.heap.size, 1, none⟩ = some (.int .i64 0) := by { rw [blk_cell hf2]; rfl }; have hz0 := blk_frozen hf2 0; have hz1 := blk_frozen hf2 1; have hz := Bld.at_lt hf2; obtain ⟨v, hg2, hown⟩ := (hbx1.of_below hb2).ex; have hcg : w2.cell? ⟨w.heap.size + 1, 0, none⟩ = some v := by { rw [blk_cell hg2]; rfl }; obtain ⟨ao, cap, rfl⟩ := own_slice hown; have hzg := Bld.at_lt hg2))
 have HBel := Lib.hid (hbel1.trans (hb2.mono hbel1.size))
 have hzz := hb2.size
 have hset := two_set hf2 (.int .i64 0) (.int .i64 0) (.cells #[.int .i64 0, .int .i64 0] 143)
 refine bodyPost_ret (v := .tuple #[.slice ao (goB a0.data.toList).1.length cap, .agg #[.int .i64 0, .int .i64 0]]) (by simp [results, Tryz.results77, go_sem, hset.1, hset.2]) rfl ?_
 refine ⟨_, rfl, ?_, ((HBel.out.setCell (p := ⟨w.heap.size, 0, none⟩) (Nat.le_refl _) _).setCell (p := ⟨w.heap.size, 1, none⟩) (Nat.le_refl _) _).alloc (by simp; omega) _⟩
 have hne := own_ne hown hf2 (by decide)
 have hR : Kd.R (Kd.int .i64) 3 w2 w.heap.size (fun k => k ≠ w.heap.size) (.slice ao (goB a0.data.toList).1.length cap) (goB a0.data.toList).1 := Kd.R_of_own hown (fun k hk e => hne (by rw [hk, e]))
 exact Kd.R_mono (Kd.R_alloc (Kd.R_far (Kd.R_far hR (fun k hk => hk) _) (fun k hk => hk) _) _) (fun _ _ => trivial)
end Go.Proofs.YtnjcpoojgmpmeaaGreatDoor.Plug
namespace Go.Proofs.YtnjcpoojgmpmeaaGreatDoor.PX
open RowKit YtnjcpoojgmpmeaaGreatDoorW.PrintWords YtnjcpoojgmpmeaaGreatDoorW.PrintLast YtnjcpoojgmpmeaaGreatDoorW.PrintMore YtnjcpoojgmpmeaaGreatDoor YtnjcpoojgmpmeaaGreatDoor.Plug
attribute [local go_sem] max2_int min2_int max_two min_two max_three min_three max_four min_four   -- for this text's walks alone
set_option linter.unusedVariables false
set_option linter.unusedSimpArgs false
attribute [local go_sem high] eqA143
def flow_isText.j0 : Nat → Int → ByteArray → Int → Bool → Option (Bool)
  | 0, _, _, _, _ => none
  | k + 1, x0, x1, x7, x8 => if x8 = true then ((plain_Resolve.f x1).bind fun t101 => (some (t101 == x0))) else (if x7 = 4 then ((utf_Decode.f x1).bind fun bt102 => (some (bt102.2.1 == 0 && (bt102.2.2 == 0)))) else (some (x1.toList == ([] : List UInt8))))
def flow_isText.f (k : Nat) (a0 : Int) (a1 : ByteArray) : Option (Bool) := if a0 = 2 then (flow_isText.j0 k a0 a1 a0 (a0 == 2)) else (flow_isText.j0 k a0 a1 a0 (a0 == 3))
theorem qea0_ {P : Prop} (h_ : P := by repeat (first | (with_reducible first | exact HB.out | apply below_alloc | apply pw_below_drewN | apply below_drew1) | exact HB.out)) : P := h_
theorem qea1_ {P : Prop} (h_ : P := by first | ((repeat (first | (with_reducible first | exact HB.out | apply below_alloc | apply pw_below_drewN | apply below_drew1 | (refine Glob.below_set ?_ (by assumption) _ _ _)) | exact HB.out)); done) | (refine Drawn0.below ?_; repeat (first | exact Drawn0.refl _ | assumption | apply Drawn0.step))) : P := h_
theorem qea2_ {P : Prop} (h_ : P := by first | rfl | (simp [errW_none, errW_some] <;> rfl) | (simp [*, errW_none, errW_some] <;> rfl)) : P := h_
theorem qea3_ {P : Prop} (h_ : P := by (try simp only [List.map_toArray, List.map_cons, List.map_nil]); first | done | rfl | (simp only [List.length_drop, List.length_take]; rfl)) : P := h_
set_option maxHeartbeats 8000000 in
set_option maxRecDepth 100000 in
theorem flow_isText.calls (k : Nat) (a0 : Int) (a1 : ByteArray) (r : Bool) (w : World) (hG : Glob.G w) (h : flow_isText.f k a0 a1 = some r) :
  Calls Tryz.prog 59 #[.int .i64 a0, .string a1] w fun e w' => e = .returned (.bool r) ∧ Below w.heap.size w w' := by
 have hu143 := Tryz.underlying143
 have HB := Aside0.mk (Below.refl w.heap.size w)
 have H : (if a0 = 2 then (flow_isText.j0 k a0 a1 a0 (a0 == 2)) else (flow_isText.j0 k a0 a1 a0 (a0 == 3))) = some r := h
 clear h
 have HC3 := Aside0.mk H
 clear H
 go_enter Tryz.func59, Tryz.ntmps59
 go_upto_if 8 with (fail)
 go_cut [8] (fun v8 wc => ∃ (kq : Nat) (x8_2 : Bool), v8 = .bool x8_2 ∧ Aside0 (flow_isText.j0 kq a0 a1 a0 x8_2 = some r) ∧ Aside0 (kq ≤ k) ∧ Aside0 (Below w.heap.size w wc))
 case first =>
  have H := HC3.out
  clear HC3
  by_cases c4 : a0 = 2
  rotate_left
  ·
   rw [if_neg c4] at H
   have c4b0 : (a0 == 2) = false := beq_eq_false_iff_ne.mpr c4
   have c4b1 : (a0 != 2) = true := bne_iff_ne.mpr c4
   (first | rw [c4b0] | (simp only [i64_w, i32_w]; rw [c4b0]) | skip)
   have H' := Aside0.mk H
   clear H
   go_wp2
   go_meet
   case rel => exact ⟨_, ((a0 == 3)), (by first | rfl | (simp; done) | (simp [*]; done)), H', ⟨by first | omega | exact Nat.le_refl _⟩, ⟨qea0_⟩⟩
  rw [if_pos c4] at H
  have c4b0 : (a0 == 2) = true := beq_iff_eq.mpr c4
  have c4b1 : (a0 != 2) = false := bne_eq_false_iff_eq.mpr c4
  clear c4
  (first | rw [c4b0] | (simp only [i64_w, i32_w]; rw [c4b0]) | skip)
  have H' := Aside0.mk H
  clear H
  go_wp2
  go_meet
  case rel => exact ⟨_, ((a0 == 2)), (by first | rfl | (simp; done) | (simp [*]; done)), H', ⟨by first | omega | exact Nat.le_refl _⟩, ⟨qea0_⟩⟩
 case rest =>
  clear HC3
  try clear p2
  try clear c4
  try clear c4b0
  try clear c4b1
  obtain ⟨kq, x8_2, rfl, HA, HJ2, HB⟩ := hcut
  cases kq with
  | zero => exact absurd HA.out (by simp [flow_isText.j0])
  | succ kj2 =>
   have H := HA.out
   clear HA
   simp only [flow_isText.j0] at H
   by_cases c5 : x8_2 = true
   ·
    subst c5
    have H1 : ((plain_Resolve.f a1).bind fun t101 => (some (t101 == a0))) = some r := by rw [if_pos rfl] at H; exact H
    clear H
    have H := H1
    clear H1
    replace H := Option.bind_eq_some_iff.mp H
    obtain ⟨t101, A60, H⟩ := H
    replace H : (some (t101 == a0)) = some r := H
    have A6 := Aside0.mk A60
    clear A60
    obtain rfl := Option.some.inj H
    go_wp2_with (first | ((with_reducible refine gate_callee (f := 76) rfl ?_); refine goesL_ (some 12) rfl rfl Tryz.func76 (by kernel_rfl) rfl #[.string a1] rfl (qea3_) ?_; (with_reducible refine (plain_Resolve.calls a1 t101 _ (hG.below (qea1_)) A6.out).mono ?_); rintro e w7 ⟨rfl, hb⟩; refine ⟨_, rfl, ?_⟩; have n0_ := Aside0.mk (below_step (qea0_) hb); clear HB; have HB := n0_; clear n0_; (try clear hb)))
    go_ret
    exact ⟨qea2_, qea0_⟩
   replace c5 := Bool.eq_false_iff.mpr c5
   subst c5
   have H1 : (if a0 = 4 then ((utf_Decode.f a1).bind fun bt102 => (some (bt102.2.1 == 0 && (bt102.2.2 == 0)))) else (some (a1.toList == ([] : List UInt8)))) = some r := by rw [if_neg (show ¬ (false = true) by decide)] at H; exact H
   clear H
   have H := H1
   clear H1
   by_cases c8 : a0 = 4
   rotate_left
   ·
    rw [if_neg c8] at H
    have c8b0 : (a0 == 4) = false := beq_eq_false_iff_ne.mpr c8
    have c8b1 : (a0 != 4) = true := bne_iff_ne.mpr c8
    obtain rfl := Option.some.inj H
    go_wp2
    go_ret
    exact ⟨qea2_, qea0_⟩
   rw [if_pos c8] at H
   have c8b0 : (a0 == 4) = true := beq_iff_eq.mpr c8
   have c8b1 : (a0 != 4) = false := bne_eq_false_iff_eq.mpr c8
   clear c8
   replace H := Option.bind_eq_some_iff.mp H
   obtain ⟨⟨t102, t105, t106⟩, A90, H⟩ := H
   replace H : (some (t105 == 0 && (t106 == 0))) = some r := H
   have A9 := Aside0.mk A90
   clear A90
   obtain rfl := Option.some.inj H
   go_wp2_with (first | ((with_reducible refine gate_callee (f := 77) rfl ?_); refine goesL_ (some 19) rfl rfl Tryz.func77 (by kernel_rfl) rfl #[.string a1] rfl (qea3_) ?_; (with_reducible refine (utf_Decode.calls a1 t102 t105 t106 _ (hG.below (qea1_)) A9.out).mono ?_); rintro e w10 ⟨v103, rfl, ho0, hb⟩; refine ⟨_, rfl, ?_⟩; have n0_ := Aside0.mk (Kd.R_lower ho0 (below_size (qea0_))); have n1_ := Aside0.mk (below_step (qea0_) hb); clear HB; have HO104 := n0_; have HB := n1_; clear n0_ n1_; (try clear hb); (try clear ho0)) | ((with_reducible refine gate_dst (N := 6) rfl ?_); refine box_event ?hg (N := 6) ?hd (cs := #[.int .i64 0, .int .i64 0]) (t := 143) ?hr ?_; (case hd => rfl); (case hg => rfl); (case hr => first | (go_simp; done) | (go_simp; rfl)); intro gb107 hg w11 hbox hb; have n0_ := Aside0.mk (Kd.R_below (by (with_reducible repeat (first | apply Kd.R_alloc | apply Kd.R_drewN | apply Kd.R_drew)); exact HO104.out) hb); have n1_ := Aside0.mk (below_step (qea0_) hb); have n2_ := Aside0.mk (hbox); have n3_ := Aside0.mk ((by rw [hg]; exact (below_size (qea0_)) : w.heap.size ≤ gb107)); have n4_ := Aside0.mk ((by rw [hg]; exact (below_size (qea0_)) : w.heap.size ≤ gb107)); clear HO104; clear HB; have HO104 := n0_; have HB := n1_; have BK107 := n2_; have GW107 := n3_; have GE107 := n4_; clear n0_ n1_ n2_ n3_ n4_; clear hb hbox hg; have hcz12_0 : w11.cell? ⟨gb107, 0, none⟩ = some (.int .i64 0) := (blk_cell BK107.out 0).trans rfl; have hcz12_1 : w11.cell? ⟨gb107, 1, none⟩ = some (.int .i64 0) := (blk_cell BK107.out 1).trans rfl; have hfz12_0 := blk_frozen BK107.out 0; have hfz12_1 := blk_frozen BK107.out 1))
   go_ret
   exact ⟨qea2_, by repeat (first | (with_reducible first | exact HB.out | apply below_alloc | apply pw_below_drewN | apply below_drew1 | refine below_set ?_ GE107.out) | exact HB.out)⟩
end Go.Proofs.YtnjcpoojgmpmeaaGreatDoor.PX
namespace Go.Proofs.YtnjcpoojgmpmeaaGreatDoor.PX
open RowKit YtnjcpoojgmpmeaaGreatDoorW.PrintWords YtnjcpoojgmpmeaaGreatDoorW.PrintLast YtnjcpoojgmpmeaaGreatDoorW.PrintMore YtnjcpoojgmpmeaaGreatDoor YtnjcpoojgmpmeaaGreatDoor.Plug
attribute [local go_sem] max2_int min2_int max_two min_two max_three min_three max_four min_four   -- for this text's walks alone
set_option linter.unusedVariables false
set_option linter.unusedSimpArgs false
def flow_Name.f (a0 : ByteArray) : Option (Bool) := if a0.toList = ([] : List UInt8) then (some false) else (if (a0.size : Int) ≤ 32 then ((strings_Trim.f a0 (⟨#[97, 98, 99, 100, 101, 102, 103, 104, 105, 106, 107, 108, 109, 110, 111, 112, 113, 114, 115, 116, 117, 118, 119, 120, 121, 122, 65, 66, 67, 68, 69, 70, 71, 72, 73, 74, 75, 76, 77, 78, 79, 80, 81, 82, 83, 84, 85, 86, 87, 88, 89, 90, 48, 49, 50, 51, 52, 53, 54, 55, 56, 57, 45, 95]⟩ : ByteArray)).bind fun t101 => (some (t101.toList == ([] : List UInt8)))) else (some false))
theorem qpa0_ {P : Prop} (h_ : P := by repeat (first | (with_reducible first | exact HB.out | apply below_alloc | apply pw_below_drewN | apply below_drew1) | exact HB.out)) : P := h_
theorem qpa1_ {P : Prop} (h_ : P := by first | rfl | (simp [errW_none, errW_some] <;> rfl) | (simp [*, errW_none, errW_some] <;> rfl)) : P := h_
set_option maxHeartbeats 8000000 in
set_option maxRecDepth 100000 in
theorem flow_Name.calls (a0 : ByteArray) (r : Bool) (w : World) (hG : Glob.G w) (h : flow_Name.f a0 = some r) :
  Calls Tryz.prog 60 #[.string a0] w fun e w' => e = .returned (.bool r) ∧ Below w.heap.size w w' := by
 have HB := Aside0.mk (Below.refl w.heap.size w)
 have H : (if a0.toList = ([] : List UInt8) then (some false) else (if (a0.size : Int) ≤ 32 then ((strings_Trim.f a0 (⟨#[97, 98, 99, 100, 101, 102, 103, 104, 105, 106, 107, 108, 109, 110, 111, 112, 113, 114, 115, 116, 117, 118, 119, 120, 121, 122, 65, 66, 67, 68, 69, 70, 71, 72, 73, 74, 75, 76, 77, 78, 79, 80, 81, 82, 83, 84, 85, 86, 87, 88, 89, 90, 48, 49, 50, 51, 52, 53, 54, 55, 56, 57, 45, 95]⟩ : ByteArray)).bind fun t101 => (some (t101.toList == ([] : List UInt8)))) else (some false))) = some r := h
 clear h
 by_cases c2 : a0.toList = ([] : List UInt8)
 ·
  rw [if_pos c2] at H
  have c2b0 : (a0.toList == ([] : List UInt8)) = true := beq_iff_eq.mpr c2
  have c2b1 : (a0.toList != ([] : List UInt8)) = false := bne_eq_false_iff_eq.mpr c2
  clear c2
  obtain rfl := Option.some.inj H
  go_enter Tryz.func60, Tryz.ntmps60
  go_wp2
  go_ret
  exact ⟨qpa1_, qpa0_⟩
 rw [if_neg c2] at H
 have c2b0 : (a0.toList == ([] : List UInt8)) = false := beq_eq_false_iff_ne.mpr c2
 have c2b1 : (a0.toList != ([] : List UInt8)) = true := bne_iff_ne.mpr c2
 by_cases c3 : (a0.size : Int) ≤ 32
 rotate_left
 ·
  rw [if_neg c3] at H
  have c3b0 : decide ((a0.size : Int) ≤ 32) = false := decide_eq_false c3
  have c3b1 : decide (a0.size ≤ 32) = false := decide_eq_false (by omega)
  clear c3
  obtain rfl := Option.some.inj H
  go_enter Tryz.func60, Tryz.ntmps60
  go_wp2
  go_ret
  exact ⟨qpa1_, qpa0_⟩
 rw [if_pos c3] at H
 have c3b0 : decide ((a0.size : Int) ≤ 32) = true := decide_eq_true c3
 have c3b1 : decide (a0.size ≤ 32) = true := decide_eq_true (by omega)
 clear c3
 replace H := Option.bind_eq_some_iff.mp H
 obtain ⟨t101, A40, H⟩ := H
 replace H : (some (t101.toList == ([] : List UInt8))) = some r := H
 have A4 := Aside0.mk A40
 clear A40
 obtain rfl := Option.some.inj H
 go_enter Tryz.func60, Tryz.ntmps60
 go_wp2_with (first | (go_at_call 78; (with_reducible refine (strings_Trim.calls a0 (⟨#[97, 98, 99, 100, 101, 102, 103, 104, 105, 106, 107, 108, 109, 110, 111, 112, 113, 114, 115, 116, 117, 118, 119, 120, 121, 122, 65, 66, 67, 68, 69, 70, 71, 72, 73, 74, 75, 76, 77, 78, 79, 80, 81, 82, 83, 84, 85, 86, 87, 88, 89, 90, 48, 49, 50, 51, 52, 53, 54, 55, 56, 57, 45, 95]⟩ : ByteArray) t101 _ (hG.below (by first | ((repeat (first | (with_reducible first | exact HB.out | apply below_alloc | apply pw_below_drewN | apply below_drew1 | (refine Glob.below_set ?_ (by assumption) _ _ _)) | exact HB.out)); done) | (refine Drawn0.below ?_; repeat (first | exact Drawn0.refl _ | assumption | apply Drawn0.step)))) A4.out).mono ?_); rintro e w5 ⟨rfl, hb⟩; have n0_ := Aside0.mk (below_step (qpa0_) hb); clear HB; have HB := n0_; clear n0_; (try clear hb)))
 go_ret
 exact ⟨qpa1_, qpa0_⟩
end Go.Proofs.YtnjcpoojgmpmeaaGreatDoor.PX
namespace Go.Proofs.YtnjcpoojgmpmeaaGreatDoor.PX
open RowKit YtnjcpoojgmpmeaaGreatDoorW.PrintWords YtnjcpoojgmpmeaaGreatDoorW.PrintLast YtnjcpoojgmpmeaaGreatDoorW.PrintMore YtnjcpoojgmpmeaaGreatDoor
attribute [local go_sem] max2_int min2_int max_two min_two max_three min_three max_four min_four   -- for this text's walks alone
set_option linter.unusedVariables false
set_option linter.unusedSimpArgs false
def flow_isScalar.f (a0 : Int) : Option (Bool) := if a0 ≥ 1 then (some (decide (a0 ≤ 4))) else (some false)
theorem qqa0_ {P : Prop} (h_ : P := by first | rfl | (simp; done) | (simp [*]; done) | (simp; generalize ByteArray.toList _ = l_; cases l_ <;> rfl)) : P := h_
set_option maxHeartbeats 8000000 in
set_option maxRecDepth 100000 in
theorem flow_isScalar.calls (a0 : Int) (r : Bool) (w : World) (hG : Glob.G w) (h : flow_isScalar.f a0 = some r) :
  Calls Tryz.prog 61 #[.int .i64 a0] w fun e w' => e = .returned (.bool r) ∧ Drawn0 w w' := by
 have H : (if a0 ≥ 1 then (some (decide (a0 ≤ 4))) else (some false)) = some r := h
 clear h
 by_cases c2 : a0 ≥ 1
 ·
  rw [if_pos c2] at H
  have c2b0 : decide (1 ≤ a0) = true := decide_eq_true c2
  clear c2
  obtain rfl := Option.some.inj H
  go_enter Tryz.func61, Tryz.ntmps61
  go_wp2
  go_ret
  exact ⟨qqa0_, by repeat (first | exact Drawn0.refl _ | apply Drawn0.step)⟩
 rw [if_neg c2] at H
 have c2b0 : decide (1 ≤ a0) = false := decide_eq_false c2
 clear c2
 obtain rfl := Option.some.inj H
 go_enter Tryz.func61, Tryz.ntmps61
 go_wp2
 go_ret
 exact ⟨qqa0_, by repeat (first | exact Drawn0.refl _ | apply Drawn0.step)⟩
end Go.Proofs.YtnjcpoojgmpmeaaGreatDoor.PX
namespace Go.Proofs.YtnjcpoojgmpmeaaGreatDoor.Plug
open RowKit YtnjcpoojgmpmeaaGreatDoor YtnjcpoojgmpmeaaGreatDoor.PX YtnjcpoojgmpmeaaGreatDoor.Utf YtnjcpoojgmpmeaaGreatDoorW.PrintWords YtnjcpoojgmpmeaaGreatDoorW.PrintLast YtnjcpoojgmpmeaaGreatDoorW.PrintMore
def rgtsO (f : S29 → Int → Option (Bool × Int)) (m : Bool) : Nat → List S29 → Int → Option (Bool × Int)
 | _, [], left => some (true, left)
 | i, k :: r, left =>
  if m = true ∧ i % 2 = 0 ∧ (flow_isScalar.f k.f0 = some false ∨ k.f2.toList ≠ []) then some (false, left)
  else match f k left with
  | none => none
  | some (b, l) => if b = false then some (false, l) else rgtsO f m (i + 1) r l
def rgtO : Nat → S29 → Int → Int → Option (Bool × Int)
 | 0, _, _, _ => none
 | K + 1, t, deep, left =>
  match flow_isText.f 9 t.f0 t.f1, flow_Name.f t.f2 with
  | some tx, some nm =>
   if 1099511627776 < t.f3.length then none else if left - 1 < 0 then some (false, left - 1) else if t.f0 < 1 then some (false, left - 1) else if 7 < t.f0 then some (false, left - 1) else if tx = false then some (false, left - 1)
   else if (t.f2.toList ≠ [] ∨ t.f0 = 7) ∧ nm = false then some (false, left - 1)
   else if t.f0 ≠ 5 ∧ t.f0 ≠ 6 then some (decide ((t.f3.length : Int) = 0), left - 1)
   else if deep = 64 ∨ (t.f0 = 6 ∧ t.f3.length % 2 ≠ 0) then some (false, left - 1)
   else rgtsO (fun k => rgtO K k (deep + 1)) (decide (t.f0 = 6)) 0 t.f3 (left - 1)
  | _, _ => none
theorem rdT_nth (xs : List S29) (i : Nat) (h : i < xs.length) : rd_T29 xs (i : Int) = xs[i] := by
 unfold rd_T29
 rw [Int.toNat_natCast, List.getD_eq_getElem?_getD, List.getElem?_eq_getElem h]; rfl
theorem rgts_left {f : S29 → Int → Option (Bool × Int)} (hf : ∀ k left b l, f k left = some (b, l) → l ≤ left ∧ (b = true → 0 ≤ l)) (m : Bool) :
  ∀ (r : List S29) (i : Nat) (left : Int) (b : Bool) (l : Int), rgtsO f m i r left = some (b, l) → 0 ≤ left → l ≤ left ∧ (b = true → 0 ≤ l)
 | [], i, left, b, l, h, h0 => by
  rw [rgtsO] at h
  obtain ⟨e1, e2⟩ := Prod.mk.inj (Option.some.inj h)
  exact ⟨by omega, fun _ => by omega⟩
 | k :: r, i, left, b, l, h, h0 => by
  rw [rgtsO] at h
  split at h
  ·
   obtain ⟨e1, e2⟩ := Prod.mk.inj (Option.some.inj h)
   exact ⟨by omega, fun e => by rw [← e1] at e; cases e⟩
  ·
   split at h
   · cases h
   ·
    rename_i b2 l2 hk
    have h1 := hf k left b2 l2 hk
    split at h
    ·
     obtain ⟨e1, e2⟩ := Prod.mk.inj (Option.some.inj h)
     exact ⟨by omega, fun e => by rw [← e1] at e; cases e⟩
    ·
     rename_i hb
     have h2 := h1.2 (by cases b2 <;> simp_all)
     have h3 := rgts_left hf m r (i + 1) l2 b l h h2
     exact ⟨by omega, h3.2⟩
theorem rgt_left : ∀ (K : Nat) (t : S29) (deep left : Int) (b : Bool) (l : Int), rgtO K t deep left = some (b, l) → l ≤ left ∧ (b = true → 0 ≤ l)
 | 0, t, deep, left, b, l, h => by simp [rgtO] at h
 | K + 1, t, deep, left, b, l, h => by
  rw [rgtO] at h
  split at h
  ·
   split at h
   · cases h
   by_cases c1 : left - 1 < 0
   ·
    rw [if_pos c1] at h
    obtain ⟨e1, e2⟩ := Prod.mk.inj (Option.some.inj h)
    exact ⟨by omega, fun e => by rw [← e1] at e; cases e⟩
   rw [if_neg c1] at h
   repeat' split at h
   all_goals first
    | (obtain ⟨e1, e2⟩ := Prod.mk.inj (Option.some.inj h); exact ⟨by omega, fun _ => by omega⟩)
    | (have h3 := rgts_left (fun k left b l => rgt_left K k (deep + 1) left b l) _ _ _ _ _ _ h (by omega); exact ⟨by omega, h3.2⟩)
  · cases h
structure Fw (w0 W : World) (cb tb : Nat) (kd : Int) (tx an : ByteArray) (v : Value) (left : Int) (Z : World) : Prop where
 cnt : Z.heap[cb]? = some (.cells #[.int .i64 left] 92)
 box : Z.heap[tb]? = some (.cells #[.int .i64 kd, .string tx, .string an, v] 29)
 bel : Below w0.heap.size w0 Z
 kb : KeepBut W Z cb none
 lt : w0.heap.size ≤ cb ∧ cb < W.heap.size ∧ W.heap.size ≤ tb
section
variable {w0 W Z Z' : World} {cb tb : Nat} {kd : Int} {tx an : ByteArray} {v : Value} {left : Int}
theorem Fw.cells (h : Fw w0 W cb tb kd tx an v left Z) : Z.cell? ⟨cb, 0, none⟩ = some (.int .i64 left) ∧ Z.cell? ⟨tb, 0, none⟩ = some (.int .i64 kd) ∧ Z.cell? ⟨tb, 1, none⟩ = some (.string tx) ∧ Z.cell? ⟨tb, 2, none⟩ = some (.string an) ∧ Z.cell? ⟨tb, 3, none⟩ = some v ∧ Z.frozen? ⟨cb, 0, none⟩ = false :=
  ⟨(blk_cell h.cnt 0).trans rfl, (blk_cell h.box 0).trans rfl, (blk_cell h.box 1).trans rfl, (blk_cell h.box 2).trans rfl, (blk_cell h.box 3).trans rfl, blk_frozen h.cnt 0⟩
theorem Fw.dec (h : Fw w0 W cb tb kd tx an v left Z) (x : Int) : Fw w0 W cb tb kd tx an v x (Z.setCell ⟨cb, 0, none⟩ (.int .i64 x)) := by
 obtain ⟨l1, l2, l3⟩ := h.lt
 exact ⟨by simpa using blk_set h.cnt 0 (.int .i64 x), (Below.heap_setCell Z ⟨cb, 0, none⟩ _ tb (by show tb ≠ cb; omega)).trans h.box, h.bel.setCell (p := ⟨cb, 0, none⟩) l1 _, h.kb.set_ 0 _, h.lt⟩
theorem Fw.below (h : Fw w0 W cb tb kd tx an v left Z) (hb : Below Z.heap.size Z Z') : Fw w0 W cb tb kd tx an v left Z' :=
  ⟨(hb.block cb (blk_lt h.cnt)).trans h.cnt, (hb.block tb (blk_lt h.box)).trans h.box, h.bel.trans (hb.mono h.bel.size), h.kb.trans (KeepBut.of_below hb cb none) (.inl rfl), h.lt⟩
theorem Fw.call (h : Fw w0 W cb tb kd tx an v left Z) {x : Int} (hc : Z'.heap[cb]? = some (.cells #[.int .i64 x] 92)) (hb : Below w0.heap.size w0 Z') (hk : KeepBut Z Z' cb none) : Fw w0 W cb tb kd tx an v x Z' :=
  ⟨hc, (hk.2 tb (blk_lt h.box) (by have := h.lt; omega) (by simp)).trans h.box, hb, h.kb.trans hk (.inl rfl), h.lt⟩
end
set_option maxHeartbeats 8000000 in
set_option maxRecDepth 100000 in
theorem right_is (w0 : World) (hG : Glob.G w0) (cb : Nat) (hcb : w0.heap.size ≤ cb) :
  ∀ (K : Nat) (t : S29) (deep left : Int) (b : Bool) (left' : Int) (W : World) (A : Option Addr) (c : Nat), Kd.C k29 w0 A t.f3.length t.f3 → t.f3.length ≤ c → Below w0.heap.size w0 W → W.heap[cb]? = some (.cells #[.int .i64 left] 92) → rgtO K t deep left = some (b, left') → 0 ≤ deep → deep ≤ 64 → 0 ≤ left → left ≤ 4096 →
   Calls Tryz.prog 40 #[.pointer (some ⟨cb, 0, none⟩), .agg #[.int .i64 t.f0, .string t.f1, .string t.f2, .slice A t.f3.length c], .int .i64 deep] W fun e W' => e = .returned (.bool b) ∧ Below w0.heap.size w0 W' ∧ W'.heap[cb]? = some (.cells #[.int .i64 left'] 92) ∧ KeepBut W W' cb none := by
 intro K
 induction K with
 | zero => intro t deep left b left' W A c _ _ _ _ h; simp [rgtO] at h
 | succ K ih =>
  intro t deep left b left' W A c hr hc hb hcnt h hd0 hd1 hl0 hl1
  obtain ⟨kd, tt, an, kids⟩ := t
  rw [rgtO] at h
  dsimp only at h hr hc ⊢
  have HR := Lib.hid hr
  have HB := Lib.hid hb
  have HC := Lib.hid hcnt
  have IH := Lib.hid ih
  clear hr hb hcnt ih
  cases htx : flow_isText.f 9 kd tt with
  | none => rw [htx] at h; cases h
  | some tx =>
   cases hnm : flow_Name.f an with
   | none => rw [htx, hnm] at h; cases h
   | some nm =>
    rw [htx, hnm] at h
    dsimp only at h
    by_cases hsz0 : 1099511627776 < kids.length
    case pos => rw [if_pos hsz0] at h; cases h
    rw [if_neg hsz0] at h
    have hsz : kids.length ≤ 1099511627776 := by omega
    clear hsz0
    have HT := Lib.hid htx
    have HN := Lib.hid hnm
    clear htx hnm
    have hw1 : wrap64 (left - 1) = left - 1 := by unfold wrap64; omega
    by_cases c1 : left - 1 < 0
    ·
     rw [if_pos c1] at h
     obtain ⟨e1, e2⟩ := Prod.mk.inj (Option.some.inj h)
     have HE := Lib.hid e1
     subst e2
     have q1 : decide (left - 1 < 0) = true := decide_eq_true c1
     clear h e1 c1
     go_enter Tryz.func40, Tryz.ntmps40
     go_wp2_with (first | ((with_reducible refine gate_dst (N := 4) rfl ?_); refine box_event ?hg (N := 4) ?hd (cs := #[.int .i64 kd, .string tt, .string an, .slice A kids.length c]) (t := 29) ?hr ?_; (case hd => rfl); (case hg => rfl); (case hr => first | (go_simp; done) | (go_simp; rfl)); intro tb ht w1 htb hb1; have HX1 := Lib.hid (Fw.mk (w0 := w0) (W := W) ((hb1.block cb (blk_lt HC.out)).trans HC.out) htb (HB.out.trans (hb1.mono HB.out.size)) (KeepBut.of_below hb1 cb none) ⟨hcb, blk_lt HC.out, by rw [ht]; exact Nat.le_refl _⟩); have HX2 := Lib.hid (HX1.out.dec (left - 1)); clear htb hb1 ht; obtain ⟨x0, x1, x2, x3, x4, x5⟩ := HX1.out.cells; obtain ⟨y0, y1, y2, y3, y4, y5⟩ := HX2.out.cells))
     go_ret
     exact ⟨by rw [← HE.out]; first | done | rfl, HX2.out.bel, HX2.out.cnt, HX2.out.kb⟩
    rw [if_neg c1] at h
    have q1 : decide (left - 1 < 0) = false := decide_eq_false c1
    by_cases c2 : kd < 1
    ·
     rw [if_pos c2] at h
     obtain ⟨e1, e2⟩ := Prod.mk.inj (Option.some.inj h)
     have HE := Lib.hid e1
     subst e2
     have q2 : decide (kd < 1) = true := decide_eq_true c2
     clear h e1 c1 c2
     go_enter Tryz.func40, Tryz.ntmps40
     go_wp2_with (first | ((with_reducible refine gate_dst (N := 4) rfl ?_); refine box_event ?hg (N := 4) ?hd (cs := #[.int .i64 kd, .string tt, .string an, .slice A kids.length c]) (t := 29) ?hr ?_; (case hd => rfl); (case hg => rfl); (case hr => first | (go_simp; done) | (go_simp; rfl)); intro tb ht w1 htb hb1; have HX1 := Lib.hid (Fw.mk (w0 := w0) (W := W) ((hb1.block cb (blk_lt HC.out)).trans HC.out) htb (HB.out.trans (hb1.mono HB.out.size)) (KeepBut.of_below hb1 cb none) ⟨hcb, blk_lt HC.out, by rw [ht]; exact Nat.le_refl _⟩); have HX2 := Lib.hid (HX1.out.dec (left - 1)); clear htb hb1 ht; obtain ⟨x0, x1, x2, x3, x4, x5⟩ := HX1.out.cells; obtain ⟨y0, y1, y2, y3, y4, y5⟩ := HX2.out.cells))
     go_ret
     exact ⟨by rw [← HE.out]; first | done | rfl, HX2.out.bel, HX2.out.cnt, HX2.out.kb⟩
    rw [if_neg c2] at h
    have q2 : decide (kd < 1) = false := decide_eq_false c2
    by_cases c3 : 7 < kd
    ·
     rw [if_pos c3] at h
     obtain ⟨e1, e2⟩ := Prod.mk.inj (Option.some.inj h)
     have HE := Lib.hid e1
     subst e2
     have q3 : decide (kd > 7) = true := decide_eq_true c3
     clear h e1 c1 c2 c3
     go_enter Tryz.func40, Tryz.ntmps40
     go_wp2_with (first | ((with_reducible refine gate_dst (N := 4) rfl ?_); refine box_event ?hg (N := 4) ?hd (cs := #[.int .i64 kd, .string tt, .string an, .slice A kids.length c]) (t := 29) ?hr ?_; (case hd => rfl); (case hg => rfl); (case hr => first | (go_simp; done) | (go_simp; rfl)); intro tb ht w1 htb hb1; have HX1 := Lib.hid (Fw.mk (w0 := w0) (W := W) ((hb1.block cb (blk_lt HC.out)).trans HC.out) htb (HB.out.trans (hb1.mono HB.out.size)) (KeepBut.of_below hb1 cb none) ⟨hcb, blk_lt HC.out, by rw [ht]; exact Nat.le_refl _⟩); have HX2 := Lib.hid (HX1.out.dec (left - 1)); clear htb hb1 ht; obtain ⟨x0, x1, x2, x3, x4, x5⟩ := HX1.out.cells; obtain ⟨y0, y1, y2, y3, y4, y5⟩ := HX2.out.cells))
     go_ret
     exact ⟨by rw [← HE.out]; first | done | rfl, HX2.out.bel, HX2.out.cnt, HX2.out.kb⟩
    rw [if_neg c3] at h
    have q3 : decide (kd > 7) = false := decide_eq_false c3
    cases tx with
    | false =>
     rw [if_pos rfl] at h
     obtain ⟨e1, e2⟩ := Prod.mk.inj (Option.some.inj h)
     have HE := Lib.hid e1
     subst e2
     clear h e1 c1 c2 c3
     go_enter Tryz.func40, Tryz.ntmps40
     go_wp2_with (first | ((with_reducible refine gate_dst (N := 4) rfl ?_); refine box_event ?hg (N := 4) ?hd (cs := #[.int .i64 kd, .string tt, .string an, .slice A kids.length c]) (t := 29) ?hr ?_; (case hd => rfl); (case hg => rfl); (case hr => first | (go_simp; done) | (go_simp; rfl)); intro tb ht w1 htb hb1; have HX1 := Lib.hid (Fw.mk (w0 := w0) (W := W) ((hb1.block cb (blk_lt HC.out)).trans HC.out) htb (HB.out.trans (hb1.mono HB.out.size)) (KeepBut.of_below hb1 cb none) ⟨hcb, blk_lt HC.out, by rw [ht]; exact Nat.le_refl _⟩); have HX2 := Lib.hid (HX1.out.dec (left - 1)); clear htb hb1 ht; obtain ⟨x0, x1, x2, x3, x4, x5⟩ := HX1.out.cells; obtain ⟨y0, y1, y2, y3, y4, y5⟩ := HX2.out.cells) | (go_at_call 59; refine (flow_isText.calls _ _ _ _ _ (hG.below HX2.out.bel) HT.out).mono ?_; rintro e w3 ⟨rfl, hb3⟩; have HX3 := Lib.hid (HX2.out.below hb3); clear hb3 x0 x1 x2 x3 x4 x5 y0 y1 y2 y3 y4 y5; obtain ⟨y0, y1, y2, y3, y4, y5⟩ := HX3.out.cells))
     go_ret
     exact ⟨by rw [← HE.out]; first | done | rfl, HX3.out.bel, HX3.out.cnt, HX3.out.kb⟩
    | true =>
     rw [if_neg (by decide)] at h
     clear c1 c2 c3
     have hna : an.toList ≠ [] ∨ (an.toList = [] ∧ kd = 7) ∨ (an.toList = [] ∧ kd ≠ 7) := by
      by_cases a : an.toList = []
      rotate_left
      · exact .inl a
      by_cases e : kd = 7
      · exact .inr (.inl ⟨a, e⟩)
      exact .inr (.inr ⟨a, e⟩)
     by_cases c4 : (an.toList ≠ [] ∨ kd = 7) ∧ nm = false
     ·
      rw [if_pos c4] at h
      obtain ⟨e1, e2⟩ := Prod.mk.inj (Option.some.inj h)
      have HE := Lib.hid e1
      subst e2
      have hnf := c4.2
      subst hnf
      rcases hna with a4 | ⟨a4, a5⟩ | ⟨a4, a5⟩
      case' inr.inr => exact absurd c4.1 (fun z => z.elim (fun y => y a4) a5)
      case' inl => have p4 : (an.toList = []) = False := eq_false a4; have q4 : (an.toList != []) = true := bne_iff_ne.2 a4; clear a4
      case' inr.inl => have p4 : (an.toList = []) = True := eq_true a4; have p5 : (kd = 7) = True := eq_true a5; have q4 : (an.toList != []) = false := by rw [a4]; rfl
      case' inr.inl => have q5 : (kd == 7) = true := beq_iff_eq.2 a5; clear a4 a5
      all_goals
       clear h e1 c4
       go_enter Tryz.func40, Tryz.ntmps40
       go_wp2_with (first | ((with_reducible refine gate_dst (N := 4) rfl ?_); refine box_event ?hg (N := 4) ?hd (cs := #[.int .i64 kd, .string tt, .string an, .slice A kids.length c]) (t := 29) ?hr ?_; (case hd => rfl); (case hg => rfl); (case hr => first | (go_simp; done) | (go_simp; rfl)); intro tb ht w1 htb hb1; have HX1 := Lib.hid (Fw.mk (w0 := w0) (W := W) ((hb1.block cb (blk_lt HC.out)).trans HC.out) htb (HB.out.trans (hb1.mono HB.out.size)) (KeepBut.of_below hb1 cb none) ⟨hcb, blk_lt HC.out, by rw [ht]; exact Nat.le_refl _⟩); have HX2 := Lib.hid (HX1.out.dec (left - 1)); clear htb hb1 ht; obtain ⟨x0, x1, x2, x3, x4, x5⟩ := HX1.out.cells; obtain ⟨y0, y1, y2, y3, y4, y5⟩ := HX2.out.cells) | (go_at_call 59; refine (flow_isText.calls _ _ _ _ _ (hG.below HX2.out.bel) HT.out).mono ?_; rintro e w3 ⟨rfl, hb3⟩; have HX3 := Lib.hid (HX2.out.below hb3); clear hb3 x0 x1 x2 x3 x4 x5 y0 y1 y2 y3 y4 y5; obtain ⟨y0, y1, y2, y3, y4, y5⟩ := HX3.out.cells) | (go_at_call 60; refine (flow_Name.calls _ _ _ (hG.below HX3.out.bel) HN.out).mono ?_; rintro e w4 ⟨rfl, hb4⟩; have HX4 := Lib.hid (HX3.out.below hb4); clear hb4 y0 y1 y2 y3 y4 y5; obtain ⟨y0, y1, y2, y3, y4, y5⟩ := HX4.out.cells))
       go_ret
       exact ⟨by rw [← HE.out]; first | done | rfl, HX4.out.bel, HX4.out.cnt, HX4.out.kb⟩
     rw [if_neg c4] at h
     have hp : (an.toList ≠ [] ∧ nm = true) ∨ (an.toList = [] ∧ kd ≠ 7) := by
      rcases hna with a4 | ⟨a4, a5⟩ | ⟨a4, a5⟩
      · exact .inl ⟨a4, by cases nm with | true => rfl | false => exact absurd ⟨.inl a4, rfl⟩ c4⟩
      ·
       refine absurd ⟨.inr a5, ?_⟩ c4
       have h2 := HN.out
       unfold flow_Name.f at h2
       rw [if_pos a4] at h2
       exact (Option.some.inj h2).symm
      · exact .inr ⟨a4, a5⟩
     clear hna c4
     by_cases c5 : kd ≠ 5 ∧ kd ≠ 6
     ·
      rw [if_pos c5] at h
      obtain ⟨e1, e2⟩ := Prod.mk.inj (Option.some.inj h)
      have HE := Lib.hid e1
      subst e2
      have q8 : (kd != 5) = true := bne_iff_ne.2 c5.1
      have q9 : (kd != 6) = true := bne_iff_ne.2 c5.2
      have p8 : (kd = 5) = False := eq_false c5.1
      have p9 : (kd = 6) = False := eq_false c5.2
      rcases hp with ⟨a4, a5⟩ | ⟨a4, a5⟩
      case' inl => subst a5; have p4 : (an.toList = []) = False := eq_false a4; have q4 : (an.toList != []) = true := bne_iff_ne.2 a4; clear a4
      case' inr => have p4 : (an.toList = []) = True := eq_true a4; have p5 : (kd = 7) = False := eq_false a5; have q4 : (an.toList != []) = false := by rw [a4]; rfl
      case' inr => have q5 : (kd == 7) = false := beq_eq_false_iff_ne.2 a5; clear a4 a5
      case inl =>
       clear h e1 c5
       go_enter Tryz.func40, Tryz.ntmps40
       go_wp2_with (first | ((with_reducible refine gate_dst (N := 4) rfl ?_); refine box_event ?hg (N := 4) ?hd (cs := #[.int .i64 kd, .string tt, .string an, .slice A kids.length c]) (t := 29) ?hr ?_; (case hd => rfl); (case hg => rfl); (case hr => first | (go_simp; done) | (go_simp; rfl)); intro tb ht w1 htb hb1; have HX1 := Lib.hid (Fw.mk (w0 := w0) (W := W) ((hb1.block cb (blk_lt HC.out)).trans HC.out) htb (HB.out.trans (hb1.mono HB.out.size)) (KeepBut.of_below hb1 cb none) ⟨hcb, blk_lt HC.out, by rw [ht]; exact Nat.le_refl _⟩); have HX2 := Lib.hid (HX1.out.dec (left - 1)); clear htb hb1 ht; obtain ⟨x0, x1, x2, x3, x4, x5⟩ := HX1.out.cells; obtain ⟨y0, y1, y2, y3, y4, y5⟩ := HX2.out.cells) | (go_at_call 59; refine (flow_isText.calls _ _ _ _ _ (hG.below HX2.out.bel) HT.out).mono ?_; rintro e w3 ⟨rfl, hb3⟩; have HX3 := Lib.hid (HX2.out.below hb3); clear hb3 x0 x1 x2 x3 x4 x5 y0 y1 y2 y3 y4 y5; obtain ⟨y0, y1, y2, y3, y4, y5⟩ := HX3.out.cells) | (go_at_call 60; refine (flow_Name.calls _ _ _ (hG.below HX3.out.bel) HN.out).mono ?_; rintro e w4 ⟨rfl, hb4⟩; have HX4 := Lib.hid (HX3.out.below hb4); clear hb4 y0 y1 y2 y3 y4 y5; obtain ⟨y0, y1, y2, y3, y4, y5⟩ := HX4.out.cells))
       go_ret
       exact ⟨by rw [← HE.out]; first | done | rfl, HX4.out.bel, HX4.out.cnt, HX4.out.kb⟩
      case inr =>
       clear h e1 c5
       go_enter Tryz.func40, Tryz.ntmps40
       go_wp2_with (first | ((with_reducible refine gate_dst (N := 4) rfl ?_); refine box_event ?hg (N := 4) ?hd (cs := #[.int .i64 kd, .string tt, .string an, .slice A kids.length c]) (t := 29) ?hr ?_; (case hd => rfl); (case hg => rfl); (case hr => first | (go_simp; done) | (go_simp; rfl)); intro tb ht w1 htb hb1; have HX1 := Lib.hid (Fw.mk (w0 := w0) (W := W) ((hb1.block cb (blk_lt HC.out)).trans HC.out) htb (HB.out.trans (hb1.mono HB.out.size)) (KeepBut.of_below hb1 cb none) ⟨hcb, blk_lt HC.out, by rw [ht]; exact Nat.le_refl _⟩); have HX2 := Lib.hid (HX1.out.dec (left - 1)); clear htb hb1 ht; obtain ⟨x0, x1, x2, x3, x4, x5⟩ := HX1.out.cells; obtain ⟨y0, y1, y2, y3, y4, y5⟩ := HX2.out.cells) | (go_at_call 59; refine (flow_isText.calls _ _ _ _ _ (hG.below HX2.out.bel) HT.out).mono ?_; rintro e w3 ⟨rfl, hb3⟩; have HX3 := Lib.hid (HX2.out.below hb3); clear hb3 x0 x1 x2 x3 x4 x5 y0 y1 y2 y3 y4 y5; obtain ⟨y0, y1, y2, y3, y4, y5⟩ := HX3.out.cells) | (go_at_call 60; refine (flow_Name.calls _ _ _ (hG.below HX3.out.bel) HN.out).mono ?_; rintro e w4 ⟨rfl, hb4⟩; have HX4 := Lib.hid (HX3.out.below hb4); clear hb4 y0 y1 y2 y3 y4 y5; obtain ⟨y0, y1, y2, y3, y4, y5⟩ := HX4.out.cells))
       go_ret
       exact ⟨by rw [← HE.out]; first | done | rfl, HX3.out.bel, HX3.out.cnt, HX3.out.kb⟩
     rw [if_neg c5] at h
     have hk : kd = 5 ∨ kd = 6 := by omega
     clear c5
     by_cases c6 : deep = 64 ∨ (kd = 6 ∧ kids.length % 2 ≠ 0)
     ·
      rw [if_pos c6] at h
      obtain ⟨e1, e2⟩ := Prod.mk.inj (Option.some.inj h)
      have HE := Lib.hid e1
      subst e2
      clear h e1
      have hd : deep = 64 ∨ (deep ≠ 64 ∧ kd = 6 ∧ kids.length % 2 ≠ 0) := by
       by_cases e : deep = 64
       · exact .inl e
       exact .inr ⟨e, c6.resolve_left e⟩
      clear c6
      rcases hk with e5 | e5
      ·
       have hd64 := hd.resolve_right (fun e => by have := e.2.1; omega)
       subst hd64
       have q5 : (kd == 7) = false := by rw [e5]; rfl
       have p5 : (kd = 7) = False := eq_false (by rw [e5]; decide)
       have q8 : (kd != 5) = false := by rw [e5]; rfl
       have q9 : (kd != 6) = true := by rw [e5]; rfl
       have q10 : (kd == 6) = false := by rw [e5]; rfl
       have p8 : (kd = 5) = True := eq_true e5
       have p9 : (kd = 6) = False := eq_false (by rw [e5]; decide)
       clear hd
       rcases hp with ⟨a4, a5⟩ | ⟨a4, a5⟩
       ·
        subst a5
        have p4 : (an.toList = []) = False := eq_false a4
        have q4 : (an.toList != []) = true := bne_iff_ne.2 a4
        clear a4 e5
        go_enter Tryz.func40, Tryz.ntmps40
        go_wp2_with (first | ((with_reducible refine gate_dst (N := 4) rfl ?_); refine box_event ?hg (N := 4) ?hd (cs := #[.int .i64 kd, .string tt, .string an, .slice A kids.length c]) (t := 29) ?hr ?_; (case hd => rfl); (case hg => rfl); (case hr => first | (go_simp; done) | (go_simp; rfl)); intro tb ht w1 htb hb1; have HX1 := Lib.hid (Fw.mk (w0 := w0) (W := W) ((hb1.block cb (blk_lt HC.out)).trans HC.out) htb (HB.out.trans (hb1.mono HB.out.size)) (KeepBut.of_below hb1 cb none) ⟨hcb, blk_lt HC.out, by rw [ht]; exact Nat.le_refl _⟩); have HX2 := Lib.hid (HX1.out.dec (left - 1)); clear htb hb1 ht; obtain ⟨x0, x1, x2, x3, x4, x5⟩ := HX1.out.cells; obtain ⟨y0, y1, y2, y3, y4, y5⟩ := HX2.out.cells) | (go_at_call 59; refine (flow_isText.calls _ _ _ _ _ (hG.below HX2.out.bel) HT.out).mono ?_; rintro e w3 ⟨rfl, hb3⟩; have HX3 := Lib.hid (HX2.out.below hb3); clear hb3 x0 x1 x2 x3 x4 x5 y0 y1 y2 y3 y4 y5; obtain ⟨y0, y1, y2, y3, y4, y5⟩ := HX3.out.cells) | (go_at_call 60; refine (flow_Name.calls _ _ _ (hG.below HX3.out.bel) HN.out).mono ?_; rintro e w4 ⟨rfl, hb4⟩; have HX4 := Lib.hid (HX3.out.below hb4); clear hb4 y0 y1 y2 y3 y4 y5; obtain ⟨y0, y1, y2, y3, y4, y5⟩ := HX4.out.cells))
        go_ret
        exact ⟨by rw [← HE.out]; first | done | rfl, HX4.out.bel, HX4.out.cnt, HX4.out.kb⟩
       ·
        have p4 : (an.toList = []) = True := eq_true a4
        have q4 : (an.toList != []) = false := by rw [a4]; rfl
        clear a4 a5 e5
        go_enter Tryz.func40, Tryz.ntmps40
        go_wp2_with (first | ((with_reducible refine gate_dst (N := 4) rfl ?_); refine box_event ?hg (N := 4) ?hd (cs := #[.int .i64 kd, .string tt, .string an, .slice A kids.length c]) (t := 29) ?hr ?_; (case hd => rfl); (case hg => rfl); (case hr => first | (go_simp; done) | (go_simp; rfl)); intro tb ht w1 htb hb1; have HX1 := Lib.hid (Fw.mk (w0 := w0) (W := W) ((hb1.block cb (blk_lt HC.out)).trans HC.out) htb (HB.out.trans (hb1.mono HB.out.size)) (KeepBut.of_below hb1 cb none) ⟨hcb, blk_lt HC.out, by rw [ht]; exact Nat.le_refl _⟩); have HX2 := Lib.hid (HX1.out.dec (left - 1)); clear htb hb1 ht; obtain ⟨x0, x1, x2, x3, x4, x5⟩ := HX1.out.cells; obtain ⟨y0, y1, y2, y3, y4, y5⟩ := HX2.out.cells) | (go_at_call 59; refine (flow_isText.calls _ _ _ _ _ (hG.below HX2.out.bel) HT.out).mono ?_; rintro e w3 ⟨rfl, hb3⟩; have HX3 := Lib.hid (HX2.out.below hb3); clear hb3 x0 x1 x2 x3 x4 x5 y0 y1 y2 y3 y4 y5; obtain ⟨y0, y1, y2, y3, y4, y5⟩ := HX3.out.cells) | (go_at_call 60; refine (flow_Name.calls _ _ _ (hG.below HX3.out.bel) HN.out).mono ?_; rintro e w4 ⟨rfl, hb4⟩; have HX4 := Lib.hid (HX3.out.below hb4); clear hb4 y0 y1 y2 y3 y4 y5; obtain ⟨y0, y1, y2, y3, y4, y5⟩ := HX4.out.cells))
        go_ret
        exact ⟨by rw [← HE.out]; first | done | rfl, HX3.out.bel, HX3.out.cnt, HX3.out.kb⟩
      ·
       have q5 : (kd == 7) = false := by rw [e5]; rfl
       have p5 : (kd = 7) = False := eq_false (by rw [e5]; decide)
       have q8 : (kd != 5) = true := by rw [e5]; rfl
       have q9 : (kd != 6) = false := by rw [e5]; rfl
       have q10 : (kd == 6) = true := by rw [e5]; rfl
       have p8 : (kd = 5) = False := eq_false (by rw [e5]; decide)
       have p9 : (kd = 6) = True := eq_true e5
       rcases hd with hd | ⟨hd, e6, ho⟩
       case' inl => subst hd
       case' inr => have q6 : (deep == 64) = false := beq_eq_false_iff_ne.2 hd; have p6 : (deep = 64) = False := eq_false hd; have q7 : (kids.length : Int).tmod 2 = 1 := by { rw [Int.tmod_eq_emod_of_nonneg (by omega)]; omega }
       case' inr => clear hd ho e6
       all_goals
        rcases hp with ⟨a4, a5⟩ | ⟨a4, a5⟩
        ·
         subst a5
         have p4 : (an.toList = []) = False := eq_false a4
         have q4 : (an.toList != []) = true := bne_iff_ne.2 a4
         clear a4 e5
         go_enter Tryz.func40, Tryz.ntmps40
         go_wp2_with (first | ((with_reducible refine gate_dst (N := 4) rfl ?_); refine box_event ?hg (N := 4) ?hd (cs := #[.int .i64 kd, .string tt, .string an, .slice A kids.length c]) (t := 29) ?hr ?_; (case hd => rfl); (case hg => rfl); (case hr => first | (go_simp; done) | (go_simp; rfl)); intro tb ht w1 htb hb1; have HX1 := Lib.hid (Fw.mk (w0 := w0) (W := W) ((hb1.block cb (blk_lt HC.out)).trans HC.out) htb (HB.out.trans (hb1.mono HB.out.size)) (KeepBut.of_below hb1 cb none) ⟨hcb, blk_lt HC.out, by rw [ht]; exact Nat.le_refl _⟩); have HX2 := Lib.hid (HX1.out.dec (left - 1)); clear htb hb1 ht; obtain ⟨x0, x1, x2, x3, x4, x5⟩ := HX1.out.cells; obtain ⟨y0, y1, y2, y3, y4, y5⟩ := HX2.out.cells) | (go_at_call 59; refine (flow_isText.calls _ _ _ _ _ (hG.below HX2.out.bel) HT.out).mono ?_; rintro e w3 ⟨rfl, hb3⟩; have HX3 := Lib.hid (HX2.out.below hb3); clear hb3 x0 x1 x2 x3 x4 x5 y0 y1 y2 y3 y4 y5; obtain ⟨y0, y1, y2, y3, y4, y5⟩ := HX3.out.cells) | (go_at_call 60; refine (flow_Name.calls _ _ _ (hG.below HX3.out.bel) HN.out).mono ?_; rintro e w4 ⟨rfl, hb4⟩; have HX4 := Lib.hid (HX3.out.below hb4); clear hb4 y0 y1 y2 y3 y4 y5; obtain ⟨y0, y1, y2, y3, y4, y5⟩ := HX4.out.cells))
         go_ret
         exact ⟨by rw [← HE.out]; first | done | rfl, HX4.out.bel, HX4.out.cnt, HX4.out.kb⟩
        ·
         have p4 : (an.toList = []) = True := eq_true a4
         have q4 : (an.toList != []) = false := by rw [a4]; rfl
         clear a4 a5 e5
         go_enter Tryz.func40, Tryz.ntmps40
         go_wp2_with (first | ((with_reducible refine gate_dst (N := 4) rfl ?_); refine box_event ?hg (N := 4) ?hd (cs := #[.int .i64 kd, .string tt, .string an, .slice A kids.length c]) (t := 29) ?hr ?_; (case hd => rfl); (case hg => rfl); (case hr => first | (go_simp; done) | (go_simp; rfl)); intro tb ht w1 htb hb1; have HX1 := Lib.hid (Fw.mk (w0 := w0) (W := W) ((hb1.block cb (blk_lt HC.out)).trans HC.out) htb (HB.out.trans (hb1.mono HB.out.size)) (KeepBut.of_below hb1 cb none) ⟨hcb, blk_lt HC.out, by rw [ht]; exact Nat.le_refl _⟩); have HX2 := Lib.hid (HX1.out.dec (left - 1)); clear htb hb1 ht; obtain ⟨x0, x1, x2, x3, x4, x5⟩ := HX1.out.cells; obtain ⟨y0, y1, y2, y3, y4, y5⟩ := HX2.out.cells) | (go_at_call 59; refine (flow_isText.calls _ _ _ _ _ (hG.below HX2.out.bel) HT.out).mono ?_; rintro e w3 ⟨rfl, hb3⟩; have HX3 := Lib.hid (HX2.out.below hb3); clear hb3 x0 x1 x2 x3 x4 x5 y0 y1 y2 y3 y4 y5; obtain ⟨y0, y1, y2, y3, y4, y5⟩ := HX3.out.cells) | (go_at_call 60; refine (flow_Name.calls _ _ _ (hG.below HX3.out.bel) HN.out).mono ?_; rintro e w4 ⟨rfl, hb4⟩; have HX4 := Lib.hid (HX3.out.below hb4); clear hb4 y0 y1 y2 y3 y4 y5; obtain ⟨y0, y1, y2, y3, y4, y5⟩ := HX4.out.cells))
         go_ret
         exact ⟨by rw [← HE.out]; first | done | rfl, HX3.out.bel, HX3.out.cnt, HX3.out.kb⟩
     rw [if_neg c6] at h
     have hd : deep ≠ 64 := fun e => c6 (.inl e)
     have he : kd = 6 → kids.length % 2 = 0 := fun e => Decidable.byContradiction fun z => c6 (.inr ⟨e, z⟩)
     have q6 : (deep == 64) = false := beq_eq_false_iff_ne.2 hd
     have p6 : (deep = 64) = False := eq_false hd
     have HS := Lib.hid h
     clear h c6
     obtain ⟨M, hM0⟩ : ∃ M, decide (kd = 6) = M := ⟨_, rfl⟩
     rw [hM0] at HS
     have q10 : (kd == 6) = M := by rw [← hM0]; by_cases e : kd = 6 <;> simp [e]
     have q5 : (kd == 7) = false := beq_eq_false_iff_ne.2 (by omega)
     have p5 : (kd = 7) = False := eq_false (by omega)
     have hwd : wrap64 (deep + 1) = deep + 1 := by unfold wrap64; omega
     have hk2 : ((kd != 5) = false ∧ M = false ∧ (kd = 6) = False ∧ (kd != 6) = true) ∨ ((kd != 5) = true ∧ M = true ∧ (kd = 5) = False ∧ (kd != 6) = false ∧ (kids.length : Int).tmod 2 = 0) := by
      rcases hk with e | e
      · exact .inl ⟨by rw [e]; rfl, by rw [← hM0, e]; rfl, eq_false (by omega), by rw [e]; rfl⟩
      · exact .inr ⟨by rw [e]; rfl, by rw [← hM0, e]; rfl, eq_false (by omega), by rw [e]; rfl, by { rw [Int.tmod_eq_emod_of_nonneg (by omega)]; have := he e; omega }⟩
     have hd64 : deep + 1 ≤ 64 := by omega
     clear hk hM0 he hd
     rcases hk2 with ⟨q8, eM, p8, q9⟩ | ⟨q8, eM, p8, q9, q7⟩
     ·
      subst eM
      rcases hp with ⟨a4, a5⟩ | ⟨a4, a5⟩
      case' inl => subst a5; have p4 : (an.toList = []) = False := eq_false a4; have q4 : (an.toList != []) = true := bne_iff_ne.2 a4; clear a4
      case' inr => have p4 : (an.toList = []) = True := eq_true a4; have q4 : (an.toList != []) = false := by rw [a4]; rfl
      case' inr => clear a4 a5
      all_goals
       go_enter Tryz.func40, Tryz.ntmps40
       go_wp2_with (first | ((with_reducible refine gate_dst (N := 4) rfl ?_); refine box_event ?hg (N := 4) ?hd (cs := #[.int .i64 kd, .string tt, .string an, .slice A kids.length c]) (t := 29) ?hr ?_; (case hd => rfl); (case hg => rfl); (case hr => first | (go_simp; done) | (go_simp; rfl)); intro tb ht w1 htb hb1; have HX1 := Lib.hid (Fw.mk (w0 := w0) (W := W) ((hb1.block cb (blk_lt HC.out)).trans HC.out) htb (HB.out.trans (hb1.mono HB.out.size)) (KeepBut.of_below hb1 cb none) ⟨hcb, blk_lt HC.out, by rw [ht]; exact Nat.le_refl _⟩); have HX2 := Lib.hid (HX1.out.dec (left - 1)); clear htb hb1 ht; obtain ⟨x0, x1, x2, x3, x4, x5⟩ := HX1.out.cells; obtain ⟨y0, y1, y2, y3, y4, y5⟩ := HX2.out.cells) | (go_at_call 59; refine (flow_isText.calls _ _ _ _ _ (hG.below HX2.out.bel) HT.out).mono ?_; rintro e w3 ⟨rfl, hb3⟩; have HX3 := Lib.hid (HX2.out.below hb3); clear hb3 x0 x1 x2 x3 x4 x5 y0 y1 y2 y3 y4 y5; obtain ⟨y0, y1, y2, y3, y4, y5⟩ := HX3.out.cells) | (go_at_call 60; refine (flow_Name.calls _ _ _ (hG.below HX3.out.bel) HN.out).mono ?_; rintro e w4 ⟨rfl, hb4⟩; have HX4 := Lib.hid (HX3.out.below hb4); clear hb4 y0 y1 y2 y3 y4 y5; obtain ⟨y0, y1, y2, y3, y4, y5⟩ := HX4.out.cells))
       first | have HX := HX4 | have HX := HX3
       clear y0 y1 y2 y3 y4 y5 HX1 HX2 HT HN HC HB
       go_loopw [83] (fun v wr => ∃ (j : Nat) (lf : Int), v = .int .i64 j ∧ j ≤ kids.length ∧ 0 ≤ lf ∧ lf ≤ 4096 ∧ Hid (rgtsO (fun k => rgtO K k (deep + 1)) false j (kids.drop j) lf = some (b, left')) ∧ Hid (Fw w0 W cb tb kd tt an (.slice A kids.length c) lf wr)) (fun v _ => kids.length - (intOf v).toNat)
       case atStart => exact ⟨0, _, rfl, by omega, by have := of_decide_eq_false q1; omega, by omega, HS, HX⟩
       case round =>
        clear HX HS
        obtain ⟨j, lf, rfl, hj, hl2, hl3, HSR, HXR⟩ := hrel
        obtain ⟨x0, x1, x2, x3, x4, x5⟩ := HXR.out.cells
        by_cases hlj : j < kids.length
        rotate_left
        ·
         have hc1 : decide ((j : Int) < (kids.length : Int)) = false := decide_eq_false (by omega)
         have hst := HSR.out
         rw [List.drop_of_length_le (by omega), rgtsO] at hst
         obtain ⟨e1, e2⟩ := Prod.mk.inj (Option.some.inj hst)
         have HE := Lib.hid e1
         subst e2
         clear hst e1 HSR
         go_wp2_with (fail)
         go_ret
         exact ⟨by rw [← HE.out]; first | done | rfl, HXR.out.bel, HXR.out.cnt, HXR.out.kb⟩
        have hc1 : decide ((j : Int) < (kids.length : Int)) = true := decide_eq_true (by omega)
        obtain ⟨bd, A3, c3, eA, y0, y1, y2, y3, hc3, hC3⟩ := at_T29 HR.out (j : Int) (by omega) (by omega)
        subst eA
        have y0 := (HXR.out.bel.cell (World.block_lt_of_cell? w0 _ y0)).trans y0
        have y1 := (HXR.out.bel.cell (World.block_lt_of_cell? w0 _ y1)).trans y1
        have y2 := (HXR.out.bel.cell (World.block_lt_of_cell? w0 _ y2)).trans y2
        have y3 := (HXR.out.bel.cell (World.block_lt_of_cell? w0 _ y3)).trans y3
        have hst := HSR.out
        rw [List.drop_eq_getElem_cons hlj, ← rdT_nth kids j hlj, rgtsO] at hst
        rw [Int.toNat_natCast] at y0 y1 y2 y3
        generalize rd_T29 kids (j : Int) = k at *
        obtain ⟨kk, kt, ka, kkids⟩ := k
        dsimp only at y0 y1 y2 y3 hc3 hC3 hst
        have HLJ := Lib.hid hlj
        have HC3 := Lib.hid hC3
        have p6 : (0 ≤ (j : Int)) = True := eq_true (by omega)
        have p7 : ((j : Int) < (kids.length : Int)) = True := eq_true (by omega)
        have HX8 := Lib.hid (HXR.out.below (below_alloc (Below.refl _ _) (.cells #[.int .i64 kk, .string kt, .string ka, .slice A3 kkids.length c3] 29)))
        have HKB := Lib.hid (blk_new wr (.cells #[.int .i64 kk, .string kt, .string ka, .slice A3 kkids.length c3] 29))
        obtain ⟨z0, z1, z2, z3, z4, z5⟩ := HX8.out.cells
        have u0 := (blk_cell HKB.out 0).trans rfl
        have u1 := (blk_cell HKB.out 1).trans rfl
        have u2 := (blk_cell HKB.out 2).trans rfl
        have u3 := (blk_cell HKB.out 3).trans rfl
        clear hC3 HSR
        rw [if_neg (by simp)] at hst
        obtain ⟨q, hq⟩ : ∃ q, rgtO K ⟨kk, kt, ka, kkids⟩ (deep + 1) lf = some q := by
         cases hv : rgtO K ⟨kk, kt, ka, kkids⟩ (deep + 1) lf with
         | none => rw [hv] at hst; cases hst
         | some q => exact ⟨q, rfl⟩
        rw [hq] at hst
        obtain ⟨b2, l2⟩ := q
        dsimp only at hst
        have hlf := rgt_left K ⟨kk, kt, ka, kkids⟩ (deep + 1) lf b2 l2 hq
        have HQ := Lib.hid hq
        clear hq
        cases b2 with
        | false =>
         rw [if_pos rfl] at hst
         obtain ⟨e1, e2⟩ := Prod.mk.inj (Option.some.inj hst)
         have HE := Lib.hid e1
         subst e2
         clear hst e1 hlf
         go_wp2_with (first | (go_at_call 40; refine (IH.out ⟨kk, kt, ka, kkids⟩ (deep + 1) lf _ l2 _ (A3) c3 HC3.out hc3 HX8.out.bel HX8.out.cnt HQ.out (by omega) hd64 hl2 hl3).mono ?_; rintro e w10 ⟨rfl, hb10, hc10, hk10⟩; have HXA := Lib.hid (HX8.out.call hc10 hb10 hk10); clear hb10 hc10 hk10))
         go_ret
         exact ⟨by rw [← HE.out]; first | done | rfl, HXA.out.bel, HXA.out.cnt, HXA.out.kb⟩
        | true =>
         rw [if_neg (by decide)] at hst
         have HN2 := Lib.hid hst
         have hl4 := hlf.2 rfl
         have hl5 := hlf.1
         clear hst hlf
         go_wp2_with (first | (go_at_call 40; refine (IH.out ⟨kk, kt, ka, kkids⟩ (deep + 1) lf _ l2 _ (A3) c3 HC3.out hc3 HX8.out.bel HX8.out.cnt HQ.out (by omega) hd64 hl2 hl3).mono ?_; rintro e w10 ⟨rfl, hb10, hc10, hk10⟩; have HXA := Lib.hid (HX8.out.call hc10 hb10 hk10); clear hb10 hc10 hk10))
         go_roundw
         case rel => exact ⟨j + 1, l2, by go_num, HLJ.out, hl4, by omega, HN2, HXA⟩
         case measure => have := HLJ.out; simp [intOf]; omega
     ·
      subst eM
      rcases hp with ⟨a4, a5⟩ | ⟨a4, a5⟩
      case' inl => subst a5; have p4 : (an.toList = []) = False := eq_false a4; have q4 : (an.toList != []) = true := bne_iff_ne.2 a4; clear a4
      case' inr => have p4 : (an.toList = []) = True := eq_true a4; have q4 : (an.toList != []) = false := by rw [a4]; rfl
      case' inr => clear a4 a5
      all_goals
       go_enter Tryz.func40, Tryz.ntmps40
       go_wp2_with (first | ((with_reducible refine gate_dst (N := 4) rfl ?_); refine box_event ?hg (N := 4) ?hd (cs := #[.int .i64 kd, .string tt, .string an, .slice A kids.length c]) (t := 29) ?hr ?_; (case hd => rfl); (case hg => rfl); (case hr => first | (go_simp; done) | (go_simp; rfl)); intro tb ht w1 htb hb1; have HX1 := Lib.hid (Fw.mk (w0 := w0) (W := W) ((hb1.block cb (blk_lt HC.out)).trans HC.out) htb (HB.out.trans (hb1.mono HB.out.size)) (KeepBut.of_below hb1 cb none) ⟨hcb, blk_lt HC.out, by rw [ht]; exact Nat.le_refl _⟩); have HX2 := Lib.hid (HX1.out.dec (left - 1)); clear htb hb1 ht; obtain ⟨x0, x1, x2, x3, x4, x5⟩ := HX1.out.cells; obtain ⟨y0, y1, y2, y3, y4, y5⟩ := HX2.out.cells) | (go_at_call 59; refine (flow_isText.calls _ _ _ _ _ (hG.below HX2.out.bel) HT.out).mono ?_; rintro e w3 ⟨rfl, hb3⟩; have HX3 := Lib.hid (HX2.out.below hb3); clear hb3 x0 x1 x2 x3 x4 x5 y0 y1 y2 y3 y4 y5; obtain ⟨y0, y1, y2, y3, y4, y5⟩ := HX3.out.cells) | (go_at_call 60; refine (flow_Name.calls _ _ _ (hG.below HX3.out.bel) HN.out).mono ?_; rintro e w4 ⟨rfl, hb4⟩; have HX4 := Lib.hid (HX3.out.below hb4); clear hb4 y0 y1 y2 y3 y4 y5; obtain ⟨y0, y1, y2, y3, y4, y5⟩ := HX4.out.cells))
       first | have HX := HX4 | have HX := HX3
       clear y0 y1 y2 y3 y4 y5 HX1 HX2 HT HN HC HB
       go_loopw [83] (fun v wr => ∃ (j : Nat) (lf : Int), v = .int .i64 j ∧ j ≤ kids.length ∧ 0 ≤ lf ∧ lf ≤ 4096 ∧ Hid (rgtsO (fun k => rgtO K k (deep + 1)) true j (kids.drop j) lf = some (b, left')) ∧ Hid (Fw w0 W cb tb kd tt an (.slice A kids.length c) lf wr)) (fun v _ => kids.length - (intOf v).toNat)
       case atStart => exact ⟨0, _, rfl, by omega, by have := of_decide_eq_false q1; omega, by omega, HS, HX⟩
       case round =>
        clear HX HS
        obtain ⟨j, lf, rfl, hj, hl2, hl3, HSR, HXR⟩ := hrel
        obtain ⟨x0, x1, x2, x3, x4, x5⟩ := HXR.out.cells
        by_cases hlj : j < kids.length
        rotate_left
        ·
         have hc1 : decide ((j : Int) < (kids.length : Int)) = false := decide_eq_false (by omega)
         have hst := HSR.out
         rw [List.drop_of_length_le (by omega), rgtsO] at hst
         obtain ⟨e1, e2⟩ := Prod.mk.inj (Option.some.inj hst)
         have HE := Lib.hid e1
         subst e2
         clear hst e1 HSR
         go_wp2_with (fail)
         go_ret
         exact ⟨by rw [← HE.out]; first | done | rfl, HXR.out.bel, HXR.out.cnt, HXR.out.kb⟩
        have hc1 : decide ((j : Int) < (kids.length : Int)) = true := decide_eq_true (by omega)
        obtain ⟨bd, A3, c3, eA, y0, y1, y2, y3, hc3, hC3⟩ := at_T29 HR.out (j : Int) (by omega) (by omega)
        subst eA
        have y0 := (HXR.out.bel.cell (World.block_lt_of_cell? w0 _ y0)).trans y0
        have y1 := (HXR.out.bel.cell (World.block_lt_of_cell? w0 _ y1)).trans y1
        have y2 := (HXR.out.bel.cell (World.block_lt_of_cell? w0 _ y2)).trans y2
        have y3 := (HXR.out.bel.cell (World.block_lt_of_cell? w0 _ y3)).trans y3
        have hst := HSR.out
        rw [List.drop_eq_getElem_cons hlj, ← rdT_nth kids j hlj, rgtsO] at hst
        rw [Int.toNat_natCast] at y0 y1 y2 y3
        generalize rd_T29 kids (j : Int) = k at *
        obtain ⟨kk, kt, ka, kkids⟩ := k
        dsimp only at y0 y1 y2 y3 hc3 hC3 hst
        have HLJ := Lib.hid hlj
        have HC3 := Lib.hid hC3
        have p6 : (0 ≤ (j : Int)) = True := eq_true (by omega)
        have p7 : ((j : Int) < (kids.length : Int)) = True := eq_true (by omega)
        have HX8 := Lib.hid (HXR.out.below (below_alloc (Below.refl _ _) (.cells #[.int .i64 kk, .string kt, .string ka, .slice A3 kkids.length c3] 29)))
        have HKB := Lib.hid (blk_new wr (.cells #[.int .i64 kk, .string kt, .string ka, .slice A3 kkids.length c3] 29))
        obtain ⟨z0, z1, z2, z3, z4, z5⟩ := HX8.out.cells
        have u0 := (blk_cell HKB.out 0).trans rfl
        have u1 := (blk_cell HKB.out 1).trans rfl
        have u2 := (blk_cell HKB.out 2).trans rfl
        have u3 := (blk_cell HKB.out 3).trans rfl
        clear hC3 HSR
        have hsc : ∃ sc, flow_isScalar.f kk = some sc := by unfold flow_isScalar.f; first | exact ⟨_, rfl⟩ | (split <;> exact ⟨_, rfl⟩)
        obtain ⟨sc, hsc⟩ := hsc
        by_cases hpj : j % 2 = 0
        rotate_left
        ·
         have r7 : (j : Int).tmod 2 = 1 := by { rw [Int.tmod_eq_emod_of_nonneg (by omega)]; omega }
         rw [if_neg (fun e => hpj e.2.1)] at hst
         clear hpj hsc
         obtain ⟨q, hq⟩ : ∃ q, rgtO K ⟨kk, kt, ka, kkids⟩ (deep + 1) lf = some q := by
          cases hv : rgtO K ⟨kk, kt, ka, kkids⟩ (deep + 1) lf with
          | none => rw [hv] at hst; cases hst
          | some q => exact ⟨q, rfl⟩
         rw [hq] at hst
         obtain ⟨b2, l2⟩ := q
         dsimp only at hst
         have hlf := rgt_left K ⟨kk, kt, ka, kkids⟩ (deep + 1) lf b2 l2 hq
         have HQ := Lib.hid hq
         clear hq
         cases b2 with
         | false =>
          rw [if_pos rfl] at hst
          obtain ⟨e1, e2⟩ := Prod.mk.inj (Option.some.inj hst)
          have HE := Lib.hid e1
          subst e2
          clear hst e1 hlf
          go_wp2_with (first | (go_at_call 40; refine (IH.out ⟨kk, kt, ka, kkids⟩ (deep + 1) lf _ l2 _ (A3) c3 HC3.out hc3 HX8.out.bel HX8.out.cnt HQ.out (by omega) hd64 hl2 hl3).mono ?_; rintro e w10 ⟨rfl, hb10, hc10, hk10⟩; have HXA := Lib.hid (HX8.out.call hc10 hb10 hk10); clear hb10 hc10 hk10))
          go_ret
          exact ⟨by rw [← HE.out]; first | done | rfl, HXA.out.bel, HXA.out.cnt, HXA.out.kb⟩
         | true =>
          rw [if_neg (by decide)] at hst
          have HN2 := Lib.hid hst
          have hl4 := hlf.2 rfl
          have hl5 := hlf.1
          clear hst hlf
          go_wp2_with (first | (go_at_call 40; refine (IH.out ⟨kk, kt, ka, kkids⟩ (deep + 1) lf _ l2 _ (A3) c3 HC3.out hc3 HX8.out.bel HX8.out.cnt HQ.out (by omega) hd64 hl2 hl3).mono ?_; rintro e w10 ⟨rfl, hb10, hc10, hk10⟩; have HXA := Lib.hid (HX8.out.call hc10 hb10 hk10); clear hb10 hc10 hk10))
          go_roundw
          case rel => exact ⟨j + 1, l2, by go_num, HLJ.out, hl4, by omega, HN2, HXA⟩
          case measure => have := HLJ.out; simp [intOf]; omega
        have r7 : (j : Int).tmod 2 = 0 := by { rw [Int.tmod_eq_emod_of_nonneg (by omega)]; omega }
        have HSC := Lib.hid hsc
        cases sc with
        | false =>
         have hcond : true = true ∧ j % 2 = 0 ∧ (flow_isScalar.f kk = some false ∨ ka.toList ≠ []) := ⟨rfl, hpj, .inl hsc⟩
         clear hpj hsc
         rw [if_pos hcond] at hst
         obtain ⟨e1, e2⟩ := Prod.mk.inj (Option.some.inj hst)
         have HE := Lib.hid e1
         subst e2
         clear hst e1 hcond
         go_wp2_with (first | (go_at_call 61; refine (flow_isScalar.calls _ _ _ (hG.below HX8.out.bel) HSC.out).mono ?_; rintro e w9 ⟨rfl, hd9⟩; have HX9 := Lib.hid (HX8.out.below hd9.below); have hk9 := (hd9.below.block wr.heap.size (blk_lt HKB.out)).trans HKB.out; clear hd9 z0 z1 z2 z3 z4 z5 u0 u1 u2 u3; obtain ⟨z0, z1, z2, z3, z4, z5⟩ := HX9.out.cells; have u0 := (blk_cell hk9 0).trans rfl; have u1 := (blk_cell hk9 1).trans rfl; have u2 := (blk_cell hk9 2).trans rfl; have u3 := (blk_cell hk9 3).trans rfl; clear hk9))
         go_ret
         exact ⟨by rw [← HE.out]; first | done | rfl, HX9.out.bel, HX9.out.cnt, HX9.out.kb⟩
        | true =>
         by_cases ha : ka.toList = []
         rotate_left
         ·
          have hcond : true = true ∧ j % 2 = 0 ∧ (flow_isScalar.f kk = some false ∨ ka.toList ≠ []) := ⟨rfl, hpj, .inr ha⟩
          have t4 : (ka.toList = []) = False := eq_false ha
          have t5 : (ka.toList != []) = true := bne_iff_ne.2 ha
          have t6 : ka.toList.isEmpty = false := by rw [← Bool.not_eq_true, List.isEmpty_iff]; exact ha
          clear ha hpj hsc
          rw [if_pos hcond] at hst
          obtain ⟨e1, e2⟩ := Prod.mk.inj (Option.some.inj hst)
          have HE := Lib.hid e1
          subst e2
          clear hst e1 hcond
          go_wp2_with (first | (go_at_call 61; refine (flow_isScalar.calls _ _ _ (hG.below HX8.out.bel) HSC.out).mono ?_; rintro e w9 ⟨rfl, hd9⟩; have HX9 := Lib.hid (HX8.out.below hd9.below); have hk9 := (hd9.below.block wr.heap.size (blk_lt HKB.out)).trans HKB.out; clear hd9 z0 z1 z2 z3 z4 z5 u0 u1 u2 u3; obtain ⟨z0, z1, z2, z3, z4, z5⟩ := HX9.out.cells; have u0 := (blk_cell hk9 0).trans rfl; have u1 := (blk_cell hk9 1).trans rfl; have u2 := (blk_cell hk9 2).trans rfl; have u3 := (blk_cell hk9 3).trans rfl; clear hk9))
          go_ret
          exact ⟨by rw [← HE.out]; first | done | rfl, HX9.out.bel, HX9.out.cnt, HX9.out.kb⟩
         rw [if_neg (fun e => e.2.2.elim (fun z => by rw [hsc] at z; cases z) (fun z => z ha))] at hst
         have t4 : (ka.toList = []) = True := eq_true ha
         have t5 : (ka.toList != []) = false := by rw [ha]; rfl
         have t6 : ka.toList.isEmpty = true := by rw [ha]; rfl
         clear ha hpj hsc
         obtain ⟨q, hq⟩ : ∃ q, rgtO K ⟨kk, kt, ka, kkids⟩ (deep + 1) lf = some q := by
          cases hv : rgtO K ⟨kk, kt, ka, kkids⟩ (deep + 1) lf with
          | none => rw [hv] at hst; cases hst
          | some q => exact ⟨q, rfl⟩
         rw [hq] at hst
         obtain ⟨b2, l2⟩ := q
         dsimp only at hst
         have hlf := rgt_left K ⟨kk, kt, ka, kkids⟩ (deep + 1) lf b2 l2 hq
         have HQ := Lib.hid hq
         clear hq
         cases b2 with
         | false =>
          rw [if_pos rfl] at hst
          obtain ⟨e1, e2⟩ := Prod.mk.inj (Option.some.inj hst)
          have HE := Lib.hid e1
          subst e2
          clear hst e1 hlf
          go_wp2_with (first | (go_at_call 61; refine (flow_isScalar.calls _ _ _ (hG.below HX8.out.bel) HSC.out).mono ?_; rintro e w9 ⟨rfl, hd9⟩; have HX9 := Lib.hid (HX8.out.below hd9.below); have hk9 := (hd9.below.block wr.heap.size (blk_lt HKB.out)).trans HKB.out; clear hd9 z0 z1 z2 z3 z4 z5 u0 u1 u2 u3; obtain ⟨z0, z1, z2, z3, z4, z5⟩ := HX9.out.cells; have u0 := (blk_cell hk9 0).trans rfl; have u1 := (blk_cell hk9 1).trans rfl; have u2 := (blk_cell hk9 2).trans rfl; have u3 := (blk_cell hk9 3).trans rfl; clear hk9) | (go_at_call 40; refine (IH.out ⟨kk, kt, ka, kkids⟩ (deep + 1) lf _ l2 _ (A3) c3 HC3.out hc3 HX9.out.bel HX9.out.cnt HQ.out (by omega) hd64 hl2 hl3).mono ?_; rintro e w10 ⟨rfl, hb10, hc10, hk10⟩; have HXA := Lib.hid (HX9.out.call hc10 hb10 hk10); clear hb10 hc10 hk10))
          go_ret
          exact ⟨by rw [← HE.out]; first | done | rfl, HXA.out.bel, HXA.out.cnt, HXA.out.kb⟩
         | true =>
          rw [if_neg (by decide)] at hst
          have HN2 := Lib.hid hst
          have hl4 := hlf.2 rfl
          have hl5 := hlf.1
          clear hst hlf
          go_wp2_with (first | (go_at_call 61; refine (flow_isScalar.calls _ _ _ (hG.below HX8.out.bel) HSC.out).mono ?_; rintro e w9 ⟨rfl, hd9⟩; have HX9 := Lib.hid (HX8.out.below hd9.below); have hk9 := (hd9.below.block wr.heap.size (blk_lt HKB.out)).trans HKB.out; clear hd9 z0 z1 z2 z3 z4 z5 u0 u1 u2 u3; obtain ⟨z0, z1, z2, z3, z4, z5⟩ := HX9.out.cells; have u0 := (blk_cell hk9 0).trans rfl; have u1 := (blk_cell hk9 1).trans rfl; have u2 := (blk_cell hk9 2).trans rfl; have u3 := (blk_cell hk9 3).trans rfl; clear hk9) | (go_at_call 40; refine (IH.out ⟨kk, kt, ka, kkids⟩ (deep + 1) lf _ l2 _ (A3) c3 HC3.out hc3 HX9.out.bel HX9.out.cnt HQ.out (by omega) hd64 hl2 hl3).mono ?_; rintro e w10 ⟨rfl, hb10, hc10, hk10⟩; have HXA := Lib.hid (HX9.out.call hc10 hb10 hk10); clear hb10 hc10 hk10))
          go_roundw
          case rel => exact ⟨j + 1, l2, by go_num, HLJ.out, hl4, by omega, HN2, HXA⟩
          case measure => have := HLJ.out; simp [intOf]; omega
end Go.Proofs.YtnjcpoojgmpmeaaGreatDoor.Plug
namespace Go.Proofs.YtnjcpoojgmpmeaaGreatDoor.Plug
open RowKit YtnjcpoojgmpmeaaGreatDoor YtnjcpoojgmpmeaaGreatDoor.PX YtnjcpoojgmpmeaaGreatDoor.Utf YtnjcpoojgmpmeaaGreatDoorW.PrintWords YtnjcpoojgmpmeaaGreatDoorW.PrintLast
theorem rowF_move {w w1 : World} {B : Nat} {e : TypeId} {v : Value} {n : Nat} {xs : List Value} (h : w.ownsRowF B e 1 v n xs) (hm : ∀ k, v.ownBlock = some k → w1.heap[k]? = w.heap[k]?) : w1.ownsRowF B e 1 v n xs := by
 obtain ⟨h1, h2⟩ := h
 refine ⟨h1, ?_⟩
 rcases h2 with h2 | ⟨g, cap, cur, fz, rfl, hg, hh, r⟩
 · exact .inl h2
 · exact .inr ⟨g, cap, cur, fz, rfl, hg, (hm g (by simp [Value.ownBlock])).trans hh, r⟩
theorem bld_below {T e : TypeId} {B b : Nat} {bs : List Value} {w w1 : World} (h : Lib.IsBuilderF T e B b bs w) (hb : Below w.heap.size w w1) : Lib.IsBuilderF T e B b bs w1 := by
 have key : ∀ p, Lib.BuilderAtF T e B b p bs w → Lib.BuilderAtF T e B b p bs w1 := by
  rintro p ⟨h1, v, h2, h3, h4⟩
  refine ⟨h1, v, (hb.block b (Bld.at_lt h2)).trans h2, rowF_move h3 (fun k hk => hb.block k ?_), h4⟩
  rcases h3.2 with ⟨rfl, _⟩ | ⟨g, cap, cur, fz, rfl, hg, hh, _⟩
  · simp [Value.ownBlock] at hk
  ·
   have : g = k := by simpa [Value.ownBlock] using hk
   subst this; exact Bld.at_lt hh
 exact h.elim (fun x => .inl (key _ x)) (fun x => .inr (key _ x))
end Go.Proofs.YtnjcpoojgmpmeaaGreatDoor.Plug
