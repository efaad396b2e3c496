/- Words that this claim's texts lean on. -/
import Derived.Test.YtglfjaaaegfdnaaProg
import Derived.Test.YtglfjaaaegfdnaaWWords
import Derived.Test.YtglfjaaaegfdnaaWLast
import Derived.Test.YtglfjaaaegfdnaaWMore
import Derived.Test.YtglfjaaaegfdnaaWApart
import Derived.Test.YtglfjaaaegfdnaaWKept
import Derived.Test.YtglfjaaaegfdnaaWN
import Derived.Test.YtglfjaaaegfdnaaWGate
namespace Go.Proofs.YtglfjaaaegfdnaaW.GateI
set_option linter.unusedVariables false
open Go.RowKit Go.Proofs.YtglfjaaaegfdnaaW.PrintWords Go.Proofs.YtglfjaaaegfdnaaW.PrintLast Go.Proofs.YtglfjaaaegfdnaaW.PrintMore
inductive It where
  | gate (F : Nat → Prop) (v0 v1 : Value) (c : List Int) (s : List (List Int))
  | gateN (F : Nat → Prop) (v0 v1 : Value) (c : List Int) (s : List (List Int))
  | row (F : Nat → Prop) (v : Value) (xs : List Int)
  | box (g : Nat) (cs : List Value) (t : Nat)
def It.foot : It → Nat → Prop
  | .gate F _ _ _ _ => F
  | .gateN F _ _ _ _ => F
  | .row F _ _ => F
  | .box g _ _ => fun k => k = g
def It.ok (W : World) (base : Nat) : It → Prop
  | .gate F v0 v1 c s => Kd.R (Kd.int .i64) 3 W base F v0 c ∧ Kd.S (Kd.slice 3 (Kd.int .i64)) 24 W base (fun k => F k ∧ some k ≠ v0.ownBlock) v1 s
  | .gateN F v0 v1 c s => Kd.R (Kd.int .i64) 3 W base F v0 c ∧ Kd.N (Kd.slice 3 (Kd.int .i64)) 24 W base F v1 s
  | .row F v xs => Kd.R (Kd.int .i64) 3 W base F v xs
  | .box g cs t => W.heap[g]? = some (.cells cs.toArray t (0, 0))
theorem It.ok_step {W W1 : World} {base : Nat} : ∀ {x : It}, x.ok W base → (∀ k, x.foot k → k < W.heap.size → W1.heap[k]? = W.heap[k]?) → x.ok W1 base
  | .gate F v0 v1 c s, h, hm => ⟨Kd.R_step h.1 (fun k hk hl => hm k hk hl), Kd.S_step h.2 (fun k hk hl => hm k hk.1 hl)⟩
  | .gateN F v0 v1 c s, h, hm => ⟨Kd.R_step h.1 (fun k hk hl => hm k hk hl), Kd.N_step h.2 (fun k hk hl => hm k hk hl)⟩
  | .row F v xs, h, hm => Kd.R_step h (fun k hk hl => hm k hk hl)
  | .box g cs t, h, hm => (hm g rfl (blk_lt h)).trans h
structure Inv (w0 W : World) (L : List It) : Prop where
  below : Below w0.heap.size w0 W
  all : ∀ x ∈ L, x.ok W w0.heap.size ∧ ∀ k, x.foot k → w0.heap.size ≤ k ∧ k < W.heap.size
  sep : L.Pairwise (fun a b => ∀ k, a.foot k → ¬ b.foot k)
section
variable {w0 W W1 : World} {L : List It} {x y : It}
theorem Inv.start (w : World) : Inv w w [] := ⟨Below.refl _ _, fun x hx => absurd hx List.not_mem_nil, List.Pairwise.nil⟩
theorem Inv.get (h : Inv w0 W L) (i : Nat) (e : L[i]? = some x) : x.ok W w0.heap.size := (h.all x (List.mem_of_getElem? e)).1
theorem Inv.step (h : Inv w0 W L) (hb : Below W.heap.size W W1) : Inv w0 W1 L :=
  ⟨below_step h.below hb, fun x hx => ⟨It.ok_step (h.all x hx).1 (fun k _ hl => hb.block k hl), fun k hk => ⟨((h.all x hx).2 k hk).1, Nat.lt_of_lt_of_le ((h.all x hx).2 k hk).2 hb.size⟩⟩, h.sep⟩
theorem Inv.drewN (h : Inv w0 W L) (n : Nat) : Inv w0 (W.drewN n) L := h.step (pw_below_drewN (Below.refl _ _) n)
theorem Inv.drew (h : Inv w0 W L) : Inv w0 W.drew L := h.step (below_drew (Below.refl _ _))
theorem Inv.size (h : Inv w0 W L) : w0.heap.size ≤ W.heap.size := h.below.size
theorem Inv.add (h : Inv w0 W L) (hb : Below W.heap.size W W1) (hx : x.ok W1 w0.heap.size) (h1 : ∀ k, x.foot k → W.heap.size ≤ k ∧ k < W1.heap.size) : Inv w0 W1 (x :: L) := by
  have k := h.step hb
  refine ⟨k.below, fun y hy => ?_, List.pairwise_cons.2 ⟨fun y hy j hj hj2 => ?_, h.sep⟩⟩
  · rcases List.mem_cons.1 hy with rfl | hy
    · exact ⟨hx, fun j hj => ⟨Nat.le_trans h.size (h1 j hj).1, (h1 j hj).2⟩⟩
    · exact k.all y hy
  · have := (h1 j hj).1
    have := ((h.all y hy).2 j hj2).2
    omega
theorem Inv.gate (h : Inv w0 W L) (hb : Below W.heap.size W W1) {v0 v1 : Value} {c : List Int} {s : List (List Int)} {ok : Nat → Prop} (h0 : Kd.R (Kd.int .i64) 3 W1 W.heap.size ok v0 c)
    {ok1 : Nat → Prop} (h1 : Kd.S (Kd.slice 3 (Kd.int .i64)) 24 W1 W.heap.size ok1 v1 s) (ha : ∀ k, ok1 k → some k ≠ v0.ownBlock) : Inv w0 W1 (.gate (fun k => W.heap.size ≤ k ∧ k < W1.heap.size) v0 v1 c s :: L) :=
  h.add hb ⟨Kd.R_lower (Kd.R_mono (Kd.R_bound h0) (fun k hk => ⟨hk.2.1, hk.2.2.1⟩)) h.size, Kd.S_lower (Kd.S_mono (Kd.S_bound h1) (fun k hk => ⟨⟨hk.2.1, hk.2.2.1⟩, ha k hk.1⟩)) h.size⟩ (fun _ hk => hk)
theorem Inv.gateN (h : Inv w0 W L) (hb : Below W.heap.size W W1) {v0 v1 : Value} {c : List Int} {s : List (List Int)} {ok : Nat → Prop} (h0 : Kd.R (Kd.int .i64) 3 W1 W.heap.size ok v0 c)
    {ok1 : Nat → Prop} (h1 : Kd.N (Kd.slice 3 (Kd.int .i64)) 24 W1 W.heap.size ok1 v1 s) (ha : ∀ k, ok1 k → W.heap.size ≤ k) : Inv w0 W1 (.gateN (fun k => W.heap.size ≤ k ∧ k < W1.heap.size) v0 v1 c s :: L) :=
  h.add hb ⟨Kd.R_lower (Kd.R_mono (Kd.R_bound h0) (fun k hk => ⟨hk.2.1, hk.2.2.1⟩)) h.size, Kd.N_lower (Kd.N_mono (Kd.N_bound h1) (fun k hk => ⟨ha k hk.1, hk.2⟩)) h.size⟩ (fun _ hk => hk)
theorem Inv.row (h : Inv w0 W L) (hb : Below W.heap.size W W1) {v : Value} {xs : List Int} {ok : Nat → Prop} (h0 : Kd.R (Kd.int .i64) 3 W1 W.heap.size ok v xs) : Inv w0 W1 (.row (fun k => W.heap.size ≤ k ∧ k < W1.heap.size) v xs :: L) :=
  h.add hb (Kd.R_lower (Kd.R_mono (Kd.R_bound h0) (fun k hk => ⟨hk.2.1, hk.2.2.1⟩)) h.size) (fun _ hk => hk)
theorem Inv.box (h : Inv w0 W L) {g t : Nat} {cs : List Value} (hb : Below W.heap.size W W1) (hbox : W1.heap[g]? = some (.cells cs.toArray t (0, 0))) (hg : g = W.heap.size) : Inv w0 W1 (.box g cs t :: L) :=
  h.add hb hbox (fun k hk => by
    have e : k = g := hk
    rw [e]
    exact ⟨Nat.le_of_eq hg.symm, blk_lt hbox⟩)
theorem Inv.turn (h : Inv w0 W L) (i : Nat) (e : L[i]? = some x) (hb : Below w0.heap.size w0 W1) (hs : W.heap.size ≤ W1.heap.size) (hk : ∀ k, k < W.heap.size → ¬ x.foot k → W1.heap[k]? = W.heap[k]?) (hy : y.ok W1 w0.heap.size) (hf : ∀ k, y.foot k → x.foot k ∨ (W.heap.size ≤ k ∧ k < W1.heap.size)) : Inv w0 W1 (L.set i y) := by
  have hil : i < L.length := (List.getElem?_eq_some_iff.1 e).1
  have hxe : L[i] = x := (List.getElem?_eq_some_iff.1 e).2
  have hx := h.all x (List.mem_of_getElem? e)
  have hsep := List.pairwise_iff_getElem.1 h.sep
  have far : ∀ j (hj : j < L.length), j ≠ i → ∀ k, L[j].foot k → ¬ x.foot k := by
    intro j hj hn k h1 h2
    rw [← hxe] at h2
    rcases Nat.lt_or_gt_of_ne hn with hlt | hgt
    · exact hsep j i hj hil hlt k h1 h2
    · exact hsep i j hil hj hgt k h2 h1
  refine ⟨hb, fun z hz => ?_, List.pairwise_iff_getElem.2 fun a b ha hb2 hab k h1 h2 => ?_⟩
  · obtain ⟨j, hj, rfl⟩ := List.getElem_of_mem hz
    rw [List.getElem_set]
    split
    · exact ⟨hy, fun k hk2 => (hf k hk2).elim (fun h3 => ⟨(hx.2 k h3).1, Nat.lt_of_lt_of_le (hx.2 k h3).2 hs⟩) (fun h3 => ⟨Nat.le_trans h.size h3.1, h3.2⟩)⟩
    · rename_i hne
      have hjl : j < L.length := by simpa using hj
      have q := h.all L[j] (List.getElem_mem hjl)
      exact ⟨It.ok_step q.1 (fun k h1 hl => hk k hl (far j hjl (fun e2 => hne e2.symm) k h1)), fun k hk2 => ⟨(q.2 k hk2).1, Nat.lt_of_lt_of_le (q.2 k hk2).2 hs⟩⟩
  · have hal : a < L.length := by simpa using ha
    have hbl : b < L.length := by simpa using hb2
    rw [List.getElem_set] at h1 h2
    split at h1
    · rename_i e1
      rw [if_neg (by omega)] at h2
      rcases hf k h1 with h3 | h3
      · exact far b hbl (by omega) k h2 h3
      · have := ((h.all L[b] (List.getElem_mem hbl)).2 k h2).2
        omega
    · split at h2
      · rcases hf k h2 with h3 | h3
        · exact far a hal (by omega) k h1 h3
        · have := ((h.all L[a] (List.getElem_mem hal)).2 k h1).2
          omega
      · exact hsep a b hal hbl hab k h1 h2
theorem Inv.put {g t : Nat} {cs : List Value} (h : Inv w0 W (.box g cs t :: L)) (j : Nat) (u : Value) : Inv w0 (W.setCell ⟨g, j, none⟩ u) (.box g (cs.set j u) t :: L) := by
  have hb : W.heap[g]? = some (.cells cs.toArray t (0, 0)) := h.get 0 rfl
  have q := h.all (.box g cs t) List.mem_cons_self
  refine h.turn 0 (y := .box g (cs.set j u) t) rfl (below_set h.below (q.2 g rfl).1) (Nat.le_of_eq (by simp [World.setCell])) (fun k _ hn => Below.heap_setCell W _ u k (fun e => hn e)) ?_ (fun k hk => .inl hk)
  have := blk_put hb j u rfl
  rw [List.setIfInBounds_toArray] at this
  exact this
theorem Inv.cell (h : Inv w0 W L) (i : Nat) {g t : Nat} {cs : List Value} (e : L[i]? = some (.box g cs t)) (j : Nat) {u : Value} (hu : cs[j]? = some u) : W.cell? ⟨g, j, none⟩ = some u := by
  rw [blk_cell (h.get i e) j]
  simpa using hu
theorem Inv.c0 (h : Inv w0 W L) (i : Nat) {F : Nat → Prop} {n c0 : Nat} {A : Option Addr} {v1 : Value} {c : List Int} {s : List (List Int)} (e : L[i]? = some (.gate F (.slice A n c0) v1 c s)) : Kd.C (Kd.int .i64) W A c.length c := (Kd.R_reads' (h.get i e).1).2.2
theorem Inv.n0 (h : Inv w0 W L) (i : Nat) {F : Nat → Prop} {n c0 : Nat} {A : Option Addr} {v1 : Value} {c : List Int} {s : List (List Int)} (e : L[i]? = some (.gate F (.slice A n c0) v1 c s)) : c.length ≤ c0 := by
  have := Kd.R_reads' (h.get i e).1
  omega
theorem Inv.c1 (h : Inv w0 W L) (i : Nat) {F : Nat → Prop} {n c0 : Nat} {A : Option Addr} {v0 : Value} {c : List Int} {s : List (List Int)} (e : L[i]? = some (.gate F v0 (.slice A n c0) c s)) : Kd.C (Kd.slice 3 (Kd.int .i64)) W A s.length s := (Kd.S_reads' (h.get i e).2).2.2
theorem Inv.n1 (h : Inv w0 W L) (i : Nat) {F : Nat → Prop} {n c0 : Nat} {A : Option Addr} {v0 : Value} {c : List Int} {s : List (List Int)} (e : L[i]? = some (.gate F v0 (.slice A n c0) c s)) : s.length ≤ c0 := by
  have := Kd.S_reads' (h.get i e).2
  omega
theorem Inv.cr (h : Inv w0 W L) (i : Nat) {F : Nat → Prop} {n c0 : Nat} {A : Option Addr} {c : List Int} (e : L[i]? = some (.row F (.slice A n c0) c)) : Kd.C (Kd.int .i64) W A c.length c := (Kd.R_reads' (h.get i e)).2.2
theorem Inv.len0 (h : Inv w0 W L) (i : Nat) {F : Nat → Prop} {n c0 : Nat} {A : Option Addr} {v1 : Value} {c : List Int} {s : List (List Int)} (e : L[i]? = some (.gate F (.slice A n c0) v1 c s)) : n = c.length := (Kd.R_reads' (h.get i e).1).1
end
end Go.Proofs.YtglfjaaaegfdnaaW.GateI

