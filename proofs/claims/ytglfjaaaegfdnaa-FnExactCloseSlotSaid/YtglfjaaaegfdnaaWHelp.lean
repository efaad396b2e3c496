/- Words that this claim's texts lean on. -/
import Derived.RowKit
import Derived.Test.YtglfjaaaegfdnaaWWords
namespace Go.Proofs.YtglfjaaaegfdnaaW.Help
open Go.RowKit Go.Proofs.YtglfjaaaegfdnaaW.PrintWords
set_option linter.unusedVariables false

theorem Ev.pos {α : Type} {c : Prop} [Decidable c] {A B : Nat → Option α} {r : α} (h : c) (k : Ev A r) : Ev (fun n => if c then A n else B n) r := Ev.congr (fun n => if_pos h) k
theorem Ev.neg {α : Type} {c : Prop} [Decidable c] {A B : Nat → Option α} {r : α} (h : ¬ c) (k : Ev B r) : Ev (fun n => if c then A n else B n) r := Ev.congr (fun n => if_neg h) k
theorem Ev.const {α β : Type} {o : Option α} {f : Nat → α → Option β} {a : α} {r : β} (h : o = some a) (k : Ev (fun n => f n a) r) : Ev (fun n => o.bind (f n)) r := Ev.congr (fun n => by rw [h]; rfl) k
theorem Ev.some {α β : Type} {f : Nat → α → Option β} {a : α} {r : β} (k : Ev (fun n => f n a) r) : Ev (fun n => (Option.some a).bind (f n)) r := k
theorem Ev.ite {α : Type} {c : Prop} [Decidable c] {A B : Nat → Option α} {r : α} (h1 : c → Ev A r) (h2 : ¬ c → Ev B r) : Ev (fun n => if c then A n else B n) r := by
  by_cases h : c
  · exact Ev.pos h (h1 h)
  · exact Ev.neg h (h2 h)
theorem Ev.eq {α : Type} {g : Nat → Option α} {r q : α} (k : Ev g q) (h : q = r) : Ev g r := h ▸ k
theorem Ev.funct {α : Type} {g : Nat → Option α} {r q : α} (h : Ev g r) (k : Ev g q) : r = q := by
  obtain ⟨a, ha⟩ := h
  obtain ⟨b, hb⟩ := k
  have h1 := ha (max a b) (Nat.le_max_left _ _)
  have h2 := hb (max a b) (Nat.le_max_right _ _)
  rw [h1] at h2
  exact Option.some.inj h2

theorem w64 {x : Int} (h0 : -9223372036854775808 ≤ x) (h1 : x ≤ 9223372036854775807) : wrap64 x = x := by
  unfold wrap64
  omega
theorem fill_ev {α β : Type} (xs : List α) (conv : α → β) (z : β) (g : Nat → List β → Int → Option (List β))
    (hstep : ∀ (i : Nat) (h : i < xs.length) (ys : List β), ys.length = xs.length → ∀ r, Ev (fun k => g k (ys.set i (conv (xs[i]'h))) ((i : Int) + 1)) r → Ev (fun k => g k ys (i : Int)) r)
    (hend : ∀ ys : List β, ys.length = xs.length → Ev (fun k => g k ys (xs.length : Int)) ys) :
    Ev (fun k => g k (List.replicate xs.length z) 0) (xs.map conv) := by
  have main : ∀ (d i : Nat), i + d = xs.length → Ev (fun k => g k ((xs.take i).map conv ++ List.replicate d z) (i : Int)) (xs.map conv) := by
    intro d
    induction d with
    | zero =>
      intro i hi
      have hi' : i = xs.length := by omega
      subst hi'
      have := hend ((xs.take xs.length).map conv ++ List.replicate 0 z) (by simp)
      simpa using this
    | succ d ih =>
      intro i hi
      have hlt : i < xs.length := by omega
      refine hstep i hlt _ (by simp; omega) _ ?_
      have := ih (i + 1) (by omega)
      have e : ((xs.take i).map conv ++ List.replicate (d + 1) z).set i (conv xs[i]) = (xs.take (i + 1)).map conv ++ List.replicate d z := by
        have hl : ((xs.take i).map conv).length = i := by simp; omega
        rw [List.set_append, if_neg (by omega), hl, Nat.sub_self, List.replicate_succ, List.set_cons_zero, List.take_succ_eq_append_getElem hlt, List.map_append, List.append_assoc]
        rfl
      rw [e]
      exact_mod_cast this
  exact main xs.length 0 (by omega)

theorem down_ev {ρ : Type} (n : Nat) (g : Nat → Int → Option ρ) {r : ρ} (hstep : ∀ i : Nat, i < n → Ev (fun k => g k ((i : Int) + 1)) r → Ev (fun k => g k (i : Int)) r) (hend : Ev (fun k => g k (n : Int)) r) : Ev (fun k => g k 0) r := by
  have main : ∀ (d i : Nat), i + d = n → Ev (fun k => g k (i : Int)) r := by
    intro d
    induction d with
    | zero =>
      intro i hi
      have hi' : i = n := by omega
      subst hi'
      exact hend
    | succ d ih =>
      intro i hi
      have := ih (i + 1) (by omega)
      exact hstep i (by omega) (by exact_mod_cast this)
  exact main n 0 (by omega)
theorem getD_of {β : Type} {zs : List β} {j : Nat} {v d : β} (h : zs[j]? = Option.some v) : zs.getD j d = v := by
  rw [List.getD_eq_getElem?_getD, h]
  rfl
end Go.Proofs.YtglfjaaaegfdnaaW.Help

