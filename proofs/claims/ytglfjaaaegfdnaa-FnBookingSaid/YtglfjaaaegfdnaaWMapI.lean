/- Words that this claim's texts lean on. -/
import Derived.Maps.Own
import Derived.Maps.OwnOps
import Derived.Maps.OwnSet
import Derived.Maps.Views
import Derived.ChangeKeys
import Derived.Test.YtglfjaaaegfdnaaWWords
import Derived.Test.YtglfjaaaegfdnaaWLast
import Derived.Test.YtglfjaaaegfdnaaWMore
namespace Go.Proofs.YtglfjaaaegfdnaaW.PrintMore
open Go.RowKit Go.Maps Go.WideMaps Go.Proofs.YtglfjaaaegfdnaaW.PrintWords Go.Proofs.YtglfjaaaegfdnaaW.PrintLast
set_option linter.unusedVariables false

def MapSet (P : Program) (k e : TypeId) (b : Nat) (w : World) (m : List Int) : Prop :=
  ∃ D : DataW Unit, w.ownsMap P k (plainElem P e) b m.length D ∧ IsMap D ∧ Maps.size D = m.length ∧ ∀ (s : Int) (z : DataW Unit), D.atKey (.int .i64 s) z = if s ∈ m then .lit (.bool true) else z

theorem MapSet_made (P : Program) (k e : TypeId) (w : World) : MapSet P k e w.heap.size (w.alloc (.map #[] 0)) [] :=
  ⟨.map [], World.ownsMap_made w P k _, isMap_empty, rfl, fun _ _ => rfl⟩
theorem MapSet_below {P : Program} {k e : TypeId} {b : Nat} {w w1 : World} {m : List Int} (h : MapSet P k e b w m) (hb : Below w.heap.size w w1) : MapSet P k e b w1 m := by
  obtain ⟨D, h1, h2, h3, h4⟩ := h
  have hlt := h1.lt
  obtain ⟨es, clock, hm, F, hs, hD⟩ := h1
  exact ⟨D, ⟨es, clock, (hb.block b hlt).trans hm, F, hs, hD⟩, h2, h3, h4⟩
theorem keyOf_i64 {P : Program} {k : TypeId} (hk : P.underlying k = some (.int .i64)) {s : Int} (hs : (Lit.int .i64 s).wf = true) : keyOf P k (.int .i64 s) = some (.int .i64 s) := by
  rw [keyOf_int hk]
  simp [mapKey, hk, hs]
theorem plainElem_bool_inv {H : Type} {P : Program} {e : TypeId} (he : P.underlying e = some .bool) {v : Value} {z : DataW H × List MemPlace} (h : plainElem P e v = some z) : ∃ x, v = .bool x ∧ z = (.lit (.bool x), []) := by
  unfold plainElem at h
  rw [he] at h
  cases v <;> simp at h
  exact ⟨_, rfl, h.symm⟩
theorem lit_i64_inj {s t : Int} (h : Lit.int .i64 s = Lit.int .i64 t) : s = t := by
  injection h

section
variable {P : Program} {ops : Array Oper} {Q : Exit → Act → World → Prop} {rest : List Oper} {o : Oper} {a : Act} {w : World}
theorem mapSet_look (N : Option Tmp) (hd : o.dst = N) (hg : o.guard = none) (mo xo : Operand) (t k e : TypeId) (hop : o.op = .lookup t mo xo false) (ht : P.underlying t = some (.map k e)) (hk : P.underlying k = some (.int .i64)) (he : P.underlying e = some .bool)
    (hz : ∀ W : World, (zeroValue e).run P W = .ok (.bool false) W) {b : Nat} {m : List Int} (hm : MapSet P k e b w m) (hmv : a.eval mo = .map (some b)) (s : Int) (hx : a.eval xo = .int .i64 s) (c0 : Bool) (hc0 : (Lit.int .i64 s).wf = true ∧ c0 = decide (s ∈ m))
    (h : wpList P ops Q rest (a.put N (.bool c0)) w) : wpList P ops Q (o :: rest) a w := by
  obtain ⟨D, h1, h2, h3, h4⟩ := hm
  obtain ⟨hs, rfl⟩ := hc0
  subst hd
  refine wpList_plain hg fun K' hK' => ?_
  obtain ⟨v, ps, hrun, hv⟩ := h1.lookup (int_keyed hk) ht (hz w) (plainElem_bool he false) (keyOf_i64 hk hs)
  obtain ⟨x, rfl, hx2⟩ := plainElem_bool_inv he hv
  rw [h4] at hx2
  have ex : x = decide (s ∈ m) := by
    by_cases c : s ∈ m
    · rw [if_pos c] at hx2
      injection hx2 with hx2
      injection hx2 with hx2
      injection hx2 with hx2
      rw [decide_eq_true c, hx2]
    · rw [if_neg c] at hx2
      injection hx2 with hx2
      injection hx2 with hx2
      injection hx2 with hx2
      rw [decide_eq_false c, hx2]
  unfold Oper.wp
  simp [execOp, hop, hmv, hx, hrun, Result.andThen]
  rw [ex] at hrun ⊢
  exact hK' _ _ h
theorem mapSet_put (N : Option Tmp) (hd : o.dst = N) (hg : o.guard = none) (mo xo vo : Operand) (t k e : TypeId) (hop : o.op = .mapUpdate t mo xo vo) (ht : P.underlying t = some (.map k e)) (hk : P.underlying k = some (.int .i64)) (he : P.underlying e = some .bool)
    {b : Nat} {m : List Int} (hm : MapSet P k e b w m) (hmv : a.eval mo = .map (some b)) (s : Int) (hx : a.eval xo = .int .i64 s) (hv : a.eval vo = .bool true) {m' : List Int} (hm' : ((Lit.int .i64 s).wf = true ∧ m.length < 9223372036854775807) ∧ m' = if s ∈ m then m else m ++ [s])
    (h : ∀ w1, MapSet P k e b w1 m' → w.grownBy w1 (some b) → wpList P ops Q rest (a.put N undef) w1) : wpList P ops Q (o :: rest) a w := by
  obtain ⟨D, h1, h2, h3, h4⟩ := hm
  obtain ⟨⟨hs, hn⟩, rfl⟩ := hm'
  subst hd
  have hti := h1.tidy (int_keyed hk)
  refine wpList_mapUpdate_own w hg mo xo vo t hop k e (int_keyed hk) ht (plainElem P e) b m.length D hmv h1 (by unfold maxLen; omega) (.int .i64 s) (.bool true) (.int .i64 s) hx hv (keyOf_i64 hk hs) _ _ (plainElem_bool he true) ?_
  intro w1 hown hg1
  have hsz : Maps.size (D.put (.int .i64 s) (.lit (.bool true))) = (if s ∈ m then m else m ++ [s]).length := by
    rw [size_put hti, h3]
    by_cases c : s ∈ m
    · rw [if_pos c, if_pos (has_true_of_atKey (y := .lit (.bool true)) (fun z => by rw [h4, if_pos c]))]
    · rw [if_neg c, has_false_of_atKey (fun z => by rw [h4, if_neg c])]
      simp
  refine h w1 ⟨_, ?_, h2.put _ _, hsz, fun x z => ?_⟩ hg1
  · obtain ⟨es, clock, hb, F, hle, hD⟩ := hown
    refine ⟨es, clock, hb, F, ?_, hD⟩
    rw [← hsz, hD, size_eq, length_read]
    exact Nat.le_refl _
  · by_cases c : x = s
    · subst c
      rw [atKey_put_same h2 (show WideAt.IsKeyLit (.int .i64 x) from trivial)]
      by_cases q : x ∈ m
      · rw [if_pos q, if_pos q]
      · rw [if_neg q, if_pos (by simp)]
    · rw [atKey_put_other (fun q => c (lit_i64_inj q)), h4]
      by_cases q : s ∈ m
      · rw [if_pos q]
      · rw [if_neg q]
        by_cases y : x ∈ m
        · rw [if_pos y, if_pos (List.mem_append_left _ y)]
        · rw [if_neg y, if_neg (by simp [y, c])]
theorem mapSet_len (N : Option Tmp) (hd : o.dst = N) (hg : o.guard = none) (mo : Operand) (t k e : TypeId) (hop : o.op = Op.call { callee := Callee.builtin Builtin.len, args := #[mo], argTypes := #[t] }) (ht : P.underlying t = some (.map k e))
    {b : Nat} {m : List Int} (hm : MapSet P k e b w m) (hmv : a.eval mo = .map (some b)) (c0 : Int) (hc0 : c0 = m.length) (h : wpList P ops Q rest (a.put N (.int .i64 c0)) w) : wpList P ops Q (o :: rest) a w := by
  obtain ⟨D, h1, h2, h3, h4⟩ := hm
  subst hd hc0
  refine wpList_len_own w hg mo t hop k e ht (plainElem P e) b m.length D hmv h1 ?_
  rw [h3]
  exact h
end
def klook.f (m : List Int) (s : Int) : Option Bool := if (Lit.int .i64 s).wf = true then some (decide (s ∈ m)) else none
def kput.f (m : List Int) (s : Int) : Option (List Int) := if (Lit.int .i64 s).wf = true ∧ m.length < 9223372036854775807 then some (if s ∈ m then m else m ++ [s]) else none
def klen.f (m : List Int) : Option Int := some m.length
theorem klook.of {m : List Int} {s : Int} {c : Bool} (h : klook.f m s = some c) : (Lit.int .i64 s).wf = true ∧ c = decide (s ∈ m) := by
  unfold klook.f at h
  split at h
  · exact ⟨by assumption, (Option.some.inj h).symm⟩
  · cases h
theorem kput.of {m m' : List Int} {s : Int} (h : kput.f m s = some m') : ((Lit.int .i64 s).wf = true ∧ m.length < 9223372036854775807) ∧ m' = if s ∈ m then m else m ++ [s] := by
  unfold kput.f at h
  split at h
  · exact ⟨by assumption, (Option.some.inj h).symm⟩
  · cases h
theorem klen.of {m : List Int} {c : Int} (h : klen.f m = some c) : c = m.length := (Option.some.inj h).symm
end Go.Proofs.YtglfjaaaegfdnaaW.PrintMore

