/- A map of the call's own with string keys and integer elements, told as a function: made, read, written, kept. -/
import Derived.Maps.Own
import Derived.Maps.OwnOps
import Derived.Maps.Views
import Derived.StringKeys
import Derived.Test.YtcpoiklimbfppaaWWords
import Derived.Test.YtcpoiklimbfppaaWLast
import Derived.Test.YtcpoiklimbfppaaWMore
namespace Go.Proofs.YtcpoiklimbfppaaW.PrintMore
open Go.RowKit Go.Maps Go.WideMaps Go.Proofs.YtcpoiklimbfppaaW.PrintWords Go.Proofs.YtcpoiklimbfppaaW.PrintLast
set_option linter.unusedVariables false

/-- Block b of w is a map of at most n entries that reads as m. -/
def MapStr (P : Program) (k e : TypeId) (b n : Nat) (w : World) (m : ByteArray → Int) : Prop :=
  ∃ D : DataW Unit, w.ownsMap P k (plainElem P e) b n D ∧ IsMap D ∧ ∀ s : ByteArray, D.atKey (.string s.data.toList) (.lit (.int .i64 0)) = .lit (.int .i64 (m s))

theorem MapStr_made (P : Program) (k e : TypeId) (w : World) : MapStr P k e w.heap.size 0 (w.alloc (.map #[] 0)) (fun _ => 0) :=
  ⟨.map [], World.ownsMap_made w P k _, isMap_empty, fun _ => rfl⟩
theorem MapStr_mono {P : Program} {k e : TypeId} {b n n' : Nat} {w : World} {m : ByteArray → Int} (h : MapStr P k e b n w m) (hn : n ≤ n') : MapStr P k e b n' w m := by
  obtain ⟨D, h1, h2, h3⟩ := h
  exact ⟨D, h1.mono hn, h2, h3⟩
theorem MapStr_below {P : Program} {k e : TypeId} {b n : Nat} {w w1 : World} {m : ByteArray → Int} (h : MapStr P k e b n w m) (hb : Below w.heap.size w w1) : MapStr P k e b n w1 m := by
  obtain ⟨D, h1, h2, h3⟩ := h
  have hlt := h1.lt
  obtain ⟨es, clock, hm, F, hs, hD⟩ := h1
  exact ⟨D, ⟨es, clock, (hb.block b hlt).trans hm, F, hs, hD⟩, h2, h3⟩
theorem str_inj {s t : ByteArray} (h : Lit.string s.data.toList = Lit.string t.data.toList) : s = t := by
  injection h with h
  obtain ⟨⟨a⟩⟩ := s
  obtain ⟨⟨b⟩⟩ := t
  have h' : a = b := h
  rw [h']

section
variable {P : Program} {ops : Array Oper} {Q : Exit → Act → World → Prop} {rest : List Oper} {o : Oper} {a : Act} {w : World}
/-- 'm[s]' at the operation. -/
theorem mapStr_look (N : Option Tmp) (hd : o.dst = N) (hg : o.guard = none) (mo xo : Operand) (t k e : TypeId) (hop : o.op = .lookup t mo xo false) (ht : P.underlying t = some (.map k e)) (hk : P.underlying k = some .string) (he : P.underlying e = some (.int .i64))
    (hz : ∀ W : World, (zeroValue e).run P W = .ok (.int .i64 0) W) {b n : Nat} {m : ByteArray → Int} (hm : MapStr P k e b n w m) (hmv : a.eval mo = .map (some b)) (s : ByteArray) (hx : a.eval xo = .string s) (c0 : Int) (hc0 : s.size ≤ 9223372036854775807 ∧ c0 = m s)
    (h : wpList P ops Q rest (a.put N (.int .i64 c0)) w) : wpList P ops Q (o :: rest) a w := by
  obtain ⟨D, h1, h2, h3⟩ := hm
  obtain ⟨hs, rfl⟩ := hc0
  subst hd
  refine wpList_lookup_own_int w hg mo xo t hop k e .i64 (string_keyed hk) ht he (hz w) b n D hmv h1 (.string s) (.string s.data.toList) hx (keyOf_string_mk hk hs) ?_
  intro c hc _
  rw [h3 s] at hc
  injection hc with hc
  injection hc with _ hc
  rw [← hc]
  exact h
/-- 'm[s] = v' at the operation. -/
theorem mapStr_put (N : Option Tmp) (hd : o.dst = N) (hg : o.guard = none) (mo xo vo : Operand) (t k e : TypeId) (hop : o.op = .mapUpdate t mo xo vo) (ht : P.underlying t = some (.map k e)) (hk : P.underlying k = some .string) (he : P.underlying e = some (.int .i64))
    {b n : Nat} {m : ByteArray → Int} (hm : MapStr P k e b n w m) (hn : n < 9223372036854775807) (hmv : a.eval mo = .map (some b)) (s : ByteArray) (hx : a.eval xo = .string s) (v : Int) (hv : a.eval vo = .int .i64 v) {m' : ByteArray → Int} (hm' : (s.size ≤ 9223372036854775807 ∧ -9223372036854775808 ≤ v ∧ v ≤ 9223372036854775807) ∧ m' = fun x => if x = s then v else m x)
    (h : ∀ w1, MapStr P k e b (n + 1) w1 m' → w.grownBy w1 (some b) → wpList P ops Q rest (a.put N undef) w1) : wpList P ops Q (o :: rest) a w := by
  obtain ⟨D, h1, h2, h3⟩ := hm
  obtain ⟨⟨hs, hv0, hv1⟩, rfl⟩ := hm'
  subst hd
  have hwf : (Lit.int .i64 v).wf = true := by
    simp [Lit.wf, IntKind.min, IntKind.max, IntKind.signed, IntKind.bits]
    omega
  refine wpList_mapUpdate_own w hg mo xo vo t hop k e (string_keyed hk) ht (plainElem P e) b n D hmv h1 (by unfold maxLen; omega) (.string s) (.int .i64 v) (.string s.data.toList) hx hv (keyOf_string_mk hk hs) _ _ (plainElem_int he hwf) ?_
  intro w1 hown hg1
  refine h w1 ⟨_, hown, h2.put _ _, fun x => ?_⟩ hg1
  by_cases c : x = s
  · subst c
    rw [atKey_put_same h2 (show WideAt.IsKeyLit (.string x.data.toList) from trivial)]
    simp
  · rw [atKey_put_other (fun q => c (str_inj q))]
    simp only [if_neg c]
    exact h3 x
end
/-- What the two say in numbers: none where the model's bounds are passed. -/
def mlook.f (m : ByteArray → Int) (s : ByteArray) : Option Int := if s.size ≤ 9223372036854775807 then some (m s) else none
def mput.f (m : ByteArray → Int) (s : ByteArray) (v : Int) : Option (ByteArray → Int) := if s.size ≤ 9223372036854775807 ∧ -9223372036854775808 ≤ v ∧ v ≤ 9223372036854775807 then some (fun x => if x = s then v else m x) else none
theorem mlook.of {m : ByteArray → Int} {s : ByteArray} {c : Int} (h : mlook.f m s = some c) : s.size ≤ 9223372036854775807 ∧ c = m s := by
  unfold mlook.f at h
  split at h
  · exact ⟨by assumption, (Option.some.inj h).symm⟩
  · cases h
theorem mput.of {m m' : ByteArray → Int} {s : ByteArray} {v : Int} (h : mput.f m s v = some m') : (s.size ≤ 9223372036854775807 ∧ -9223372036854775808 ≤ v ∧ v ≤ 9223372036854775807) ∧ m' = fun x => if x = s then v else m x := by
  unfold mput.f at h
  split at h
  · exact ⟨by assumption, (Option.some.inj h).symm⟩
  · cases h
end Go.Proofs.YtcpoiklimbfppaaW.PrintMore
