-- Written by a program of this session, over the kit's print (wip/xprint.py)
import Derived.Test.YtanjdogfghkddaaPFnExactAddReadingx0
import Derived.Test.YtanjdogfghkddaaPFnExactAddReadingx1
import Derived.Test.YtanjdogfghkddaaPFnExactAddReadingx3
import Derived.Test.YtanjdogfghkddaaPFnExactAddReadingx4
import Derived.Test.YtanjdogfghkddaaPFnExactAddReadingx5
import Derived.Test.YtanjdogfghkddaaPFnExactAddReadingx6
namespace Go.Proofs.Ytanjdogfghkddaa.PFnExactAddReading
open Go.RowKit Go.Proofs.YtanjdogfghkddaaW.PrintWords Go.Proofs.YtanjdogfghkddaaW.PrintLast Go.Proofs.YtanjdogfghkddaaW.PrintMore
attribute [local go_sem] max2_int min2_int max_two min_two max_three min_three max_four min_four   -- for this text's walks alone
set_option linter.unusedVariables false
set_option linter.unusedSimpArgs false

/-! ### laws_FnExactAddReading: function 3 -/
mutual
def laws_FnExactAddReading.j0 : Nat → List (S24) → List (S30) → Bool → List (S30) → List (S30) → Bool → Bool → Int → Int → Bool → Option (Bool)
  | 0, _, _, _, _, _, _, _, _, _, _ => none
  | k + 1, x0, x6, x7, x8, x9, x10, x46, x214000, x214001, x214002 => if x46 = true then (some false) else ((laws_toReadingS.f k x0).bind fun t236 => ((laws_eqReadingS.f k x8 t236).bind fun t239 => (if t239 = true then ((laws_markReadingS.f k x8 1).bind fun bt240 => (if bt240.1 < 0 then (laws_FnExactAddReading.j1 k x0 x6 x7 x9 true x214000 x214001 x214002) else ((laws_eqReadingS.f k x9 x6).bind fun t242 => (if t242 = true then (laws_FnExactAddReading.j1 k x0 x6 x7 x9 (x10 != x7) x214000 x214001 x214002) else (laws_FnExactAddReading.j1 k x0 x6 x7 x9 true x214000 x214001 x214002))))) else (some false))))
def laws_FnExactAddReading.j1 : Nat → List (S24) → List (S30) → Bool → List (S30) → Bool → Int → Int → Bool → Option (Bool)
  | 0, _, _, _, _, _, _, _, _ => none
  | k + 1, x0, x6, x7, x9, x67, x214000, x214001, x214002 => if x67 = true then (some false) else ((laws_markReadingS.f k x9 1).bind fun bt243 => ((laws_heldReadingS.f k bt243.2 1).bind fun t245 => (if t245 < 0 then (some false) else (if t245 = bt243.1 then ((laws_toReadingS.f k x0).bind fun t246 => ((laws_toReading.f x214000 x214001 x214002).bind fun bt249 => ((impl_AddReading.f k t246 bt249.1 bt249.2.1 bt249.2.2).bind fun bt252 => ((laws_eqReadingS.f k bt252.1 x6).bind fun t256 => (if t256 = true then (laws_FnExactAddReading.j2 k bt243.2 bt243.1 (bt252.2 != x7)) else (laws_FnExactAddReading.j2 k bt243.2 bt243.1 true)))))) else (some false)))))
def laws_FnExactAddReading.j2 : Nat → List (S30) → Int → Bool → Option (Bool)
  | 0, _, _, _ => none
  | k + 1, x9, x12, x95 => if x95 = true then (some false) else ((laws_heldReadingS.f k x9 1).bind fun t257 => (if t257 < 0 then (some false) else (if t257 = x12 then (some true) else (some false))))
end
def laws_FnExactAddReading.f (k : Nat) (l0 : List (S24)) (a1_0 : Int) (a1_1 : Int) (a1_2 : Bool) : Option (Bool) := (laws_szReadingS.f l0 1048576).bind fun t214 => (if t214 < 0 then (some true) else ((laws_toReadingS.f k l0).bind fun t215 => ((laws_toReading.f a1_0 a1_1 a1_2).bind fun bt218 => ((spec_AddReading.f k t215 bt218.1 bt218.2.1 bt218.2.2).bind fun bt221 => ((laws_toReadingS.f k l0).bind fun t225 => ((laws_toReading.f a1_0 a1_1 a1_2).bind fun bt228 => ((impl_AddReading.f k t225 bt228.1 bt228.2.1 bt228.2.2).bind fun bt231 => ((laws_eqReadingS.f k bt231.1 bt221.1).bind fun t235 => (if t235 = true then (laws_FnExactAddReading.j0 k l0 bt221.1 bt221.2 t225 bt231.1 bt231.2 (bt231.2 != bt221.2) a1_0 a1_1 a1_2) else (laws_FnExactAddReading.j0 k l0 bt221.1 bt221.2 t225 bt231.1 bt231.2 true a1_0 a1_1 a1_2))))))))))
theorem laws_FnExactAddReading.mono_l : ∀ k, (∀ y0 y1 y2 y3 y4 y5 y6 y7 y8 y9, LeO (laws_FnExactAddReading.j0 k y0 y1 y2 y3 y4 y5 y6 y7 y8 y9) (laws_FnExactAddReading.j0 (k + 1) y0 y1 y2 y3 y4 y5 y6 y7 y8 y9)) ∧ (∀ y0 y1 y2 y3 y4 y5 y6 y7, LeO (laws_FnExactAddReading.j1 k y0 y1 y2 y3 y4 y5 y6 y7) (laws_FnExactAddReading.j1 (k + 1) y0 y1 y2 y3 y4 y5 y6 y7)) ∧ (∀ y0 y1 y2, LeO (laws_FnExactAddReading.j2 k y0 y1 y2) (laws_FnExactAddReading.j2 (k + 1) y0 y1 y2))
  | 0 => ⟨fun _ _ _ _ _ _ _ _ _ _ r h => by simp [laws_FnExactAddReading.j0] at h, fun _ _ _ _ _ _ _ _ r h => by simp [laws_FnExactAddReading.j1] at h, fun _ _ _ r h => by simp [laws_FnExactAddReading.j2] at h⟩
  | k + 1 => by
    obtain ⟨ih0, ih1, ih2⟩ := laws_FnExactAddReading.mono_l k
    refine ⟨?_, ?_, ?_⟩
    · intro y0 y1 y2 y3 y4 y5 y6 y7 y8 y9
      unfold laws_FnExactAddReading.j0
      repeat' first
      | (with_reducible exact ih0 _ _ _ _ _ _ _ _ _ _)
      | (with_reducible exact ih1 _ _ _ _ _ _ _ _)
      | (with_reducible exact ih2 _ _ _)
      | (with_reducible exact impl_AddReading.mono _ _ _ _ _)
      | (with_reducible exact laws_eqReadingS.mono _ _ _)
      | (with_reducible exact laws_heldReadingS.mono _ _ _)
      | (with_reducible exact laws_markReadingS.mono _ _ _)
      | (with_reducible exact laws_toReadingS.mono _ _)
      | (with_reducible exact spec_AddReading.mono _ _ _ _ _)
      | (with_reducible exact LeO.refl _)
      | (with_reducible exact LeO.none _)
      | (with_reducible refine LeO.ite ?_ ?_)
      | (with_reducible refine LeO.bind ?_ (fun _ => ?_))
      | exact ih0 _ _ _ _ _ _ _ _ _ _
      | exact ih1 _ _ _ _ _ _ _ _
      | exact ih2 _ _ _
      | exact impl_AddReading.mono _ _ _ _ _
      | exact laws_eqReadingS.mono _ _ _
      | exact laws_heldReadingS.mono _ _ _
      | exact laws_markReadingS.mono _ _ _
      | exact laws_toReadingS.mono _ _
      | exact spec_AddReading.mono _ _ _ _ _
      | exact LeO.none _
      | refine LeO.ite ?_ ?_
      | refine LeO.bind ?_ (fun _ => ?_)
    · intro y0 y1 y2 y3 y4 y5 y6 y7
      unfold laws_FnExactAddReading.j1
      repeat' first
      | (with_reducible exact ih0 _ _ _ _ _ _ _ _ _ _)
      | (with_reducible exact ih1 _ _ _ _ _ _ _ _)
      | (with_reducible exact ih2 _ _ _)
      | (with_reducible exact impl_AddReading.mono _ _ _ _ _)
      | (with_reducible exact laws_eqReadingS.mono _ _ _)
      | (with_reducible exact laws_heldReadingS.mono _ _ _)
      | (with_reducible exact laws_markReadingS.mono _ _ _)
      | (with_reducible exact laws_toReadingS.mono _ _)
      | (with_reducible exact spec_AddReading.mono _ _ _ _ _)
      | (with_reducible exact LeO.refl _)
      | (with_reducible exact LeO.none _)
      | (with_reducible refine LeO.ite ?_ ?_)
      | (with_reducible refine LeO.bind ?_ (fun _ => ?_))
      | exact ih0 _ _ _ _ _ _ _ _ _ _
      | exact ih1 _ _ _ _ _ _ _ _
      | exact ih2 _ _ _
      | exact impl_AddReading.mono _ _ _ _ _
      | exact laws_eqReadingS.mono _ _ _
      | exact laws_heldReadingS.mono _ _ _
      | exact laws_markReadingS.mono _ _ _
      | exact laws_toReadingS.mono _ _
      | exact spec_AddReading.mono _ _ _ _ _
      | exact LeO.none _
      | refine LeO.ite ?_ ?_
      | refine LeO.bind ?_ (fun _ => ?_)
    · intro y0 y1 y2
      unfold laws_FnExactAddReading.j2
      repeat' first
      | (with_reducible exact ih0 _ _ _ _ _ _ _ _ _ _)
      | (with_reducible exact ih1 _ _ _ _ _ _ _ _)
      | (with_reducible exact ih2 _ _ _)
      | (with_reducible exact impl_AddReading.mono _ _ _ _ _)
      | (with_reducible exact laws_eqReadingS.mono _ _ _)
      | (with_reducible exact laws_heldReadingS.mono _ _ _)
      | (with_reducible exact laws_markReadingS.mono _ _ _)
      | (with_reducible exact laws_toReadingS.mono _ _)
      | (with_reducible exact spec_AddReading.mono _ _ _ _ _)
      | (with_reducible exact LeO.refl _)
      | (with_reducible exact LeO.none _)
      | (with_reducible refine LeO.ite ?_ ?_)
      | (with_reducible refine LeO.bind ?_ (fun _ => ?_))
      | exact ih0 _ _ _ _ _ _ _ _ _ _
      | exact ih1 _ _ _ _ _ _ _ _
      | exact ih2 _ _ _
      | exact impl_AddReading.mono _ _ _ _ _
      | exact laws_eqReadingS.mono _ _ _
      | exact laws_heldReadingS.mono _ _ _
      | exact laws_markReadingS.mono _ _ _
      | exact laws_toReadingS.mono _ _
      | exact spec_AddReading.mono _ _ _ _ _
      | exact LeO.none _
      | refine LeO.ite ?_ ?_
      | refine LeO.bind ?_ (fun _ => ?_)
theorem laws_FnExactAddReading.mono : ∀ a0 a1 a2 a3 k, LeO (laws_FnExactAddReading.f k a0 a1 a2 a3) (laws_FnExactAddReading.f (k + 1) a0 a1 a2 a3) := by
  intro a0 a1 a2 a3 k
  obtain ⟨ih0, ih1, ih2⟩ := laws_FnExactAddReading.mono_l k
  unfold laws_FnExactAddReading.f
  repeat' first
      | (with_reducible exact ih0 _ _ _ _ _ _ _ _ _ _)
      | (with_reducible exact ih1 _ _ _ _ _ _ _ _)
      | (with_reducible exact ih2 _ _ _)
      | (with_reducible exact impl_AddReading.mono _ _ _ _ _)
      | (with_reducible exact laws_eqReadingS.mono _ _ _)
      | (with_reducible exact laws_heldReadingS.mono _ _ _)
      | (with_reducible exact laws_markReadingS.mono _ _ _)
      | (with_reducible exact laws_toReadingS.mono _ _)
      | (with_reducible exact spec_AddReading.mono _ _ _ _ _)
      | (with_reducible exact LeO.refl _)
      | (with_reducible exact LeO.none _)
      | (with_reducible refine LeO.ite ?_ ?_)
      | (with_reducible refine LeO.bind ?_ (fun _ => ?_))
      | exact ih0 _ _ _ _ _ _ _ _ _ _
      | exact ih1 _ _ _ _ _ _ _ _
      | exact ih2 _ _ _
      | exact impl_AddReading.mono _ _ _ _ _
      | exact laws_eqReadingS.mono _ _ _
      | exact laws_heldReadingS.mono _ _ _
      | exact laws_markReadingS.mono _ _ _
      | exact laws_toReadingS.mono _ _
      | exact spec_AddReading.mono _ _ _ _ _
      | exact LeO.none _
      | refine LeO.ite ?_ ?_
      | refine LeO.bind ?_ (fun _ => ?_)
def laws_FnExactAddReading.T5 : Bool × List (List Nat × List Nat) := (true, [([], []), ([0], [0]), ([], []), ([2, 1], [2]), ([1, 3, 3], [1, 3]), ([4], [4]), ([5], [5]), ([5], [5]), ([6, 4, 0, 1, 2, 3, 4, 5, 6], [6]), ([7, 8, 0, 1, 2, 3, 4, 5, 6, 7, 8], [7])])
def laws_FnExactAddReading.B5 : List Nat := [0, 1, 0, 7, 15, 31, 63, 63, 127, 511]
theorem laws_FnExactAddReading.tab5 : rtab .any (opsOf Try.f3 5) = laws_FnExactAddReading.T5 := by kernel_rfl
theorem laws_FnExactAddReading.bits5 : waitsOk laws_FnExactAddReading.T5.2 laws_FnExactAddReading.B5 = true := by kernel_rfl
def laws_FnExactAddReading.T24 : Bool × List (List Nat × List Nat) := (true, [([], []), ([0], [0]), ([], []), ([2, 1], [2]), ([1, 3, 3], [1, 3]), ([4], [4]), ([5], [5]), ([5], [5]), ([6, 4, 0, 1, 2, 3, 4, 5, 6], [6]), ([7, 8, 0, 1, 2, 3, 4, 5, 6, 7, 8], [7])])
def laws_FnExactAddReading.B24 : List Nat := [0, 1, 0, 7, 15, 31, 63, 63, 127, 511]
theorem laws_FnExactAddReading.tab24 : rtab .any (opsOf Try.f3 24) = laws_FnExactAddReading.T24 := by kernel_rfl
theorem laws_FnExactAddReading.bits24 : waitsOk laws_FnExactAddReading.T24.2 laws_FnExactAddReading.B24 = true := by kernel_rfl
set_option maxHeartbeats 8000000 in
set_option maxRecDepth 100000 in
theorem laws_FnExactAddReading.calls (k : Nat) (A0 : Option Addr) (c0 : Nat) (l0 : List (S24)) (a1_0 : Int) (a1_1 : Int) (a1_2 : Bool) (r : Bool) (w : World) (hr0 : Kd.C k24 w A0 l0.length l0) (hc0 : l0.length ≤ c0) (h : laws_FnExactAddReading.f k l0 a1_0 a1_1 a1_2 = some r) :
    Calls Try.prog 3 #[.slice A0 l0.length c0, .agg #[.int .i64 a1_0, .int .i64 a1_1, .bool a1_2]] w fun e w' => e = .returned (.bool r) ∧ Below w.heap.size w w' := by
  have hu24 := Try.underlying24
  have HR0 := Aside0.mk hr0
  have HC0 := Aside0.mk hc0
  clear hr0 hc0
  have HB := Aside0.mk (Below.refl w.heap.size w)
  have H : ((laws_szReadingS.f l0 1048576).bind fun t214 => (if t214 < 0 then (some true) else ((laws_toReadingS.f k l0).bind fun t215 => ((laws_toReading.f a1_0 a1_1 a1_2).bind fun bt218 => ((spec_AddReading.f k t215 bt218.1 bt218.2.1 bt218.2.2).bind fun bt221 => ((laws_toReadingS.f k l0).bind fun t225 => ((laws_toReading.f a1_0 a1_1 a1_2).bind fun bt228 => ((impl_AddReading.f k t225 bt228.1 bt228.2.1 bt228.2.2).bind fun bt231 => ((laws_eqReadingS.f k bt231.1 bt221.1).bind fun t235 => (if t235 = true then (laws_FnExactAddReading.j0 k l0 bt221.1 bt221.2 t225 bt231.1 bt231.2 (bt231.2 != bt221.2) a1_0 a1_1 a1_2) else (laws_FnExactAddReading.j0 k l0 bt221.1 bt221.2 t225 bt231.1 bt231.2 true a1_0 a1_1 a1_2))))))))))) = some r := h
  clear h
  replace H := Option.bind_eq_some_iff.mp H
  obtain ⟨t214, A30, H⟩ := H
  replace H : (if t214 < 0 then (some true) else ((laws_toReadingS.f k l0).bind fun t215 => ((laws_toReading.f a1_0 a1_1 a1_2).bind fun bt218 => ((spec_AddReading.f k t215 bt218.1 bt218.2.1 bt218.2.2).bind fun bt221 => ((laws_toReadingS.f k l0).bind fun t225 => ((laws_toReading.f a1_0 a1_1 a1_2).bind fun bt228 => ((impl_AddReading.f k t225 bt228.1 bt228.2.1 bt228.2.2).bind fun bt231 => ((laws_eqReadingS.f k bt231.1 bt221.1).bind fun t235 => (if t235 = true then (laws_FnExactAddReading.j0 k l0 bt221.1 bt221.2 t225 bt231.1 bt231.2 (bt231.2 != bt221.2) a1_0 a1_1 a1_2) else (laws_FnExactAddReading.j0 k l0 bt221.1 bt221.2 t225 bt231.1 bt231.2 true a1_0 a1_1 a1_2)))))))))) = some r := H
  have A3 := Aside0.mk A30
  clear A30
  by_cases c4 : t214 < 0
  · rw [if_pos c4] at H
    have c4b0 : decide (t214 < 0) = true := decide_eq_true c4
    clear c4
    obtain rfl := Option.some.inj H
    go_enter Try.func3, Try.ntmps3
    go_wp2_with (first | ((with_reducible refine gate_dst (N := 3) rfl ?_); refine box_event ?hg (N := 3) ?hd (cs := #[.int .i64 a1_0, .int .i64 a1_1, .bool a1_2]) (t := 24) ?hr ?_; (case hd => rfl); (case hg => rfl); (case hr => (go_simp; done)); intro gb213 hg w5 hbox hb; have n0_ := Aside0.mk (below_step (by exact HB.out) hb); have n1_ := Aside0.mk (hbox); have n2_ := Aside0.mk ((by rw [hg]; exact (below_size (by exact HB.out)) : w.heap.size ≤ gb213)); have n3_ := Aside0.mk ((by rw [hg]; exact (below_size (by exact HB.out)) : w.heap.size ≤ gb213)); clear HB; have HB := n0_; have BK213 := n1_; have GW213 := n2_; have GE213 := n3_; clear n0_ n1_ n2_ n3_; clear hb hbox hg) | ((with_reducible refine gate_callee (f := 4) rfl ?_); refine goesL_ (some 18) rfl rfl Try.func4 (by kernel_rfl) rfl #[.slice A0 l0.length c0, .int .i64 1048576] rfl (by (try simp only [List.map_toArray, List.map_cons, List.map_nil]); rfl) ?_; (with_reducible refine (laws_szReadingS.calls _ _ l0 1048576 t214 _ ?side1 ?side2 A3.out).mono ?_); (case side1 => repeat (exact (Kd.C_below HR0.out HB.out))); (case side2 => exact HC0.out); rintro e w' ⟨rfl, ⟨nd, rfl⟩⟩; refine ⟨_, rfl, ?_⟩))
    go_ret
    exact ⟨by rfl, by repeat ((with_reducible first | exact HB.out | apply pw_below_drewN))⟩
  · rw [if_neg c4] at H
    have c4b0 : decide (t214 < 0) = false := decide_eq_false c4
    clear c4
    replace H := Option.bind_eq_some_iff.mp H
    obtain ⟨t215, A60, H⟩ := H
    replace H : ((laws_toReading.f a1_0 a1_1 a1_2).bind fun bt218 => ((spec_AddReading.f k t215 bt218.1 bt218.2.1 bt218.2.2).bind fun bt221 => ((laws_toReadingS.f k l0).bind fun t225 => ((laws_toReading.f a1_0 a1_1 a1_2).bind fun bt228 => ((impl_AddReading.f k t225 bt228.1 bt228.2.1 bt228.2.2).bind fun bt231 => ((laws_eqReadingS.f k bt231.1 bt221.1).bind fun t235 => (if t235 = true then (laws_FnExactAddReading.j0 k l0 bt221.1 bt221.2 t225 bt231.1 bt231.2 (bt231.2 != bt221.2) a1_0 a1_1 a1_2) else (laws_FnExactAddReading.j0 k l0 bt221.1 bt221.2 t225 bt231.1 bt231.2 true a1_0 a1_1 a1_2)))))))) = some r := H
    have A6 := Aside0.mk A60
    clear A60
    replace H := Option.bind_eq_some_iff.mp H
    obtain ⟨⟨t218, t219, t220⟩, A70, H⟩ := H
    replace H : ((spec_AddReading.f k t215 t218 t219 t220).bind fun bt221 => ((laws_toReadingS.f k l0).bind fun t225 => ((laws_toReading.f a1_0 a1_1 a1_2).bind fun bt228 => ((impl_AddReading.f k t225 bt228.1 bt228.2.1 bt228.2.2).bind fun bt231 => ((laws_eqReadingS.f k bt231.1 bt221.1).bind fun t235 => (if t235 = true then (laws_FnExactAddReading.j0 k l0 bt221.1 bt221.2 t225 bt231.1 bt231.2 (bt231.2 != bt221.2) a1_0 a1_1 a1_2) else (laws_FnExactAddReading.j0 k l0 bt221.1 bt221.2 t225 bt231.1 bt231.2 true a1_0 a1_1 a1_2))))))) = some r := H
    have A7 := Aside0.mk A70
    clear A70
    replace H := Option.bind_eq_some_iff.mp H
    obtain ⟨⟨t221, t224⟩, A80, H⟩ := H
    replace H : ((laws_toReadingS.f k l0).bind fun t225 => ((laws_toReading.f a1_0 a1_1 a1_2).bind fun bt228 => ((impl_AddReading.f k t225 bt228.1 bt228.2.1 bt228.2.2).bind fun bt231 => ((laws_eqReadingS.f k bt231.1 t221).bind fun t235 => (if t235 = true then (laws_FnExactAddReading.j0 k l0 t221 t224 t225 bt231.1 bt231.2 (bt231.2 != t224) a1_0 a1_1 a1_2) else (laws_FnExactAddReading.j0 k l0 t221 t224 t225 bt231.1 bt231.2 true a1_0 a1_1 a1_2)))))) = some r := H
    have A8 := Aside0.mk A80
    clear A80
    replace H := Option.bind_eq_some_iff.mp H
    obtain ⟨t225, A90, H⟩ := H
    replace H : ((laws_toReading.f a1_0 a1_1 a1_2).bind fun bt228 => ((impl_AddReading.f k t225 bt228.1 bt228.2.1 bt228.2.2).bind fun bt231 => ((laws_eqReadingS.f k bt231.1 t221).bind fun t235 => (if t235 = true then (laws_FnExactAddReading.j0 k l0 t221 t224 t225 bt231.1 bt231.2 (bt231.2 != t224) a1_0 a1_1 a1_2) else (laws_FnExactAddReading.j0 k l0 t221 t224 t225 bt231.1 bt231.2 true a1_0 a1_1 a1_2))))) = some r := H
    have A9 := Aside0.mk A90
    clear A90
    replace H := Option.bind_eq_some_iff.mp H
    obtain ⟨⟨t228, t229, t230⟩, A100, H⟩ := H
    replace H : ((impl_AddReading.f k t225 t228 t229 t230).bind fun bt231 => ((laws_eqReadingS.f k bt231.1 t221).bind fun t235 => (if t235 = true then (laws_FnExactAddReading.j0 k l0 t221 t224 t225 bt231.1 bt231.2 (bt231.2 != t224) a1_0 a1_1 a1_2) else (laws_FnExactAddReading.j0 k l0 t221 t224 t225 bt231.1 bt231.2 true a1_0 a1_1 a1_2)))) = some r := H
    have A10 := Aside0.mk A100
    clear A100
    replace H := Option.bind_eq_some_iff.mp H
    obtain ⟨⟨t231, t234⟩, A110, H⟩ := H
    replace H : ((laws_eqReadingS.f k t231 t221).bind fun t235 => (if t235 = true then (laws_FnExactAddReading.j0 k l0 t221 t224 t225 t231 t234 (t234 != t224) a1_0 a1_1 a1_2) else (laws_FnExactAddReading.j0 k l0 t221 t224 t225 t231 t234 true a1_0 a1_1 a1_2))) = some r := H
    have A11 := Aside0.mk A110
    clear A110
    have HC12 := Aside0.mk H
    clear H
    go_enter Try.func3, Try.ntmps3
    try go_wp2_with (first | ((with_reducible refine gate_dst (N := 3) rfl ?_); refine box_event ?hg (N := 3) ?hd (cs := #[.int .i64 a1_0, .int .i64 a1_1, .bool a1_2]) (t := 24) ?hr ?_; (case hd => rfl); (case hg => rfl); (case hr => (go_simp; done)); intro gb213 hg w13 hbox hb; have n0_ := Aside0.mk (below_step (by exact HB.out) hb); have n1_ := Aside0.mk (hbox); have n2_ := Aside0.mk ((by rw [hg]; exact (below_size (by exact HB.out)) : w.heap.size ≤ gb213)); have n3_ := Aside0.mk ((by rw [hg]; exact (below_size (by exact HB.out)) : w.heap.size ≤ gb213)); clear HB; have HB := n0_; have BK213 := n1_; have GW213 := n2_; have GE213 := n3_; clear n0_ n1_ n2_ n3_; clear hb hbox hg) | ((with_reducible refine gate_callee (f := 4) rfl ?_); refine goesL_ (some 18) rfl rfl Try.func4 (by kernel_rfl) rfl #[.slice A0 l0.length c0, .int .i64 1048576] rfl (by (try simp only [List.map_toArray, List.map_cons, List.map_nil]); rfl) ?_; (with_reducible refine (laws_szReadingS.calls _ _ l0 1048576 t214 _ ?side1 ?side2 A3.out).mono ?_); (case side1 => repeat (exact (Kd.C_below HR0.out HB.out))); (case side2 => exact HC0.out); rintro e w' ⟨rfl, ⟨nd, rfl⟩⟩; refine ⟨_, rfl, ?_⟩))
    (try (rw [drewN_self w13]; generalize hq_ : World.drewN w13 _ = w13; have n0_ : Aside0 (w13.heap[gb213]? = some (.cells #[.int .i64 a1_0, .int .i64 a1_1, .bool a1_2] 24 (0, 0))) := ⟨by rw [← hq_]; exact (by (with_reducible repeat (refine blk_drewN ?_ _)); exact BK213.out)⟩; have n1_ : Aside0 (Below w.heap.size w w13) := ⟨by rw [← hq_]; exact (by repeat ((with_reducible first | exact HB.out | apply pw_below_drewN)))⟩; clear BK213 HB hq_; have BK213 := n0_; have HB := n1_; clear n0_ n1_))
    have n0_ := Aside0.mk (blk_drew BK213.out)
    have n1_ := Aside0.mk (below_drew1 HB.out)
    clear BK213
    clear HB
    have BK213 := n0_
    have HB := n1_
    clear n0_ n1_
    refine start_ (n := 10) (S := fun w' => w'.cell? ⟨gb213, 0, none⟩ = some (.int .i64 a1_0) ∧ w'.cell? ⟨gb213, 1, none⟩ = some (.int .i64 a1_1) ∧ w'.cell? ⟨gb213, 2, none⟩ = some (.bool a1_2)) (ds := []) #[false, false, false, false, false, false, false, false, false, false] (by kernel_rfl) rfl rfl ⟨(blk_cell BK213.out 0).trans rfl, (blk_cell BK213.out 1).trans rfl, (blk_cell BK213.out 2).trans rfl⟩ (fun hHeld => ?_); refine with_tabW laws_FnExactAddReading.tab5 laws_FnExactAddReading.bits5 (fun HT_ HW_ => ?_)
    generalize w13.drew = w14 at BK213 HB hHeld ⊢
    refine pure_ (i := 0) (N := some 22) (v := ?_) (a' := ?_) #[true, false, false, false, false, false, false, false, false, false] rfl rfl (any_of HT_.out (by kernel_rfl)) (fun _ _ _ h => h) (Or.inl ⟨by rfl, ?_⟩) ?_ ?_
    rotate_left
    · intro w'
      go_simp
      with_reducible rfl
    rotate_left
    · simp only [Act.put, List.setIfInBounds_toArray, List.set_cons_zero, List.set_cons_succ, i64_w, i32_w]
      rfl
    refine take_ (i := 2) (N := some 24) (v := ?_) (a' := ?_) #[true, false, true, false, false, false, false, false, false, false] rfl rfl (take_ofW HT_.out HW_.out (by kernel_rfl)) (fun _ _ _ h => h) (Or.inl ⟨by rfl, ?_⟩) hHeld ?_ ?_
    rotate_left
    · rintro w' ⟨s0, s1, s2⟩
      go_simp
      with_reducible rfl
    rotate_left
    · simp only [Act.put, List.setIfInBounds_toArray, List.set_cons_zero, List.set_cons_succ, i64_w, i32_w]
      rfl
    refine one_ (i := 1) (N := some 23) #[true, true, true, false, false, false, false, false, false, false] rfl rfl (one_of HT_.out (by kernel_rfl)) (by decide) (fun K hK => ?_)
    refine goes_ Try.func6 (by kernel_rfl) rfl #[.slice A0 l0.length c0] (by rfl) rfl rfl (by (try simp only [List.map_toArray, List.map_cons, List.map_nil]); rfl) ?_
    with_reducible refine (laws_toReadingS.calls k _ _ l0 t215 _ ?side1 ?side2 A6.out).mono ?_
    (case side1 => repeat (exact (Kd.C_below HR0.out HB.out)))
    (case side2 => exact HC0.out)
    rintro e w15 ⟨v216, rfl, ho0, hb⟩
    refine ⟨_, rfl, ?_⟩
    have n0_ := Aside0.mk (Kd.R_lower ho0 (below_size (by exact HB.out)))
    have n1_ := Aside0.mk (blk_below (g := gb213) (o := .cells #[.int .i64 a1_0, .int .i64 a1_1, .bool a1_2] 24 (0, 0)) (by exact BK213.out) hb)
    have n2_ := Aside0.mk (below_step (by exact HB.out) hb)
    clear BK213
    clear HB
    have HO217 := n0_
    have BK213 := n1_
    have HB := n2_
    clear n0_ n1_ n2_
    (try clear hb)
    (skip)
    (skip)
    (skip)
    (try clear ho0)
    refine hK.out _ _ ⟨(blk_cell BK213.out 0).trans rfl, (blk_cell BK213.out 1).trans rfl, (blk_cell BK213.out 2).trans rfl⟩ (fun hHeld => ?_)
    clear hK K
    refine norm_ (a' := ?_) ?_ ?_
    rotate_left
    · show Act.put _ (some 23) _ = _
      simp only [Act.put, List.setIfInBounds_toArray, List.set_cons_zero, List.set_cons_succ, i64_w, i32_w]
      rfl
    refine one_ (i := 3) (N := some 25) #[true, true, true, true, false, false, false, false, false, false] rfl rfl (one_of HT_.out (by kernel_rfl)) (by decide) (fun K hK => ?_)
    refine goes_ Try.func7 (by kernel_rfl) rfl #[.agg #[.int .i64 a1_0, .int .i64 a1_1, .bool a1_2]] (by rfl) rfl rfl (by (try simp only [List.map_toArray, List.map_cons, List.map_nil]); rfl) ?_
    with_reducible refine (laws_toReading.calls a1_0 a1_1 a1_2 t218 t219 t220 _ A7.out).mono ?_
    rintro e w16 ⟨rfl, hb⟩
    refine ⟨_, rfl, ?_⟩
    have n0_ := Aside0.mk (Kd.R_below (by exact HO217.out) hb)
    have n1_ := Aside0.mk (blk_below (g := gb213) (o := .cells #[.int .i64 a1_0, .int .i64 a1_1, .bool a1_2] 24 (0, 0)) (by exact BK213.out) hb)
    have n2_ := Aside0.mk (below_step (by exact HB.out) hb)
    clear HO217
    clear BK213
    clear HB
    have HO217 := n0_
    have BK213 := n1_
    have HB := n2_
    clear n0_ n1_ n2_
    (try clear hb)
    (skip)
    (skip)
    (skip)
    obtain ⟨Ao17, co17, eo17⟩ := Kd.R_slice HO217.out
    (subst eo17)
    refine hK.out _ _ ⟨(blk_cell BK213.out 0).trans rfl, (blk_cell BK213.out 1).trans rfl, (blk_cell BK213.out 2).trans rfl⟩ (fun hHeld => ?_)
    clear hK K
    refine norm_ (a' := ?_) ?_ ?_
    rotate_left
    · show Act.put _ (some 25) _ = _
      simp only [Act.put, List.setIfInBounds_toArray, List.set_cons_zero, List.set_cons_succ, i64_w, i32_w]
      rfl
    refine one_ (i := 4) (N := some 26) #[true, true, true, true, true, false, false, false, false, false] rfl rfl (one_of HT_.out (by kernel_rfl)) (by decide) (fun K hK => ?_)
    refine goes_ Try.func5 (by kernel_rfl) rfl #[.slice Ao17 t215.length co17, .agg #[.int .i64 t218, .int .i64 t219, .bool t220]] (by rfl) rfl rfl (by (try simp only [List.map_toArray, List.map_cons, List.map_nil]); rfl) ?_
    with_reducible refine (spec_AddReading.calls k _ _ t215 t218 t219 t220 t221 t224 _ ?side1 ?side2 A8.out).mono ?_
    (case side1 => repeat (exact (Kd.R_reads' HO217.out).2.2))
    (case side2 => exact (Kd.R_reads' HO217.out).2.1)
    rintro e w18 ⟨v222, rfl, ho0, hb⟩
    refine ⟨_, rfl, ?_⟩
    have n0_ := Aside0.mk (Kd.R_elder' (by exact HO217.out) (Kd.R_base ho0) hb)
    have n1_ := Aside0.mk (Kd.R_lower (Kd.R_new' ho0 (Kd.R_lt (by exact HO217.out))) (below_size (by exact HB.out)))
    have n2_ := Aside0.mk (blk_below (g := gb213) (o := .cells #[.int .i64 a1_0, .int .i64 a1_1, .bool a1_2] 24 (0, 0)) (by exact BK213.out) hb)
    have n3_ := Aside0.mk (below_step (by exact HB.out) hb)
    clear HO217
    clear BK213
    clear HB
    have HO217 := n0_
    have HO223 := n1_
    have BK213 := n2_
    have HB := n3_
    clear n0_ n1_ n2_ n3_
    (try clear hb)
    (skip)
    (skip)
    (skip)
    (try clear ho0)
    refine hK.out _ _ ⟨(blk_cell BK213.out 0).trans rfl, (blk_cell BK213.out 1).trans rfl, (blk_cell BK213.out 2).trans rfl⟩ (fun hHeld => ?_)
    clear hK K
    refine norm_ (a' := ?_) ?_ ?_
    rotate_left
    · show Act.put _ (some 26) _ = _
      simp only [Act.put, List.setIfInBounds_toArray, List.set_cons_zero, List.set_cons_succ, i64_w, i32_w]
      rfl
    refine pure_ (i := 5) (N := some 21) (v := ?_) (a' := ?_) #[true, true, true, true, true, true, false, false, false, false] rfl rfl (any_of HT_.out (by kernel_rfl)) (fun _ _ _ h => h) (Or.inl ⟨by rfl, ?_⟩) ?_ ?_
    rotate_left
    · intro w'
      go_simp
      with_reducible rfl
    rotate_left
    · simp only [Act.put, List.setIfInBounds_toArray, List.set_cons_zero, List.set_cons_succ, i64_w, i32_w]
      rfl
    refine pure_ (i := 6) (N := some 27) (v := ?_) (a' := ?_) #[true, true, true, true, true, true, true, false, false, false] rfl rfl (any_of HT_.out (by kernel_rfl)) (fun _ _ _ h => h) (Or.inl ⟨by rfl, ?_⟩) ?_ ?_
    rotate_left
    · intro w'
      go_simp
      with_reducible rfl
    rotate_left
    · simp only [Act.put, List.setIfInBounds_toArray, List.set_cons_zero, List.set_cons_succ, i64_w, i32_w]
      rfl
    refine pure_ (i := 7) (N := some 28) (v := ?_) (a' := ?_) #[true, true, true, true, true, true, true, true, false, false] rfl rfl (any_of HT_.out (by kernel_rfl)) (fun _ _ _ h => h) (Or.inl ⟨by rfl, ?_⟩) ?_ ?_
    rotate_left
    · intro w'
      go_simp
      with_reducible rfl
    rotate_left
    · simp only [Act.put, List.setIfInBounds_toArray, List.set_cons_zero, List.set_cons_succ, i64_w, i32_w]
      rfl
    refine pure_ (i := 8) (N := some 6) (v := ?_) (a' := ?_) #[true, true, true, true, true, true, true, true, true, false] rfl rfl (any_of HT_.out (by kernel_rfl)) (fun _ _ _ h => h) (Or.inl ⟨by rfl, ?_⟩) ?_ ?_
    rotate_left
    · intro w'
      go_simp
      with_reducible rfl
    rotate_left
    · simp only [Act.put, List.setIfInBounds_toArray, List.set_cons_zero, List.set_cons_succ, i64_w, i32_w]
      rfl
    refine pure_ (i := 9) (N := some 7) (v := ?_) (a' := ?_) #[true, true, true, true, true, true, true, true, true, true] rfl rfl (any_of HT_.out (by kernel_rfl)) (fun _ _ _ h => h) (Or.inl ⟨by rfl, ?_⟩) ?_ ?_
    rotate_left
    · intro w'
      go_simp
      with_reducible rfl
    rotate_left
    · simp only [Act.put, List.setIfInBounds_toArray, List.set_cons_zero, List.set_cons_succ, i64_w, i32_w]
      rfl
    refine done_ (done_of HT_.out (by kernel_rfl)) ?_
    go_upto_region 8 with (first | ((with_reducible refine gate_callee (f := 6) rfl ?_); refine goesL_ (some 30) rfl rfl Try.func6 (by kernel_rfl) rfl #[.slice A0 l0.length c0] rfl (by (try simp only [List.map_toArray, List.map_cons, List.map_nil]); rfl) ?_; (with_reducible refine (laws_toReadingS.calls k _ _ l0 t225 _ ?side1 ?side2 A9.out).mono ?_); (case side1 => repeat (exact (Kd.C_below HR0.out HB.out))); (case side2 => exact HC0.out); rintro e w19 ⟨v226, rfl, ho0, hb⟩; refine ⟨_, rfl, ?_⟩; have n0_ := Aside0.mk (Kd.R_elder' (by exact HO217.out) (Kd.R_base ho0) hb); have n1_ := Aside0.mk (Kd.R_elder' (by exact HO223.out) (Kd.R_base ho0) hb); have n2_ := Aside0.mk (Kd.R_lower (Kd.R_new' (Kd.R_new' ho0 (Kd.R_lt (by exact HO217.out))) (Kd.R_lt (by exact HO223.out))) (below_size (by exact HB.out))); have n3_ := Aside0.mk (blk_below (g := gb213) (o := .cells #[.int .i64 a1_0, .int .i64 a1_1, .bool a1_2] 24 (0, 0)) (by exact BK213.out) hb); have n4_ := Aside0.mk (below_step (by exact HB.out) hb); clear HO217; clear HO223; clear BK213; clear HB; have HO217 := n0_; have HO223 := n1_; have HO227 := n2_; have BK213 := n3_; have HB := n4_; clear n0_ n1_ n2_ n3_ n4_; (try clear hb); (try clear ho0); have hcz20_0 : w19.cell? ⟨gb213, 0, none⟩ = some (.int .i64 a1_0) := (blk_cell BK213.out 0).trans rfl; have hcz20_1 : w19.cell? ⟨gb213, 1, none⟩ = some (.int .i64 a1_1) := (blk_cell BK213.out 1).trans rfl; have hcz20_2 : w19.cell? ⟨gb213, 2, none⟩ = some (.bool a1_2) := (blk_cell BK213.out 2).trans rfl; have hfz20_0 := blk_frozen BK213.out 0; have hfz20_1 := blk_frozen BK213.out 1; have hfz20_2 := blk_frozen BK213.out 2) | ((with_reducible refine gate_callee (f := 7) rfl ?_); refine goesL_ (some 34) rfl rfl Try.func7 (by kernel_rfl) rfl #[.agg #[.int .i64 a1_0, .int .i64 a1_1, .bool a1_2]] rfl (by (try simp only [List.map_toArray, List.map_cons, List.map_nil]); rfl) ?_; (with_reducible refine (laws_toReading.calls a1_0 a1_1 a1_2 t228 t229 t230 _ A10.out).mono ?_); rintro e w21 ⟨rfl, hb⟩; refine ⟨_, rfl, ?_⟩; have n0_ := Aside0.mk (Kd.R_below (by exact HO217.out) hb); have n1_ := Aside0.mk (Kd.R_below (by exact HO223.out) hb); have n2_ := Aside0.mk (Kd.R_below (by exact HO227.out) hb); have n3_ := Aside0.mk (blk_below (g := gb213) (o := .cells #[.int .i64 a1_0, .int .i64 a1_1, .bool a1_2] 24 (0, 0)) (by exact BK213.out) hb); have n4_ := Aside0.mk (below_step (by exact HB.out) hb); clear HO217; clear HO223; clear HO227; clear BK213; clear HB; have HO217 := n0_; have HO223 := n1_; have HO227 := n2_; have BK213 := n3_; have HB := n4_; clear n0_ n1_ n2_ n3_ n4_; (try clear hb); obtain ⟨Ao22, co22, eo22⟩ := Kd.R_slice HO227.out; subst eo22) | ((with_reducible refine gate_callee (f := 8) rfl ?_); refine goesL_ (some 35) rfl rfl Try.func8 (by kernel_rfl) rfl #[.slice Ao22 t225.length co22, .agg #[.int .i64 t228, .int .i64 t229, .bool t230]] rfl (by (try simp only [List.map_toArray, List.map_cons, List.map_nil]); rfl) ?_; (with_reducible refine (impl_AddReading.calls k _ _ t225 t228 t229 t230 t231 t234 _ ?side1 ?side2 A11.out).mono ?_); (case side1 => repeat (exact (Kd.R_reads' HO227.out).2.2)); (case side2 => exact (Kd.R_reads' HO227.out).2.1); rintro e w23 ⟨v232, rfl, ho0, hb⟩; refine ⟨_, rfl, ?_⟩; have n0_ := Aside0.mk (Kd.R_elder' (by exact HO217.out) (Kd.R_base ho0) hb); have n1_ := Aside0.mk (Kd.R_elder' (by exact HO223.out) (Kd.R_base ho0) hb); have n2_ := Aside0.mk (Kd.R_elder' (by exact HO227.out) (Kd.R_base ho0) hb); have n3_ := Aside0.mk (Kd.R_lower (Kd.R_new' (Kd.R_new' (Kd.R_new' ho0 (Kd.R_lt (by exact HO217.out))) (Kd.R_lt (by exact HO223.out))) (Kd.R_lt (by exact HO227.out))) (below_size (by exact HB.out))); have n4_ := Aside0.mk (blk_below (g := gb213) (o := .cells #[.int .i64 a1_0, .int .i64 a1_1, .bool a1_2] 24 (0, 0)) (by exact BK213.out) hb); have n5_ := Aside0.mk (below_step (by exact HB.out) hb); clear HO217; clear HO223; clear HO227; clear BK213; clear HB; have HO217 := n0_; have HO223 := n1_; have HO227 := n2_; have HO233 := n3_; have BK213 := n4_; have HB := n5_; clear n0_ n1_ n2_ n3_ n4_ n5_; (try clear hb); (try clear ho0)))
    (skip)
    go_cut [46] (fun v46 wc => ∃ (kq : Nat) (x46_11 : Bool), v46 = .bool x46_11 ∧ Aside0 (laws_FnExactAddReading.j0 kq l0 t221 t224 t225 t231 t234 x46_11 a1_0 a1_1 a1_2 = some r) ∧ Aside0 (kq ≤ k) ∧ Aside0 (Kd.R k30 30 wc w.heap.size (fun k_ => some k_ ≠ ((.slice Ao22 t225.length co22) : Value).ownBlock ∧ some k_ ≠ (v232 : Value).ownBlock) v222 t221) ∧ Aside0 (Kd.R k30 30 wc w.heap.size (fun k_ => some k_ ≠ (v222 : Value).ownBlock ∧ some k_ ≠ (v232 : Value).ownBlock) (.slice Ao22 t225.length co22) t225) ∧ Aside0 (Kd.R k30 30 wc w.heap.size (fun k_ => some k_ ≠ (v222 : Value).ownBlock ∧ some k_ ≠ ((.slice Ao22 t225.length co22) : Value).ownBlock) v232 t231) ∧ Aside0 (wc.heap[gb213]? = some (.cells #[.int .i64 a1_0, .int .i64 a1_1, .bool a1_2] 24 (0, 0))) ∧ Aside0 (Below w.heap.size w wc))
    case first =>
      have H := HC12.out
      clear HC12
      replace H := Option.bind_eq_some_iff.mp H
      obtain ⟨t235, A240, H⟩ := H
      replace H : (if t235 = true then (laws_FnExactAddReading.j0 k l0 t221 t224 t225 t231 t234 (t234 != t224) a1_0 a1_1 a1_2) else (laws_FnExactAddReading.j0 k l0 t221 t224 t225 t231 t234 true a1_0 a1_1 a1_2)) = some r := H
      have A24 := Aside0.mk A240
      clear A240
      by_cases c25 : t235 = true
      · subst c25
        have H1 : (laws_FnExactAddReading.j0 k l0 t221 t224 t225 t231 t234 (t234 != t224) a1_0 a1_1 a1_2) = some r := by rw [if_pos rfl] at H; exact H
        clear H
        have H := H1
        clear H1
        have H' := Aside0.mk H
        clear H
        obtain ⟨Ao26, co26, eo26⟩ := Kd.R_slice HO233.out
        subst eo26
        obtain ⟨Ao27, co27, eo27⟩ := Kd.R_slice HO223.out
        subst eo27
        go_wp2_with (((with_reducible refine gate_callee (f := 9) rfl ?_); refine goesL_ (some 40) rfl rfl Try.func9 (by kernel_rfl) rfl #[.slice Ao26 t231.length co26, .slice Ao27 t221.length co27] rfl (by (try simp only [List.map_toArray, List.map_cons, List.map_nil]); rfl) ?_; (with_reducible refine (laws_eqReadingS.calls k _ _ t231 _ _ t221 true _ ?side1 ?side2 ?side3 ?side4 A24.out).mono ?_); (case side1 => repeat (exact (Kd.R_reads' HO233.out).2.2)); (case side2 => exact (Kd.R_reads' HO233.out).2.1); (case side3 => repeat (exact (Kd.R_reads' HO223.out).2.2)); (case side4 => exact (Kd.R_reads' HO223.out).2.1); rintro e w28 ⟨rfl, hb⟩; refine ⟨_, rfl, ?_⟩; have n0_ := Aside0.mk (Kd.R_below (by exact HO217.out) hb); have n1_ := Aside0.mk (Kd.R_below (by exact HO223.out) hb); have n2_ := Aside0.mk (Kd.R_below (by exact HO227.out) hb); have n3_ := Aside0.mk (Kd.R_below (by exact HO233.out) hb); have n4_ := Aside0.mk (blk_below (g := gb213) (o := .cells #[.int .i64 a1_0, .int .i64 a1_1, .bool a1_2] 24 (0, 0)) (by exact BK213.out) hb); have n5_ := Aside0.mk (below_step (by exact HB.out) hb); clear HO217; clear HO223; clear HO227; clear HO233; clear BK213; clear HB; have HO217 := n0_; have HO223 := n1_; have HO227 := n2_; have HO233 := n3_; have BK213 := n4_; have HB := n5_; clear n0_ n1_ n2_ n3_ n4_ n5_; (try clear hb)))
        go_meet
        case rel => exact ⟨_, ((t234 != t224)), (by rfl), H', ⟨by omega⟩, ⟨by exact Kd.R_mono HO223.out (fun _ hk => ⟨hk.1.2, hk.2⟩)⟩, ⟨by exact Kd.R_mono HO227.out (fun _ hk => ⟨hk.1.2, hk.2⟩)⟩, ⟨by exact Kd.R_mono HO233.out (fun _ hk => ⟨hk.1.2, hk.2⟩)⟩, ⟨by exact BK213.out⟩, ⟨by exact HB.out⟩⟩
      · replace c25 := Bool.eq_false_iff.mpr c25
        subst c25
        have H1 : (laws_FnExactAddReading.j0 k l0 t221 t224 t225 t231 t234 true a1_0 a1_1 a1_2) = some r := by rw [if_neg (show ¬ (false = true) by decide)] at H; exact H
        clear H
        have H := H1
        clear H1
        have H' := Aside0.mk H
        clear H
        obtain ⟨Ao29, co29, eo29⟩ := Kd.R_slice HO233.out
        subst eo29
        obtain ⟨Ao30, co30, eo30⟩ := Kd.R_slice HO223.out
        subst eo30
        go_wp2_with (((with_reducible refine gate_callee (f := 9) rfl ?_); refine goesL_ (some 40) rfl rfl Try.func9 (by kernel_rfl) rfl #[.slice Ao29 t231.length co29, .slice Ao30 t221.length co30] rfl (by (try simp only [List.map_toArray, List.map_cons, List.map_nil]); rfl) ?_; (with_reducible refine (laws_eqReadingS.calls k _ _ t231 _ _ t221 false _ ?side1 ?side2 ?side3 ?side4 A24.out).mono ?_); (case side1 => repeat (exact (Kd.R_reads' HO233.out).2.2)); (case side2 => exact (Kd.R_reads' HO233.out).2.1); (case side3 => repeat (exact (Kd.R_reads' HO223.out).2.2)); (case side4 => exact (Kd.R_reads' HO223.out).2.1); rintro e w31 ⟨rfl, hb⟩; refine ⟨_, rfl, ?_⟩; have n0_ := Aside0.mk (Kd.R_below (by exact HO217.out) hb); have n1_ := Aside0.mk (Kd.R_below (by exact HO223.out) hb); have n2_ := Aside0.mk (Kd.R_below (by exact HO227.out) hb); have n3_ := Aside0.mk (Kd.R_below (by exact HO233.out) hb); have n4_ := Aside0.mk (blk_below (g := gb213) (o := .cells #[.int .i64 a1_0, .int .i64 a1_1, .bool a1_2] 24 (0, 0)) (by exact BK213.out) hb); have n5_ := Aside0.mk (below_step (by exact HB.out) hb); clear HO217; clear HO223; clear HO227; clear HO233; clear BK213; clear HB; have HO217 := n0_; have HO223 := n1_; have HO227 := n2_; have HO233 := n3_; have BK213 := n4_; have HB := n5_; clear n0_ n1_ n2_ n3_ n4_ n5_; (try clear hb)))
        go_meet
        case rel => exact ⟨_, (true), (by rfl), H', ⟨by omega⟩, ⟨by exact Kd.R_mono HO223.out (fun _ hk => ⟨hk.1.2, hk.2⟩)⟩, ⟨by exact Kd.R_mono HO227.out (fun _ hk => ⟨hk.1.2, hk.2⟩)⟩, ⟨by exact Kd.R_mono HO233.out (fun _ hk => ⟨hk.1.2, hk.2⟩)⟩, ⟨by exact BK213.out⟩, ⟨by exact HB.out⟩⟩
    case rest =>
      clear HC12
      try clear c2
      try clear p2
      try clear c3
      try clear c4
      try clear c4b0
      try clear c5
      try clear c6
      try clear c7
      try clear c8
      try clear c9
      try clear c25
      try clear hcz20_0
      try clear hcz20_1
      try clear hcz20_2
      try clear hfz20_0
      try clear hfz20_1
      try clear hfz20_2
      obtain ⟨kq, x46_11, rfl, HA, HJ11, HO_6, HO_8, HO_9, BK213, HB⟩ := hcut
      cases kq with
      | zero => exact absurd HA.out (by simp [laws_FnExactAddReading.j0])
      | succ kj11 =>
        have H := HA.out
        clear HA
        simp only [laws_FnExactAddReading.j0] at H
        by_cases c32 : x46_11 = true
        · subst c32
          have H1 : (some false) = some r := by rw [if_pos rfl] at H; exact H
          clear H
          have H := H1
          clear H1
          obtain rfl := Option.some.inj H
          go_wp2
          go_ret
          exact ⟨by rfl, by exact HB.out⟩
        · replace c32 := Bool.eq_false_iff.mpr c32
          subst c32
          have H1 : ((laws_toReadingS.f kj11 l0).bind fun t236 => ((laws_eqReadingS.f kj11 t225 t236).bind fun t239 => (if t239 = true then ((laws_markReadingS.f kj11 t225 1).bind fun bt240 => (if bt240.1 < 0 then (laws_FnExactAddReading.j1 kj11 l0 t221 t224 t231 true a1_0 a1_1 a1_2) else ((laws_eqReadingS.f kj11 t231 t221).bind fun t242 => (if t242 = true then (laws_FnExactAddReading.j1 kj11 l0 t221 t224 t231 (t234 != t224) a1_0 a1_1 a1_2) else (laws_FnExactAddReading.j1 kj11 l0 t221 t224 t231 true a1_0 a1_1 a1_2))))) else (some false)))) = some r := by rw [if_neg (show ¬ (false = true) by decide)] at H; exact H
          clear H
          have H := H1
          clear H1
          replace H := Option.bind_eq_some_iff.mp H
          obtain ⟨t236, A330, H⟩ := H
          replace H : ((laws_eqReadingS.f kj11 t225 t236).bind fun t239 => (if t239 = true then ((laws_markReadingS.f kj11 t225 1).bind fun bt240 => (if bt240.1 < 0 then (laws_FnExactAddReading.j1 kj11 l0 t221 t224 t231 true a1_0 a1_1 a1_2) else ((laws_eqReadingS.f kj11 t231 t221).bind fun t242 => (if t242 = true then (laws_FnExactAddReading.j1 kj11 l0 t221 t224 t231 (t234 != t224) a1_0 a1_1 a1_2) else (laws_FnExactAddReading.j1 kj11 l0 t221 t224 t231 true a1_0 a1_1 a1_2))))) else (some false))) = some r := H
          have A33 := Aside0.mk A330
          clear A330
          replace H := Option.bind_eq_some_iff.mp H
          obtain ⟨t239, A340, H⟩ := H
          replace H : (if t239 = true then ((laws_markReadingS.f kj11 t225 1).bind fun bt240 => (if bt240.1 < 0 then (laws_FnExactAddReading.j1 kj11 l0 t221 t224 t231 true a1_0 a1_1 a1_2) else ((laws_eqReadingS.f kj11 t231 t221).bind fun t242 => (if t242 = true then (laws_FnExactAddReading.j1 kj11 l0 t221 t224 t231 (t234 != t224) a1_0 a1_1 a1_2) else (laws_FnExactAddReading.j1 kj11 l0 t221 t224 t231 true a1_0 a1_1 a1_2))))) else (some false)) = some r := H
          have A34 := Aside0.mk A340
          clear A340
          by_cases c35 : t239 = true
          · subst c35
            have H1 : ((laws_markReadingS.f kj11 t225 1).bind fun bt240 => (if bt240.1 < 0 then (laws_FnExactAddReading.j1 kj11 l0 t221 t224 t231 true a1_0 a1_1 a1_2) else ((laws_eqReadingS.f kj11 t231 t221).bind fun t242 => (if t242 = true then (laws_FnExactAddReading.j1 kj11 l0 t221 t224 t231 (t234 != t224) a1_0 a1_1 a1_2) else (laws_FnExactAddReading.j1 kj11 l0 t221 t224 t231 true a1_0 a1_1 a1_2))))) = some r := by rw [if_pos rfl] at H; exact H
            clear H
            have H := H1
            clear H1
            replace H := Option.bind_eq_some_iff.mp H
            obtain ⟨⟨t240, t241⟩, A360, H⟩ := H
            replace H : (if t240 < 0 then (laws_FnExactAddReading.j1 kj11 l0 t221 t224 t231 true a1_0 a1_1 a1_2) else ((laws_eqReadingS.f kj11 t231 t221).bind fun t242 => (if t242 = true then (laws_FnExactAddReading.j1 kj11 l0 t221 t224 t231 (t234 != t224) a1_0 a1_1 a1_2) else (laws_FnExactAddReading.j1 kj11 l0 t221 t224 t231 true a1_0 a1_1 a1_2)))) = some r := H
            have A36 := Aside0.mk A360
            clear A360
            have HC37 := Aside0.mk H
            clear H
            go_upto_region 14 with (first | ((with_reducible refine gate_callee (f := 6) rfl ?_); refine goesL_ (some 49) rfl rfl Try.func6 (by kernel_rfl) rfl #[.slice A0 l0.length c0] rfl (by (try simp only [List.map_toArray, List.map_cons, List.map_nil]); rfl) ?_; (with_reducible refine (laws_toReadingS.calls kj11 _ _ l0 t236 _ ?side1 ?side2 A33.out).mono ?_); (case side1 => repeat (exact (Kd.C_below HR0.out HB.out))); (case side2 => exact HC0.out); rintro e w38 ⟨v237, rfl, ho0, hb⟩; refine ⟨_, rfl, ?_⟩; have n0_ := Aside0.mk (Kd.R_elder' (by exact HO_6.out) (Kd.R_base ho0) hb); have n1_ := Aside0.mk (Kd.R_elder' (by exact HO_8.out) (Kd.R_base ho0) hb); have n2_ := Aside0.mk (Kd.R_elder' (by exact HO_9.out) (Kd.R_base ho0) hb); have n3_ := Aside0.mk (Kd.R_lower (Kd.R_new' (Kd.R_new' (Kd.R_new' ho0 (Kd.R_lt (by exact HO_6.out))) (Kd.R_lt (by exact HO_8.out))) (Kd.R_lt (by exact HO_9.out))) (below_size (by exact HB.out))); have n4_ := Aside0.mk (blk_below (g := gb213) (o := .cells #[.int .i64 a1_0, .int .i64 a1_1, .bool a1_2] 24 (0, 0)) (by exact BK213.out) hb); have n5_ := Aside0.mk (below_step (by exact HB.out) hb); clear HO_6; clear HO_8; clear HO_9; clear BK213; clear HB; have HO_6 := n0_; have HO_8 := n1_; have HO_9 := n2_; have HO238 := n3_; have BK213 := n4_; have HB := n5_; clear n0_ n1_ n2_ n3_ n4_ n5_; (try clear hb); (try clear ho0); obtain ⟨Ao39, co39, eo39⟩ := Kd.R_slice HO238.out; subst eo39) | ((with_reducible refine gate_callee (f := 9) rfl ?_); refine goesL_ (some 50) rfl rfl Try.func9 (by kernel_rfl) rfl #[.slice Ao22 t225.length co22, .slice Ao39 t236.length co39] rfl (by (try simp only [List.map_toArray, List.map_cons, List.map_nil]); rfl) ?_; (with_reducible refine (laws_eqReadingS.calls kj11 _ _ t225 _ _ t236 true _ ?side1 ?side2 ?side3 ?side4 A34.out).mono ?_); (case side1 => repeat (exact (Kd.R_reads' HO_8.out).2.2)); (case side2 => exact (Kd.R_reads' HO_8.out).2.1); (case side3 => repeat (exact (Kd.R_reads' HO238.out).2.2)); (case side4 => exact (Kd.R_reads' HO238.out).2.1); rintro e w40 ⟨rfl, hb⟩; refine ⟨_, rfl, ?_⟩; have n0_ := Aside0.mk (Kd.R_below (by exact HO_6.out) hb); have n1_ := Aside0.mk (Kd.R_below (by exact HO_8.out) hb); have n2_ := Aside0.mk (Kd.R_below (by exact HO_9.out) hb); have n3_ := Aside0.mk (Kd.R_below (by exact HO238.out) hb); have n4_ := Aside0.mk (blk_below (g := gb213) (o := .cells #[.int .i64 a1_0, .int .i64 a1_1, .bool a1_2] 24 (0, 0)) (by exact BK213.out) hb); have n5_ := Aside0.mk (below_step (by exact HB.out) hb); clear HO_6; clear HO_8; clear HO_9; clear HO238; clear BK213; clear HB; have HO_6 := n0_; have HO_8 := n1_; have HO_9 := n2_; have HO238 := n3_; have BK213 := n4_; have HB := n5_; clear n0_ n1_ n2_ n3_ n4_ n5_; (try clear hb)) | ((with_reducible refine gate_callee (f := 10) rfl ?_); refine goesL_ (some 54) rfl rfl Try.func10 (by kernel_rfl) rfl #[.slice Ao22 t225.length co22, .int .i64 1] rfl (by (try simp only [List.map_toArray, List.map_cons, List.map_nil]); rfl) ?_; (with_reducible refine (laws_markReadingS.calls kj11 (fun k_ => some k_ = (.slice Ao22 t225.length co22 : Value).ownBlock) (.slice Ao22 t225.length co22) t225 1 t240 t241 w _ ?side1 ?side2 A36.out).mono ?_); (case side1 => exact HB.out); (case side2 => exact Kd.R_tight rfl HO_8.out); rintro e w41 ⟨rfl, hy0, hb, hkp⟩; refine ⟨_, rfl, ?_⟩; have n0_ := Aside0.mk (Kd.R_mono (ok' := fun k_ => some k_ ≠ (.slice Ao22 t225.length co22 : Value).ownBlock ∧ some k_ ≠ (v232 : Value).ownBlock ∧ some k_ ≠ (.slice Ao39 t236.length co39 : Value).ownBlock) (Kd.R_keptB (HO_6.out) hkp (fun k_ hk_ hs_ => (hk_.1.1) hs_)) (fun k_ hk_ => ⟨hk_.1.1.1, hk_.1.1.2, hk_.1.2⟩)); have n1_ := Aside0.mk (Kd.R_reok rfl hy0 (fun k_ e_ => HO_8.out.1 k_ e_)); have n2_ := Aside0.mk (Kd.R_mono (ok' := fun k_ => some k_ ≠ (v222 : Value).ownBlock ∧ some k_ ≠ (.slice Ao22 t225.length co22 : Value).ownBlock ∧ some k_ ≠ (.slice Ao39 t236.length co39 : Value).ownBlock) (Kd.R_keptB (HO_9.out) hkp (fun k_ hk_ hs_ => (hk_.1.2) hs_)) (fun k_ hk_ => ⟨hk_.1.1.1, hk_.1.1.2, hk_.1.2⟩)); have n3_ := Aside0.mk (blk_kept (by exact BK213.out) hkp (fun hs_ => (fun e_ => (Kd.R_ne HO_8.out BK213.out (by decide)) e_) hs_)); have n4_ := Aside0.mk (Kd.R_mono (ok' := fun k_ => some k_ ≠ (v222 : Value).ownBlock ∧ some k_ ≠ (.slice Ao22 t225.length co22 : Value).ownBlock ∧ some k_ ≠ (v232 : Value).ownBlock) (Kd.R_keptB (HO238.out) hkp (fun k_ hk_ hs_ => (hk_.1.2) hs_)) (fun k_ hk_ => ⟨hk_.1.1.1.2, hk_.1.1.2, hk_.1.2⟩)); have n5_ := Aside0.mk (hb); clear HO_6; clear HO_8; clear HO_9; clear BK213; clear HO238; clear HB; have HO_6 := n0_; have HO_8 := n1_; have HO_9 := n2_; have BK213 := n3_; have HO238 := n4_; have HB := n5_; clear n0_ n1_ n2_ n3_ n4_ n5_; (try clear hb); (try clear hkp); (try clear hy0)))
            (skip)
            go_cut [67] (fun v67 wc => ∃ (kq : Nat) (x67_36 : Bool), v67 = .bool x67_36 ∧ Aside0 (laws_FnExactAddReading.j1 kq l0 t221 t224 t231 x67_36 a1_0 a1_1 a1_2 = some r) ∧ Aside0 (kq ≤ kj11) ∧ Aside0 (Kd.R k30 30 wc w.heap.size (fun k_ => some k_ ≠ (v232 : Value).ownBlock) v222 t221) ∧ Aside0 (Kd.R k30 30 wc w.heap.size (fun k_ => some k_ ≠ (v222 : Value).ownBlock) v232 t231) ∧ Aside0 (wc.heap[gb213]? = some (.cells #[.int .i64 a1_0, .int .i64 a1_1, .bool a1_2] 24 (0, 0))) ∧ Aside0 (Below w.heap.size w wc))
            case first =>
              have H := HC37.out
              clear HC37
              by_cases c42 : t240 < 0
              · rw [if_pos c42] at H
                have c42b0 : decide (t240 < 0) = true := decide_eq_true c42
                clear c42
                (skip)
                have H' := Aside0.mk H
                clear H
                go_wp2
                go_meet
                case rel => exact ⟨_, (true), (by rfl), H', ⟨by have := HJ11.out; omega⟩, ⟨by exact Kd.R_mono HO_6.out (fun _ hk => hk.2.1)⟩, ⟨by exact Kd.R_mono HO_9.out (fun _ hk => hk.1)⟩, ⟨by exact BK213.out⟩, ⟨by exact HB.out⟩⟩
              · rw [if_neg c42] at H
                have c42b0 : decide (t240 < 0) = false := decide_eq_false c42
                clear c42
                (skip)
                replace H := Option.bind_eq_some_iff.mp H
                obtain ⟨t242, A430, H⟩ := H
                replace H : (if t242 = true then (laws_FnExactAddReading.j1 kj11 l0 t221 t224 t231 (t234 != t224) a1_0 a1_1 a1_2) else (laws_FnExactAddReading.j1 kj11 l0 t221 t224 t231 true a1_0 a1_1 a1_2)) = some r := H
                have A43 := Aside0.mk A430
                clear A430
                by_cases c44 : t242 = true
                · subst c44
                  have H1 : (laws_FnExactAddReading.j1 kj11 l0 t221 t224 t231 (t234 != t224) a1_0 a1_1 a1_2) = some r := by rw [if_pos rfl] at H; exact H
                  clear H
                  have H := H1
                  clear H1
                  have H' := Aside0.mk H
                  clear H
                  obtain ⟨Ao45, co45, eo45⟩ := Kd.R_slice HO_9.out
                  subst eo45
                  obtain ⟨Ao46, co46, eo46⟩ := Kd.R_slice HO_6.out
                  subst eo46
                  go_wp2_with ((go_at_call 9; (with_reducible refine (laws_eqReadingS.calls kj11 _ _ t231 _ _ t221 true _ ?side1 ?side2 ?side3 ?side4 A43.out).mono ?_); (case side1 => repeat (exact (Kd.R_reads' HO_9.out).2.2)); (case side2 => exact (Kd.R_reads' HO_9.out).2.1); (case side3 => repeat (exact (Kd.R_reads' HO_6.out).2.2)); (case side4 => exact (Kd.R_reads' HO_6.out).2.1); rintro e w47 ⟨rfl, hb⟩; have n0_ := Aside0.mk (Kd.R_below (by exact HO_6.out) hb); have n1_ := Aside0.mk (Kd.R_below (by exact HO_8.out) hb); have n2_ := Aside0.mk (Kd.R_below (by exact HO_9.out) hb); have n3_ := Aside0.mk (Kd.R_below (by exact HO238.out) hb); have n4_ := Aside0.mk (blk_below (g := gb213) (o := .cells #[.int .i64 a1_0, .int .i64 a1_1, .bool a1_2] 24 (0, 0)) (by exact BK213.out) hb); have n5_ := Aside0.mk (below_step (by exact HB.out) hb); clear HO_6; clear HO_8; clear HO_9; clear HO238; clear BK213; clear HB; have HO_6 := n0_; have HO_8 := n1_; have HO_9 := n2_; have HO238 := n3_; have BK213 := n4_; have HB := n5_; clear n0_ n1_ n2_ n3_ n4_ n5_; (try clear hb)))
                  go_meet
                  case rel => exact ⟨_, ((t234 != t224)), (by rfl), H', ⟨by have := HJ11.out; omega⟩, ⟨by exact Kd.R_mono HO_6.out (fun _ hk => hk.2.1)⟩, ⟨by exact Kd.R_mono HO_9.out (fun _ hk => hk.1)⟩, ⟨by exact BK213.out⟩, ⟨by exact HB.out⟩⟩
                · replace c44 := Bool.eq_false_iff.mpr c44
                  subst c44
                  have H1 : (laws_FnExactAddReading.j1 kj11 l0 t221 t224 t231 true a1_0 a1_1 a1_2) = some r := by rw [if_neg (show ¬ (false = true) by decide)] at H; exact H
                  clear H
                  have H := H1
                  clear H1
                  have H' := Aside0.mk H
                  clear H
                  obtain ⟨Ao48, co48, eo48⟩ := Kd.R_slice HO_9.out
                  subst eo48
                  obtain ⟨Ao49, co49, eo49⟩ := Kd.R_slice HO_6.out
                  subst eo49
                  go_wp2_with ((go_at_call 9; (with_reducible refine (laws_eqReadingS.calls kj11 _ _ t231 _ _ t221 false _ ?side1 ?side2 ?side3 ?side4 A43.out).mono ?_); (case side1 => repeat (exact (Kd.R_reads' HO_9.out).2.2)); (case side2 => exact (Kd.R_reads' HO_9.out).2.1); (case side3 => repeat (exact (Kd.R_reads' HO_6.out).2.2)); (case side4 => exact (Kd.R_reads' HO_6.out).2.1); rintro e w50 ⟨rfl, hb⟩; have n0_ := Aside0.mk (Kd.R_below (by exact HO_6.out) hb); have n1_ := Aside0.mk (Kd.R_below (by exact HO_8.out) hb); have n2_ := Aside0.mk (Kd.R_below (by exact HO_9.out) hb); have n3_ := Aside0.mk (Kd.R_below (by exact HO238.out) hb); have n4_ := Aside0.mk (blk_below (g := gb213) (o := .cells #[.int .i64 a1_0, .int .i64 a1_1, .bool a1_2] 24 (0, 0)) (by exact BK213.out) hb); have n5_ := Aside0.mk (below_step (by exact HB.out) hb); clear HO_6; clear HO_8; clear HO_9; clear HO238; clear BK213; clear HB; have HO_6 := n0_; have HO_8 := n1_; have HO_9 := n2_; have HO238 := n3_; have BK213 := n4_; have HB := n5_; clear n0_ n1_ n2_ n3_ n4_ n5_; (try clear hb)))
                  go_meet
                  case rel => exact ⟨_, (true), (by rfl), H', ⟨by have := HJ11.out; omega⟩, ⟨by exact Kd.R_mono HO_6.out (fun _ hk => hk.2.1)⟩, ⟨by exact Kd.R_mono HO_9.out (fun _ hk => hk.1)⟩, ⟨by exact BK213.out⟩, ⟨by exact HB.out⟩⟩
            case rest =>
              clear HC37
              try clear c1
              try clear c2
              try clear p2
              try clear c3
              try clear c4
              try clear c4b0
              try clear c5
              try clear c6
              try clear c7
              try clear c8
              try clear c9
              try clear c10
              try clear c25
              try clear c32
              try clear c35
              try clear c42
              try clear c42b0
              try clear c44
              try clear hcz20_0
              try clear hcz20_1
              try clear hcz20_2
              try clear hfz20_0
              try clear hfz20_1
              try clear hfz20_2
              try clear p2
              obtain ⟨kq, x67_36, rfl, HA, HJ36, HO_6, HO_9, BK213, HB⟩ := hcut
              cases kq with
              | zero => exact absurd HA.out (by simp [laws_FnExactAddReading.j1])
              | succ kj36 =>
                have H := HA.out
                clear HA
                simp only [laws_FnExactAddReading.j1] at H
                by_cases c51 : x67_36 = true
                · subst c51
                  have H1 : (some false) = some r := by rw [if_pos rfl] at H; exact H
                  clear H
                  have H := H1
                  clear H1
                  obtain rfl := Option.some.inj H
                  go_wp2
                  go_ret
                  exact ⟨by rfl, by exact HB.out⟩
                · replace c51 := Bool.eq_false_iff.mpr c51
                  subst c51
                  have H1 : ((laws_markReadingS.f kj36 t231 1).bind fun bt243 => ((laws_heldReadingS.f kj36 bt243.2 1).bind fun t245 => (if t245 < 0 then (some false) else (if t245 = bt243.1 then ((laws_toReadingS.f kj36 l0).bind fun t246 => ((laws_toReading.f a1_0 a1_1 a1_2).bind fun bt249 => ((impl_AddReading.f kj36 t246 bt249.1 bt249.2.1 bt249.2.2).bind fun bt252 => ((laws_eqReadingS.f kj36 bt252.1 t221).bind fun t256 => (if t256 = true then (laws_FnExactAddReading.j2 kj36 bt243.2 bt243.1 (bt252.2 != t224)) else (laws_FnExactAddReading.j2 kj36 bt243.2 bt243.1 true)))))) else (some false))))) = some r := by rw [if_neg (show ¬ (false = true) by decide)] at H; exact H
                  clear H
                  have H := H1
                  clear H1
                  replace H := Option.bind_eq_some_iff.mp H
                  obtain ⟨⟨t243, t244⟩, A520, H⟩ := H
                  replace H : ((laws_heldReadingS.f kj36 t244 1).bind fun t245 => (if t245 < 0 then (some false) else (if t245 = t243 then ((laws_toReadingS.f kj36 l0).bind fun t246 => ((laws_toReading.f a1_0 a1_1 a1_2).bind fun bt249 => ((impl_AddReading.f kj36 t246 bt249.1 bt249.2.1 bt249.2.2).bind fun bt252 => ((laws_eqReadingS.f kj36 bt252.1 t221).bind fun t256 => (if t256 = true then (laws_FnExactAddReading.j2 kj36 t244 t243 (bt252.2 != t224)) else (laws_FnExactAddReading.j2 kj36 t244 t243 true)))))) else (some false)))) = some r := H
                  have A52 := Aside0.mk A520
                  clear A520
                  replace H := Option.bind_eq_some_iff.mp H
                  obtain ⟨t245, A530, H⟩ := H
                  replace H : (if t245 < 0 then (some false) else (if t245 = t243 then ((laws_toReadingS.f kj36 l0).bind fun t246 => ((laws_toReading.f a1_0 a1_1 a1_2).bind fun bt249 => ((impl_AddReading.f kj36 t246 bt249.1 bt249.2.1 bt249.2.2).bind fun bt252 => ((laws_eqReadingS.f kj36 bt252.1 t221).bind fun t256 => (if t256 = true then (laws_FnExactAddReading.j2 kj36 t244 t243 (bt252.2 != t224)) else (laws_FnExactAddReading.j2 kj36 t244 t243 true)))))) else (some false))) = some r := H
                  have A53 := Aside0.mk A530
                  clear A530
                  by_cases c54 : t245 < 0
                  · rw [if_pos c54] at H
                    have c54b0 : decide (t245 < 0) = true := decide_eq_true c54
                    clear c54
                    obtain rfl := Option.some.inj H
                    obtain ⟨Ao55, co55, eo55⟩ := Kd.R_slice HO_9.out
                    subst eo55
                    go_wp2_with (first | ((with_reducible refine gate_callee (f := 10) rfl ?_); refine goesL_ (some 70) rfl rfl Try.func10 (by kernel_rfl) rfl #[.slice Ao55 t231.length co55, .int .i64 1] rfl (by (try simp only [List.map_toArray, List.map_cons, List.map_nil]); rfl) ?_; (with_reducible refine (laws_markReadingS.calls kj36 (fun k_ => some k_ = (.slice Ao55 t231.length co55 : Value).ownBlock) (.slice Ao55 t231.length co55) t231 1 t243 t244 w _ ?side1 ?side2 A52.out).mono ?_); (case side1 => exact HB.out); (case side2 => exact Kd.R_tight rfl HO_9.out); rintro e w56 ⟨rfl, hy0, hb, hkp⟩; refine ⟨_, rfl, ?_⟩; have n0_ := Aside0.mk (Kd.R_mono (ok' := fun k_ => some k_ ≠ (.slice Ao55 t231.length co55 : Value).ownBlock) (Kd.R_keptB (HO_6.out) hkp (fun k_ hk_ hs_ => (hk_) hs_)) (fun k_ hk_ => hk_.1)); have n1_ := Aside0.mk (Kd.R_reok rfl hy0 (fun k_ e_ => HO_9.out.1 k_ e_)); have n2_ := Aside0.mk (blk_kept (by exact BK213.out) hkp (fun hs_ => (fun e_ => (Kd.R_ne HO_9.out BK213.out (by decide)) e_) hs_)); have n3_ := Aside0.mk (hb); clear HO_6; clear HO_9; clear BK213; clear HB; have HO_6 := n0_; have HO_9 := n1_; have BK213 := n2_; have HB := n3_; clear n0_ n1_ n2_ n3_; (try clear hb); (try clear hkp); (try clear hy0)) | ((with_reducible refine gate_callee (f := 11) rfl ?_); refine goesL_ (some 73) rfl rfl Try.func11 (by kernel_rfl) rfl #[.slice Ao55 t244.length co55, .int .i64 1] rfl (by (try simp only [List.map_toArray, List.map_cons, List.map_nil]); (rw [show t244.length = t231.length from (Kd.R_reads' HO_9.out).1.symm] <;> rfl)) ?_; (with_reducible refine (laws_heldReadingS.calls kj36 _ _ t244 1 t245 _ ?side1 ?side2 A53.out).mono ?_); (case side1 => repeat (exact (Kd.R_reads' HO_9.out).2.2)); (case side2 => rw [show t244.length = t231.length from (Kd.R_reads' HO_9.out).1.symm]; exact (Kd.R_reads' HO_9.out).2.1); rintro e w' ⟨rfl, ⟨nd, rfl⟩⟩; refine ⟨_, rfl, ?_⟩))
                    go_ret
                    exact ⟨by rfl, by repeat ((with_reducible first | exact HB.out | apply pw_below_drewN))⟩
                  · rw [if_neg c54] at H
                    have c54b0 : decide (t245 < 0) = false := decide_eq_false c54
                    clear c54
                    by_cases c57 : t245 = t243
                    · rw [if_pos c57] at H
                      have c57b0 : (t245 == t243) = true := beq_iff_eq.mpr c57
                      have c57b1 : (t245 != t243) = false := bne_eq_false_iff_eq.mpr c57
                      clear c57
                      replace H := Option.bind_eq_some_iff.mp H
                      obtain ⟨t246, A580, H⟩ := H
                      replace H : ((laws_toReading.f a1_0 a1_1 a1_2).bind fun bt249 => ((impl_AddReading.f kj36 t246 bt249.1 bt249.2.1 bt249.2.2).bind fun bt252 => ((laws_eqReadingS.f kj36 bt252.1 t221).bind fun t256 => (if t256 = true then (laws_FnExactAddReading.j2 kj36 t244 t243 (bt252.2 != t224)) else (laws_FnExactAddReading.j2 kj36 t244 t243 true))))) = some r := H
                      have A58 := Aside0.mk A580
                      clear A580
                      replace H := Option.bind_eq_some_iff.mp H
                      obtain ⟨⟨t249, t250, t251⟩, A590, H⟩ := H
                      replace H : ((impl_AddReading.f kj36 t246 t249 t250 t251).bind fun bt252 => ((laws_eqReadingS.f kj36 bt252.1 t221).bind fun t256 => (if t256 = true then (laws_FnExactAddReading.j2 kj36 t244 t243 (bt252.2 != t224)) else (laws_FnExactAddReading.j2 kj36 t244 t243 true)))) = some r := H
                      have A59 := Aside0.mk A590
                      clear A590
                      replace H := Option.bind_eq_some_iff.mp H
                      obtain ⟨⟨t252, t255⟩, A600, H⟩ := H
                      replace H : ((laws_eqReadingS.f kj36 t252 t221).bind fun t256 => (if t256 = true then (laws_FnExactAddReading.j2 kj36 t244 t243 (t255 != t224)) else (laws_FnExactAddReading.j2 kj36 t244 t243 true))) = some r := H
                      have A60 := Aside0.mk A600
                      clear A600
                      have HC61 := Aside0.mk H
                      clear H
                      obtain ⟨Ao62, co62, eo62⟩ := Kd.R_slice HO_9.out
                      subst eo62
                      try go_wp2_with (first | ((with_reducible refine gate_callee (f := 10) rfl ?_); refine goesL_ (some 70) rfl rfl Try.func10 (by kernel_rfl) rfl #[.slice Ao62 t231.length co62, .int .i64 1] rfl (by (try simp only [List.map_toArray, List.map_cons, List.map_nil]); rfl) ?_; (with_reducible refine (laws_markReadingS.calls kj36 (fun k_ => some k_ = (.slice Ao62 t231.length co62 : Value).ownBlock) (.slice Ao62 t231.length co62) t231 1 t243 t244 w _ ?side1 ?side2 A52.out).mono ?_); (case side1 => exact HB.out); (case side2 => exact Kd.R_tight rfl HO_9.out); rintro e w63 ⟨rfl, hy0, hb, hkp⟩; refine ⟨_, rfl, ?_⟩; have n0_ := Aside0.mk (Kd.R_mono (ok' := fun k_ => some k_ ≠ (.slice Ao62 t231.length co62 : Value).ownBlock) (Kd.R_keptB (HO_6.out) hkp (fun k_ hk_ hs_ => (hk_) hs_)) (fun k_ hk_ => hk_.1)); have n1_ := Aside0.mk (Kd.R_reok rfl hy0 (fun k_ e_ => HO_9.out.1 k_ e_)); have n2_ := Aside0.mk (blk_kept (by exact BK213.out) hkp (fun hs_ => (fun e_ => (Kd.R_ne HO_9.out BK213.out (by decide)) e_) hs_)); have n3_ := Aside0.mk (hb); clear HO_6; clear HO_9; clear BK213; clear HB; have HO_6 := n0_; have HO_9 := n1_; have BK213 := n2_; have HB := n3_; clear n0_ n1_ n2_ n3_; (try clear hb); (try clear hkp); (try clear hy0)) | ((with_reducible refine gate_callee (f := 11) rfl ?_); refine goesL_ (some 73) rfl rfl Try.func11 (by kernel_rfl) rfl #[.slice Ao62 t244.length co62, .int .i64 1] rfl (by (try simp only [List.map_toArray, List.map_cons, List.map_nil]); (rw [show t244.length = t231.length from (Kd.R_reads' HO_9.out).1.symm] <;> rfl)) ?_; (with_reducible refine (laws_heldReadingS.calls kj36 _ _ t244 1 t245 _ ?side1 ?side2 A53.out).mono ?_); (case side1 => repeat (exact (Kd.R_reads' HO_9.out).2.2)); (case side2 => rw [show t244.length = t231.length from (Kd.R_reads' HO_9.out).1.symm]; exact (Kd.R_reads' HO_9.out).2.1); rintro e w' ⟨rfl, ⟨nd, rfl⟩⟩; refine ⟨_, rfl, ?_⟩))
                      (try (rw [drewN_self w63]; generalize hq_ : World.drewN w63 _ = w63; have n0_ : Aside0 (Kd.R k30 30 w63 w.heap.size (fun k_ => some k_ ≠ (.slice Ao62 t231.length co62 : Value).ownBlock) v222 t221) := ⟨by rw [← hq_]; exact (by (with_reducible repeat (apply Kd.R_drewN)); exact HO_6.out)⟩; have n1_ : Aside0 (Kd.R k30 30 w63 w.heap.size (fun k_ => some k_ ≠ (v222 : Value).ownBlock) (.slice Ao62 t231.length co62) t244) := ⟨by rw [← hq_]; exact (by (with_reducible repeat (apply Kd.R_drewN)); exact HO_9.out)⟩; have n2_ : Aside0 (w63.heap[gb213]? = some (.cells #[.int .i64 a1_0, .int .i64 a1_1, .bool a1_2] 24 (0, 0))) := ⟨by rw [← hq_]; exact (by (with_reducible repeat (refine blk_drewN ?_ _)); exact BK213.out)⟩; have n3_ : Aside0 (Below w.heap.size w w63) := ⟨by rw [← hq_]; exact (by repeat ((with_reducible first | exact HB.out | apply pw_below_drewN)))⟩; clear HO_6 HO_9 BK213 HB hq_; have HO_6 := n0_; have HO_9 := n1_; have BK213 := n2_; have HB := n3_; clear n0_ n1_ n2_ n3_))
                      have n0_ := Aside0.mk (Kd.R_drew HO_6.out)
                      have n1_ := Aside0.mk (Kd.R_drew HO_9.out)
                      have n2_ := Aside0.mk (blk_drew BK213.out)
                      have n3_ := Aside0.mk (below_drew1 HB.out)
                      clear HO_6
                      clear HO_9
                      clear BK213
                      clear HB
                      have HO_6 := n0_
                      have HO_9 := n1_
                      have BK213 := n2_
                      have HB := n3_
                      clear n0_ n1_ n2_ n3_
                      refine start_ (n := 10) (S := fun w' => w'.cell? ⟨gb213, 0, none⟩ = some (.int .i64 a1_0) ∧ w'.cell? ⟨gb213, 1, none⟩ = some (.int .i64 a1_1) ∧ w'.cell? ⟨gb213, 2, none⟩ = some (.bool a1_2)) (ds := []) #[false, false, false, false, false, false, false, false, false, false] (by kernel_rfl) rfl rfl ⟨(blk_cell BK213.out 0).trans rfl, (blk_cell BK213.out 1).trans rfl, (blk_cell BK213.out 2).trans rfl⟩ (fun hHeld => ?_); refine with_tabW laws_FnExactAddReading.tab24 laws_FnExactAddReading.bits24 (fun HT_ HW_ => ?_)
                      generalize w63.drew = w64 at HO_6 HO_9 BK213 HB hHeld ⊢
                      refine pure_ (i := 0) (N := some 80) (v := ?_) (a' := ?_) #[true, false, false, false, false, false, false, false, false, false] rfl rfl (any_of HT_.out (by kernel_rfl)) (fun _ _ _ h => h) (Or.inl ⟨by rfl, ?_⟩) ?_ ?_
                      rotate_left
                      · intro w'
                        go_simp
                        with_reducible rfl
                      rotate_left
                      · simp only [Act.put, List.setIfInBounds_toArray, List.set_cons_zero, List.set_cons_succ, i64_w, i32_w]
                        rfl
                      refine take_ (i := 2) (N := some 82) (v := ?_) (a' := ?_) #[true, false, true, false, false, false, false, false, false, false] rfl rfl (take_ofW HT_.out HW_.out (by kernel_rfl)) (fun _ _ _ h => h) (Or.inl ⟨by rfl, ?_⟩) hHeld ?_ ?_
                      rotate_left
                      · rintro w' ⟨s0, s1, s2⟩
                        go_simp
                        with_reducible rfl
                      rotate_left
                      · simp only [Act.put, List.setIfInBounds_toArray, List.set_cons_zero, List.set_cons_succ, i64_w, i32_w]
                        rfl
                      refine one_ (i := 1) (N := some 81) #[true, true, true, false, false, false, false, false, false, false] rfl rfl (one_of HT_.out (by kernel_rfl)) (by decide) (fun K hK => ?_)
                      refine goes_ Try.func6 (by kernel_rfl) rfl #[.slice A0 l0.length c0] (by rfl) rfl rfl (by (try simp only [List.map_toArray, List.map_cons, List.map_nil]); rfl) ?_
                      with_reducible refine (laws_toReadingS.calls kj36 _ _ l0 t246 _ ?side1 ?side2 A58.out).mono ?_
                      (case side1 => repeat (exact (Kd.C_below HR0.out HB.out)))
                      (case side2 => exact HC0.out)
                      rintro e w65 ⟨v247, rfl, ho0, hb⟩
                      refine ⟨_, rfl, ?_⟩
                      have n0_ := Aside0.mk (Kd.R_elder' (by exact HO_6.out) (Kd.R_base ho0) hb)
                      have n1_ := Aside0.mk (Kd.R_elder' (by exact HO_9.out) (Kd.R_base ho0) hb)
                      have n2_ := Aside0.mk (Kd.R_lower (Kd.R_new' (Kd.R_new' ho0 (Kd.R_lt (by exact HO_6.out))) (Kd.R_lt (by exact HO_9.out))) (below_size (by exact HB.out)))
                      have n3_ := Aside0.mk (blk_below (g := gb213) (o := .cells #[.int .i64 a1_0, .int .i64 a1_1, .bool a1_2] 24 (0, 0)) (by exact BK213.out) hb)
                      have n4_ := Aside0.mk (below_step (by exact HB.out) hb)
                      clear HO_6
                      clear HO_9
                      clear BK213
                      clear HB
                      have HO_6 := n0_
                      have HO_9 := n1_
                      have HO248 := n2_
                      have BK213 := n3_
                      have HB := n4_
                      clear n0_ n1_ n2_ n3_ n4_
                      (try clear hb)
                      (skip)
                      (skip)
                      (skip)
                      (try clear ho0)
                      refine hK.out _ _ ⟨(blk_cell BK213.out 0).trans rfl, (blk_cell BK213.out 1).trans rfl, (blk_cell BK213.out 2).trans rfl⟩ (fun hHeld => ?_)
                      clear hK K
                      refine norm_ (a' := ?_) ?_ ?_
                      rotate_left
                      · show Act.put _ (some 81) _ = _
                        simp only [Act.put, List.setIfInBounds_toArray, List.set_cons_zero, List.set_cons_succ, i64_w, i32_w]
                        rfl
                      refine one_ (i := 3) (N := some 83) #[true, true, true, true, false, false, false, false, false, false] rfl rfl (one_of HT_.out (by kernel_rfl)) (by decide) (fun K hK => ?_)
                      refine goes_ Try.func7 (by kernel_rfl) rfl #[.agg #[.int .i64 a1_0, .int .i64 a1_1, .bool a1_2]] (by rfl) rfl rfl (by (try simp only [List.map_toArray, List.map_cons, List.map_nil]); rfl) ?_
                      with_reducible refine (laws_toReading.calls a1_0 a1_1 a1_2 t249 t250 t251 _ A59.out).mono ?_
                      rintro e w66 ⟨rfl, hb⟩
                      refine ⟨_, rfl, ?_⟩
                      have n0_ := Aside0.mk (Kd.R_below (by exact HO_6.out) hb)
                      have n1_ := Aside0.mk (Kd.R_below (by exact HO_9.out) hb)
                      have n2_ := Aside0.mk (Kd.R_below (by exact HO248.out) hb)
                      have n3_ := Aside0.mk (blk_below (g := gb213) (o := .cells #[.int .i64 a1_0, .int .i64 a1_1, .bool a1_2] 24 (0, 0)) (by exact BK213.out) hb)
                      have n4_ := Aside0.mk (below_step (by exact HB.out) hb)
                      clear HO_6
                      clear HO_9
                      clear HO248
                      clear BK213
                      clear HB
                      have HO_6 := n0_
                      have HO_9 := n1_
                      have HO248 := n2_
                      have BK213 := n3_
                      have HB := n4_
                      clear n0_ n1_ n2_ n3_ n4_
                      (try clear hb)
                      (skip)
                      (skip)
                      (skip)
                      obtain ⟨Ao67, co67, eo67⟩ := Kd.R_slice HO248.out
                      (subst eo67)
                      refine hK.out _ _ ⟨(blk_cell BK213.out 0).trans rfl, (blk_cell BK213.out 1).trans rfl, (blk_cell BK213.out 2).trans rfl⟩ (fun hHeld => ?_)
                      clear hK K
                      refine norm_ (a' := ?_) ?_ ?_
                      rotate_left
                      · show Act.put _ (some 83) _ = _
                        simp only [Act.put, List.setIfInBounds_toArray, List.set_cons_zero, List.set_cons_succ, i64_w, i32_w]
                        rfl
                      refine one_ (i := 4) (N := some 84) #[true, true, true, true, true, false, false, false, false, false] rfl rfl (one_of HT_.out (by kernel_rfl)) (by decide) (fun K hK => ?_)
                      refine goes_ Try.func8 (by kernel_rfl) rfl #[.slice Ao67 t246.length co67, .agg #[.int .i64 t249, .int .i64 t250, .bool t251]] (by rfl) rfl rfl (by (try simp only [List.map_toArray, List.map_cons, List.map_nil]); rfl) ?_
                      with_reducible refine (impl_AddReading.calls kj36 _ _ t246 t249 t250 t251 t252 t255 _ ?side1 ?side2 A60.out).mono ?_
                      (case side1 => repeat (exact (Kd.R_reads' HO248.out).2.2))
                      (case side2 => exact (Kd.R_reads' HO248.out).2.1)
                      rintro e w68 ⟨v253, rfl, ho0, hb⟩
                      refine ⟨_, rfl, ?_⟩
                      have n0_ := Aside0.mk (Kd.R_elder' (by exact HO_6.out) (Kd.R_base ho0) hb)
                      have n1_ := Aside0.mk (Kd.R_elder' (by exact HO_9.out) (Kd.R_base ho0) hb)
                      have n2_ := Aside0.mk (Kd.R_elder' (by exact HO248.out) (Kd.R_base ho0) hb)
                      have n3_ := Aside0.mk (Kd.R_lower (Kd.R_new' (Kd.R_new' (Kd.R_new' ho0 (Kd.R_lt (by exact HO_6.out))) (Kd.R_lt (by exact HO_9.out))) (Kd.R_lt (by exact HO248.out))) (below_size (by exact HB.out)))
                      have n4_ := Aside0.mk (blk_below (g := gb213) (o := .cells #[.int .i64 a1_0, .int .i64 a1_1, .bool a1_2] 24 (0, 0)) (by exact BK213.out) hb)
                      have n5_ := Aside0.mk (below_step (by exact HB.out) hb)
                      clear HO_6
                      clear HO_9
                      clear HO248
                      clear BK213
                      clear HB
                      have HO_6 := n0_
                      have HO_9 := n1_
                      have HO248 := n2_
                      have HO254 := n3_
                      have BK213 := n4_
                      have HB := n5_
                      clear n0_ n1_ n2_ n3_ n4_ n5_
                      (try clear hb)
                      (skip)
                      (skip)
                      (skip)
                      (try clear ho0)
                      refine hK.out _ _ ⟨(blk_cell BK213.out 0).trans rfl, (blk_cell BK213.out 1).trans rfl, (blk_cell BK213.out 2).trans rfl⟩ (fun hHeld => ?_)
                      clear hK K
                      refine norm_ (a' := ?_) ?_ ?_
                      rotate_left
                      · show Act.put _ (some 84) _ = _
                        simp only [Act.put, List.setIfInBounds_toArray, List.set_cons_zero, List.set_cons_succ, i64_w, i32_w]
                        rfl
                      refine pure_ (i := 5) (N := some 79) (v := ?_) (a' := ?_) #[true, true, true, true, true, true, false, false, false, false] rfl rfl (any_of HT_.out (by kernel_rfl)) (fun _ _ _ h => h) (Or.inl ⟨by rfl, ?_⟩) ?_ ?_
                      rotate_left
                      · intro w'
                        go_simp
                        with_reducible rfl
                      rotate_left
                      · simp only [Act.put, List.setIfInBounds_toArray, List.set_cons_zero, List.set_cons_succ, i64_w, i32_w]
                        rfl
                      refine pure_ (i := 6) (N := some 85) (v := ?_) (a' := ?_) #[true, true, true, true, true, true, true, false, false, false] rfl rfl (any_of HT_.out (by kernel_rfl)) (fun _ _ _ h => h) (Or.inl ⟨by rfl, ?_⟩) ?_ ?_
                      rotate_left
                      · intro w'
                        go_simp
                        with_reducible rfl
                      rotate_left
                      · simp only [Act.put, List.setIfInBounds_toArray, List.set_cons_zero, List.set_cons_succ, i64_w, i32_w]
                        rfl
                      refine pure_ (i := 7) (N := some 86) (v := ?_) (a' := ?_) #[true, true, true, true, true, true, true, true, false, false] rfl rfl (any_of HT_.out (by kernel_rfl)) (fun _ _ _ h => h) (Or.inl ⟨by rfl, ?_⟩) ?_ ?_
                      rotate_left
                      · intro w'
                        go_simp
                        with_reducible rfl
                      rotate_left
                      · simp only [Act.put, List.setIfInBounds_toArray, List.set_cons_zero, List.set_cons_succ, i64_w, i32_w]
                        rfl
                      refine pure_ (i := 8) (N := some 14) (v := ?_) (a' := ?_) #[true, true, true, true, true, true, true, true, true, false] rfl rfl (any_of HT_.out (by kernel_rfl)) (fun _ _ _ h => h) (Or.inl ⟨by rfl, ?_⟩) ?_ ?_
                      rotate_left
                      · intro w'
                        go_simp
                        with_reducible rfl
                      rotate_left
                      · simp only [Act.put, List.setIfInBounds_toArray, List.set_cons_zero, List.set_cons_succ, i64_w, i32_w]
                        rfl
                      refine pure_ (i := 9) (N := some 15) (v := ?_) (a' := ?_) #[true, true, true, true, true, true, true, true, true, true] rfl rfl (any_of HT_.out (by kernel_rfl)) (fun _ _ _ h => h) (Or.inl ⟨by rfl, ?_⟩) ?_ ?_
                      rotate_left
                      · intro w'
                        go_simp
                        with_reducible rfl
                      rotate_left
                      · simp only [Act.put, List.setIfInBounds_toArray, List.set_cons_zero, List.set_cons_succ, i64_w, i32_w]
                        rfl
                      refine done_ (done_of HT_.out (by kernel_rfl)) ?_
                      go_upto_region 25 with (fail)
                      go_cut [95] (fun v95 wc => ∃ (kq : Nat) (x95_60 : Bool), v95 = .bool x95_60 ∧ Aside0 (laws_FnExactAddReading.j2 kq t244 t243 x95_60 = some r) ∧ Aside0 (kq ≤ kj36) ∧ Aside0 (Kd.R k30 30 wc w.heap.size (fun _ => True) (.slice Ao62 t231.length co62) t244) ∧ Aside0 (wc.heap[gb213]? = some (.cells #[.int .i64 a1_0, .int .i64 a1_1, .bool a1_2] 24 (0, 0))) ∧ Aside0 (Below w.heap.size w wc))
                      case first =>
                        have H := HC61.out
                        clear HC61
                        replace H := Option.bind_eq_some_iff.mp H
                        obtain ⟨t256, A690, H⟩ := H
                        replace H : (if t256 = true then (laws_FnExactAddReading.j2 kj36 t244 t243 (t255 != t224)) else (laws_FnExactAddReading.j2 kj36 t244 t243 true)) = some r := H
                        have A69 := Aside0.mk A690
                        clear A690
                        by_cases c70 : t256 = true
                        · subst c70
                          have H1 : (laws_FnExactAddReading.j2 kj36 t244 t243 (t255 != t224)) = some r := by rw [if_pos rfl] at H; exact H
                          clear H
                          have H := H1
                          clear H1
                          have H' := Aside0.mk H
                          clear H
                          obtain ⟨Ao71, co71, eo71⟩ := Kd.R_slice HO254.out
                          subst eo71
                          obtain ⟨Ao72, co72, eo72⟩ := Kd.R_slice HO_6.out
                          subst eo72
                          go_wp2_with (((with_reducible refine gate_callee (f := 9) rfl ?_); refine goesL_ (some 89) rfl rfl Try.func9 (by kernel_rfl) rfl #[.slice Ao71 t252.length co71, .slice Ao72 t221.length co72] rfl (by (try simp only [List.map_toArray, List.map_cons, List.map_nil]); rfl) ?_; (with_reducible refine (laws_eqReadingS.calls kj36 _ _ t252 _ _ t221 true _ ?side1 ?side2 ?side3 ?side4 A69.out).mono ?_); (case side1 => repeat (exact (Kd.R_reads' HO254.out).2.2)); (case side2 => exact (Kd.R_reads' HO254.out).2.1); (case side3 => repeat (exact (Kd.R_reads' HO_6.out).2.2)); (case side4 => exact (Kd.R_reads' HO_6.out).2.1); rintro e w73 ⟨rfl, hb⟩; refine ⟨_, rfl, ?_⟩; have n0_ := Aside0.mk (Kd.R_below (by exact HO_6.out) hb); have n1_ := Aside0.mk (Kd.R_below (by exact HO_9.out) hb); have n2_ := Aside0.mk (Kd.R_below (by exact HO248.out) hb); have n3_ := Aside0.mk (Kd.R_below (by exact HO254.out) hb); have n4_ := Aside0.mk (blk_below (g := gb213) (o := .cells #[.int .i64 a1_0, .int .i64 a1_1, .bool a1_2] 24 (0, 0)) (by exact BK213.out) hb); have n5_ := Aside0.mk (below_step (by exact HB.out) hb); clear HO_6; clear HO_9; clear HO248; clear HO254; clear BK213; clear HB; have HO_6 := n0_; have HO_9 := n1_; have HO248 := n2_; have HO254 := n3_; have BK213 := n4_; have HB := n5_; clear n0_ n1_ n2_ n3_ n4_ n5_; (try clear hb)))
                          go_meet
                          case rel => exact ⟨_, ((t255 != t224)), (by rfl), H', ⟨by have := HJ11.out; have := HJ36.out; omega⟩, ⟨by exact Kd.R_mono HO_9.out (fun _ hk => trivial)⟩, ⟨by exact BK213.out⟩, ⟨by exact HB.out⟩⟩
                        · replace c70 := Bool.eq_false_iff.mpr c70
                          subst c70
                          have H1 : (laws_FnExactAddReading.j2 kj36 t244 t243 true) = some r := by rw [if_neg (show ¬ (false = true) by decide)] at H; exact H
                          clear H
                          have H := H1
                          clear H1
                          have H' := Aside0.mk H
                          clear H
                          obtain ⟨Ao74, co74, eo74⟩ := Kd.R_slice HO254.out
                          subst eo74
                          obtain ⟨Ao75, co75, eo75⟩ := Kd.R_slice HO_6.out
                          subst eo75
                          go_wp2_with (((with_reducible refine gate_callee (f := 9) rfl ?_); refine goesL_ (some 89) rfl rfl Try.func9 (by kernel_rfl) rfl #[.slice Ao74 t252.length co74, .slice Ao75 t221.length co75] rfl (by (try simp only [List.map_toArray, List.map_cons, List.map_nil]); rfl) ?_; (with_reducible refine (laws_eqReadingS.calls kj36 _ _ t252 _ _ t221 false _ ?side1 ?side2 ?side3 ?side4 A69.out).mono ?_); (case side1 => repeat (exact (Kd.R_reads' HO254.out).2.2)); (case side2 => exact (Kd.R_reads' HO254.out).2.1); (case side3 => repeat (exact (Kd.R_reads' HO_6.out).2.2)); (case side4 => exact (Kd.R_reads' HO_6.out).2.1); rintro e w76 ⟨rfl, hb⟩; refine ⟨_, rfl, ?_⟩; have n0_ := Aside0.mk (Kd.R_below (by exact HO_6.out) hb); have n1_ := Aside0.mk (Kd.R_below (by exact HO_9.out) hb); have n2_ := Aside0.mk (Kd.R_below (by exact HO248.out) hb); have n3_ := Aside0.mk (Kd.R_below (by exact HO254.out) hb); have n4_ := Aside0.mk (blk_below (g := gb213) (o := .cells #[.int .i64 a1_0, .int .i64 a1_1, .bool a1_2] 24 (0, 0)) (by exact BK213.out) hb); have n5_ := Aside0.mk (below_step (by exact HB.out) hb); clear HO_6; clear HO_9; clear HO248; clear HO254; clear BK213; clear HB; have HO_6 := n0_; have HO_9 := n1_; have HO248 := n2_; have HO254 := n3_; have BK213 := n4_; have HB := n5_; clear n0_ n1_ n2_ n3_ n4_ n5_; (try clear hb)))
                          go_meet
                          case rel => exact ⟨_, (true), (by rfl), H', ⟨by have := HJ11.out; have := HJ36.out; omega⟩, ⟨by exact Kd.R_mono HO_9.out (fun _ hk => trivial)⟩, ⟨by exact BK213.out⟩, ⟨by exact HB.out⟩⟩
                      case rest =>
                        clear HC61
                        try clear c1
                        try clear c2
                        try clear p2
                        try clear c3
                        try clear c4
                        try clear c4b0
                        try clear c5
                        try clear c6
                        try clear c7
                        try clear c8
                        try clear c9
                        try clear c10
                        try clear c11
                        try clear c25
                        try clear c32
                        try clear c35
                        try clear c42
                        try clear c42b0
                        try clear c44
                        try clear c51
                        try clear c54
                        try clear c54b0
                        try clear c57
                        try clear c57b0
                        try clear c57b1
                        try clear c70
                        try clear hcz20_0
                        try clear hcz20_1
                        try clear hcz20_2
                        try clear hfz20_0
                        try clear hfz20_1
                        try clear hfz20_2
                        try clear p2
                        obtain ⟨kq, x95_60, rfl, HA, HJ60, HO_9, BK213, HB⟩ := hcut
                        have hl9_60 := (Kd.R_reads' HO_9.out).1
                        rw [hl9_60] at HO_9
                        (try simp only [hl9_60])
                        (skip)
                        cases kq with
                        | zero => exact absurd HA.out (by simp [laws_FnExactAddReading.j2])
                        | succ kj60 =>
                          have H := HA.out
                          clear HA
                          simp only [laws_FnExactAddReading.j2] at H
                          by_cases c77 : x95_60 = true
                          · subst c77
                            have H1 : (some false) = some r := by rw [if_pos rfl] at H; exact H
                            clear H
                            have H := H1
                            clear H1
                            obtain rfl := Option.some.inj H
                            go_wp2
                            go_ret
                            exact ⟨by rfl, by exact HB.out⟩
                          · replace c77 := Bool.eq_false_iff.mpr c77
                            subst c77
                            have H1 : ((laws_heldReadingS.f kj60 t244 1).bind fun t257 => (if t257 < 0 then (some false) else (if t257 = t243 then (some true) else (some false)))) = some r := by rw [if_neg (show ¬ (false = true) by decide)] at H; exact H
                            clear H
                            have H := H1
                            clear H1
                            replace H := Option.bind_eq_some_iff.mp H
                            obtain ⟨t257, A780, H⟩ := H
                            replace H : (if t257 < 0 then (some false) else (if t257 = t243 then (some true) else (some false))) = some r := H
                            have A78 := Aside0.mk A780
                            clear A780
                            by_cases c79 : t257 < 0
                            · rw [if_pos c79] at H
                              have c79b0 : decide (t257 < 0) = true := decide_eq_true c79
                              clear c79
                              obtain rfl := Option.some.inj H
                              go_wp2_with (((with_reducible refine gate_callee (f := 11) rfl ?_); refine goesL_ (some 98) rfl rfl Try.func11 (by kernel_rfl) rfl #[.slice Ao62 t244.length co62, .int .i64 1] rfl (by (try simp only [List.map_toArray, List.map_cons, List.map_nil]); rfl) ?_; (with_reducible refine (laws_heldReadingS.calls kj60 _ _ t244 1 t257 _ ?side1 ?side2 A78.out).mono ?_); (case side1 => repeat (exact (Kd.R_reads' HO_9.out).2.2)); (case side2 => exact (Kd.R_reads' HO_9.out).2.1); rintro e w' ⟨rfl, ⟨nd, rfl⟩⟩; refine ⟨_, rfl, ?_⟩))
                              go_ret
                              exact ⟨by rfl, by repeat ((with_reducible first | exact HB.out | apply pw_below_drewN))⟩
                            · rw [if_neg c79] at H
                              have c79b0 : decide (t257 < 0) = false := decide_eq_false c79
                              clear c79
                              by_cases c80 : t257 = t243
                              · rw [if_pos c80] at H
                                have c80b0 : (t257 == t243) = true := beq_iff_eq.mpr c80
                                have c80b1 : (t257 != t243) = false := bne_eq_false_iff_eq.mpr c80
                                clear c80
                                obtain rfl := Option.some.inj H
                                go_wp2_with (((with_reducible refine gate_callee (f := 11) rfl ?_); refine goesL_ (some 98) rfl rfl Try.func11 (by kernel_rfl) rfl #[.slice Ao62 t244.length co62, .int .i64 1] rfl (by (try simp only [List.map_toArray, List.map_cons, List.map_nil]); rfl) ?_; (with_reducible refine (laws_heldReadingS.calls kj60 _ _ t244 1 t257 _ ?side1 ?side2 A78.out).mono ?_); (case side1 => repeat (exact (Kd.R_reads' HO_9.out).2.2)); (case side2 => exact (Kd.R_reads' HO_9.out).2.1); rintro e w' ⟨rfl, ⟨nd, rfl⟩⟩; refine ⟨_, rfl, ?_⟩))
                                go_ret
                                exact ⟨by rfl, by repeat ((with_reducible first | exact HB.out | apply pw_below_drewN))⟩
                              · rw [if_neg c80] at H
                                have c80b0 : (t257 == t243) = false := beq_eq_false_iff_ne.mpr c80
                                have c80b1 : (t257 != t243) = true := bne_iff_ne.mpr c80
                                obtain rfl := Option.some.inj H
                                go_wp2_with (((with_reducible refine gate_callee (f := 11) rfl ?_); refine goesL_ (some 98) rfl rfl Try.func11 (by kernel_rfl) rfl #[.slice Ao62 t244.length co62, .int .i64 1] rfl (by (try simp only [List.map_toArray, List.map_cons, List.map_nil]); rfl) ?_; (with_reducible refine (laws_heldReadingS.calls kj60 _ _ t244 1 t257 _ ?side1 ?side2 A78.out).mono ?_); (case side1 => repeat (exact (Kd.R_reads' HO_9.out).2.2)); (case side2 => exact (Kd.R_reads' HO_9.out).2.1); rintro e w' ⟨rfl, ⟨nd, rfl⟩⟩; refine ⟨_, rfl, ?_⟩))
                                go_ret
                                exact ⟨by rfl, by repeat ((with_reducible first | exact HB.out | apply pw_below_drewN))⟩
                    · rw [if_neg c57] at H
                      have c57b0 : (t245 == t243) = false := beq_eq_false_iff_ne.mpr c57
                      have c57b1 : (t245 != t243) = true := bne_iff_ne.mpr c57
                      obtain rfl := Option.some.inj H
                      obtain ⟨Ao81, co81, eo81⟩ := Kd.R_slice HO_9.out
                      subst eo81
                      go_wp2_with (first | ((with_reducible refine gate_callee (f := 10) rfl ?_); refine goesL_ (some 70) rfl rfl Try.func10 (by kernel_rfl) rfl #[.slice Ao81 t231.length co81, .int .i64 1] rfl (by (try simp only [List.map_toArray, List.map_cons, List.map_nil]); rfl) ?_; (with_reducible refine (laws_markReadingS.calls kj36 (fun k_ => some k_ = (.slice Ao81 t231.length co81 : Value).ownBlock) (.slice Ao81 t231.length co81) t231 1 t243 t244 w _ ?side1 ?side2 A52.out).mono ?_); (case side1 => exact HB.out); (case side2 => exact Kd.R_tight rfl HO_9.out); rintro e w82 ⟨rfl, hy0, hb, hkp⟩; refine ⟨_, rfl, ?_⟩; have n0_ := Aside0.mk (Kd.R_mono (ok' := fun k_ => some k_ ≠ (.slice Ao81 t231.length co81 : Value).ownBlock) (Kd.R_keptB (HO_6.out) hkp (fun k_ hk_ hs_ => (hk_) hs_)) (fun k_ hk_ => hk_.1)); have n1_ := Aside0.mk (Kd.R_reok rfl hy0 (fun k_ e_ => HO_9.out.1 k_ e_)); have n2_ := Aside0.mk (blk_kept (by exact BK213.out) hkp (fun hs_ => (fun e_ => (Kd.R_ne HO_9.out BK213.out (by decide)) e_) hs_)); have n3_ := Aside0.mk (hb); clear HO_6; clear HO_9; clear BK213; clear HB; have HO_6 := n0_; have HO_9 := n1_; have BK213 := n2_; have HB := n3_; clear n0_ n1_ n2_ n3_; (try clear hb); (try clear hkp); (try clear hy0)) | ((with_reducible refine gate_callee (f := 11) rfl ?_); refine goesL_ (some 73) rfl rfl Try.func11 (by kernel_rfl) rfl #[.slice Ao81 t244.length co81, .int .i64 1] rfl (by (try simp only [List.map_toArray, List.map_cons, List.map_nil]); (rw [show t244.length = t231.length from (Kd.R_reads' HO_9.out).1.symm] <;> rfl)) ?_; (with_reducible refine (laws_heldReadingS.calls kj36 _ _ t244 1 t245 _ ?side1 ?side2 A53.out).mono ?_); (case side1 => repeat (exact (Kd.R_reads' HO_9.out).2.2)); (case side2 => rw [show t244.length = t231.length from (Kd.R_reads' HO_9.out).1.symm]; exact (Kd.R_reads' HO_9.out).2.1); rintro e w' ⟨rfl, ⟨nd, rfl⟩⟩; refine ⟨_, rfl, ?_⟩))
                      go_ret
                      exact ⟨by rfl, by repeat ((with_reducible first | exact HB.out | apply pw_below_drewN))⟩
          · replace c35 := Bool.eq_false_iff.mpr c35
            subst c35
            have H1 : (some false) = some r := by rw [if_neg (show ¬ (false = true) by decide)] at H; exact H
            clear H
            have H := H1
            clear H1
            obtain rfl := Option.some.inj H
            go_wp2_with (first | ((with_reducible refine gate_callee (f := 6) rfl ?_); refine goesL_ (some 49) rfl rfl Try.func6 (by kernel_rfl) rfl #[.slice A0 l0.length c0] rfl (by (try simp only [List.map_toArray, List.map_cons, List.map_nil]); rfl) ?_; (with_reducible refine (laws_toReadingS.calls kj11 _ _ l0 t236 _ ?side1 ?side2 A33.out).mono ?_); (case side1 => repeat (exact (Kd.C_below HR0.out HB.out))); (case side2 => exact HC0.out); rintro e w83 ⟨v237, rfl, ho0, hb⟩; refine ⟨_, rfl, ?_⟩; have n0_ := Aside0.mk (Kd.R_elder' (by exact HO_6.out) (Kd.R_base ho0) hb); have n1_ := Aside0.mk (Kd.R_elder' (by exact HO_8.out) (Kd.R_base ho0) hb); have n2_ := Aside0.mk (Kd.R_elder' (by exact HO_9.out) (Kd.R_base ho0) hb); have n3_ := Aside0.mk (Kd.R_lower (Kd.R_new' (Kd.R_new' (Kd.R_new' ho0 (Kd.R_lt (by exact HO_6.out))) (Kd.R_lt (by exact HO_8.out))) (Kd.R_lt (by exact HO_9.out))) (below_size (by exact HB.out))); have n4_ := Aside0.mk (blk_below (g := gb213) (o := .cells #[.int .i64 a1_0, .int .i64 a1_1, .bool a1_2] 24 (0, 0)) (by exact BK213.out) hb); have n5_ := Aside0.mk (below_step (by exact HB.out) hb); clear HO_6; clear HO_8; clear HO_9; clear BK213; clear HB; have HO_6 := n0_; have HO_8 := n1_; have HO_9 := n2_; have HO238 := n3_; have BK213 := n4_; have HB := n5_; clear n0_ n1_ n2_ n3_ n4_ n5_; (try clear hb); (try clear ho0); obtain ⟨Ao84, co84, eo84⟩ := Kd.R_slice HO238.out; subst eo84) | ((with_reducible refine gate_callee (f := 9) rfl ?_); refine goesL_ (some 50) rfl rfl Try.func9 (by kernel_rfl) rfl #[.slice Ao22 t225.length co22, .slice Ao84 t236.length co84] rfl (by (try simp only [List.map_toArray, List.map_cons, List.map_nil]); rfl) ?_; (with_reducible refine (laws_eqReadingS.calls kj11 _ _ t225 _ _ t236 false _ ?side1 ?side2 ?side3 ?side4 A34.out).mono ?_); (case side1 => repeat (exact (Kd.R_reads' HO_8.out).2.2)); (case side2 => exact (Kd.R_reads' HO_8.out).2.1); (case side3 => repeat (exact (Kd.R_reads' HO238.out).2.2)); (case side4 => exact (Kd.R_reads' HO238.out).2.1); rintro e w85 ⟨rfl, hb⟩; refine ⟨_, rfl, ?_⟩; have n0_ := Aside0.mk (Kd.R_below (by exact HO_6.out) hb); have n1_ := Aside0.mk (Kd.R_below (by exact HO_8.out) hb); have n2_ := Aside0.mk (Kd.R_below (by exact HO_9.out) hb); have n3_ := Aside0.mk (Kd.R_below (by exact HO238.out) hb); have n4_ := Aside0.mk (blk_below (g := gb213) (o := .cells #[.int .i64 a1_0, .int .i64 a1_1, .bool a1_2] 24 (0, 0)) (by exact BK213.out) hb); have n5_ := Aside0.mk (below_step (by exact HB.out) hb); clear HO_6; clear HO_8; clear HO_9; clear HO238; clear BK213; clear HB; have HO_6 := n0_; have HO_8 := n1_; have HO_9 := n2_; have HO238 := n3_; have BK213 := n4_; have HB := n5_; clear n0_ n1_ n2_ n3_ n4_ n5_; (try clear hb)))
            go_ret
            exact ⟨by rfl, by exact HB.out⟩

end Go.Proofs.Ytanjdogfghkddaa.PFnExactAddReading
