/- The row of the law 'FnTariffs', out of its pure statement and the printed contract: for every input the call returns true, and the input reads as it did. No condition. -/
import Derived.Test.YtciecfaeeogdoaaGreatDoorRows
import Derived.Test.YtciecfaeeogdoaaGreatDoorInvFnTariffs
import Derived.Test.YtciecfaeeogdoaaGreatDoorPureFnTariffs
import Derived.LaidMore
import Derived.Stop.Joined
import Derived.SevenTiedAt
import Derived.Test.YtciecfaeeogdoaaGreatDoorTie
import Derived.Test.YtciecfaeeogdoaaGreatDoorCards
import Derived.Test.YtciecfaeeogdoaaGreatDoorWWrap
import Derived.Test.YtciecfaeeogdoaaGreatDoorWMet
import Derived.Shelf.Vars
import Derived.LaidLaws
import Derived.FnData
import Derived.Lay
import Derived.WalkKit
import Derived.ProofKit
import Derived.OpenShut
import Derived.ShutString
import Derived.ChangeOld
import Derived.Below
import Derived.SizedLaws
import Derived.Carry
namespace Go.Proofs.YtciecfaeeogdoaaGreatDoor.fnTariffs
open Go.ChangeShapes Go.WideShapes Go.ChangeAt Go.RowKit Go.Proofs.YtciecfaeeogdoaaGreatDoorW.PrintWords Go.Proofs.YtciecfaeeogdoaaGreatDoorW.Open Go.Proofs.YtciecfaeeogdoaaGreatDoor.PFnTariffs
open Go.ChangeMaps (open_string shut_string)
set_option linter.unusedVariables false
theorem own : ownKnob Tryz.prog.godebug = none := by kernel_rfl
theorem laidOut : laidOutB Tryz.prog = true := by kernel_rfl
theorem tab_of {W : World} (h : laidMetH Tryz.prog Rows.fnTariffsRow.laid W) : Lib.TabIs Tryz.prog W "internal/strconv.uint64pow10" .u64 Lib.pow10Tab := by
  rw [MakeChecks.laidMetH_plain _ _ _ (by kernel_rfl)] at h
  obtain ⟨ps, ⟨g0, t0, cs0, fu0, p0, q0, hg0, ht0, hv0, hd0, ⟨g1, t1, cs1, fu1, p1, q1, hg1, ht1, hv1, hd1, ⟨g2, t2, cs2, fu2, p2, q2, hg2, ht2, hv2, hd2, _, _⟩, _⟩, _⟩, _⟩ := h
  obtain rfl := Option.some.inj ((show (Tryz.prog.globalNamed "internal/strconv.uint64pow10").bind (fun g => (Tryz.prog.globals[g]?).map (·.type)) = some 129 by kernel_rfl).symm.trans (by rw [hg2]; exact ht2))
  unfold Lib.TabIs
  rw [hv2, ← Lib.cells_of_tab Tryz.underlying129 Tryz.underlying53 (by kernel_rfl) (by kernel_rfl) (show DataW.trod _ _ _ _ _ _ _ _ cs2.toList = some (Lib.tabData .u64 Lib.pow10Tab, _) from hd2)]
theorem syn_of {W : World} (h : laidMetH Tryz.prog Rows.fnTariffsRow.laid W) : ∃ te pe, W.cell? ⟨1, 0, none⟩ = some (.iface te pe) := by
  rw [MakeChecks.laidMetH_plain _ _ _ (by kernel_rfl)] at h
  obtain ⟨ps, ⟨g0, t0, cs0, fu0, p0, q0, hg0, ht0, hv0, hd0, ⟨g1, t1, cs1, fu1, p1, q1, hg1, ht1, hv1, hd1, ⟨g2, t2, cs2, fu2, p2, q2, hg2, ht2, hv2, hd2, ⟨g3, t3, cs3, fu3, p3, q3, hg3, ht3, hv3, hd3, ⟨g4, t4, cs4, fu4, p4, q4, hg4, ht4, hv4, hd4, ⟨g5, t5, cs5, fu5, p5, q5, hg5, ht5, hv5, hd5, _, _⟩, _⟩, _⟩, _⟩, _⟩, _⟩, _⟩ := h
  obtain rfl := Option.some.inj ((show (Tryz.prog.globalNamed "strconv.ErrSyntax").bind (fun g => (Tryz.prog.globals[g]?).map (·.type)) = some 71 by kernel_rfl).symm.trans (by rw [hg5]; exact ht5))
  obtain ⟨_, u, v, hcs, _, _⟩ := iface_of_trod Tryz.underlying71 hd5
  have h0 := World.var?_cell (show Tryz.prog.globalNamed "strconv.ErrSyntax" = some 1 by kernel_rfl) hv5 0
  exact ⟨u, v, by rw [h0, ← Array.getElem?_toList, hcs]; rfl⟩
theorem ran_of {W : World} (h : laidMetH Tryz.prog Rows.fnTariffsRow.laid W) : ∃ te pe, W.cell? ⟨2, 0, none⟩ = some (.iface te pe) := by
  rw [MakeChecks.laidMetH_plain _ _ _ (by kernel_rfl)] at h
  obtain ⟨ps, ⟨g0, t0, cs0, fu0, p0, q0, hg0, ht0, hv0, hd0, ⟨g1, t1, cs1, fu1, p1, q1, hg1, ht1, hv1, hd1, ⟨g2, t2, cs2, fu2, p2, q2, hg2, ht2, hv2, hd2, ⟨g3, t3, cs3, fu3, p3, q3, hg3, ht3, hv3, hd3, ⟨g4, t4, cs4, fu4, p4, q4, hg4, ht4, hv4, hd4, _, _⟩, _⟩, _⟩, _⟩, _⟩, _⟩ := h
  obtain rfl := Option.some.inj ((show (Tryz.prog.globalNamed "strconv.ErrRange").bind (fun g => (Tryz.prog.globals[g]?).map (·.type)) = some 71 by kernel_rfl).symm.trans (by rw [hg4]; exact ht4))
  obtain ⟨_, u, v, hcs, _, _⟩ := iface_of_trod Tryz.underlying71 hd4
  have h0 := World.var?_cell (show Tryz.prog.globalNamed "strconv.ErrRange" = some 2 by kernel_rfl) hv4 0
  exact ⟨u, v, by rw [h0, ← Array.getElem?_toList, hcs]; rfl⟩
theorem met_of {W : World} (h : laidMetH Tryz.prog Rows.fnTariffsRow.laid W) (hS : W.ShapedOpen Tryz.prog) : Go.Proofs.YtciecfaeeogdoaaGreatDoorW.Met.Met W :=
  ⟨tab_of h, cell_of_shapedOpen_int (zero := #[.int .i64 0]) (t := 3) hS (of_decide_eq_true (by kernel_rfl)) (by kernel_rfl) rfl (by kernel_rfl) (by kernel_rfl) Tryz.underlying3, syn_of h, ran_of h⟩
set_option maxRecDepth 100000 in
theorem lifted (os : Os) (started : os.Started) (H : Type) (enc : TypeId × Value → H) :
    ReturnsInHanded {} Tryz.checked os 3 .any (fun w args => (Rows.fnTariffsSpec.pre enc Tryz.prog Tryz.f3 [] false w args ∧ laidMetH Tryz.prog Rows.fnTariffsRow.laid w) ∧ sizedMet enc Tryz.prog Tryz.f3 (OpenSpec.ofChange Rows.fnTariffsSpec) false w args) (Rows.fnTariffsSpec.post enc Tryz.prog Tryz.f3 false true false false) := by
  refine Go.Proofs.YtciecfaeeogdoaaGreatDoorW.Wrap.returns_and_shaped (C := Tryz.checked) (X := fun w _ => laidMetH Tryz.prog Rows.fnTariffsRow.laid w) (fun _ _ _ hh h => h.of_heap hh) own started (by kernel_rfl) Tryz.func3
    (ChangeSpec.witness_shaped (enc := enc) (C := Tryz.checked) (os := os) (X := fun w _ => laidMetH Tryz.prog Rows.fnTariffsRow.laid w) false (World.laidAll Tryz.prog os Rows.fnTariffsRow.laid) #[.slice none 0 0] 8 (World.laidAll_os _ _ _) (World.shaped_of_ZipB (by kernel_rfl) (by kernel_rfl)) (by kernel_rfl) (by kernel_rfl) (by kernel_rfl) (by rw [MakeChecks.laidMetH_plain _ _ _ (by kernel_rfl)]; exact laidMet_laidAll _ (by kernel_rfl) (by kernel_rfl))) ?_
  intro W base args ds gs before hval0 hW hcnd hsz0 hL hS _
  have hval : ∀ (j : Nat) t v, Tryz.f3.params[j]? = some t → args[j]? = some v → Value.okWide Tryz.prog W .any base t v := hval0
  have hW' := hW
  obtain ⟨p, q, hA0, hV, rfl, hfz, hnd⟩ := hW
  have hA : DataW.TrodAll enc Tryz.prog W 0 (fun _ => true) true Tryz.f3.params.toList args.toList ds p := hA0
  rw [Tryz.params3] at hA hval
  obtain ⟨v0, vs0, d0, ds0, p0, q0, hargs, rfl, rfl, h0, r0⟩ := trodAll_cons hA
  obtain ⟨rfl, rfl, rfl⟩ := trodAll_nil r0
  obtain rfl : args = #[v0] := by cases args; simp_all
  obtain ⟨rfl, rfl⟩ := trodVars_none hV
  obtain ⟨a0, len0, cap0, rfl⟩ := okWide_slice Tryz.underlying22 (hval 0 22 v0 rfl rfl)
  have k0_ := h0
  have lt0 : ∀ x ∈ p0, x.block < W.heap.size := by obtain ⟨m, hm⟩ := k0_; exact DataW.trod_lt m _ _ _ hm
  obtain ⟨l0, rfl, hc0, hr0, hi0⟩ := Go.Proofs.YtciecfaeeogdoaaGreatDoorW.Open.open_row (op_slice 5 Tryz.underlying22 (by kernel_rfl) (op_int Tryz.underlying5)) h0
  obtain ⟨k, h⟩ := Pure.FnTariffs l0 hi0
  refine (laws_FnTariffs.calls (k := k) (r := true) (w := W) (l0 := l0) (hr0 := hr0) (hc0 := hc0) (hT := (met_of hL hS)) (h := h)).mono fun e W' ⟨he, hd⟩ => ?_
  have bel : Below W.heap.size W W' := hd
  subst he
  exact ⟨_, rfl, _, _, _, [], _, [], hW', trodAll_mk1 (shut_bool Tryz.underlying4 _), (trodAll_cons_mk (Below.trod laidOut (by kernel_rfl) (of_decide_eq_true (by kernel_rfl)) k0_ bel lt0) trodAll_mk0), rfl, bel.frame _, fun h => by cases h⟩
theorem over : Rows.fnTariffsRow.holds Tryz.pinned (OpenSpec.ofChange Rows.fnTariffsSpec) :=
  OpenClaim.holds_of_wide 3 Tryz.f3 rfl rfl rfl rfl rfl rfl rfl ⟨rfl, rfl, rfl, rfl, rfl⟩ rfl rfl rfl rfl rfl (by kernel_rfl) Tryz.func3 (by kernel_rfl)
    (of_decide_eq_true (by kernel_rfl)) (by unfold Func.isWrapper; first | (rw [if_pos (by decide +kernel)]; kernel_rfl) | (rw [if_neg (by decide +kernel)]; exact ⟨rfl, rfl⟩))
    (fun os started H enc _ => lifted os started H enc)
theorem proved : Rows.FnTariffsCardSaid :=
  Claim7.holds_tied_plain_at .later [] [.data, .data, .data, .data, .sentinel, .sentinel, .pinned] true (true, "2a7149c25fbcbdc47691df1b174470eab6d9e8a3a68bdefccba6d77ebabca447") true over (fun _ h => by cases h) (by kernel_rfl) (fun _ h => by cases h) fnTariffs_row_tie rfl ⟨rfl, rfl⟩ (by kernel_rfl) rfl
    (fun f fn hf hfn => by
      obtain rfl : f = 3 := Option.some.inj ((show Tryz.prog.funcNamed "loop.example/g00906/laws.FnTariffs" = some 3 by kernel_rfl).symm.trans hf) |>.symm
      obtain rfl : fn = Tryz.f3 := (Option.some.inj (Tryz.func3.symm.trans hfn)).symm
      exact ⟨by kernel_rfl, fun j t ht => by
        rw [Tryz.params3] at ht
        have hm : t ∈ [22] := by simpa using Array.mem_of_getElem? ht
        have hall : ([22].all fun u => !Tryz.prog.wantsStandIn u) = true := by kernel_rfl
        exact (show Tryz.prog.wantsStandIn t = false by simpa using List.all_eq_true.1 hall t hm)⟩)
    (by kernel_rfl)
#print axioms proved
end Go.Proofs.YtciecfaeeogdoaaGreatDoor.fnTariffs
namespace Go.Proofs.YtciecfaeeogdoaaGreatDoor
/-- The row, under a short name, for the claim. -/
theorem fnTariffs_holds : Rows.FnTariffsCardSaid := fnTariffs.proved
end Go.Proofs.YtciecfaeeogdoaaGreatDoor
