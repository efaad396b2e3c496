-- Written by a program of this session, over the kit's print (wip/xprint.py)
import Derived.Test.YtglfjaaaegfdnaaPFnGateSlotsx0
import Derived.Test.YtglfjaaaegfdnaaPFnGateSlotsx13
namespace Go.Proofs.Ytglfjaaaegfdnaa.PFnGateSlots
open Go.RowKit Go.Proofs.YtglfjaaaegfdnaaW.PrintWords Go.Proofs.YtglfjaaaegfdnaaW.PrintLast Go.Proofs.YtglfjaaaegfdnaaW.PrintMore
attribute [local go_sem] max2_int min2_int max_two min_two max_three min_three max_four min_four   -- for this text's walks alone
set_option linter.unusedVariables false
set_option linter.unusedSimpArgs false

/-! ### spec_l18Slot: function 47 -/
def spec_l18Slot.f (l0_0 : List Int) (l0_1 : List (List Int)) (a1 : Int) : Option (Bool):=(spec_l1In.f a1 0 (wrap64 ((l0_1.length : Int) - 1))).bind fun t456 => (some t456)
set_option maxHeartbeats 8000000 in
set_option maxRecDepth 100000 in
theorem spec_l18Slot.calls (A0_0 : Option Addr) (c0_0 : Nat) (l0_0 : List Int) (A0_1 : Option Addr) (c0_1 : Nat) (l0_1 : List (List Int)) (a1 : Int) (r : Bool) (w : World) (hr0_0 : Kd.C (Kd.int .i64) w A0_0 l0_0.length l0_0) (hc0_0 : l0_0.length ≤ c0_0) (hr0_1 : Kd.C (Kd.slice 3 (Kd.int .i64)) w A0_1 l0_1.length l0_1) (hc0_1 : l0_1.length ≤ c0_1) (h : spec_l18Slot.f l0_0 l0_1 a1 = some r) :
  Calls Try.prog 47 #[.agg #[.slice A0_0 l0_0.length c0_0, .slice A0_1 l0_1.length c0_1], .int .i64 a1] w fun e w' => e = .returned (.bool r) ∧ Below w.heap.size w w':=by
 have hu27:=Try.underlying27;have HR0_0:=am_ hr0_0;have HC0_0:=am_ hc0_0;clear hr0_0 hc0_0;have HR0_1:=am_ hr0_1;have HC0_1:=am_ hc0_1;clear hr0_1 hc0_1;have HB:=am_ (Below.refl w.heap.size w);have H : ((spec_l1In.f a1 0 (wrap64 ((l0_1.length : Int) - 1))).bind fun t456 => (some t456)) = some r:=h;clear h;replace H:=bn_ H;obtain ⟨t456,A3,H⟩:=H;obtain rfl:=Option.some.inj H;go_enter Try.func47,Try.ntmps47;go_wp2_with (first | ((with_reducible refine gate_dst (N:=2) rfl ?_);refine box_event ?hg (N:=2) ?hd (cs:=#[.slice A0_0 l0_0.length c0_0, .slice A0_1 l0_1.length c0_1]) (t:=27) ?hr ?_;(case hd => rfl);(case hg => rfl);(case hr => (go_simp;done));intro gb455 hg w4 hbox hb;have BK455:=am_ hbox;have GW455:=am_ (ge_ hg (by exact HB.out));have GE455:=am_ (ge_ hg (by exact HB.out));replace HB:=am_ (below_step (by exact HB.out) hb);clear hb hbox hg;have hcz5_0:=c2_0 BK455.out;have hcz5_1:=c2_1 BK455.out;have hfz5_0:=blk_frozen BK455.out 0;have hfz5_1:=blk_frozen BK455.out 1) | ((with_reducible refine gate_callee (f:=81) rfl ?_);refine goesL_ (some 10) rfl rfl Try.func81 (by kernel_rfl) rfl #[.int .i64 a1, .int .i64 0, .int .i64 (wrap64 ((l0_1.length : Int) - 1))] rfl (by (try simp only [List.map_toArray,List.map_cons,List.map_nil]);rfl) ?_;(with_reducible refine (spec_l1In.calls a1 0 (wrap64 ((l0_1.length : Int) - 1)) t456 _ A3.out).mono ?_);rintro e w' ⟨rfl,⟨nd,rfl⟩⟩;refine ⟨_,rfl, ?_⟩));go_ret;exact ⟨by rfl,by repeat ((with_reducible first | exact HB.out | apply pw_below_drewN))⟩

end Go.Proofs.Ytglfjaaaegfdnaa.PFnGateSlots
