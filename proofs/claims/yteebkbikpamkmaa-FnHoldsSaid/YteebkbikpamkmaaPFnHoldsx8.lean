-- Written by a program of this session, over the kit's print (wip/xprint.py)
import Derived.Test.YteebkbikpamkmaaPFnHoldsx0
import Derived.Test.YteebkbikpamkmaaPFnHoldsx2
import Derived.Test.YteebkbikpamkmaaPFnHoldsx7
namespace Go.Proofs.Yteebkbikpamkmaa.PFnHolds
open Go.RowKit Go.Proofs.YteebkbikpamkmaaW.PrintWords Go.Proofs.YteebkbikpamkmaaW.PrintLast Go.Proofs.YteebkbikpamkmaaW.PrintMore
attribute [local go_sem] max2_int min2_int max_two min_two max_three min_three max_four min_four   -- for this text's walks alone
set_option linter.unusedVariables false
set_option linter.unusedSimpArgs false

/-! ### spec_l2Id: function 33 -/
def spec_l2Id.f (k : Nat) (a0 : ByteArray) : Option (Bool):=if (a0.size : Int) = 8 then (if 0 ≤ 7 then (if 7 ≤ (a0.size : Int) then ((spec_l2Seven.f k (a0.extract 0 7)).bind fun t319 => (if t319 = true then (if 7 < (a0.size : Int) then ((spec_l2Check.f k (a0.extract 0 7)).bind fun t320 => (some ((bt a0 7) == t320))) else (none)) else (some false))) else (none)) else (none)) else (some false)
theorem spec_l2Id.mono : ∀ a0 k,LeO (spec_l2Id.f k a0) (spec_l2Id.f (k + 1) a0):=by
 intro a0 k
 unfold spec_l2Id.f
 repeat' first
   | (with_reducible exact spec_l2Check.mono _ _)
   | (with_reducible exact spec_l2Seven.mono _ _)
   | (with_reducible exact LeO.refl _)
   | (with_reducible exact LeO.none _)
   | (with_reducible refine LeO.ite ?_ ?_)
   | (with_reducible refine LeO.bind ?_ (fun _ => ?_))
   | exact spec_l2Check.mono _ _
   | exact spec_l2Seven.mono _ _
   | exact LeO.none _
   | refine LeO.ite ?_ ?_
   | refine LeO.bind ?_ (fun _ => ?_)
set_option maxHeartbeats 8000000 in
set_option maxRecDepth 100000 in
theorem spec_l2Id.calls (k : Nat) (a0 : ByteArray) (r : Bool) (w : World) (h : spec_l2Id.f k a0 = some r) :
  Calls Try.prog 33 #[.string a0] w fun e w' => e = .returned (.bool r) ∧ Drawn0 w w':=by
 have H : (if (a0.size : Int) = 8 then (if 0 ≤ 7 then (if 7 ≤ (a0.size : Int) then ((spec_l2Seven.f k (a0.extract 0 7)).bind fun t319 => (if t319 = true then (if 7 < (a0.size : Int) then ((spec_l2Check.f k (a0.extract 0 7)).bind fun t320 => (some ((bt a0 7) == t320))) else (none)) else (some false))) else (none)) else (none)) else (some false)) = some r:=h
 clear h
 by_cases c2 : (a0.size : Int) = 8
 ·rw [if_pos c2] at H
  have c2b0 : ((a0.size : Int) == 8) = true:=beq_iff_eq.mpr c2
  have c2b1 : ((a0.size : Int) != 8) = false:=bne_eq_false_iff_eq.mpr c2
  clear c2
  by_cases c3 : 0 ≤ 7
  ·rw [if_pos c3] at H
   have c3b0:=eq_true c3
   have c3b1 : decide (0 ≤ 7) = true:=decide_eq_true c3
   clear c3
   by_cases c4 : 7 ≤ (a0.size : Int)
   ·rw [if_pos c4] at H
    have c4b0:=eq_true c4
    have c4b1 : decide (7 ≤ (a0.size : Int)) = true:=decide_eq_true c4
    clear c4
    replace H:=Option.bind_eq_some_iff.mp H
    obtain ⟨t319,A50,H⟩ := H
    replace H : (if t319 = true then (if 7 < (a0.size : Int) then ((spec_l2Check.f k (a0.extract 0 7)).bind fun t320 => (some ((bt a0 7) == t320))) else (none)) else (some false)) = some r:=H
    have A5:=Aside0.mk A50
    clear A50
    by_cases c6 : t319 = true
    ·subst c6
     have H1 : (if 7 < (a0.size : Int) then ((spec_l2Check.f k (a0.extract 0 7)).bind fun t320 => (some ((bt a0 7) == t320))) else (none)) = some r:=by rw [if_pos rfl] at H;exact H
     clear H
     have H:=H1
     clear H1
     by_cases c7 : 7 < (a0.size : Int)
     ·rw [if_pos c7] at H
      have c7b0 : decide (7 < (a0.size : Int)) = true:=decide_eq_true c7
      have c7b1 : decide (7 < a0.size) = true:=decide_eq_true (by omega)
      clear c7
      have c9b0:=eq_true (of_decide_eq_true (by (with_reducible assumption)) : 0 ≤ 7)
      have c10b0:=eq_true (of_decide_eq_true (by (with_reducible assumption)) : 7 ≤ (a0.size : Int))
      replace H:=Option.bind_eq_some_iff.mp H
      obtain ⟨t320,A110,H⟩ := H
      replace H : (some ((bt a0 7) == t320)) = some r:=H
      have A11:=Aside0.mk A110
      clear A110
      obtain rfl:=Option.some.inj H
      go_enter Try.func33,Try.ntmps33
      go_wp2_with (fail)
      repeat (go_quiet (first | (go_at_call 52;(with_reducible refine (spec_l2Seven.calls k (a0.extract 0 7) true _ A5.out).mono ?_);rintro e w' ⟨rfl,⟨nd,rfl⟩⟩;(try first | exact ⟨rfl,_,World.drewN_drewN _ _ _⟩ | exact ⟨rfl,_,Eq.trans (World.drewN_drewN _ _ _) (congrArg (World.drewN _) (Nat.add_assoc _ _ _))⟩);have p8 : 0 ≤ (7 : Int):=(by omega);have q8 : 7 < a0.size:=(by have : (7 : Int) < (a0.size : Int):=of_decide_eq_true (by (with_reducible assumption));omega);have hx8 : ∀ h : 7 < a0.size,((a0[7]'h).toNat : Int) = bt a0 7:=bt_at a0 7;clear p8;have qi8 : (7 < (a0.size : Int)) = True:=eq_true (of_decide_eq_true (by (with_reducible assumption)));replace q8:=eq_true q8) | (go_at_call 53;(with_reducible refine (spec_l2Check.calls k (a0.extract 0 7) t320 _ A11.out).mono ?_);rintro e w' ⟨rfl,⟨nd,rfl⟩⟩;(try first | exact ⟨rfl,_,World.drewN_drewN _ _ _⟩ | exact ⟨rfl,_,Eq.trans (World.drewN_drewN _ _ _) (congrArg (World.drewN _) (Nat.add_assoc _ _ _))⟩)));try go_wp2_with (fail))
      go_ret
      exact ⟨by rfl,by repeat (first | exact Drawn0.refl _ | apply Drawn0.step)⟩
     ·rw [if_neg c7] at H
      exact absurd H (by simp)
    ·replace c6:=Bool.eq_false_iff.mpr c6
     subst c6
     have H1 : (some false) = some r:=by rw [if_neg (show ¬ (false = true) by decide)] at H;exact H
     clear H
     have H:=H1
     clear H1
     obtain rfl:=Option.some.inj H
     go_enter Try.func33,Try.ntmps33
     go_wp2_with (fail)
     repeat (go_quiet ((go_at_call 52;(with_reducible refine (spec_l2Seven.calls k (a0.extract 0 7) false _ A5.out).mono ?_);rintro e w' ⟨rfl,⟨nd,rfl⟩⟩;(try first | exact ⟨rfl,_,World.drewN_drewN _ _ _⟩ | exact ⟨rfl,_,Eq.trans (World.drewN_drewN _ _ _) (congrArg (World.drewN _) (Nat.add_assoc _ _ _))⟩)));try go_wp2_with (fail))
     go_ret
     exact ⟨by rfl,by repeat (first | exact Drawn0.refl _ | apply Drawn0.step)⟩
   ·rw [if_neg c4] at H
    exact absurd H (by simp)
  ·rw [if_neg c3] at H
   exact absurd H (by simp)
 ·rw [if_neg c2] at H
  have c2b0 : ((a0.size : Int) == 8) = false:=beq_eq_false_iff_ne.mpr c2
  have c2b1 : ((a0.size : Int) != 8) = true:=bne_iff_ne.mpr c2
  obtain rfl:=Option.some.inj H
  go_enter Try.func33,Try.ntmps33
  go_wp2
  repeat (go_quiet (fail);try go_wp2)
  go_ret
  exact ⟨by rfl,by repeat (first | exact Drawn0.refl _ | apply Drawn0.step)⟩

/-! ### spec_l1In: function 46 -/
def spec_l1In.f (a0 : Int) (a1 : Int) (a2 : Int) : Option (Bool):=if a0 ≥ a1 then (some (decide (a0 ≤ a2))) else (some false)
set_option maxHeartbeats 8000000 in
set_option maxRecDepth 100000 in
theorem spec_l1In.calls (a0 : Int) (a1 : Int) (a2 : Int) (r : Bool) (w : World) (h : spec_l1In.f a0 a1 a2 = some r) :
  Calls Try.prog 46 #[.int .i64 a0, .int .i64 a1, .int .i64 a2] w fun e w' => e = .returned (.bool r) ∧ Drawn0 w w':=by
 have H : (if a0 ≥ a1 then (some (decide (a0 ≤ a2))) else (some false)) = some r:=h
 clear h
 by_cases c4 : a0 ≥ a1
 ·rw [if_pos c4] at H
  have c4b0 : decide (a1 ≤ a0) = true:=decide_eq_true c4
  clear c4
  obtain rfl:=Option.some.inj H
  go_enter Try.func46,Try.ntmps46
  go_wp2
  go_ret
  exact ⟨by rfl,by repeat (exact Drawn0.refl _)⟩
 ·rw [if_neg c4] at H
  have c4b0 : decide (a1 ≤ a0) = false:=decide_eq_false c4
  clear c4
  obtain rfl:=Option.some.inj H
  go_enter Try.func46,Try.ntmps46
  go_wp2
  go_ret
  exact ⟨by rfl,by repeat (exact Drawn0.refl _)⟩

end Go.Proofs.Yteebkbikpamkmaa.PFnHolds
