-- Written by a program of this session, over the kit's print (wip/xprint.py)
import Derived.Test.YtempmebpbbbkmaaPFnWagonsx0
import Derived.Test.YtempmebpbbbkmaaPFnWagonsx8
import Derived.Test.YtempmebpbbbkmaaPFnWagonsx10
namespace Go.Proofs.Ytempmebpbbbkmaa.PFnWagons
open Go.RowKit Go.Proofs.YtempmebpbbbkmaaW.PrintWords Go.Proofs.YtempmebpbbbkmaaW.PrintLast Go.Proofs.YtempmebpbbbkmaaW.PrintMore
attribute [local go_sem] max2_int min2_int max_two min_two max_three min_three max_four min_four   -- for this text's walks alone
set_option linter.unusedVariables false
set_option linter.unusedSimpArgs false

/-! ### impl_ByDestination: function 11 -/
def impl_ByDestination.l0 : Nat → List (S33) → List Int → List Int → Int → Int → Option (Bool × Bool)
 | 0,_,_,_,_,_ => none
 | k + 1,x1,x8,x19,x20,x21 => if x21 < x20 then (if 0 ≤ x21 then (if x21 < (x19.length : Int) then (if (rd x19 x21) < 0 then (impl_ByDestination.l0 k x1 x8 x19 x20 (wrap64 (x21 + 1))) else (if 0 ≤ (rd x19 x21) then (if (rd x19 x21) < (x8.length : Int) then (if (rd x8 (rd x19 x21)) = 0 then (if x21 < (x1.length : Int) then (impl_ByDestination.l0 k x1 (x8.set ((rd x19 x21) : Int).toNat ((rd_T33 x1 x21).f4)) x19 x20 (wrap64 (x21 + 1))) else (none)) else (if x21 < (x1.length : Int) then (if (rd x8 (rd x19 x21)) = ((rd_T33 x1 x21).f4) then (impl_ByDestination.l0 k x1 x8 x19 x20 (wrap64 (x21 + 1))) else (some (false,true))) else (none))) else (none)) else (none))) else (none)) else (none)) else (some (true,true))
def impl_ByDestination.f (k : Nat) (l0 : List (S60)) (l1 : List (S33)) (l2 : List Int) : Option (Bool × Bool):=(impl_IsValidLoading.f k l0 l1 l2).bind fun t532 => (if t532 = true then (if 0 ≤ (l0.length : Int) then (if ((l0.length : Int) : Int).toNat ≤ 35184372088832 then (impl_ByDestination.l0 k l1 (List.replicate ((l0.length : Int) : Int).toNat 0) l2 (l2.length : Int) 0) else (none)) else (none)) else (some (false,false)))
theorem impl_ByDestination.mono_l : ∀ k,(∀ y0 y1 y2 y3 y4,LeO (impl_ByDestination.l0 k y0 y1 y2 y3 y4) (impl_ByDestination.l0 (k + 1) y0 y1 y2 y3 y4))
 | 0 => fun _ _ _ _ _ r h => by simp [impl_ByDestination.l0] at h
 | k + 1 => by
  have ih0:=impl_ByDestination.mono_l k
  ·intro y0 y1 y2 y3 y4
   unfold impl_ByDestination.l0
   repeat' first
   | (with_reducible exact ih0 _ _ _ _ _)
   | (with_reducible exact impl_IsValidLoading.mono _ _ _ _)
   | (with_reducible exact LeO.refl _)
   | (with_reducible exact LeO.none _)
   | (with_reducible refine LeO.ite ?_ ?_)
   | (with_reducible refine LeO.bind ?_ (fun _ => ?_))
   | exact ih0 _ _ _ _ _
   | exact impl_IsValidLoading.mono _ _ _ _
   | exact LeO.none _
   | refine LeO.ite ?_ ?_
   | refine LeO.bind ?_ (fun _ => ?_)
theorem impl_ByDestination.mono : ∀ a0 a1 a2 k,LeO (impl_ByDestination.f k a0 a1 a2) (impl_ByDestination.f (k + 1) a0 a1 a2):=by
 intro a0 a1 a2 k
 have ih0:=impl_ByDestination.mono_l k
 unfold impl_ByDestination.f
 repeat' first
   | (with_reducible exact ih0 _ _ _ _ _)
   | (with_reducible exact impl_IsValidLoading.mono _ _ _ _)
   | (with_reducible exact LeO.refl _)
   | (with_reducible exact LeO.none _)
   | (with_reducible refine LeO.ite ?_ ?_)
   | (with_reducible refine LeO.bind ?_ (fun _ => ?_))
   | exact ih0 _ _ _ _ _
   | exact impl_IsValidLoading.mono _ _ _ _
   | exact LeO.none _
   | refine LeO.ite ?_ ?_
   | refine LeO.bind ?_ (fun _ => ?_)
set_option maxHeartbeats 8000000 in
set_option maxRecDepth 100000 in
theorem impl_ByDestination.calls (k : Nat) (A0 : Option Addr) (c0 : Nat) (l0 : List (S60)) (A1 : Option Addr) (c1 : Nat) (l1 : List (S33)) (A2 : Option Addr) (c2 : Nat) (l2 : List Int) (r1 : Bool) (r2 : Bool) (w : World) (hr0 : Kd.C k60 w A0 l0.length l0) (hc0 : l0.length ≤ c0) (hr1 : Kd.C k33 w A1 l1.length l1) (hc1 : l1.length ≤ c1) (hr2 : Kd.C (Kd.int .i64) w A2 l2.length l2) (hc2 : l2.length ≤ c2) (h : impl_ByDestination.f k l0 l1 l2 = some (r1,r2)) :
  Calls Try.prog 11 #[.slice A0 l0.length c0, .slice A1 l1.length c1, .slice A2 l2.length c2] w fun e w' => e = .returned (.tuple #[.bool r1, .bool r2]) ∧ Below w.heap.size w w':=by
 have HR0:=Aside0.mk hr0
 have HC0:=Aside0.mk hc0
 clear hr0 hc0
 have HR1:=Aside0.mk hr1
 have HC1:=Aside0.mk hc1
 clear hr1 hc1
 have HR2:=Aside0.mk hr2
 have HC2:=Aside0.mk hc2
 clear hr2 hc2
 have HB:=Aside0.mk (Below.refl w.heap.size w)
 have H : ((impl_IsValidLoading.f k l0 l1 l2).bind fun t532 => (if t532 = true then (if 0 ≤ (l0.length : Int) then (if ((l0.length : Int) : Int).toNat ≤ 35184372088832 then (impl_ByDestination.l0 k l1 (List.replicate ((l0.length : Int) : Int).toNat 0) l2 (l2.length : Int) 0) else (none)) else (none)) else (some (false,false)))) = some (r1,r2):=h
 clear h
 replace H:=Option.bind_eq_some_iff.mp H
 obtain ⟨t532,A40,H⟩ := H
 replace H : (if t532 = true then (if 0 ≤ (l0.length : Int) then (if ((l0.length : Int) : Int).toNat ≤ 35184372088832 then (impl_ByDestination.l0 k l1 (List.replicate ((l0.length : Int) : Int).toNat 0) l2 (l2.length : Int) 0) else (none)) else (none)) else (some (false,false))) = some (r1,r2):=H
 have A4:=Aside0.mk A40
 clear A40
 by_cases c5 : t532 = true
 ·subst c5
  have H1 : (if 0 ≤ (l0.length : Int) then (if ((l0.length : Int) : Int).toNat ≤ 35184372088832 then (impl_ByDestination.l0 k l1 (List.replicate ((l0.length : Int) : Int).toNat 0) l2 (l2.length : Int) 0) else (none)) else (none)) = some (r1,r2):=by rw [if_pos rfl] at H;exact H
  clear H
  have H:=H1
  clear H1
  by_cases c6 : 0 ≤ (l0.length : Int)
  ·rw [if_pos c6] at H
   have c6b0:=eq_true c6
   have c6b1 : decide (0 ≤ (l0.length : Int)) = true:=decide_eq_true c6
   clear c6
   by_cases c7 : ((l0.length : Int) : Int).toNat ≤ 35184372088832
   ·rw [if_pos c7] at H
    have c7b0:=eq_true c7
    have c7b1 : decide (((l0.length : Int) : Int).toNat ≤ 35184372088832) = true:=decide_eq_true c7
    clear c7
    obtain ⟨y533,hy533⟩ : ∃ y_ : List Int,y_ = (List.replicate ((l0.length : Int) : Int).toNat 0):=⟨_,rfl⟩
    replace H : (impl_ByDestination.l0 k l1 y533 l2 (l2.length : Int) 0) = some (r1,r2):=by (rw [hy533];with_reducible exact H)
    have Ny533:=Aside0.mk hy533
    clear hy533
    have H':=Aside0.mk H
    clear H
    go_enter Try.func11,Try.ntmps11
    go_wp2_with (first | (go_at_call 9;(with_reducible refine (impl_IsValidLoading.calls k _ _ l0 _ _ l1 _ _ l2 true _ ?side1 ?side2 ?side3 ?side4 ?side5 ?side6 A4.out).mono ?_);(case side1 => repeat (exact HR0.out));(case side2 => exact HC0.out);(case side3 => repeat (exact HR1.out));(case side4 => exact HC1.out);(case side5 => repeat (exact HR2.out));(case side6 => exact HC2.out);rintro e w8 ⟨rfl,hb⟩;have n0_:=Aside0.mk (below_step (by exact HB.out) hb);clear HB;have HB:=n0_;clear n0_;(try clear hb)) | ((with_reducible refine gate_dst (N:=18) rfl ?_);refine Kd.R_make (Kd.int .i64) _ 3 rfl (N:=18) rfl 26 _ _ rfl (l0.length : Int) rfl rfl Try.underlying26 (.int .i64 0) 8 info3 rfl (by decide) (by omega) 0 (ok:=fun _ => True) (okp:=fun _ => True) rfl (fun _ hk => hk) trivial (of_decide_eq_true (by (with_reducible assumption))) (Nat.le_trans (Nat.mul_le_mul_right _ (of_decide_eq_true (by (with_reducible assumption)) : (l0.length : Int).toNat ≤ 35184372088832)) (by omega)) (Below.refl _ _) (Nat.le_refl _) ?_;intro v534 w9 ho10 hb hg_ hnew_;clear hg_ hnew_;(rw [← Ny533.out] at ho10);have n0_:=Aside0.mk (Kd.R_lower ho10 (below_size (by exact HB.out)));have n1_:=Aside0.mk (below_step (by exact HB.out) hb);clear HB;have HO535:=n0_;have HB:=n1_;clear n0_ n1_;clear hb ho10))
    repeat (go_quiet (fail);try go_wp2_with (fail))
    (skip)
    go_loopg [21] k (fun kq v21 w' => ∃ (x8_1 : List Int) (x21_1 : Int),v21 = .int .i64 x21_1 ∧ Aside0 (impl_ByDestination.l0 kq l1 x8_1 l2 (l2.length : Int) x21_1 = some (r1,r2)) ∧ Aside0 (kq ≤ k) ∧ Aside0 (Kd.R (Kd.int .i64) 3 w' w.heap.size (fun _ => True) v534 x8_1) ∧ Aside0 (Below w.heap.size w w'))
    case atStart => exact ⟨(y533),(0),(by rfl),H',⟨Nat.le_refl _⟩,⟨by exact HO535.out⟩,⟨by exact HB.out⟩⟩
    case round =>
     clear H'
     try clear c1
     try clear c2
     try clear p2
     try clear c5
     try clear c6
     try clear c6b0
     try clear c6b1
     try clear c7
     try clear c7b0
     try clear c7b1
     obtain ⟨x8_1,x21_1,rfl,HA,HK1,HO_8,HB⟩ := hrel
     cases gk with
     | zero => exact absurd HA.out (by simp [impl_ByDestination.l0])
     | succ k1 =>
      have H:=HA.out
      clear HA
      simp only [impl_ByDestination.l0] at H
      by_cases c11 : x21_1 < (l2.length : Int)
      ·rw [if_pos c11] at H
       have c11b0 : decide (x21_1 < (l2.length : Int)) = true:=decide_eq_true c11
       clear c11
       by_cases c12 : 0 ≤ x21_1
       ·rw [if_pos c12] at H
        have c12b0 : decide (0 ≤ x21_1) = true:=decide_eq_true c12
        clear c12
        by_cases c13 : x21_1 < (l2.length : Int)
        ·rw [if_pos c13] at H
         have c13b0 : decide (x21_1 < (l2.length : Int)) = true:=decide_eq_true c13
         clear c13
         by_cases c14 : (rd l2 x21_1) < 0
         ·rw [if_pos c14] at H
          have c14b0 : decide ((rd l2 x21_1) < 0) = true:=decide_eq_true c14
          clear c14
          have H':=Aside0.mk H
          clear H
          have p536 : 0 ≤ (x21_1 : Int):=of_decide_eq_true (by (with_reducible assumption))
          have q536 : x21_1 < (l2.length : Int):=of_decide_eq_true (by (with_reducible assumption))
          obtain ⟨ad536,e536,hx536_0⟩ := Kd.at_int HR2.out x21_1 p536 q536
          cases e536
          replace hx536_0:=(HB.out.cell (World.block_lt_of_cell? w _ hx536_0)).trans hx536_0
          replace p536:=eq_true p536
          replace q536:=eq_true q536
          go_wp2
          repeat (go_quiet (fail);try go_wp2)
          go_roundg k1
          case measure => have:=HK1.out;omega
          case rel => exact ⟨(x8_1),(wrap64 (x21_1 + 1)),(by rfl),H',⟨by have:=HK1.out;omega⟩,⟨by exact HO_8.out⟩,⟨by exact HB.out⟩⟩
         ·rw [if_neg c14] at H
          have c14b0 : decide ((rd l2 x21_1) < 0) = false:=decide_eq_false c14
          clear c14
          by_cases c15 : 0 ≤ (rd l2 x21_1)
          ·rw [if_pos c15] at H
           have c15b0 : decide (0 ≤ (rd l2 x21_1)) = true:=decide_eq_true c15
           clear c15
           by_cases c16 : (rd l2 x21_1) < (x8_1.length : Int)
           ·rw [if_pos c16] at H
            have c16b0 : decide ((rd l2 x21_1) < (x8_1.length : Int)) = true:=decide_eq_true c16
            clear c16
            by_cases c17 : (rd x8_1 (rd l2 x21_1)) = 0
            ·rw [if_pos c17] at H
             have c17b0 : ((rd x8_1 (rd l2 x21_1)) == 0) = true:=beq_iff_eq.mpr c17
             have c17b1 : ((rd x8_1 (rd l2 x21_1)) != 0) = false:=bne_eq_false_iff_eq.mpr c17
             clear c17
             by_cases c18 : x21_1 < (l1.length : Int)
             ·rw [if_pos c18] at H
              have c18b0 : decide (x21_1 < (l1.length : Int)) = true:=decide_eq_true c18
              clear c18
              obtain ⟨y539,hy539⟩ : ∃ y_ : List Int,y_ = (x8_1.set ((rd l2 x21_1) : Int).toNat ((rd_T33 l1 x21_1).f4)):=⟨_,rfl⟩
              replace H : (impl_ByDestination.l0 k1 l1 y539 l2 (l2.length : Int) (wrap64 (x21_1 + 1))) = some (r1,r2):=by (rw [hy539];with_reducible exact H)
              have Ny539:=Aside0.mk hy539
              clear hy539
              have H':=Aside0.mk H
              clear H
              have p536 : 0 ≤ (x21_1 : Int):=of_decide_eq_true (by (with_reducible assumption))
              have q536 : x21_1 < (l2.length : Int):=of_decide_eq_true (by (with_reducible assumption))
              obtain ⟨ad536,e536,hx536_0⟩ := Kd.at_int HR2.out x21_1 p536 q536
              cases e536
              replace hx536_0:=(HB.out.cell (World.block_lt_of_cell? w _ hx536_0)).trans hx536_0
              replace p536:=eq_true p536
              replace q536:=eq_true q536
              obtain ⟨Ao20,co20,eo20⟩ := Kd.R_slice HO_8.out
              subst eo20
              have p537 : 0 ≤ ((rd l2 x21_1) : Int):=of_decide_eq_true (by (with_reducible assumption))
              have q537 : (rd l2 x21_1) < (x8_1.length : Int):=of_decide_eq_true (by (with_reducible assumption))
              obtain ⟨ad537,e537,hx537_0⟩ := Kd.at_int (Kd.R_reads' HO_8.out).2.2 (rd l2 x21_1) p537 q537
              cases e537
              replace p537:=eq_true p537
              replace q537:=eq_true q537
              have p538 : 0 ≤ (x21_1 : Int):=of_decide_eq_true (by (with_reducible assumption))
              have q538 : x21_1 < (l1.length : Int):=of_decide_eq_true (by (with_reducible assumption))
              obtain ⟨ad538,e538,hx538_0,hx538_1,hx538_2,hx538_3,hx538_4⟩ := at_T33 HR1.out x21_1 p538 q538
              cases e538
              replace hx538_0:=(HB.out.cell (World.block_lt_of_cell? w _ hx538_0)).trans hx538_0
              replace hx538_1:=(HB.out.cell (World.block_lt_of_cell? w _ hx538_1)).trans hx538_1
              replace hx538_2:=(HB.out.cell (World.block_lt_of_cell? w _ hx538_2)).trans hx538_2
              replace hx538_3:=(HB.out.cell (World.block_lt_of_cell? w _ hx538_3)).trans hx538_3
              replace hx538_4:=(HB.out.cell (World.block_lt_of_cell? w _ hx538_4)).trans hx538_4
              replace p538:=eq_true p538
              replace q538:=eq_true q538
              have p19 : 0 ≤ ((rd l2 x21_1) : Int):=of_decide_eq_true (by (with_reducible assumption))
              have q19 : ((rd l2 x21_1) : Int) < ((x8_1.length : Int) : Int):=of_decide_eq_true (by (with_reducible assumption))
              obtain ⟨go19,co19,eo19,gb19,gl19,cl19,HG19⟩ := Kd.R_form HO_8.out (by omega)
              (cases eo19)
              have GB19:=Aside0.mk gb19
              have GG19:=Aside0.mk HG19
              clear gb19 gl19 HG19
              (simp only [add_plain] at hx537_0)
              obtain ⟨hx19_0,hf19_0⟩ := Kd.R_celln 0 HO_8.out ((rd l2 x21_1) : Int) p19 q19
              replace p19:=eq_true p19
              replace q19:=eq_true q19
              have HP21:=Kd.R_putg HO_8.out ((rd l2 x21_1) : Int) ((rd_T33 l1 x21_1).f4)
              go_wp2_with (((with_reducible refine gate_store (t:=3) (p:=42) rfl ?_);refine store_event (t:=3) (p:=42) (v:=?vo_w22) (w1:=(wr.setCell ⟨go19,((rd l2 x21_1) : Int).toNat,none⟩ (.int .i64 ((rd_T33 l1 x21_1).f4)))) ?hg ?ho ?hn ?hr ?_;(case ho => rfl);(case hg => rfl);(case hn => rfl);(case hr => (go_simp;done));intro w22 hw;have hg : wr.grownBy w22 (some go19):=(by rw [hw];exact HP21.2);have hp_ : Kd.R (Kd.int .i64) 3 w22 w.heap.size (fun _ => True) (.slice (some ⟨go19,0,none⟩) x8_1.length co20) y539:=(by rw [hw,Ny539.out];exact HP21.1);clear HP21;have n0_:=Aside0.mk (hp_);have n1_:=Aside0.mk ((by rw [hw];exact below_set (HB.out) GB19.out : Below w.heap.size w w22));clear HO_8;clear HB;have HO_8:=n0_;have HB:=n1_;clear n0_ n1_;clear hg hw hp_))
              repeat (go_quiet (fail);try go_wp2_with (fail))
              go_roundg k1
              case measure => have:=HK1.out;omega
              case rel => exact ⟨(y539),(wrap64 (x21_1 + 1)),(by rfl),H',⟨by have:=HK1.out;omega⟩,⟨by exact HO_8.out⟩,⟨by exact HB.out⟩⟩
             ·rw [if_neg c18] at H
              exact absurd H (by simp)
            ·rw [if_neg c17] at H
             have c17b0 : ((rd x8_1 (rd l2 x21_1)) == 0) = false:=beq_eq_false_iff_ne.mpr c17
             have c17b1 : ((rd x8_1 (rd l2 x21_1)) != 0) = true:=bne_iff_ne.mpr c17
             by_cases c23 : x21_1 < (l1.length : Int)
             ·rw [if_pos c23] at H
              have c23b0 : decide (x21_1 < (l1.length : Int)) = true:=decide_eq_true c23
              clear c23
              by_cases c24 : (rd x8_1 (rd l2 x21_1)) = ((rd_T33 l1 x21_1).f4)
              ·rw [if_pos c24] at H
               have c24b0 : ((rd x8_1 (rd l2 x21_1)) == ((rd_T33 l1 x21_1).f4)) = true:=beq_iff_eq.mpr c24
               have c24b1 : ((rd x8_1 (rd l2 x21_1)) != ((rd_T33 l1 x21_1).f4)) = false:=bne_eq_false_iff_eq.mpr c24
               clear c24
               have H':=Aside0.mk H
               clear H
               have p536 : 0 ≤ (x21_1 : Int):=of_decide_eq_true (by (with_reducible assumption))
               have q536 : x21_1 < (l2.length : Int):=of_decide_eq_true (by (with_reducible assumption))
               obtain ⟨ad536,e536,hx536_0⟩ := Kd.at_int HR2.out x21_1 p536 q536
               cases e536
               replace hx536_0:=(HB.out.cell (World.block_lt_of_cell? w _ hx536_0)).trans hx536_0
               replace p536:=eq_true p536
               replace q536:=eq_true q536
               obtain ⟨Ao25,co25,eo25⟩ := Kd.R_slice HO_8.out
               subst eo25
               have p537 : 0 ≤ ((rd l2 x21_1) : Int):=of_decide_eq_true (by (with_reducible assumption))
               have q537 : (rd l2 x21_1) < (x8_1.length : Int):=of_decide_eq_true (by (with_reducible assumption))
               obtain ⟨ad537,e537,hx537_0⟩ := Kd.at_int (Kd.R_reads' HO_8.out).2.2 (rd l2 x21_1) p537 q537
               cases e537
               replace p537:=eq_true p537
               replace q537:=eq_true q537
               have p540 : 0 ≤ ((rd l2 x21_1) : Int):=of_decide_eq_true (by (with_reducible assumption))
               have q540 : (rd l2 x21_1) < (x8_1.length : Int):=of_decide_eq_true (by (with_reducible assumption))
               obtain ⟨ad540,e540,hx540_0⟩ := Kd.at_int (Kd.R_reads' HO_8.out).2.2 (rd l2 x21_1) p540 q540
               obtain rfl : ad537 = ad540:=(by injection e540)
               replace p540:=eq_true p540
               replace q540:=eq_true q540
               have p541 : 0 ≤ (x21_1 : Int):=of_decide_eq_true (by (with_reducible assumption))
               have q541 : x21_1 < (l1.length : Int):=of_decide_eq_true (by (with_reducible assumption))
               obtain ⟨ad541,e541,hx541_0,hx541_1,hx541_2,hx541_3,hx541_4⟩ := at_T33 HR1.out x21_1 p541 q541
               cases e541
               replace hx541_0:=(HB.out.cell (World.block_lt_of_cell? w _ hx541_0)).trans hx541_0
               replace hx541_1:=(HB.out.cell (World.block_lt_of_cell? w _ hx541_1)).trans hx541_1
               replace hx541_2:=(HB.out.cell (World.block_lt_of_cell? w _ hx541_2)).trans hx541_2
               replace hx541_3:=(HB.out.cell (World.block_lt_of_cell? w _ hx541_3)).trans hx541_3
               replace hx541_4:=(HB.out.cell (World.block_lt_of_cell? w _ hx541_4)).trans hx541_4
               replace p541:=eq_true p541
               replace q541:=eq_true q541
               go_wp2
               repeat (go_quiet (fail);try go_wp2)
               go_roundg k1
               case measure => have:=HK1.out;omega
               case rel => exact ⟨(x8_1),(wrap64 (x21_1 + 1)),(by rfl),H',⟨by have:=HK1.out;omega⟩,⟨by (with_reducible repeat (apply Kd.R_drewN));exact HO_8.out⟩,⟨by repeat ((with_reducible first | exact HB.out | apply pw_below_drewN))⟩⟩
              ·rw [if_neg c24] at H
               have c24b0 : ((rd x8_1 (rd l2 x21_1)) == ((rd_T33 l1 x21_1).f4)) = false:=beq_eq_false_iff_ne.mpr c24
               have c24b1 : ((rd x8_1 (rd l2 x21_1)) != ((rd_T33 l1 x21_1).f4)) = true:=bne_iff_ne.mpr c24
               simp only [Option.some.injEq,Prod.mk.injEq] at H
               obtain ⟨rfl,rfl⟩ := H
               have p536 : 0 ≤ (x21_1 : Int):=of_decide_eq_true (by (with_reducible assumption))
               have q536 : x21_1 < (l2.length : Int):=of_decide_eq_true (by (with_reducible assumption))
               obtain ⟨ad536,e536,hx536_0⟩ := Kd.at_int HR2.out x21_1 p536 q536
               cases e536
               replace hx536_0:=(HB.out.cell (World.block_lt_of_cell? w _ hx536_0)).trans hx536_0
               replace p536:=eq_true p536
               replace q536:=eq_true q536
               obtain ⟨Ao26,co26,eo26⟩ := Kd.R_slice HO_8.out
               subst eo26
               have p537 : 0 ≤ ((rd l2 x21_1) : Int):=of_decide_eq_true (by (with_reducible assumption))
               have q537 : (rd l2 x21_1) < (x8_1.length : Int):=of_decide_eq_true (by (with_reducible assumption))
               obtain ⟨ad537,e537,hx537_0⟩ := Kd.at_int (Kd.R_reads' HO_8.out).2.2 (rd l2 x21_1) p537 q537
               cases e537
               replace p537:=eq_true p537
               replace q537:=eq_true q537
               have p540 : 0 ≤ ((rd l2 x21_1) : Int):=of_decide_eq_true (by (with_reducible assumption))
               have q540 : (rd l2 x21_1) < (x8_1.length : Int):=of_decide_eq_true (by (with_reducible assumption))
               obtain ⟨ad540,e540,hx540_0⟩ := Kd.at_int (Kd.R_reads' HO_8.out).2.2 (rd l2 x21_1) p540 q540
               obtain rfl : ad537 = ad540:=(by injection e540)
               replace p540:=eq_true p540
               replace q540:=eq_true q540
               have p541 : 0 ≤ (x21_1 : Int):=of_decide_eq_true (by (with_reducible assumption))
               have q541 : x21_1 < (l1.length : Int):=of_decide_eq_true (by (with_reducible assumption))
               obtain ⟨ad541,e541,hx541_0,hx541_1,hx541_2,hx541_3,hx541_4⟩ := at_T33 HR1.out x21_1 p541 q541
               cases e541
               replace hx541_0:=(HB.out.cell (World.block_lt_of_cell? w _ hx541_0)).trans hx541_0
               replace hx541_1:=(HB.out.cell (World.block_lt_of_cell? w _ hx541_1)).trans hx541_1
               replace hx541_2:=(HB.out.cell (World.block_lt_of_cell? w _ hx541_2)).trans hx541_2
               replace hx541_3:=(HB.out.cell (World.block_lt_of_cell? w _ hx541_3)).trans hx541_3
               replace hx541_4:=(HB.out.cell (World.block_lt_of_cell? w _ hx541_4)).trans hx541_4
               replace p541:=eq_true p541
               replace q541:=eq_true q541
               go_wp2
               repeat (go_quiet (fail);try go_wp2)
               go_ret2
               exact ⟨by rfl,by repeat ((with_reducible first | exact HB.out | apply pw_below_drewN))⟩
             ·rw [if_neg c23] at H
              exact absurd H (by simp)
           ·rw [if_neg c16] at H
            exact absurd H (by simp)
          ·rw [if_neg c15] at H
           exact absurd H (by simp)
        ·rw [if_neg c13] at H
         exact absurd H (by simp)
       ·rw [if_neg c12] at H
        exact absurd H (by simp)
      ·rw [if_neg c11] at H
       have c11b0 : decide (x21_1 < (l2.length : Int)) = false:=decide_eq_false c11
       clear c11
       simp only [Option.some.injEq,Prod.mk.injEq] at H
       obtain ⟨rfl,rfl⟩ := H
       go_wp2
       repeat (go_quiet (fail);try go_wp2)
       go_ret2
       exact ⟨by rfl,by exact HB.out⟩
   ·rw [if_neg c7] at H
    exact absurd H (by simp)
  ·rw [if_neg c6] at H
   exact absurd H (by simp)
 ·replace c5:=Bool.eq_false_iff.mpr c5
  subst c5
  have H1 : (some (false,false)) = some (r1,r2):=by rw [if_neg (show ¬ (false = true) by decide)] at H;exact H
  clear H
  have H:=H1
  clear H1
  simp only [Option.some.injEq,Prod.mk.injEq] at H
  obtain ⟨rfl,rfl⟩ := H
  go_enter Try.func11,Try.ntmps11
  go_wp2_with ((go_at_call 9;(with_reducible refine (impl_IsValidLoading.calls k _ _ l0 _ _ l1 _ _ l2 false _ ?side1 ?side2 ?side3 ?side4 ?side5 ?side6 A4.out).mono ?_);(case side1 => repeat (exact HR0.out));(case side2 => exact HC0.out);(case side3 => repeat (exact HR1.out));(case side4 => exact HC1.out);(case side5 => repeat (exact HR2.out));(case side6 => exact HC2.out);rintro e w27 ⟨rfl,hb⟩;have n0_:=Aside0.mk (below_step (by exact HB.out) hb);clear HB;have HB:=n0_;clear n0_;(try clear hb)))
  repeat (go_quiet (fail);try go_wp2_with (fail))
  go_ret2
  exact ⟨by rfl,by exact HB.out⟩

/-! ### spec_ByDestination: function 12 -/
mutual
def spec_ByDestination.l0 : Nat → List (S33) → List Int → Int → Option (Bool × Bool)
 | 0,_,_,_ => none
 | k + 1,x1,x2,x8 => if x8 < (x1.length : Int) then (spec_ByDestination.l1 k x1 x2 x8 0) else (some (true,true))
def spec_ByDestination.l1 : Nat → List (S33) → List Int → Int → Int → Option (Bool × Bool)
 | 0,_,_,_,_ => none
 | k + 1,x1,x2,x8,x9 => if x9 < x8 then (if 0 ≤ x8 then (if x8 < (x2.length : Int) then (if (rd x2 x8) ≥ 0 then (if 0 ≤ x9 then (if x9 < (x2.length : Int) then (if (rd x2 x8) = (rd x2 x9) then (if x8 < (x1.length : Int) then (if x9 < (x1.length : Int) then (if ((rd_T33 x1 x8).f4) = ((rd_T33 x1 x9).f4) then (spec_ByDestination.l1 k x1 x2 x8 (wrap64 (x9 + 1))) else (some (false,true))) else (none)) else (none)) else (spec_ByDestination.l1 k x1 x2 x8 (wrap64 (x9 + 1)))) else (none)) else (none)) else (spec_ByDestination.l1 k x1 x2 x8 (wrap64 (x9 + 1)))) else (none)) else (none)) else (spec_ByDestination.l0 k x1 x2 (wrap64 (x8 + 1)))
end
def spec_ByDestination.f (k : Nat) (l0 : List (S60)) (l1 : List (S33)) (l2 : List Int) : Option (Bool × Bool):=(spec_l19Good.f k l0 l1 l2).bind fun t542 => (if t542 = true then (spec_ByDestination.l0 k l1 l2 0) else (some (false,false)))
theorem spec_ByDestination.mono_l : ∀ k,(∀ y0 y1 y2,LeO (spec_ByDestination.l0 k y0 y1 y2) (spec_ByDestination.l0 (k + 1) y0 y1 y2)) ∧ (∀ y0 y1 y2 y3,LeO (spec_ByDestination.l1 k y0 y1 y2 y3) (spec_ByDestination.l1 (k + 1) y0 y1 y2 y3))
 | 0 => ⟨fun _ _ _ r h => by simp [spec_ByDestination.l0] at h,fun _ _ _ _ r h => by simp [spec_ByDestination.l1] at h⟩
 | k + 1 => by
  obtain ⟨ih0,ih1⟩ := spec_ByDestination.mono_l k
  refine ⟨?_, ?_⟩
  ·intro y0 y1 y2
   unfold spec_ByDestination.l0
   repeat' first
   | (with_reducible exact ih0 _ _ _)
   | (with_reducible exact ih1 _ _ _ _)
   | (with_reducible exact spec_l19Good.mono _ _ _ _)
   | (with_reducible exact LeO.refl _)
   | (with_reducible exact LeO.none _)
   | (with_reducible refine LeO.ite ?_ ?_)
   | (with_reducible refine LeO.bind ?_ (fun _ => ?_))
   | exact ih0 _ _ _
   | exact ih1 _ _ _ _
   | exact spec_l19Good.mono _ _ _ _
   | exact LeO.none _
   | refine LeO.ite ?_ ?_
   | refine LeO.bind ?_ (fun _ => ?_)
  ·intro y0 y1 y2 y3
   unfold spec_ByDestination.l1
   repeat' first
   | (with_reducible exact ih0 _ _ _)
   | (with_reducible exact ih1 _ _ _ _)
   | (with_reducible exact spec_l19Good.mono _ _ _ _)
   | (with_reducible exact LeO.refl _)
   | (with_reducible exact LeO.none _)
   | (with_reducible refine LeO.ite ?_ ?_)
   | (with_reducible refine LeO.bind ?_ (fun _ => ?_))
   | exact ih0 _ _ _
   | exact ih1 _ _ _ _
   | exact spec_l19Good.mono _ _ _ _
   | exact LeO.none _
   | refine LeO.ite ?_ ?_
   | refine LeO.bind ?_ (fun _ => ?_)
theorem spec_ByDestination.mono : ∀ a0 a1 a2 k,LeO (spec_ByDestination.f k a0 a1 a2) (spec_ByDestination.f (k + 1) a0 a1 a2):=by
 intro a0 a1 a2 k
 obtain ⟨ih0,ih1⟩ := spec_ByDestination.mono_l k
 unfold spec_ByDestination.f
 repeat' first
   | (with_reducible exact ih0 _ _ _)
   | (with_reducible exact ih1 _ _ _ _)
   | (with_reducible exact spec_l19Good.mono _ _ _ _)
   | (with_reducible exact LeO.refl _)
   | (with_reducible exact LeO.none _)
   | (with_reducible refine LeO.ite ?_ ?_)
   | (with_reducible refine LeO.bind ?_ (fun _ => ?_))
   | exact ih0 _ _ _
   | exact ih1 _ _ _ _
   | exact spec_l19Good.mono _ _ _ _
   | exact LeO.none _
   | refine LeO.ite ?_ ?_
   | refine LeO.bind ?_ (fun _ => ?_)
set_option maxHeartbeats 8000000 in
set_option maxRecDepth 100000 in
theorem spec_ByDestination.calls (k : Nat) (A0 : Option Addr) (c0 : Nat) (l0 : List (S60)) (A1 : Option Addr) (c1 : Nat) (l1 : List (S33)) (A2 : Option Addr) (c2 : Nat) (l2 : List Int) (r1 : Bool) (r2 : Bool) (w : World) (hr0 : Kd.C k60 w A0 l0.length l0) (hc0 : l0.length ≤ c0) (hr1 : Kd.C k33 w A1 l1.length l1) (hc1 : l1.length ≤ c1) (hr2 : Kd.C (Kd.int .i64) w A2 l2.length l2) (hc2 : l2.length ≤ c2) (h : spec_ByDestination.f k l0 l1 l2 = some (r1,r2)) :
  Calls Try.prog 12 #[.slice A0 l0.length c0, .slice A1 l1.length c1, .slice A2 l2.length c2] w fun e w' => e = .returned (.tuple #[.bool r1, .bool r2]) ∧ Below w.heap.size w w':=by
 have HR0:=Aside0.mk hr0
 have HC0:=Aside0.mk hc0
 clear hr0 hc0
 have HR1:=Aside0.mk hr1
 have HC1:=Aside0.mk hc1
 clear hr1 hc1
 have HR2:=Aside0.mk hr2
 have HC2:=Aside0.mk hc2
 clear hr2 hc2
 have HB:=Aside0.mk (Below.refl w.heap.size w)
 have H : ((spec_l19Good.f k l0 l1 l2).bind fun t542 => (if t542 = true then (spec_ByDestination.l0 k l1 l2 0) else (some (false,false)))) = some (r1,r2):=h
 clear h
 replace H:=Option.bind_eq_some_iff.mp H
 obtain ⟨t542,A40,H⟩ := H
 replace H : (if t542 = true then (spec_ByDestination.l0 k l1 l2 0) else (some (false,false))) = some (r1,r2):=H
 have A4:=Aside0.mk A40
 clear A40
 by_cases c5 : t542 = true
 ·subst c5
  have H1 : (spec_ByDestination.l0 k l1 l2 0) = some (r1,r2):=by rw [if_pos rfl] at H;exact H
  clear H
  have H:=H1
  clear H1
  have H':=Aside0.mk H
  clear H
  go_enter Try.func12,Try.ntmps12
  go_wp2_with ((go_at_call 24;(with_reducible refine (spec_l19Good.calls k _ _ l0 _ _ l1 _ _ l2 true _ ?side1 ?side2 ?side3 ?side4 ?side5 ?side6 A4.out).mono ?_);(case side1 => repeat (exact HR0.out));(case side2 => exact HC0.out);(case side3 => repeat (exact HR1.out));(case side4 => exact HC1.out);(case side5 => repeat (exact HR2.out));(case side6 => exact HC2.out);rintro e w6 ⟨rfl,hb⟩;have n0_:=Aside0.mk (below_step (by exact HB.out) hb);clear HB;have HB:=n0_;clear n0_;(try clear hb)))
  repeat (go_quiet (fail);try go_wp2_with (fail))
  (skip)
  go_loopg [8] k (fun kq v8 w' => ∃ (x8_1 : Int),v8 = .int .i64 x8_1 ∧ Aside0 (spec_ByDestination.l0 kq l1 l2 x8_1 = some (r1,r2)) ∧ Aside0 (kq ≤ k) ∧ Aside0 (Below w.heap.size w w'))
  case atStart => exact ⟨(0),(by rfl),H',⟨Nat.le_refl _⟩,⟨by exact HB.out⟩⟩
  case round =>
   clear H'
   try clear c1
   try clear c2
   try clear p2
   try clear c5
   obtain ⟨x8_1,rfl,HA,HK1,HB⟩ := hrel
   cases gk with
   | zero => exact absurd HA.out (by simp [spec_ByDestination.l0])
   | succ k1 =>
    have H:=HA.out
    clear HA
    simp only [spec_ByDestination.l0] at H
    by_cases c7 : x8_1 < (l1.length : Int)
    ·rw [if_pos c7] at H
     have c7b0 : decide (x8_1 < (l1.length : Int)) = true:=decide_eq_true c7
     clear c7
     have H':=Aside0.mk H
     clear H
     go_wp2
     repeat (go_quiet (fail);try go_wp2)
     (skip)
     go_loopg [9] k1 (fun kq v9 w' => ∃ (x9_2 : Int),v9 = .int .i64 x9_2 ∧ Aside0 (spec_ByDestination.l1 kq l1 l2 x8_1 x9_2 = some (r1,r2)) ∧ Aside0 (kq ≤ k1) ∧ Aside0 (Below w.heap.size w w'))
     case atStart => exact ⟨(0),(by rfl),H',⟨Nat.le_refl _⟩,⟨by exact HB.out⟩⟩
     case round =>
      clear H'
      try clear c1
      try clear c2
      try clear p2
      try clear c5
      try clear c7
      try clear c7b0
      try clear p2
      obtain ⟨x9_2,rfl,HA,HK2,HB⟩ := hrel
      cases gk with
      | zero => exact absurd HA.out (by simp [spec_ByDestination.l1])
      | succ k2 =>
       have H:=HA.out
       clear HA
       simp only [spec_ByDestination.l1] at H
       by_cases c8 : x9_2 < x8_1
       ·rw [if_pos c8] at H
        have c8b0 : decide (x9_2 < x8_1) = true:=decide_eq_true c8
        clear c8
        by_cases c9 : 0 ≤ x8_1
        ·rw [if_pos c9] at H
         have c9b0 : decide (0 ≤ x8_1) = true:=decide_eq_true c9
         clear c9
         by_cases c10 : x8_1 < (l2.length : Int)
         ·rw [if_pos c10] at H
          have c10b0 : decide (x8_1 < (l2.length : Int)) = true:=decide_eq_true c10
          clear c10
          by_cases c11 : (rd l2 x8_1) ≥ 0
          ·rw [if_pos c11] at H
           have c11b0 : decide (0 ≤ (rd l2 x8_1)) = true:=decide_eq_true c11
           clear c11
           by_cases c12 : 0 ≤ x9_2
           ·rw [if_pos c12] at H
            have c12b0 : decide (0 ≤ x9_2) = true:=decide_eq_true c12
            clear c12
            by_cases c13 : x9_2 < (l2.length : Int)
            ·rw [if_pos c13] at H
             have c13b0 : decide (x9_2 < (l2.length : Int)) = true:=decide_eq_true c13
             clear c13
             by_cases c14 : (rd l2 x8_1) = (rd l2 x9_2)
             ·rw [if_pos c14] at H
              have c14b0 : ((rd l2 x8_1) == (rd l2 x9_2)) = true:=beq_iff_eq.mpr c14
              have c14b1 : ((rd l2 x8_1) != (rd l2 x9_2)) = false:=bne_eq_false_iff_eq.mpr c14
              clear c14
              by_cases c15 : x8_1 < (l1.length : Int)
              ·rw [if_pos c15] at H
               have c15b0 : decide (x8_1 < (l1.length : Int)) = true:=decide_eq_true c15
               clear c15
               by_cases c16 : x9_2 < (l1.length : Int)
               ·rw [if_pos c16] at H
                have c16b0 : decide (x9_2 < (l1.length : Int)) = true:=decide_eq_true c16
                clear c16
                by_cases c17 : ((rd_T33 l1 x8_1).f4) = ((rd_T33 l1 x9_2).f4)
                ·rw [if_pos c17] at H
                 have c17b0 : (((rd_T33 l1 x8_1).f4) == ((rd_T33 l1 x9_2).f4)) = true:=beq_iff_eq.mpr c17
                 have c17b1 : (((rd_T33 l1 x8_1).f4) != ((rd_T33 l1 x9_2).f4)) = false:=bne_eq_false_iff_eq.mpr c17
                 clear c17
                 have H':=Aside0.mk H
                 clear H
                 have p543 : 0 ≤ (x8_1 : Int):=of_decide_eq_true (by (with_reducible assumption))
                 have q543 : x8_1 < (l2.length : Int):=of_decide_eq_true (by (with_reducible assumption))
                 obtain ⟨ad543,e543,hx543_0⟩ := Kd.at_int HR2.out x8_1 p543 q543
                 cases e543
                 replace hx543_0:=(HB.out.cell (World.block_lt_of_cell? w _ hx543_0)).trans hx543_0
                 replace p543:=eq_true p543
                 replace q543:=eq_true q543
                 have p544 : 0 ≤ (x8_1 : Int):=of_decide_eq_true (by (with_reducible assumption))
                 have q544 : x8_1 < (l2.length : Int):=of_decide_eq_true (by (with_reducible assumption))
                 obtain ⟨ad544,e544,hx544_0⟩ := Kd.at_int HR2.out x8_1 p544 q544
                 obtain rfl : ad543 = ad544:=(by injection e544)
                 replace hx544_0:=(HB.out.cell (World.block_lt_of_cell? w _ hx544_0)).trans hx544_0
                 replace p544:=eq_true p544
                 replace q544:=eq_true q544
                 have p545 : 0 ≤ (x9_2 : Int):=of_decide_eq_true (by (with_reducible assumption))
                 have q545 : x9_2 < (l2.length : Int):=of_decide_eq_true (by (with_reducible assumption))
                 obtain ⟨ad545,e545,hx545_0⟩ := Kd.at_int HR2.out x9_2 p545 q545
                 obtain rfl : ad543 = ad545:=(by injection e545)
                 replace hx545_0:=(HB.out.cell (World.block_lt_of_cell? w _ hx545_0)).trans hx545_0
                 replace p545:=eq_true p545
                 replace q545:=eq_true q545
                 have p546 : 0 ≤ (x8_1 : Int):=of_decide_eq_true (by (with_reducible assumption))
                 have q546 : x8_1 < (l1.length : Int):=of_decide_eq_true (by (with_reducible assumption))
                 obtain ⟨ad546,e546,hx546_0,hx546_1,hx546_2,hx546_3,hx546_4⟩ := at_T33 HR1.out x8_1 p546 q546
                 cases e546
                 replace hx546_0:=(HB.out.cell (World.block_lt_of_cell? w _ hx546_0)).trans hx546_0
                 replace hx546_1:=(HB.out.cell (World.block_lt_of_cell? w _ hx546_1)).trans hx546_1
                 replace hx546_2:=(HB.out.cell (World.block_lt_of_cell? w _ hx546_2)).trans hx546_2
                 replace hx546_3:=(HB.out.cell (World.block_lt_of_cell? w _ hx546_3)).trans hx546_3
                 replace hx546_4:=(HB.out.cell (World.block_lt_of_cell? w _ hx546_4)).trans hx546_4
                 replace p546:=eq_true p546
                 replace q546:=eq_true q546
                 have p547 : 0 ≤ (x9_2 : Int):=of_decide_eq_true (by (with_reducible assumption))
                 have q547 : x9_2 < (l1.length : Int):=of_decide_eq_true (by (with_reducible assumption))
                 obtain ⟨ad547,e547,hx547_0,hx547_1,hx547_2,hx547_3,hx547_4⟩ := at_T33 HR1.out x9_2 p547 q547
                 obtain rfl : ad546 = ad547:=(by injection e547)
                 replace hx547_0:=(HB.out.cell (World.block_lt_of_cell? w _ hx547_0)).trans hx547_0
                 replace hx547_1:=(HB.out.cell (World.block_lt_of_cell? w _ hx547_1)).trans hx547_1
                 replace hx547_2:=(HB.out.cell (World.block_lt_of_cell? w _ hx547_2)).trans hx547_2
                 replace hx547_3:=(HB.out.cell (World.block_lt_of_cell? w _ hx547_3)).trans hx547_3
                 replace hx547_4:=(HB.out.cell (World.block_lt_of_cell? w _ hx547_4)).trans hx547_4
                 replace p547:=eq_true p547
                 replace q547:=eq_true q547
                 go_wp2
                 repeat (go_quiet (fail);try go_wp2)
                 go_roundg k2
                 case measure => have:=HK1.out;have:=HK2.out;omega
                 case rel => exact ⟨(wrap64 (x9_2 + 1)),(by rfl),H',⟨by have:=HK1.out;have:=HK2.out;omega⟩,⟨by repeat ((with_reducible first | exact HB.out | apply pw_below_drewN))⟩⟩
                ·rw [if_neg c17] at H
                 have c17b0 : (((rd_T33 l1 x8_1).f4) == ((rd_T33 l1 x9_2).f4)) = false:=beq_eq_false_iff_ne.mpr c17
                 have c17b1 : (((rd_T33 l1 x8_1).f4) != ((rd_T33 l1 x9_2).f4)) = true:=bne_iff_ne.mpr c17
                 simp only [Option.some.injEq,Prod.mk.injEq] at H
                 obtain ⟨rfl,rfl⟩ := H
                 have p543 : 0 ≤ (x8_1 : Int):=of_decide_eq_true (by (with_reducible assumption))
                 have q543 : x8_1 < (l2.length : Int):=of_decide_eq_true (by (with_reducible assumption))
                 obtain ⟨ad543,e543,hx543_0⟩ := Kd.at_int HR2.out x8_1 p543 q543
                 cases e543
                 replace hx543_0:=(HB.out.cell (World.block_lt_of_cell? w _ hx543_0)).trans hx543_0
                 replace p543:=eq_true p543
                 replace q543:=eq_true q543
                 have p544 : 0 ≤ (x8_1 : Int):=of_decide_eq_true (by (with_reducible assumption))
                 have q544 : x8_1 < (l2.length : Int):=of_decide_eq_true (by (with_reducible assumption))
                 obtain ⟨ad544,e544,hx544_0⟩ := Kd.at_int HR2.out x8_1 p544 q544
                 obtain rfl : ad543 = ad544:=(by injection e544)
                 replace hx544_0:=(HB.out.cell (World.block_lt_of_cell? w _ hx544_0)).trans hx544_0
                 replace p544:=eq_true p544
                 replace q544:=eq_true q544
                 have p545 : 0 ≤ (x9_2 : Int):=of_decide_eq_true (by (with_reducible assumption))
                 have q545 : x9_2 < (l2.length : Int):=of_decide_eq_true (by (with_reducible assumption))
                 obtain ⟨ad545,e545,hx545_0⟩ := Kd.at_int HR2.out x9_2 p545 q545
                 obtain rfl : ad543 = ad545:=(by injection e545)
                 replace hx545_0:=(HB.out.cell (World.block_lt_of_cell? w _ hx545_0)).trans hx545_0
                 replace p545:=eq_true p545
                 replace q545:=eq_true q545
                 have p546 : 0 ≤ (x8_1 : Int):=of_decide_eq_true (by (with_reducible assumption))
                 have q546 : x8_1 < (l1.length : Int):=of_decide_eq_true (by (with_reducible assumption))
                 obtain ⟨ad546,e546,hx546_0,hx546_1,hx546_2,hx546_3,hx546_4⟩ := at_T33 HR1.out x8_1 p546 q546
                 cases e546
                 replace hx546_0:=(HB.out.cell (World.block_lt_of_cell? w _ hx546_0)).trans hx546_0
                 replace hx546_1:=(HB.out.cell (World.block_lt_of_cell? w _ hx546_1)).trans hx546_1
                 replace hx546_2:=(HB.out.cell (World.block_lt_of_cell? w _ hx546_2)).trans hx546_2
                 replace hx546_3:=(HB.out.cell (World.block_lt_of_cell? w _ hx546_3)).trans hx546_3
                 replace hx546_4:=(HB.out.cell (World.block_lt_of_cell? w _ hx546_4)).trans hx546_4
                 replace p546:=eq_true p546
                 replace q546:=eq_true q546
                 have p547 : 0 ≤ (x9_2 : Int):=of_decide_eq_true (by (with_reducible assumption))
                 have q547 : x9_2 < (l1.length : Int):=of_decide_eq_true (by (with_reducible assumption))
                 obtain ⟨ad547,e547,hx547_0,hx547_1,hx547_2,hx547_3,hx547_4⟩ := at_T33 HR1.out x9_2 p547 q547
                 obtain rfl : ad546 = ad547:=(by injection e547)
                 replace hx547_0:=(HB.out.cell (World.block_lt_of_cell? w _ hx547_0)).trans hx547_0
                 replace hx547_1:=(HB.out.cell (World.block_lt_of_cell? w _ hx547_1)).trans hx547_1
                 replace hx547_2:=(HB.out.cell (World.block_lt_of_cell? w _ hx547_2)).trans hx547_2
                 replace hx547_3:=(HB.out.cell (World.block_lt_of_cell? w _ hx547_3)).trans hx547_3
                 replace hx547_4:=(HB.out.cell (World.block_lt_of_cell? w _ hx547_4)).trans hx547_4
                 replace p547:=eq_true p547
                 replace q547:=eq_true q547
                 go_wp2
                 repeat (go_quiet (fail);try go_wp2)
                 go_ret2
                 exact ⟨by rfl,by repeat ((with_reducible first | exact HB.out | apply pw_below_drewN))⟩
               ·rw [if_neg c16] at H
                exact absurd H (by simp)
              ·rw [if_neg c15] at H
               exact absurd H (by simp)
             ·rw [if_neg c14] at H
              have c14b0 : ((rd l2 x8_1) == (rd l2 x9_2)) = false:=beq_eq_false_iff_ne.mpr c14
              have c14b1 : ((rd l2 x8_1) != (rd l2 x9_2)) = true:=bne_iff_ne.mpr c14
              have H':=Aside0.mk H
              clear H
              have p543 : 0 ≤ (x8_1 : Int):=of_decide_eq_true (by (with_reducible assumption))
              have q543 : x8_1 < (l2.length : Int):=of_decide_eq_true (by (with_reducible assumption))
              obtain ⟨ad543,e543,hx543_0⟩ := Kd.at_int HR2.out x8_1 p543 q543
              cases e543
              replace hx543_0:=(HB.out.cell (World.block_lt_of_cell? w _ hx543_0)).trans hx543_0
              replace p543:=eq_true p543
              replace q543:=eq_true q543
              have p544 : 0 ≤ (x8_1 : Int):=of_decide_eq_true (by (with_reducible assumption))
              have q544 : x8_1 < (l2.length : Int):=of_decide_eq_true (by (with_reducible assumption))
              obtain ⟨ad544,e544,hx544_0⟩ := Kd.at_int HR2.out x8_1 p544 q544
              obtain rfl : ad543 = ad544:=(by injection e544)
              replace hx544_0:=(HB.out.cell (World.block_lt_of_cell? w _ hx544_0)).trans hx544_0
              replace p544:=eq_true p544
              replace q544:=eq_true q544
              have p545 : 0 ≤ (x9_2 : Int):=of_decide_eq_true (by (with_reducible assumption))
              have q545 : x9_2 < (l2.length : Int):=of_decide_eq_true (by (with_reducible assumption))
              obtain ⟨ad545,e545,hx545_0⟩ := Kd.at_int HR2.out x9_2 p545 q545
              obtain rfl : ad543 = ad545:=(by injection e545)
              replace hx545_0:=(HB.out.cell (World.block_lt_of_cell? w _ hx545_0)).trans hx545_0
              replace p545:=eq_true p545
              replace q545:=eq_true q545
              go_wp2
              repeat (go_quiet (fail);try go_wp2)
              go_roundg k2
              case measure => have:=HK1.out;have:=HK2.out;omega
              case rel => exact ⟨(wrap64 (x9_2 + 1)),(by rfl),H',⟨by have:=HK1.out;have:=HK2.out;omega⟩,⟨by repeat ((with_reducible first | exact HB.out | apply pw_below_drewN))⟩⟩
            ·rw [if_neg c13] at H
             exact absurd H (by simp)
           ·rw [if_neg c12] at H
            exact absurd H (by simp)
          ·rw [if_neg c11] at H
           have c11b0 : decide (0 ≤ (rd l2 x8_1)) = false:=decide_eq_false c11
           clear c11
           have H':=Aside0.mk H
           clear H
           have p543 : 0 ≤ (x8_1 : Int):=of_decide_eq_true (by (with_reducible assumption))
           have q543 : x8_1 < (l2.length : Int):=of_decide_eq_true (by (with_reducible assumption))
           obtain ⟨ad543,e543,hx543_0⟩ := Kd.at_int HR2.out x8_1 p543 q543
           cases e543
           replace hx543_0:=(HB.out.cell (World.block_lt_of_cell? w _ hx543_0)).trans hx543_0
           replace p543:=eq_true p543
           replace q543:=eq_true q543
           go_wp2
           repeat (go_quiet (fail);try go_wp2)
           go_roundg k2
           case measure => have:=HK1.out;have:=HK2.out;omega
           case rel => exact ⟨(wrap64 (x9_2 + 1)),(by rfl),H',⟨by have:=HK1.out;have:=HK2.out;omega⟩,⟨by repeat ((with_reducible first | exact HB.out | apply pw_below_drewN))⟩⟩
         ·rw [if_neg c10] at H
          exact absurd H (by simp)
        ·rw [if_neg c9] at H
         exact absurd H (by simp)
       ·rw [if_neg c8] at H
        have c8b0 : decide (x9_2 < x8_1) = false:=decide_eq_false c8
        clear c8
        have H':=Aside0.mk H
        clear H
        go_wp2
        repeat (go_quiet (fail);try go_wp2)
        go_roundg k2
        case measure => have:=HK1.out;have:=HK2.out;omega
        case rel => exact ⟨(wrap64 (x8_1 + 1)),(by rfl),H',⟨by have:=HK1.out;have:=HK2.out;omega⟩,⟨by exact HB.out⟩⟩
    ·rw [if_neg c7] at H
     have c7b0 : decide (x8_1 < (l1.length : Int)) = false:=decide_eq_false c7
     clear c7
     simp only [Option.some.injEq,Prod.mk.injEq] at H
     obtain ⟨rfl,rfl⟩ := H
     go_wp2
     repeat (go_quiet (fail);try go_wp2)
     go_ret2
     exact ⟨by rfl,by exact HB.out⟩
 ·replace c5:=Bool.eq_false_iff.mpr c5
  subst c5
  have H1 : (some (false,false)) = some (r1,r2):=by rw [if_neg (show ¬ (false = true) by decide)] at H;exact H
  clear H
  have H:=H1
  clear H1
  simp only [Option.some.injEq,Prod.mk.injEq] at H
  obtain ⟨rfl,rfl⟩ := H
  go_enter Try.func12,Try.ntmps12
  go_wp2_with ((go_at_call 24;(with_reducible refine (spec_l19Good.calls k _ _ l0 _ _ l1 _ _ l2 false _ ?side1 ?side2 ?side3 ?side4 ?side5 ?side6 A4.out).mono ?_);(case side1 => repeat (exact HR0.out));(case side2 => exact HC0.out);(case side3 => repeat (exact HR1.out));(case side4 => exact HC1.out);(case side5 => repeat (exact HR2.out));(case side6 => exact HC2.out);rintro e w18 ⟨rfl,hb⟩;have n0_:=Aside0.mk (below_step (by exact HB.out) hb);clear HB;have HB:=n0_;clear n0_;(try clear hb)))
  repeat (go_quiet (fail);try go_wp2_with (fail))
  go_ret2
  exact ⟨by rfl,by exact HB.out⟩

/-! ### spec_DrawLeftBehindContainers: function 13 -/
def spec_DrawLeftBehindContainers.f (k : Nat) (l0 : List Int) : Option ((List (S60)) × (List (S33)) × List Int):=(spec_DrawIsValidLoading.f k l0).bind fun bt548 => (some (bt548.1,bt548.2.1,bt548.2.2))
theorem spec_DrawLeftBehindContainers.mono : ∀ a0 k,LeO (spec_DrawLeftBehindContainers.f k a0) (spec_DrawLeftBehindContainers.f (k + 1) a0):=by
 intro a0 k
 unfold spec_DrawLeftBehindContainers.f
 repeat' first
   | (with_reducible exact spec_DrawIsValidLoading.mono _ _)
   | (with_reducible exact LeO.refl _)
   | (with_reducible exact LeO.none _)
   | (with_reducible refine LeO.ite ?_ ?_)
   | (with_reducible refine LeO.bind ?_ (fun _ => ?_))
   | exact spec_DrawIsValidLoading.mono _ _
   | exact LeO.none _
   | refine LeO.ite ?_ ?_
   | refine LeO.bind ?_ (fun _ => ?_)
set_option maxHeartbeats 8000000 in
set_option maxRecDepth 100000 in
theorem spec_DrawLeftBehindContainers.calls (k : Nat) (A0 : Option Addr) (c0 : Nat) (l0 : List Int) (r1 : List (S60)) (r2 : List (S33)) (r3 : List Int) (w : World) (hr0 : Kd.C (Kd.int .u8) w A0 l0.length l0) (hc0 : l0.length ≤ c0) (h : spec_DrawLeftBehindContainers.f k l0 = some (r1,r2,r3)) :
  Calls Try.prog 13 #[.slice A0 l0.length c0] w fun e w' => ∃ v0_ v1_ v2_ : Value,e = .returned (.tuple #[v0_,v1_,v2_]) ∧ Kd.R k60 60 w' w.heap.size (fun _ => True) v0_ r1 ∧ Kd.R k33 33 w' w.heap.size (fun _ => True) v1_ r2 ∧ Kd.R (Kd.int .i64) 3 w' w.heap.size (fun _ => True) v2_ r3 ∧ Below w.heap.size w w':=by
 have HR0:=Aside0.mk hr0
 have HC0:=Aside0.mk hc0
 clear hr0 hc0
 have HB:=Aside0.mk (Below.refl w.heap.size w)
 have H : ((spec_DrawIsValidLoading.f k l0).bind fun bt548 => (some (bt548.1,bt548.2.1,bt548.2.2))) = some (r1,r2,r3):=h
 clear h
 replace H:=Option.bind_eq_some_iff.mp H
 obtain ⟨⟨t548,t549,t550⟩,A20,H⟩ := H
 replace H : (some (t548,t549,t550)) = some (r1,r2,r3):=H
 have A2:=Aside0.mk A20
 clear A20
 simp only [Option.some.injEq,Prod.mk.injEq] at H
 obtain ⟨rfl,rfl,rfl⟩ := H
 go_enter Try.func13,Try.ntmps13
 go_wp2_with (((with_reducible refine gate_callee (f:=33) rfl ?_);refine goesL_ (some 6) rfl rfl Try.func33 (by kernel_rfl) rfl #[.slice A0 l0.length c0] rfl (by (try simp only [List.map_toArray,List.map_cons,List.map_nil]);rfl) ?_;(with_reducible refine (spec_DrawIsValidLoading.calls k _ _ l0 t548 t549 t550 _ ?side1 ?side2 A2.out).mono ?_);(case side1 => repeat (exact HR0.out));(case side2 => exact HC0.out);rintro e w3 ⟨v551,v553,v555,rfl,ho0,ho1,ho2,hb⟩;refine ⟨_,rfl, ?_⟩;have n0_:=Aside0.mk (Kd.R_lower ho0 (below_size (by exact HB.out)));have n1_:=Aside0.mk (Kd.R_lower ho1 (below_size (by exact HB.out)));have n2_:=Aside0.mk (Kd.R_lower ho2 (below_size (by exact HB.out)));have n3_:=Aside0.mk (below_step (by exact HB.out) hb);clear HB;have HO552:=n0_;have HO554:=n1_;have HO556:=n2_;have HB:=n3_;clear n0_ n1_ n2_ n3_;(try clear hb);(try clear ho0);(try clear ho1);(try clear ho2)))
 go_ret3
 exact ⟨_,_,_,by rfl,by exact HO552.out,by exact HO554.out,by exact HO556.out,by exact HB.out⟩

end Go.Proofs.Ytempmebpbbbkmaa.PFnWagons
