-- Written by a program of this session, over the kit's print (wip/xprint.py)
import Derived.Test.YtcpoiklimbfppaaPFnExactCancelTruckx0
import Derived.Test.YtcpoiklimbfppaaPFnExactCancelTruckx1
import Derived.Test.YtcpoiklimbfppaaPFnExactCancelTruckx3
import Derived.Test.YtcpoiklimbfppaaPFnExactCancelTruckx4
import Derived.Test.YtcpoiklimbfppaaPFnExactCancelTruckx7
namespace Go.Proofs.Ytcpoiklimbfppaa.PFnExactCancelTruck
open Go.RowKit Go.Proofs.YtcpoiklimbfppaaW.PrintWords Go.Proofs.YtcpoiklimbfppaaW.PrintLast Go.Proofs.YtcpoiklimbfppaaW.PrintMore
attribute [local go_sem] max2_int min2_int max_two min_two max_three min_three max_four min_four   -- for this text's walks alone
set_option linter.unusedVariables false
set_option linter.unusedSimpArgs false

/-! ### laws_markIntS: function 24 -/
def laws_markIntS.l0 : Nat → List Int → Int → Int → Option (Int × List Int)
 | 0,_,_,_ => none
 | k + 1,x0,x1,x5 => if x5 < (x0.length : Int) then (if 0 ≤ x5 then (laws_markIntS.l0 k (x0.set (x5 : Int).toNat x1) (wrap64 (x1 + 1)) (wrap64 (x5 + 1))) else (none)) else (some (x1,x0))
def laws_markIntS.f (k : Nat) (l0 : List Int) (a1 : Int) : Option (Int × List Int):=laws_markIntS.l0 k l0 a1 0
theorem laws_markIntS.mono_l : ∀ k,(∀ y0 y1 y2,LeO (laws_markIntS.l0 k y0 y1 y2) (laws_markIntS.l0 (k + 1) y0 y1 y2))
 | 0 => fun _ _ _ r h => by simp [laws_markIntS.l0] at h
 | k + 1 => by
  have ih0:=laws_markIntS.mono_l k
  ·intro y0 y1 y2
   unfold laws_markIntS.l0
   repeat' first
   | (with_reducible exact ih0 _ _ _)
   | (with_reducible exact LeO.refl _)
   | (with_reducible exact LeO.none _)
   | (with_reducible refine LeO.ite ?_ ?_)
   | (with_reducible refine LeO.bind ?_ (fun _ => ?_))
   | exact ih0 _ _ _
   | exact LeO.none _
   | refine LeO.ite ?_ ?_
   | refine LeO.bind ?_ (fun _ => ?_)
theorem laws_markIntS.mono : ∀ a0 a1 k,LeO (laws_markIntS.f k a0 a1) (laws_markIntS.f (k + 1) a0 a1):=by
 intro a0 a1 k
 have ih0:=laws_markIntS.mono_l k
 unfold laws_markIntS.f
 repeat' first
   | (with_reducible exact ih0 _ _ _)
   | (with_reducible exact LeO.refl _)
   | (with_reducible exact LeO.none _)
   | (with_reducible refine LeO.ite ?_ ?_)
   | (with_reducible refine LeO.bind ?_ (fun _ => ?_))
   | exact ih0 _ _ _
   | exact LeO.none _
   | refine LeO.ite ?_ ?_
   | refine LeO.bind ?_ (fun _ => ?_)
set_option maxHeartbeats 8000000 in
set_option maxRecDepth 100000 in
theorem laws_markIntS.calls (k : Nat) (P0_ : Nat → Prop) (u9000_ : Value) (l0 : List Int) (a1 : Int) (r1 : Int) (r2 : List Int) (w0 w : World) (hB : Below w0.heap.size w0 w) (ho0 : Kd.R (Kd.int .i64) 3 w w0.heap.size P0_ u9000_ l0) (h : laws_markIntS.f k l0 a1 = some (r1,r2)) :
  Calls Try.prog 24 #[u9000_, .int .i64 a1] w fun e w' => e = .returned (.int .i64 r1) ∧ Kd.R (Kd.int .i64) 3 w' w0.heap.size (fun k_ => (P0_ k_ ∨ w.heap.size ≤ k_)) u9000_ r2 ∧ Below w0.heap.size w0 w' ∧ Kept w w' (fun k_ => P0_ k_):=by
 have HO0:=Aside0.mk (show Kd.R (Kd.int .i64) 3 w w0.heap.size (fun k_ => (P0_ k_ ∨ w.heap.size ≤ k_)) u9000_ l0 from Kd.R_mono ho0 (fun k_ hk => (.inl hk)))
 have HK:=Aside0.mk (Kept.refl w (fun k_ => P0_ k_))
 have HW0:=Aside0.mk hB.size
 have HB:=Aside0.mk hB
 clear hB
 have H : (laws_markIntS.l0 k l0 a1 0) = some (r1,r2):=h
 clear h
 have H':=Aside0.mk H
 clear H
 go_enter Try.func24,Try.ntmps24
 go_wp2
 go_loopg [1,5] k (fun kq v1 v5 w' => ∃ (x0_1 : List Int) (x1_1 : Int) (x5_1 : Int),v1 = .int .i64 x1_1 ∧ v5 = .int .i64 x5_1 ∧ Aside0 (laws_markIntS.l0 kq x0_1 x1_1 x5_1 = some (r1,r2)) ∧ Aside0 (kq ≤ k) ∧ Aside0 (Kd.R (Kd.int .i64) 3 w' w0.heap.size (fun k_ => (P0_ k_ ∨ w.heap.size ≤ k_)) u9000_ x0_1) ∧ Aside0 (Kept w w' (fun k_ => P0_ k_)) ∧ Aside0 (Below w0.heap.size w0 w'))
 case atStart => exact ⟨(l0),(a1),(0),(by first | rfl | (simp;done) | (simp [*];done)),(by first | rfl | (simp;done) | (simp [*];done)),H',⟨Nat.le_refl _⟩,⟨by (with_reducible repeat (first | apply Kd.R_alloc | apply Kd.R_drewN | apply Kd.R_drew));exact HO0.out⟩,⟨by repeat (first | (with_reducible first | exact HK.out | apply Kept.alloc | apply Kept.drewN | apply Kept.drew) | exact HK.out)⟩,⟨by repeat (first | (with_reducible first | exact HB.out | apply below_alloc | apply pw_below_drewN | apply below_drew1) | exact HB.out)⟩⟩
 case round =>
  clear H'
  try clear c2
  try clear p2
  obtain ⟨x0_1,x1_1,x5_1,rfl,rfl,HA,HK1,HO_0,HK,HB⟩ := hrel
  cases gk with
  | zero => exact absurd HA.out (by simp [laws_markIntS.l0])
  | succ k1 =>
   have H:=HA.out
   clear HA
   simp only [laws_markIntS.l0] at H
   by_cases c3 : x5_1 < (x0_1.length : Int)
   ·rw [if_pos c3] at H
    have c3b0 : decide (x5_1 < (x0_1.length : Int)) = true:=decide_eq_true c3
    clear c3
    by_cases c4 : 0 ≤ x5_1
    ·rw [if_pos c4] at H
     have c4b0 : decide (0 ≤ x5_1) = true:=decide_eq_true c4
     clear c4
     obtain ⟨y272,hy272⟩ : ∃ y_ : List Int,y_ = (x0_1.set (x5_1 : Int).toNat x1_1):=⟨_,rfl⟩
     replace H : (laws_markIntS.l0 k1 y272 (wrap64 (x1_1 + 1)) (wrap64 (x5_1 + 1))) = some (r1,r2):=by first | (rw [hy272];with_reducible exact H) | (have H2_:=(Option.bind_some _ _).symm.trans H;rw [hy272];with_reducible exact H2_) | (have H2_:=(Option.bind_some _ _).symm.trans H;with_reducible exact H2_) | with_reducible exact H | (rw [hy272];exact H) | exact H
     have Ny272:=Aside0.mk hy272
     clear hy272
     have H':=Aside0.mk H
     clear H
     obtain ⟨Ao6,co6,eo6⟩ := Kd.R_slice HO_0.out
     subst eo6
     have p5 : 0 ≤ (x5_1 : Int):=of_decide_eq_true (by first | (with_reducible assumption) | assumption)
     have q5 : (x5_1 : Int) < ((x0_1.length : Int) : Int):=of_decide_eq_true (by first | (with_reducible assumption) | assumption)
     obtain ⟨go5,co5,eo5,gb5,gl5,cl5,HG5⟩ := Kd.R_form HO_0.out (by omega)
     (first | cases eo5 | (injection eo5 with ea_ en_ ec_;(first | subst ea_ | (injection ea_ with ea_;subst ea_));subst ec_;clear en_))
     have GB5:=Aside0.mk gb5
     have GG5:=Aside0.mk HG5
     clear gb5 gl5 HG5
     have HMgo5:=Aside0.mk (show (P0_ go5 ∨ w.heap.size ≤ go5) from (HO_0.out.1 _ rfl))
     obtain ⟨hx5_0,hf5_0⟩ := Kd.R_celln 0 HO_0.out (x5_1 : Int) p5 q5
     replace p5:=eq_true p5
     replace q5:=eq_true q5
     have HP7:=Kd.R_putg HO_0.out (x5_1 : Int) x1_1
     go_wp2_with (first | ((with_reducible refine gate_store (t:=3) (p:=15) rfl ?_);refine store_event (t:=3) (p:=15) (v:=?vo_w8) (w1:=(wr.setCell ⟨go5,(x5_1 : Int).toNat,none⟩ (.int .i64 x1_1))) ?hg ?ho ?hn ?hr ?_;(case ho => rfl);(case hg => rfl);(case hn => rfl);(case hr => first | (go_simp;done) | (go_simp;rfl));intro w8 hw;have hg : wr.grownBy w8 (some go5):=(by rw [hw];exact HP7.2);have hp_ : Kd.R (Kd.int .i64) 3 w8 w0.heap.size (fun k_ => (P0_ k_ ∨ w.heap.size ≤ k_)) (.slice (some ⟨go5,0,none⟩) x0_1.length co6) y272:=(by rw [hw,Ny272.out];exact HP7.1);clear HP7;have n0_:=Aside0.mk (hp_);have n1_:=Aside0.mk ((by rw [hw];exact below_set (HB.out) GB5.out : Below w0.heap.size w0 w8));have n2_:=Aside0.mk (Kept.of_grown (S:=(fun k_ => P0_ k_)) hg (by repeat (first | (with_reducible first | exact HK.out | apply Kept.alloc | apply Kept.drewN | apply Kept.drew) | exact HK.out)) (fun k_ e_ => (HO_0.out.1 k_ e_)));clear HO_0;clear HB;clear HK;have HO_0:=n0_;have HB:=n1_;have HK:=n2_;clear n0_ n1_ n2_;clear hg hw hp_))
     go_roundg k1
     case measure => have:=HK1.out;omega
     case rel => exact ⟨(y272),(wrap64 (x1_1 + 1)),(wrap64 (x5_1 + 1)),(by first | rfl | (simp;done) | (simp [*];done)),(by first | rfl | (simp;done) | (simp [*];done)),H',⟨by have:=HK1.out;omega⟩,⟨by (with_reducible repeat (first | apply Kd.R_alloc | apply Kd.R_drewN | apply Kd.R_drew));exact HO_0.out⟩,⟨by repeat (first | (with_reducible first | exact HK.out | apply Kept.alloc | apply Kept.drewN | apply Kept.drew) | exact HK.out)⟩,⟨by repeat (first | (with_reducible first | exact HB.out | apply below_alloc | apply pw_below_drewN | apply below_drew1) | exact HB.out)⟩⟩
    ·rw [if_neg c4] at H
     exact absurd H (by simp)
   ·rw [if_neg c3] at H
    have c3b0 : decide (x5_1 < (x0_1.length : Int)) = false:=decide_eq_false c3
    clear c3
    simp only [Option.some.injEq,Prod.mk.injEq] at H
    obtain ⟨rfl,rfl⟩ := H
    obtain ⟨Ao9,co9,eo9⟩ := Kd.R_slice HO_0.out
    subst eo9
    go_wp2
    go_ret
    exact ⟨by first | rfl | (simp [errW_none,errW_some] <;> rfl) | (simp [*,errW_none,errW_some] <;> rfl),by (with_reducible repeat (first | apply Kd.R_alloc | apply Kd.R_drewN | apply Kd.R_drew));exact HO_0.out,by repeat (first | (with_reducible first | exact HB.out | apply below_alloc | apply pw_below_drewN | apply below_drew1) | exact HB.out),by repeat (first | (with_reducible first | exact HK.out | apply Kept.alloc | apply Kept.drewN | apply Kept.drew) | exact HK.out)⟩

/-! ### laws_markIntSS: function 37 -/
def laws_markIntSS.l0 : Nat → List (List Int) → Int → Int → Option (Int × List (List Int))
 | 0,_,_,_ => none
 | k + 1,x0,x1,x5 => if x5 < (x0.length : Int) then (if 0 ≤ x5 then ((laws_markIntS.f k (x0.getD (x5 : Int).toNat ([] : List Int)) x1).bind fun bt => (laws_markIntSS.l0 k (x0.set (x5 : Int).toNat bt.2) bt.1 (wrap64 (x5 + 1)))) else (none)) else (some (x1,x0))
def laws_markIntSS.f (k : Nat) (l0 : List (List Int)) (a1 : Int) : Option (Int × List (List Int)):=laws_markIntSS.l0 k l0 a1 0
theorem laws_markIntSS.mono_l : ∀ k,(∀ y0 y1 y2,LeO (laws_markIntSS.l0 k y0 y1 y2) (laws_markIntSS.l0 (k + 1) y0 y1 y2))
 | 0 => fun _ _ _ r h => by simp [laws_markIntSS.l0] at h
 | k + 1 => by
  have ih0:=laws_markIntSS.mono_l k
  intro y0 y1 y2
  unfold laws_markIntSS.l0
  repeat' first
   | (with_reducible exact ih0 _ _ _)
   | (with_reducible exact laws_markIntS.mono _ _ k)
   | (with_reducible exact LeO.refl _)
   | (with_reducible exact LeO.none _)
   | (with_reducible refine LeO.ite ?_ ?_)
   | (with_reducible refine LeO.bind ?_ (fun _ => ?_))
theorem laws_markIntSS.mono : ∀ a0 a1 k,LeO (laws_markIntSS.f k a0 a1) (laws_markIntSS.f (k + 1) a0 a1):=fun _ _ k => laws_markIntSS.mono_l k _ _ _
set_option maxHeartbeats 8000000 in
set_option maxRecDepth 100000 in
theorem laws_markIntSS.calls (k : Nat) (P0_ : Nat → Prop) (u9000_ : Value) (l0 : List (List Int)) (a1 : Int) (r1 : Int) (r2 : List (List Int)) (w0 w : World) (hB : Below w0.heap.size w0 w) (ho0 : Kd.S (Kd.slice 3 (Kd.int .i64)) 22 w w0.heap.size P0_ u9000_ l0) (h : laws_markIntSS.f k l0 a1 = some (r1,r2)) :
  Calls Try.prog 37 #[u9000_, .int .i64 a1] w fun e w' => e = .returned (.int .i64 r1) ∧ Kd.S (Kd.slice 3 (Kd.int .i64)) 22 w' w0.heap.size (fun k_ => (P0_ k_ ∨ w.heap.size ≤ k_)) u9000_ r2 ∧ Below w0.heap.size w0 w' ∧ Kept w w' (fun k_ => P0_ k_):=by
 have HO0:=Aside0.mk (show Kd.S (Kd.slice 3 (Kd.int .i64)) 22 w w0.heap.size (fun k_ => (P0_ k_ ∨ w.heap.size ≤ k_)) u9000_ l0 from Kd.S_mono ho0 (fun k_ hk => (.inl hk)))
 have HK:=Aside0.mk (Kept.refl w (fun k_ => P0_ k_))
 have HB:=Aside0.mk hB
 have HS:=Aside0.mk (Nat.le_refl w.heap.size)
 clear hB ho0
 have H : (laws_markIntSS.l0 k l0 a1 0) = some (r1,r2):=h
 clear h
 have H':=Aside0.mk H
 clear H
 go_enter Try.func37,Try.ntmps37
 go_wp2
 go_loopg [1,5] k (fun kq v1 v5 w' => ∃ (x0_1 : List (List Int)) (x1_1 : Int) (x5_1 : Int),v1 = .int .i64 x1_1 ∧ v5 = .int .i64 x5_1 ∧ Aside0 (laws_markIntSS.l0 kq x0_1 x1_1 x5_1 = some (r1,r2)) ∧ Aside0 (kq ≤ k) ∧ Aside0 (Kd.S (Kd.slice 3 (Kd.int .i64)) 22 w' w0.heap.size (fun k_ => (P0_ k_ ∨ w.heap.size ≤ k_)) u9000_ x0_1) ∧ Aside0 (Kept w w' (fun k_ => P0_ k_)) ∧ Aside0 (Below w0.heap.size w0 w'))
 case atStart => exact ⟨l0,a1,0,rfl,rfl,H',⟨Nat.le_refl _⟩,⟨by (with_reducible repeat (first | apply Kd.S_alloc | apply Kd.S_drewN | apply Kd.S_drew));exact HO0.out⟩,⟨by repeat (first | (with_reducible first | exact HK.out | apply Kept.alloc | apply Kept.drewN | apply Kept.drew) | exact HK.out)⟩,⟨by repeat (first | (with_reducible first | exact HB.out | apply below_alloc | apply pw_below_drewN | apply below_drew1) | exact HB.out)⟩⟩
 case round =>
  clear H' HO0 HB HK
  obtain ⟨x0_1,x1_1,x5_1,rfl,rfl,HA,HK1,HO_0,HK,HB⟩ := hrel
  cases gk with
  | zero => exact absurd HA.out (by simp [laws_markIntSS.l0])
  | succ k1 =>
   have H:=HA.out
   clear HA
   simp only [laws_markIntSS.l0] at H
   by_cases c3 : x5_1 < (x0_1.length : Int)
   ·rw [if_pos c3] at H
    have c3b0 : decide (x5_1 < (x0_1.length : Int)) = true:=decide_eq_true c3
    by_cases c4 : 0 ≤ x5_1
    ·rw [if_pos c4] at H
     have c4b0 : decide (0 ≤ x5_1) = true:=decide_eq_true c4
     replace H:=Option.bind_eq_some_iff.mp H
     obtain ⟨⟨t1,t2⟩,A50,H⟩ := H
     have A5:=Aside0.mk A50
     clear A50
     have H':=Aside0.mk H
     clear H
     obtain ⟨g,cap,hu,hbg,hgl,hcg⟩ := Kd.S_form HO_0.out (by omega)
     subst hu
     obtain ⟨ys,hys⟩ : ∃ ys,ys = x0_1.getD (x5_1 : Int).toNat ([] : List Int):=⟨_,rfl⟩
     obtain ⟨oki,c,hc,hM,hcell,hoki,hH⟩ := Kd.S_lend HO_0.out ([] : List Int) x5_1 c4 c3
     obtain ⟨v,hv,hR⟩ := hM
     subst hv
     have hx : wr.cell? ⟨g,x5_1.toNat,none⟩ = some v:=by
      have:=hcell 0 v rfl
      rwa [show x5_1.toNat * (Kd.slice 3 (Kd.int .i64)).sz + 0 = x5_1.toNat from Nat.mul_one _] at this
     rw [← hys] at hR
     have A6:=Aside0.mk (show laws_markIntS.f k1 ys x1_1 = some (t1,t2) by rw [hys];exact A5.out)
     have HRr:=Aside0.mk hR
     have HH:=Aside0.mk hH
     have HI:=Aside0.mk hoki
     obtain ⟨av,cv,ev⟩ := Kd.R_slice hR
     subst ev
     replace c3:=eq_true c3
     replace c4:=eq_true c4
     clear hR hH hoki hcell hc hcg hys A5
     have HWR:=Aside0.mk (show w.heap.size ≤ wr.heap.size from HK.out.1)
     have call : ∀ W2 : World,W2.heap = wr.heap → Below w0.heap.size w0 W2 → Calls Try.prog 24 #[.slice av ys.length cv, .int .i64 x1_1] W2 fun e w' => e = .returned (.int .i64 t1) ∧ Kd.S (Kd.slice 3 (Kd.int .i64)) 22 w' w0.heap.size (fun k_ => (P0_ k_ ∨ w.heap.size ≤ k_)) (.slice (some ⟨g,0,none⟩) x0_1.length cap) (x0_1.set x5_1.toNat t2) ∧ Kept w w' (fun k_ => P0_ k_) ∧ Below w0.heap.size w0 w':=fun W2 hW hb2 => by
      refine (laws_markIntS.calls k1 oki _ ys x1_1 t1 t2 w0 W2 hb2 (Kd.R_step HRr.out (fun _ _ _ => by rw [hW])) A6.out).mono fun e w2 ⟨he,hR2,hB2,hK2⟩ => ?_
      have hK3 : Kept wr w2 oki:=⟨by rw [← hW];exact hK2.1,fun i hi hn => by rw [hK2.2 i (by rw [hW];exact hi) hn,hW]⟩
      refine ⟨he, ?_,HK.out.then_ (W:=wr) hK3 (fun j hj => (HI.out j hj).1),hB2⟩
      have h1:=Kd.H_widen HH.out
      have h2:=Kd.H_step (w1:=w2) h1 (fun j hj hn hlt => hK3.2 j hlt (fun ho => hn (.inl ho)))
      refine Kd.H_back h2 (x':=t2) (okp:=fun k_ => (oki k_ ∨ W2.heap.size ≤ k_)) ⟨_,rfl,hR2⟩ (fun j hj => hj.elim (fun ho => .inl ho) (fun hf => .inr ?_))
      rw [hW] at hf
      exact ⟨.inr (Nat.le_trans HWR.out hf),hf⟩
     have HC:=Aside0.mk call
     clear call HRr HH HI
     go_wp2_with (first | ((with_reducible refine gate_callee (f:=24) rfl ?_);refine goesL_ (some 17) rfl rfl Try.func24 (by kernel_rfl) rfl #[.slice av ys.length cv, .int .i64 x1_1] rfl (by (try simp only [List.map_toArray,List.map_cons,List.map_nil]);first | done | rfl) ?_;(refine (HC.out _ rfl (by repeat (first | (with_reducible first | exact HB.out | apply below_alloc | apply pw_below_drewN | apply below_drew1) | exact HB.out))).mono ?_);rintro e w2 ⟨rfl,ho,hk,hb⟩;refine ⟨_,rfl, ?_⟩;have n0_:=Aside0.mk ho;have n1_:=Aside0.mk hk;have n2_:=Aside0.mk hb;clear HO_0 HK HB;have HO_0:=n0_;have HK:=n1_;have HB:=n2_;clear n0_ n1_ n2_ ho hk hb) | (go_at_call 24;(refine (HC.out _ rfl (by repeat (first | (with_reducible first | exact HB.out | apply below_alloc | apply pw_below_drewN | apply below_drew1) | exact HB.out))).mono ?_);rintro e w2 ⟨rfl,ho,hk,hb⟩;have n0_:=Aside0.mk ho;have n1_:=Aside0.mk hk;have n2_:=Aside0.mk hb;clear HO_0 HK HB;have HO_0:=n0_;have HK:=n1_;have HB:=n2_;clear n0_ n1_ n2_ ho hk hb))
     go_roundg k1
     case measure => have:=HK1.out;omega
     case rel => exact ⟨(x0_1.set x5_1.toNat t2),t1,(wrap64 (x5_1 + 1)),rfl,rfl,H',⟨by have:=HK1.out;omega⟩,⟨by (with_reducible repeat (first | apply Kd.S_alloc | apply Kd.S_drewN | apply Kd.S_drew));exact HO_0.out⟩,⟨by repeat (first | (with_reducible first | exact HK.out | apply Kept.alloc | apply Kept.drewN | apply Kept.drew) | exact HK.out)⟩,⟨by repeat (first | (with_reducible first | exact HB.out | apply below_alloc | apply pw_below_drewN | apply below_drew1) | exact HB.out)⟩⟩
    ·rw [if_neg c4] at H
     exact absurd H (by simp)
   ·rw [if_neg c3] at H
    have c3b0 : decide (x5_1 < (x0_1.length : Int)) = false:=decide_eq_false c3
    clear c3
    simp only [Option.some.injEq,Prod.mk.injEq] at H
    obtain ⟨rfl,rfl⟩ := H
    obtain ⟨Ao9,co9,eo9⟩ := Kd.S_slice HO_0.out
    subst eo9
    go_wp2
    go_ret
    exact ⟨by first | rfl | (simp;done),by (with_reducible repeat (first | apply Kd.S_alloc | apply Kd.S_drewN | apply Kd.S_drew));exact HO_0.out,by repeat (first | (with_reducible first | exact HB.out | apply below_alloc | apply pw_below_drewN | apply below_drew1) | exact HB.out),by repeat (first | (with_reducible first | exact HK.out | apply Kept.alloc | apply Kept.drewN | apply Kept.drew) | exact HK.out)⟩

/-! ### laws_markGate: function 13 -/
def laws_markGate.f (k : Nat) (l0_0 : List Int) (l0_1 : List (List Int)) (a1 : Int) : Option (Int × List Int × (List (List Int))):=(laws_markIntS.f k l0_0 a1).bind fun bt274 => ((laws_markIntSS.f k l0_1 bt274.1).bind fun bt276 => (some (bt276.1,bt274.2,bt276.2)))
theorem laws_markGate.mono : ∀ a0 a1 a2 k,LeO (laws_markGate.f k a0 a1 a2) (laws_markGate.f (k + 1) a0 a1 a2):=by
 intro a0 a1 a2 k
 unfold laws_markGate.f
 repeat' first
   | (with_reducible exact laws_markIntS.mono _ _ _)
   | (with_reducible exact laws_markIntSS.mono _ _ _)
   | (with_reducible exact LeO.refl _)
   | (with_reducible exact LeO.none _)
   | (with_reducible refine LeO.ite ?_ ?_)
   | (with_reducible refine LeO.bind ?_ (fun _ => ?_))
   | exact laws_markIntS.mono _ _ _
   | exact laws_markIntSS.mono _ _ _
   | exact LeO.none _
   | refine LeO.ite ?_ ?_
   | refine LeO.bind ?_ (fun _ => ?_)
set_option maxHeartbeats 8000000 in
set_option maxRecDepth 100000 in
theorem laws_markGate.calls (k : Nat) (P0_0_ : Nat → Prop) (u9000_ : Value) (l0_0 : List Int) (P0_1_ : Nat → Prop) (u9001_ : Value) (l0_1 : List (List Int)) (a1 : Int) (r1 : Int) (r2 : List Int) (r3 : List (List Int)) (w0 w : World) (hB : Below w0.heap.size w0 w) (ho0_0 : Kd.R (Kd.int .i64) 3 w w0.heap.size P0_0_ u9000_ l0_0) (hp0_0_0_1 : ∀ k_,P0_0_ k_ → ¬ P0_1_ k_) (ho0_1 : Kd.S (Kd.slice 3 (Kd.int .i64)) 22 w w0.heap.size P0_1_ u9001_ l0_1) (hp0_1_0_0 : ∀ k_,P0_1_ k_ → ¬ P0_0_ k_) (h : laws_markGate.f k l0_0 l0_1 a1 = some (r1,r2,r3)) :
  Calls Try.prog 13 #[.agg #[u9000_,u9001_], .int .i64 a1] w fun e w' => e = .returned (.int .i64 r1) ∧ Kd.R (Kd.int .i64) 3 w' w0.heap.size (fun k_ => ((P0_0_ k_ ∨ P0_1_ k_) ∨ w.heap.size ≤ k_)) u9000_ r2 ∧ Kd.S (Kd.slice 3 (Kd.int .i64)) 22 w' w0.heap.size (fun k_ => ((P0_0_ k_ ∨ P0_1_ k_) ∨ w.heap.size ≤ k_) ∧ some k_ ≠ (u9000_ : Value).ownBlock) u9001_ r3 ∧ Below w0.heap.size w0 w' ∧ Kept w w' (fun k_ => P0_0_ k_ ∨ P0_1_ k_):=by
 have hu27:=Try.underlying27
 have HO0_0:=Aside0.mk (show Kd.R (Kd.int .i64) 3 w w0.heap.size (fun k_ => ((P0_0_ k_ ∨ P0_1_ k_) ∨ w.heap.size ≤ k_)) u9000_ l0_0 from Kd.R_mono ho0_0 (fun k_ hk => (.inl (.inl hk))))
 have HO0_1:=Aside0.mk (show Kd.S (Kd.slice 3 (Kd.int .i64)) 22 w w0.heap.size (fun k_ => ((P0_0_ k_ ∨ P0_1_ k_) ∨ w.heap.size ≤ k_) ∧ some k_ ≠ (u9000_ : Value).ownBlock) u9001_ l0_1 from Kd.S_mono ho0_1 (fun k_ hk => ⟨(.inl (.inr hk)),fun e_ => hp0_1_0_0 k_ hk (ho0_0.1 k_ e_.symm)⟩))
 have HK:=Aside0.mk (Kept.refl w (fun k_ => P0_0_ k_ ∨ P0_1_ k_))
 have HW0:=Aside0.mk hB.size
 have HB:=Aside0.mk hB
 clear hB
 have H : ((laws_markIntS.f k l0_0 a1).bind fun bt274 => ((laws_markIntSS.f k l0_1 bt274.1).bind fun bt276 => (some (bt276.1,bt274.2,bt276.2)))) = some (r1,r2,r3):=h
 clear h
 replace H:=Option.bind_eq_some_iff.mp H
 obtain ⟨⟨t274,t275⟩,A30,H⟩ := H
 replace H : ((laws_markIntSS.f k l0_1 t274).bind fun bt276 => (some (bt276.1,t275,bt276.2))) = some (r1,r2,r3):=H
 have A3:=Aside0.mk A30
 clear A30
 replace H:=Option.bind_eq_some_iff.mp H
 obtain ⟨⟨t276,t277⟩,A40,H⟩ := H
 replace H : (some (t276,t275,t277)) = some (r1,r2,r3):=H
 have A4:=Aside0.mk A40
 clear A40
 simp only [Option.some.injEq,Prod.mk.injEq] at H
 obtain ⟨rfl,rfl,rfl⟩ := H
 obtain ⟨Ao5,co5,eo5⟩ := Kd.R_slice HO0_0.out
 subst eo5
 obtain ⟨Ao6,co6,eo6⟩ := Kd.S_slice HO0_1.out
 subst eo6
 go_enter Try.func13,Try.ntmps13
 go_wp2_with (first | ((with_reducible refine gate_dst (N:=2) rfl ?_);refine box_event ?hg (N:=2) ?hd (cs:=#[.slice Ao5 l0_0.length co5, .slice Ao6 l0_1.length co6]) (t:=27) ?hr ?_;(case hd => rfl);(case hg => rfl);(case hr => first | (go_simp;done) | (go_simp;rfl));intro gb273 hg w7 hbox hb;have n0_:=Aside0.mk (Kd.R_below (by (with_reducible repeat (first | apply Kd.R_alloc | apply Kd.R_drewN | apply Kd.R_drew));exact HO0_0.out) hb);have n1_:=Aside0.mk (Kd.S_below (by (with_reducible repeat (first | apply Kd.S_alloc | apply Kd.S_drewN | apply Kd.S_drew));exact HO0_1.out) hb);have n2_:=Aside0.mk (Kept.below (S:=(fun k_ => P0_0_ k_ ∨ P0_1_ k_)) (by repeat (first | (with_reducible first | exact HK.out | apply Kept.alloc | apply Kept.drewN | apply Kept.drew) | exact HK.out)) hb);have n3_:=Aside0.mk (below_step (by repeat (first | (with_reducible first | exact HB.out | apply below_alloc | apply pw_below_drewN | apply below_drew1) | exact HB.out)) hb);have n4_:=Aside0.mk (hbox);have n5_:=Aside0.mk ((by rw [hg];exact (by first | exact HK.out.1 | exact (show Kept w _ (fun k_ => P0_0_ k_ ∨ P0_1_ k_) from by repeat (first | (with_reducible first | exact HK.out | apply Kept.alloc | apply Kept.drewN | apply Kept.drew) | exact HK.out)).1) : w.heap.size ≤ gb273));have n6_:=Aside0.mk ((by rw [hg];exact (below_size (by repeat (first | (with_reducible first | exact HB.out | apply below_alloc | apply pw_below_drewN | apply below_drew1) | exact HB.out))) : w0.heap.size ≤ gb273));clear HO0_0;clear HO0_1;clear HK;clear HB;have HO0_0:=n0_;have HO0_1:=n1_;have HK:=n2_;have HB:=n3_;have BK273:=n4_;have GW273:=n5_;have GE273:=n6_;clear n0_ n1_ n2_ n3_ n4_ n5_ n6_;clear hb hbox hg;have hcz8_0 : w7.cell? ⟨gb273,0,none⟩ = some (.slice Ao5 l0_0.length co5):=(blk_cell BK273.out 0).trans rfl;have hcz8_1 : w7.cell? ⟨gb273,1,none⟩ = some (.slice Ao6 l0_1.length co6):=(blk_cell BK273.out 1).trans rfl;have hfz8_0:=blk_frozen BK273.out 0;have hfz8_1:=blk_frozen BK273.out 1) | ((with_reducible refine gate_callee (f:=24) rfl ?_);refine goesL_ (some 8) rfl rfl Try.func24 (by kernel_rfl) rfl #[.slice Ao5 l0_0.length co5, .int .i64 a1] rfl (by (try simp only [List.map_toArray,List.map_cons,List.map_nil]);first | done | rfl | (simp only [List.length_drop,List.length_take];rfl)) ?_;(with_reducible refine (laws_markIntS.calls k (fun k_ => some k_ = (.slice Ao5 l0_0.length co5 : Value).ownBlock) (.slice Ao5 l0_0.length co5) l0_0 a1 t274 t275 w0 _ ?side1 ?side2 A3.out).mono ?_);(case side1 => repeat (first | (with_reducible first | exact HB.out | apply below_alloc | apply pw_below_drewN | apply below_drew1 | refine below_set ?_ GE273.out) | exact HB.out));(case side2 => exact Kd.R_tight rfl HO0_0.out);rintro e w9 ⟨rfl,hy0,hb,hkp⟩;refine ⟨_,rfl, ?_⟩;have n0_:=Aside0.mk (Kd.R_reok rfl hy0 (fun k_ e_ => HO0_0.out.1 k_ e_));have n1_:=Aside0.mk (Kd.S_mono (ok':=fun k_ => ((P0_0_ k_ ∨ P0_1_ k_) ∨ w.heap.size ≤ k_) ∧ some k_ ≠ (.slice Ao5 l0_0.length co5 : Value).ownBlock) (Kd.S_keptB (HO0_1.out) hkp (fun k_ hk_ hs_ => (hk_.2) hs_)) (fun k_ hk_ => ⟨hk_.1.1,hk_.1.2⟩));have n2_:=Aside0.mk (blk_kept (by (with_reducible repeat (first | refine blk_drewN ?_ _ | refine blk_drew ?_ | refine blk_alloc ?_ _));exact BK273.out) hkp (fun hs_ => (fun e_ => (Kd.R_ne HO0_0.out BK273.out (by decide)) e_) hs_));have n3_:=Aside0.mk (Kept.then_ (S:=(fun k_ => P0_0_ k_ ∨ P0_1_ k_)) (by repeat (first | (with_reducible first | exact HK.out | apply Kept.alloc | apply Kept.drewN | apply Kept.drew | refine Kept.setCell ?_ (.inr GW273.out) _) | exact HK.out)) hkp (fun k_ hs_ => (fun e_ => (HO0_0.out.1 k_ e_.symm)) hs_));have n4_:=Aside0.mk (hb);clear HO0_0;clear HO0_1;clear BK273;clear HK;clear HB;have HO0_0:=n0_;have HO0_1:=n1_;have BK273:=n2_;have HK:=n3_;have HB:=n4_;clear n0_ n1_ n2_ n3_ n4_;(try clear hb);(try clear hkp);(try clear hy0);have hcz10_0 : w9.cell? ⟨gb273,0,none⟩ = some (.slice Ao5 l0_0.length co5):=(blk_cell BK273.out 0).trans rfl;have hcz10_1 : w9.cell? ⟨gb273,1,none⟩ = some (.slice Ao6 l0_1.length co6):=(blk_cell BK273.out 1).trans rfl;have hfz10_0:=blk_frozen BK273.out 0;have hfz10_1:=blk_frozen BK273.out 1) | ((with_reducible refine gate_callee (f:=37) rfl ?_);refine goesL_ (some 12) rfl rfl Try.func37 (by kernel_rfl) rfl #[.slice Ao6 l0_1.length co6, .int .i64 t274] rfl (by (try simp only [List.map_toArray,List.map_cons,List.map_nil]);first | done | rfl | (simp only [List.length_drop,List.length_take];rfl)) ?_;(with_reducible refine (laws_markIntSS.calls k (fun k_ => ((((P0_0_ k_ ∨ P0_1_ k_) ∨ w.heap.size ≤ k_) ∧ some k_ ≠ (.slice Ao5 l0_0.length co5 : Value).ownBlock) ∧ k_ ≠ gb273) ∧ w0.heap.size ≤ k_) (.slice Ao6 l0_1.length co6) l0_1 t274 t276 t277 w0 _ ?side1 ?side2 A4.out).mono ?_);(case side1 => repeat (first | (with_reducible first | exact HB.out | apply below_alloc | apply pw_below_drewN | apply below_drew1 | refine below_set ?_ GE273.out) | exact HB.out));(case side2 => exact Kd.S_ge ((Kd.S_types HO0_1.out BK273.out (by decide))));rintro e w11 ⟨rfl,hy0,hb,hkp⟩;refine ⟨_,rfl, ?_⟩;have n0_:=Aside0.mk (Kd.R_mono (ok':=fun k_ => ((P0_0_ k_ ∨ P0_1_ k_) ∨ w.heap.size ≤ k_)) (Kd.R_keptB ((Kd.R_mono (ok':=fun k_ => ((P0_0_ k_ ∨ P0_1_ k_) ∨ w.heap.size ≤ k_) ∧ ¬ (((((P0_0_ k_ ∨ P0_1_ k_) ∨ w.heap.size ≤ k_) ∧ some k_ ≠ (.slice Ao5 l0_0.length co5 : Value).ownBlock) ∧ k_ ≠ gb273) ∧ w0.heap.size ≤ k_)) (Kd.R_tight2 rfl HO0_0.out) (fun k_ hk => ⟨hk.2,fun hP_ => (hP_.1.1.2) hk.1⟩))) hkp (fun k_ hk_ hs_ => (hk_.2) hs_)) (fun k_ hk_ => hk_.1.1));have n1_:=Aside0.mk (Kd.S_mono (ok':=fun k_ => (((P0_0_ k_ ∨ P0_1_ k_) ∨ w.heap.size ≤ k_) ∧ some k_ ≠ (.slice Ao5 l0_0.length co5 : Value).ownBlock)) hy0 (fun k_ hk_ => Or.elim hk_ (fun h_ => ⟨h_.1.1.1,h_.1.1.2⟩) (fun hn_ => ⟨(.inr (Nat.le_trans (show Kept w _ (fun k_ => P0_0_ k_ ∨ P0_1_ k_) from by repeat (first | (with_reducible first | exact HK.out | apply Kept.alloc | apply Kept.drewN | apply Kept.drew | refine Kept.setCell ?_ (.inr GW273.out) _) | exact HK.out)).1 hn_)),(fun e_ => Nat.not_le.2 (Kd.R_lt (by (with_reducible repeat (first | apply Kd.R_alloc | apply Kd.R_drewN | apply Kd.R_drew));exact HO0_0.out) k_ e_.symm) hn_)⟩)));have n2_:=Aside0.mk (blk_kept (by (with_reducible repeat (first | refine blk_drewN ?_ _ | refine blk_drew ?_ | refine blk_alloc ?_ _));exact BK273.out) hkp (fun hs_ => (fun e_ => (e_.1.2) rfl) hs_));have n3_:=Aside0.mk (Kept.then_ (S:=(fun k_ => P0_0_ k_ ∨ P0_1_ k_)) (by repeat (first | (with_reducible first | exact HK.out | apply Kept.alloc | apply Kept.drewN | apply Kept.drew | refine Kept.setCell ?_ (.inr GW273.out) _) | exact HK.out)) hkp (fun k_ hs_ => (fun e_ => e_.1.1.1) hs_));have n4_:=Aside0.mk (hb);clear HO0_0;clear HO0_1;clear BK273;clear HK;clear HB;have HO0_0:=n0_;have HO0_1:=n1_;have BK273:=n2_;have HK:=n3_;have HB:=n4_;clear n0_ n1_ n2_ n3_ n4_;(try clear hb);(try clear hkp);(try clear hy0)))
 go_ret
 exact ⟨by first | rfl | (simp [errW_none,errW_some] <;> rfl) | (simp [*,errW_none,errW_some] <;> rfl),by (with_reducible repeat (first | apply Kd.R_alloc | apply Kd.R_drewN | apply Kd.R_drew));exact HO0_0.out,by (with_reducible repeat (first | apply Kd.S_alloc | apply Kd.S_drewN | apply Kd.S_drew));exact HO0_1.out,by repeat (first | (with_reducible first | exact HB.out | apply below_alloc | apply pw_below_drewN | apply below_drew1 | refine below_set ?_ GE273.out) | exact HB.out),by repeat (first | (with_reducible first | exact HK.out | apply Kept.alloc | apply Kept.drewN | apply Kept.drew | refine Kept.setCell ?_ (.inr GW273.out) _) | exact HK.out)⟩

/-! ### laws_heldIntS: function 25 -/
def laws_heldIntS.l0 : Nat → List Int → Int → Int → Option (Int)
 | 0,_,_,_ => none
 | k + 1,x0,x1,x5 => if x5 < (x0.length : Int) then (if 0 ≤ x5 then (if (rd x0 x5) = x1 then (laws_heldIntS.l0 k x0 (wrap64 (x1 + 1)) (wrap64 (x5 + 1))) else (some (-1))) else (none)) else (some x1)
def laws_heldIntS.f (k : Nat) (l0 : List Int) (a1 : Int) : Option (Int):=laws_heldIntS.l0 k l0 a1 0
theorem laws_heldIntS.mono_l : ∀ k,(∀ y0 y1 y2,LeO (laws_heldIntS.l0 k y0 y1 y2) (laws_heldIntS.l0 (k + 1) y0 y1 y2))
 | 0 => fun _ _ _ r h => by simp [laws_heldIntS.l0] at h
 | k + 1 => by
  have ih0:=laws_heldIntS.mono_l k
  ·intro y0 y1 y2
   unfold laws_heldIntS.l0
   repeat' first
   | (with_reducible exact ih0 _ _ _)
   | (with_reducible exact LeO.refl _)
   | (with_reducible exact LeO.none _)
   | (with_reducible refine LeO.ite ?_ ?_)
   | (with_reducible refine LeO.bind ?_ (fun _ => ?_))
   | exact ih0 _ _ _
   | exact LeO.none _
   | refine LeO.ite ?_ ?_
   | refine LeO.bind ?_ (fun _ => ?_)
theorem laws_heldIntS.mono : ∀ a0 a1 k,LeO (laws_heldIntS.f k a0 a1) (laws_heldIntS.f (k + 1) a0 a1):=by
 intro a0 a1 k
 have ih0:=laws_heldIntS.mono_l k
 unfold laws_heldIntS.f
 repeat' first
   | (with_reducible exact ih0 _ _ _)
   | (with_reducible exact LeO.refl _)
   | (with_reducible exact LeO.none _)
   | (with_reducible refine LeO.ite ?_ ?_)
   | (with_reducible refine LeO.bind ?_ (fun _ => ?_))
   | exact ih0 _ _ _
   | exact LeO.none _
   | refine LeO.ite ?_ ?_
   | refine LeO.bind ?_ (fun _ => ?_)
set_option maxHeartbeats 8000000 in
set_option maxRecDepth 100000 in
theorem laws_heldIntS.calls (k : Nat) (A0 : Option Addr) (c0 : Nat) (l0 : List Int) (a1 : Int) (r : Int) (w : World) (hr0 : Kd.C (Kd.int .i64) w A0 l0.length l0) (hc0 : l0.length ≤ c0) (h : laws_heldIntS.f k l0 a1 = some r) :
  Calls Try.prog 25 #[.slice A0 l0.length c0, .int .i64 a1] w fun e w' => e = .returned (.int .i64 r) ∧ Drawn0 w w':=by
 have HR0:=Aside0.mk hr0
 have HC0:=Aside0.mk hc0
 clear hr0 hc0
 have H : (laws_heldIntS.l0 k l0 a1 0) = some r:=h
 clear h
 have H':=Aside0.mk H
 clear H
 go_enter Try.func25,Try.ntmps25
 go_wp2
 go_loopg [1,5] k (fun kq v1 v5 w' => ∃ (x1_1 : Int) (x5_1 : Int),v1 = .int .i64 x1_1 ∧ v5 = .int .i64 x5_1 ∧ Aside0 (laws_heldIntS.l0 kq l0 x1_1 x5_1 = some r) ∧ Aside0 (kq ≤ k) ∧ Drawn0 w w')
 case atStart => exact ⟨(a1),(0),(by first | rfl | (simp;done) | (simp [*];done)),(by first | rfl | (simp;done) | (simp [*];done)),H',⟨Nat.le_refl _⟩,by repeat (first | exact Drawn0.refl _ | apply Drawn0.step)⟩
 case round =>
  clear H'
  try clear c2
  try clear p2
  obtain ⟨x1_1,x5_1,rfl,rfl,HA,HK1,⟨m1,rfl⟩⟩ := hrel
  cases gk with
  | zero => exact absurd HA.out (by simp [laws_heldIntS.l0])
  | succ k1 =>
   have H:=HA.out
   clear HA
   simp only [laws_heldIntS.l0] at H
   by_cases c3 : x5_1 < (l0.length : Int)
   ·rw [if_pos c3] at H
    have c3b0 : decide (x5_1 < (l0.length : Int)) = true:=decide_eq_true c3
    clear c3
    by_cases c4 : 0 ≤ x5_1
    ·rw [if_pos c4] at H
     have c4b0 : decide (0 ≤ x5_1) = true:=decide_eq_true c4
     clear c4
     by_cases c5 : (rd l0 x5_1) = x1_1
     ·rw [if_pos c5] at H
      have c5b0 : ((rd l0 x5_1) == x1_1) = true:=beq_iff_eq.mpr c5
      have c5b1 : ((rd l0 x5_1) != x1_1) = false:=bne_eq_false_iff_eq.mpr c5
      clear c5
      have H':=Aside0.mk H
      clear H
      have p278 : 0 ≤ (x5_1 : Int):=of_decide_eq_true (by first | (with_reducible assumption) | assumption)
      have q278 : x5_1 < (l0.length : Int):=of_decide_eq_true (by first | (with_reducible assumption) | assumption)
      obtain ⟨ad278,e278,hx278_0⟩ := Kd.at_int HR0.out x5_1 p278 q278
      cases e278
      replace p278:=eq_true p278
      replace q278:=eq_true q278
      go_wp2
      go_roundg k1
      case measure => have:=HK1.out;omega
      case rel => exact ⟨(wrap64 (x1_1 + 1)),(wrap64 (x5_1 + 1)),(by first | rfl | (simp;done) | (simp [*];done)),(by first | rfl | (simp;done) | (simp [*];done)),H',⟨by have:=HK1.out;omega⟩,by repeat (first | exact Drawn0.refl _ | apply Drawn0.step)⟩
     ·rw [if_neg c5] at H
      have c5b0 : ((rd l0 x5_1) == x1_1) = false:=beq_eq_false_iff_ne.mpr c5
      have c5b1 : ((rd l0 x5_1) != x1_1) = true:=bne_iff_ne.mpr c5
      obtain rfl:=Option.some.inj H
      have p278 : 0 ≤ (x5_1 : Int):=of_decide_eq_true (by first | (with_reducible assumption) | assumption)
      have q278 : x5_1 < (l0.length : Int):=of_decide_eq_true (by first | (with_reducible assumption) | assumption)
      obtain ⟨ad278,e278,hx278_0⟩ := Kd.at_int HR0.out x5_1 p278 q278
      cases e278
      replace p278:=eq_true p278
      replace q278:=eq_true q278
      go_wp2
      go_ret
      exact ⟨by first | rfl | (simp;done) | (simp [*];done),by repeat (first | exact Drawn0.refl _ | apply Drawn0.step)⟩
    ·rw [if_neg c4] at H
     exact absurd H (by simp)
   ·rw [if_neg c3] at H
    have c3b0 : decide (x5_1 < (l0.length : Int)) = false:=decide_eq_false c3
    clear c3
    obtain rfl:=Option.some.inj H
    go_wp2
    go_ret
    exact ⟨by first | rfl | (simp;done) | (simp [*];done),by repeat (first | exact Drawn0.refl _ | apply Drawn0.step)⟩

/-! ### laws_heldIntSS: function 38 -/
def laws_heldIntSS.l0 : Nat → List (List Int) → Int → Int → Option (Int)
 | 0,_,_,_ => none
 | k + 1,x0,x1,x5 => if x5 < (x0.length : Int) then (if 0 ≤ x5 then ((laws_heldIntS.f k (rd_L1 x0 x5) x1).bind fun t280 => (if t280 < 0 then (some (-1)) else (laws_heldIntSS.l0 k x0 t280 (wrap64 (x5 + 1))))) else (none)) else (some x1)
def laws_heldIntSS.f (k : Nat) (l0 : List (List Int)) (a1 : Int) : Option (Int):=laws_heldIntSS.l0 k l0 a1 0
theorem laws_heldIntSS.mono_l : ∀ k,(∀ y0 y1 y2,LeO (laws_heldIntSS.l0 k y0 y1 y2) (laws_heldIntSS.l0 (k + 1) y0 y1 y2))
 | 0 => fun _ _ _ r h => by simp [laws_heldIntSS.l0] at h
 | k + 1 => by
  have ih0:=laws_heldIntSS.mono_l k
  ·intro y0 y1 y2
   unfold laws_heldIntSS.l0
   repeat' first
   | (with_reducible exact ih0 _ _ _)
   | (with_reducible exact laws_heldIntS.mono _ _ _)
   | (with_reducible exact LeO.refl _)
   | (with_reducible exact LeO.none _)
   | (with_reducible refine LeO.ite ?_ ?_)
   | (with_reducible refine LeO.bind ?_ (fun _ => ?_))
   | exact ih0 _ _ _
   | exact laws_heldIntS.mono _ _ _
   | exact LeO.none _
   | refine LeO.ite ?_ ?_
   | refine LeO.bind ?_ (fun _ => ?_)
theorem laws_heldIntSS.mono : ∀ a0 a1 k,LeO (laws_heldIntSS.f k a0 a1) (laws_heldIntSS.f (k + 1) a0 a1):=by
 intro a0 a1 k
 have ih0:=laws_heldIntSS.mono_l k
 unfold laws_heldIntSS.f
 repeat' first
   | (with_reducible exact ih0 _ _ _)
   | (with_reducible exact laws_heldIntS.mono _ _ _)
   | (with_reducible exact LeO.refl _)
   | (with_reducible exact LeO.none _)
   | (with_reducible refine LeO.ite ?_ ?_)
   | (with_reducible refine LeO.bind ?_ (fun _ => ?_))
   | exact ih0 _ _ _
   | exact laws_heldIntS.mono _ _ _
   | exact LeO.none _
   | refine LeO.ite ?_ ?_
   | refine LeO.bind ?_ (fun _ => ?_)
set_option maxHeartbeats 8000000 in
set_option maxRecDepth 100000 in
theorem laws_heldIntSS.calls (k : Nat) (A0 : Option Addr) (c0 : Nat) (l0 : List (List Int)) (a1 : Int) (r : Int) (w : World) (hr0 : Kd.C (Kd.slice 3 (Kd.int .i64)) w A0 l0.length l0) (hc0 : l0.length ≤ c0) (h : laws_heldIntSS.f k l0 a1 = some r) :
  Calls Try.prog 38 #[.slice A0 l0.length c0, .int .i64 a1] w fun e w' => e = .returned (.int .i64 r) ∧ Drawn0 w w':=by
 have HR0:=Aside0.mk hr0
 have HC0:=Aside0.mk hc0
 clear hr0 hc0
 have H : (laws_heldIntSS.l0 k l0 a1 0) = some r:=h
 clear h
 have H':=Aside0.mk H
 clear H
 go_enter Try.func38,Try.ntmps38
 go_wp2
 go_loopg [1,5] k (fun kq v1 v5 w' => ∃ (x1_1 : Int) (x5_1 : Int),v1 = .int .i64 x1_1 ∧ v5 = .int .i64 x5_1 ∧ Aside0 (laws_heldIntSS.l0 kq l0 x1_1 x5_1 = some r) ∧ Aside0 (kq ≤ k) ∧ Drawn0 w w')
 case atStart => exact ⟨(a1),(0),(by first | rfl | (simp;done) | (simp [*];done)),(by first | rfl | (simp;done) | (simp [*];done)),H',⟨Nat.le_refl _⟩,by repeat (first | exact Drawn0.refl _ | apply Drawn0.step)⟩
 case round =>
  clear H'
  try clear p2
  obtain ⟨x1_1,x5_1,rfl,rfl,HA,HK1,⟨m1,rfl⟩⟩ := hrel
  cases gk with
  | zero => exact absurd HA.out (by simp [laws_heldIntSS.l0])
  | succ k1 =>
   have H:=HA.out
   clear HA
   simp only [laws_heldIntSS.l0] at H
   by_cases c3 : x5_1 < (l0.length : Int)
   ·rw [if_pos c3] at H
    have c3b0 : decide (x5_1 < (l0.length : Int)) = true:=decide_eq_true c3
    clear c3
    by_cases c4 : 0 ≤ x5_1
    ·rw [if_pos c4] at H
     have c4b0 : decide (0 ≤ x5_1) = true:=decide_eq_true c4
     clear c4
     replace H:=Option.bind_eq_some_iff.mp H
     obtain ⟨t280,A50,H⟩ := H
     replace H : (if t280 < 0 then (some (-1)) else (laws_heldIntSS.l0 k1 l0 t280 (wrap64 (x5_1 + 1)))) = some r:=H
     have A5:=Aside0.mk A50
     clear A50
     by_cases c6 : t280 < 0
     ·rw [if_pos c6] at H
      have c6b0 : decide (t280 < 0) = true:=decide_eq_true c6
      clear c6
      obtain rfl:=Option.some.inj H
      have p279 : 0 ≤ (x5_1 : Int):=of_decide_eq_true (by first | (with_reducible assumption) | assumption)
      have q279 : x5_1 < (l0.length : Int):=of_decide_eq_true (by first | (with_reducible assumption) | assumption)
      obtain ⟨ad279,A279_0,c279_0,e279,hx279_0,hl279_0,hi279_0⟩ := at_L1 HR0.out x5_1 p279 q279
      cases e279
      have HR279_0:=Aside0.mk hi279_0
      have HC279_0:=Aside0.mk hl279_0
      clear hi279_0 hl279_0
      replace p279:=eq_true p279
      replace q279:=eq_true q279
      go_wp2_with (first | ((with_reducible refine gate_callee (f:=25) rfl ?_);refine goesL_ (some 17) rfl rfl Try.func25 (by kernel_rfl) rfl #[.slice A279_0 (rd_L1 l0 x5_1).length c279_0, .int .i64 x1_1] rfl (by (try simp only [List.map_toArray,List.map_cons,List.map_nil]);first | done | rfl | (simp only [List.length_drop,List.length_take];rfl)) ?_;(with_reducible refine (laws_heldIntS.calls k1 _ _ (rd_L1 l0 x5_1) x1_1 t280 _ ?side1 ?side2 A5.out).mono ?_);(case side1 => repeat (first | exact HR279_0.out | (with_reducible refine Kd.C_alloc ?_ _) | (with_reducible refine Kd.C_drewN ?_ _) | (with_reducible refine Kd.C_drew ?_)));(case side2 => exact HC279_0.out);rintro e w' ⟨rfl,⟨nd,rfl⟩⟩;refine ⟨_,rfl, ?_⟩))
      go_ret
      exact ⟨by first | rfl | (simp;done) | (simp [*];done),by repeat (first | exact Drawn0.refl _ | apply Drawn0.step)⟩
     ·rw [if_neg c6] at H
      have c6b0 : decide (t280 < 0) = false:=decide_eq_false c6
      clear c6
      have H':=Aside0.mk H
      clear H
      have p279 : 0 ≤ (x5_1 : Int):=of_decide_eq_true (by first | (with_reducible assumption) | assumption)
      have q279 : x5_1 < (l0.length : Int):=of_decide_eq_true (by first | (with_reducible assumption) | assumption)
      obtain ⟨ad279,A279_0,c279_0,e279,hx279_0,hl279_0,hi279_0⟩ := at_L1 HR0.out x5_1 p279 q279
      cases e279
      have HR279_0:=Aside0.mk hi279_0
      have HC279_0:=Aside0.mk hl279_0
      clear hi279_0 hl279_0
      replace p279:=eq_true p279
      replace q279:=eq_true q279
      go_wp2_with (first | ((with_reducible refine gate_callee (f:=25) rfl ?_);refine goesL_ (some 17) rfl rfl Try.func25 (by kernel_rfl) rfl #[.slice A279_0 (rd_L1 l0 x5_1).length c279_0, .int .i64 x1_1] rfl (by (try simp only [List.map_toArray,List.map_cons,List.map_nil]);first | done | rfl | (simp only [List.length_drop,List.length_take];rfl)) ?_;(with_reducible refine (laws_heldIntS.calls k1 _ _ (rd_L1 l0 x5_1) x1_1 t280 _ ?side1 ?side2 A5.out).mono ?_);(case side1 => repeat (first | exact HR279_0.out | (with_reducible refine Kd.C_alloc ?_ _) | (with_reducible refine Kd.C_drewN ?_ _) | (with_reducible refine Kd.C_drew ?_)));(case side2 => exact HC279_0.out);rintro e w' ⟨rfl,⟨nd,rfl⟩⟩;refine ⟨_,rfl, ?_⟩))
      go_roundg k1
      case measure => have:=HK1.out;omega
      case rel => exact ⟨(t280),(wrap64 (x5_1 + 1)),(by first | rfl | (simp;done) | (simp [*];done)),(by first | rfl | (simp;done) | (simp [*];done)),H',⟨by have:=HK1.out;omega⟩,by repeat (first | exact Drawn0.refl _ | apply Drawn0.step)⟩
    ·rw [if_neg c4] at H
     exact absurd H (by simp)
   ·rw [if_neg c3] at H
    have c3b0 : decide (x5_1 < (l0.length : Int)) = false:=decide_eq_false c3
    clear c3
    obtain rfl:=Option.some.inj H
    go_wp2
    go_ret
    exact ⟨by first | rfl | (simp;done) | (simp [*];done),by repeat (first | exact Drawn0.refl _ | apply Drawn0.step)⟩

/-! ### laws_heldGate: function 14 -/
def laws_heldGate.f (k : Nat) (l0_0 : List Int) (l0_1 : List (List Int)) (a1 : Int) : Option (Int):=(laws_heldIntS.f k l0_0 a1).bind fun t282 => (if t282 < 0 then (some (-1)) else ((laws_heldIntSS.f k l0_1 t282).bind fun t283 => (if t283 < 0 then (some (-1)) else (some t283))))
theorem laws_heldGate.mono : ∀ a0 a1 a2 k,LeO (laws_heldGate.f k a0 a1 a2) (laws_heldGate.f (k + 1) a0 a1 a2):=by
 intro a0 a1 a2 k
 unfold laws_heldGate.f
 repeat' first
   | (with_reducible exact laws_heldIntS.mono _ _ _)
   | (with_reducible exact laws_heldIntSS.mono _ _ _)
   | (with_reducible exact LeO.refl _)
   | (with_reducible exact LeO.none _)
   | (with_reducible refine LeO.ite ?_ ?_)
   | (with_reducible refine LeO.bind ?_ (fun _ => ?_))
   | exact laws_heldIntS.mono _ _ _
   | exact laws_heldIntSS.mono _ _ _
   | exact LeO.none _
   | refine LeO.ite ?_ ?_
   | refine LeO.bind ?_ (fun _ => ?_)
set_option maxHeartbeats 8000000 in
set_option maxRecDepth 100000 in
theorem laws_heldGate.calls (k : Nat) (A0_0 : Option Addr) (c0_0 : Nat) (l0_0 : List Int) (A0_1 : Option Addr) (c0_1 : Nat) (l0_1 : List (List Int)) (a1 : Int) (r : Int) (w : World) (hr0_0 : Kd.C (Kd.int .i64) w A0_0 l0_0.length l0_0) (hc0_0 : l0_0.length ≤ c0_0) (hr0_1 : Kd.C (Kd.slice 3 (Kd.int .i64)) w A0_1 l0_1.length l0_1) (hc0_1 : l0_1.length ≤ c0_1) (h : laws_heldGate.f k l0_0 l0_1 a1 = some r) :
  Calls Try.prog 14 #[.agg #[.slice A0_0 l0_0.length c0_0, .slice A0_1 l0_1.length c0_1], .int .i64 a1] w fun e w' => e = .returned (.int .i64 r) ∧ Below w.heap.size w w':=by
 have hu27:=Try.underlying27
 have HR0_0:=Aside0.mk hr0_0
 have HC0_0:=Aside0.mk hc0_0
 clear hr0_0 hc0_0
 have HR0_1:=Aside0.mk hr0_1
 have HC0_1:=Aside0.mk hc0_1
 clear hr0_1 hc0_1
 have HB:=Aside0.mk (Below.refl w.heap.size w)
 have H : ((laws_heldIntS.f k l0_0 a1).bind fun t282 => (if t282 < 0 then (some (-1)) else ((laws_heldIntSS.f k l0_1 t282).bind fun t283 => (if t283 < 0 then (some (-1)) else (some t283))))) = some r:=h
 clear h
 replace H:=Option.bind_eq_some_iff.mp H
 obtain ⟨t282,A30,H⟩ := H
 replace H : (if t282 < 0 then (some (-1)) else ((laws_heldIntSS.f k l0_1 t282).bind fun t283 => (if t283 < 0 then (some (-1)) else (some t283)))) = some r:=H
 have A3:=Aside0.mk A30
 clear A30
 by_cases c4 : t282 < 0
 ·rw [if_pos c4] at H
  have c4b0 : decide (t282 < 0) = true:=decide_eq_true c4
  clear c4
  obtain rfl:=Option.some.inj H
  go_enter Try.func14,Try.ntmps14
  go_wp2_with (first | ((with_reducible refine gate_dst (N:=2) rfl ?_);refine box_event ?hg (N:=2) ?hd (cs:=#[.slice A0_0 l0_0.length c0_0, .slice A0_1 l0_1.length c0_1]) (t:=27) ?hr ?_;(case hd => rfl);(case hg => rfl);(case hr => first | (go_simp;done) | (go_simp;rfl));intro gb281 hg w5 hbox hb;have n0_:=Aside0.mk (below_step (by repeat (first | (with_reducible first | exact HB.out | apply below_alloc | apply pw_below_drewN | apply below_drew1) | exact HB.out)) hb);have n1_:=Aside0.mk (hbox);have n2_:=Aside0.mk ((by rw [hg];exact (below_size (by repeat (first | (with_reducible first | exact HB.out | apply below_alloc | apply pw_below_drewN | apply below_drew1) | exact HB.out))) : w.heap.size ≤ gb281));have n3_:=Aside0.mk ((by rw [hg];exact (below_size (by repeat (first | (with_reducible first | exact HB.out | apply below_alloc | apply pw_below_drewN | apply below_drew1) | exact HB.out))) : w.heap.size ≤ gb281));clear HB;have HB:=n0_;have BK281:=n1_;have GW281:=n2_;have GE281:=n3_;clear n0_ n1_ n2_ n3_;clear hb hbox hg;have hcz6_0 : w5.cell? ⟨gb281,0,none⟩ = some (.slice A0_0 l0_0.length c0_0):=(blk_cell BK281.out 0).trans rfl;have hcz6_1 : w5.cell? ⟨gb281,1,none⟩ = some (.slice A0_1 l0_1.length c0_1):=(blk_cell BK281.out 1).trans rfl;have hfz6_0:=blk_frozen BK281.out 0;have hfz6_1:=blk_frozen BK281.out 1) | ((with_reducible refine gate_callee (f:=25) rfl ?_);refine goesL_ (some 8) rfl rfl Try.func25 (by kernel_rfl) rfl #[.slice A0_0 l0_0.length c0_0, .int .i64 a1] rfl (by (try simp only [List.map_toArray,List.map_cons,List.map_nil]);first | done | rfl | (simp only [List.length_drop,List.length_take];rfl)) ?_;(with_reducible refine (laws_heldIntS.calls k _ _ l0_0 a1 t282 _ ?side1 ?side2 A3.out).mono ?_);(case side1 => repeat (first | exact (Kd.C_below HR0_0.out HB.out) | (with_reducible refine Kd.C_alloc ?_ _) | (with_reducible refine Kd.C_drewN ?_ _) | (with_reducible refine Kd.C_drew ?_)));(case side2 => exact HC0_0.out);rintro e w' ⟨rfl,⟨nd,rfl⟩⟩;refine ⟨_,rfl, ?_⟩))
  go_ret
  exact ⟨by first | rfl | (simp [errW_none,errW_some] <;> rfl) | (simp [*,errW_none,errW_some] <;> rfl),by repeat (first | (with_reducible first | exact HB.out | apply below_alloc | apply pw_below_drewN | apply below_drew1 | refine below_set ?_ GE281.out) | exact HB.out)⟩
 ·rw [if_neg c4] at H
  have c4b0 : decide (t282 < 0) = false:=decide_eq_false c4
  clear c4
  replace H:=Option.bind_eq_some_iff.mp H
  obtain ⟨t283,A70,H⟩ := H
  replace H : (if t283 < 0 then (some (-1)) else (some t283)) = some r:=H
  have A7:=Aside0.mk A70
  clear A70
  by_cases c8 : t283 < 0
  ·rw [if_pos c8] at H
   have c8b0 : decide (t283 < 0) = true:=decide_eq_true c8
   clear c8
   obtain rfl:=Option.some.inj H
   go_enter Try.func14,Try.ntmps14
   go_wp2_with (first | ((with_reducible refine gate_dst (N:=2) rfl ?_);refine box_event ?hg (N:=2) ?hd (cs:=#[.slice A0_0 l0_0.length c0_0, .slice A0_1 l0_1.length c0_1]) (t:=27) ?hr ?_;(case hd => rfl);(case hg => rfl);(case hr => first | (go_simp;done) | (go_simp;rfl));intro gb281 hg w9 hbox hb;have n0_:=Aside0.mk (below_step (by repeat (first | (with_reducible first | exact HB.out | apply below_alloc | apply pw_below_drewN | apply below_drew1) | exact HB.out)) hb);have n1_:=Aside0.mk (hbox);have n2_:=Aside0.mk ((by rw [hg];exact (below_size (by repeat (first | (with_reducible first | exact HB.out | apply below_alloc | apply pw_below_drewN | apply below_drew1) | exact HB.out))) : w.heap.size ≤ gb281));have n3_:=Aside0.mk ((by rw [hg];exact (below_size (by repeat (first | (with_reducible first | exact HB.out | apply below_alloc | apply pw_below_drewN | apply below_drew1) | exact HB.out))) : w.heap.size ≤ gb281));clear HB;have HB:=n0_;have BK281:=n1_;have GW281:=n2_;have GE281:=n3_;clear n0_ n1_ n2_ n3_;clear hb hbox hg;have hcz10_0 : w9.cell? ⟨gb281,0,none⟩ = some (.slice A0_0 l0_0.length c0_0):=(blk_cell BK281.out 0).trans rfl;have hcz10_1 : w9.cell? ⟨gb281,1,none⟩ = some (.slice A0_1 l0_1.length c0_1):=(blk_cell BK281.out 1).trans rfl;have hfz10_0:=blk_frozen BK281.out 0;have hfz10_1:=blk_frozen BK281.out 1) | ((with_reducible refine gate_callee (f:=25) rfl ?_);refine goesL_ (some 8) rfl rfl Try.func25 (by kernel_rfl) rfl #[.slice A0_0 l0_0.length c0_0, .int .i64 a1] rfl (by (try simp only [List.map_toArray,List.map_cons,List.map_nil]);first | done | rfl | (simp only [List.length_drop,List.length_take];rfl)) ?_;(with_reducible refine (laws_heldIntS.calls k _ _ l0_0 a1 t282 _ ?side1 ?side2 A3.out).mono ?_);(case side1 => repeat (first | exact (Kd.C_below HR0_0.out HB.out) | (with_reducible refine Kd.C_alloc ?_ _) | (with_reducible refine Kd.C_drewN ?_ _) | (with_reducible refine Kd.C_drew ?_)));(case side2 => exact HC0_0.out);rintro e w' ⟨rfl,⟨nd,rfl⟩⟩;refine ⟨_,rfl, ?_⟩) | ((with_reducible refine gate_callee (f:=38) rfl ?_);refine goesL_ (some 14) rfl rfl Try.func38 (by kernel_rfl) rfl #[.slice A0_1 l0_1.length c0_1, .int .i64 t282] rfl (by (try simp only [List.map_toArray,List.map_cons,List.map_nil]);first | done | rfl | (simp only [List.length_drop,List.length_take];rfl)) ?_;(with_reducible refine (laws_heldIntSS.calls k _ _ l0_1 t282 t283 _ ?side1 ?side2 A7.out).mono ?_);(case side1 => repeat (first | exact (Kd.C_below HR0_1.out (by repeat (first | (with_reducible first | exact HB.out | apply below_alloc | apply pw_below_drewN | apply below_drew1 | refine below_set ?_ GE281.out) | exact HB.out))) | (with_reducible refine Kd.C_alloc ?_ _) | (with_reducible refine Kd.C_drewN ?_ _) | (with_reducible refine Kd.C_drew ?_)));(case side2 => exact HC0_1.out);rintro e w' ⟨rfl,⟨nd,rfl⟩⟩;refine ⟨_,rfl, ?_⟩))
   go_ret
   exact ⟨by first | rfl | (simp [errW_none,errW_some] <;> rfl) | (simp [*,errW_none,errW_some] <;> rfl),by repeat (first | (with_reducible first | exact HB.out | apply below_alloc | apply pw_below_drewN | apply below_drew1 | refine below_set ?_ GE281.out) | exact HB.out)⟩
  ·rw [if_neg c8] at H
   have c8b0 : decide (t283 < 0) = false:=decide_eq_false c8
   clear c8
   obtain rfl:=Option.some.inj H
   go_enter Try.func14,Try.ntmps14
   go_wp2_with (first | ((with_reducible refine gate_dst (N:=2) rfl ?_);refine box_event ?hg (N:=2) ?hd (cs:=#[.slice A0_0 l0_0.length c0_0, .slice A0_1 l0_1.length c0_1]) (t:=27) ?hr ?_;(case hd => rfl);(case hg => rfl);(case hr => first | (go_simp;done) | (go_simp;rfl));intro gb281 hg w11 hbox hb;have n0_:=Aside0.mk (below_step (by repeat (first | (with_reducible first | exact HB.out | apply below_alloc | apply pw_below_drewN | apply below_drew1) | exact HB.out)) hb);have n1_:=Aside0.mk (hbox);have n2_:=Aside0.mk ((by rw [hg];exact (below_size (by repeat (first | (with_reducible first | exact HB.out | apply below_alloc | apply pw_below_drewN | apply below_drew1) | exact HB.out))) : w.heap.size ≤ gb281));have n3_:=Aside0.mk ((by rw [hg];exact (below_size (by repeat (first | (with_reducible first | exact HB.out | apply below_alloc | apply pw_below_drewN | apply below_drew1) | exact HB.out))) : w.heap.size ≤ gb281));clear HB;have HB:=n0_;have BK281:=n1_;have GW281:=n2_;have GE281:=n3_;clear n0_ n1_ n2_ n3_;clear hb hbox hg;have hcz12_0 : w11.cell? ⟨gb281,0,none⟩ = some (.slice A0_0 l0_0.length c0_0):=(blk_cell BK281.out 0).trans rfl;have hcz12_1 : w11.cell? ⟨gb281,1,none⟩ = some (.slice A0_1 l0_1.length c0_1):=(blk_cell BK281.out 1).trans rfl;have hfz12_0:=blk_frozen BK281.out 0;have hfz12_1:=blk_frozen BK281.out 1) | ((with_reducible refine gate_callee (f:=25) rfl ?_);refine goesL_ (some 8) rfl rfl Try.func25 (by kernel_rfl) rfl #[.slice A0_0 l0_0.length c0_0, .int .i64 a1] rfl (by (try simp only [List.map_toArray,List.map_cons,List.map_nil]);first | done | rfl | (simp only [List.length_drop,List.length_take];rfl)) ?_;(with_reducible refine (laws_heldIntS.calls k _ _ l0_0 a1 t282 _ ?side1 ?side2 A3.out).mono ?_);(case side1 => repeat (first | exact (Kd.C_below HR0_0.out HB.out) | (with_reducible refine Kd.C_alloc ?_ _) | (with_reducible refine Kd.C_drewN ?_ _) | (with_reducible refine Kd.C_drew ?_)));(case side2 => exact HC0_0.out);rintro e w' ⟨rfl,⟨nd,rfl⟩⟩;refine ⟨_,rfl, ?_⟩) | ((with_reducible refine gate_callee (f:=38) rfl ?_);refine goesL_ (some 14) rfl rfl Try.func38 (by kernel_rfl) rfl #[.slice A0_1 l0_1.length c0_1, .int .i64 t282] rfl (by (try simp only [List.map_toArray,List.map_cons,List.map_nil]);first | done | rfl | (simp only [List.length_drop,List.length_take];rfl)) ?_;(with_reducible refine (laws_heldIntSS.calls k _ _ l0_1 t282 t283 _ ?side1 ?side2 A7.out).mono ?_);(case side1 => repeat (first | exact (Kd.C_below HR0_1.out (by repeat (first | (with_reducible first | exact HB.out | apply below_alloc | apply pw_below_drewN | apply below_drew1 | refine below_set ?_ GE281.out) | exact HB.out))) | (with_reducible refine Kd.C_alloc ?_ _) | (with_reducible refine Kd.C_drewN ?_ _) | (with_reducible refine Kd.C_drew ?_)));(case side2 => exact HC0_1.out);rintro e w' ⟨rfl,⟨nd,rfl⟩⟩;refine ⟨_,rfl, ?_⟩))
   go_ret
   exact ⟨by first | rfl | (simp [errW_none,errW_some] <;> rfl) | (simp [*,errW_none,errW_some] <;> rfl),by repeat (first | (with_reducible first | exact HB.out | apply below_alloc | apply pw_below_drewN | apply below_drew1 | refine below_set ?_ GE281.out) | exact HB.out)⟩

/-! ### laws_FnExactCancelTruck: function 3 -/
open Go.Proofs.YtcpoiklimbfppaaW.GateI
def laws_FnExactCancelTruck.f (k : Nat) (l0_0 : List Int) (l0_1 : List (List Int)) (a1 : Int) : Option (Bool):=(laws_szGate.f k l0_0 l0_1 1048576).bind fun b1_ => if b1_ < 0 then some true else (laws_toGate.f k l0_0 l0_1).bind fun b2_ => (spec_CancelTruck.f k b2_.1 b2_.2 a1).bind fun b3_ => (impl_CancelTruck.f k b2_.1 b2_.2 a1).bind fun b4_ => if b4_.2.2 = b3_.2.2 then (laws_eqGate.f k b4_.1 b4_.2.1 b3_.1 b3_.2.1).bind fun b5_ => if b5_ = true then (laws_eqGate.f k b2_.1 b2_.2 b2_.1 b2_.2).bind fun b6_ => if b6_ = true then (laws_markGate.f k b2_.1 b2_.2 1).bind fun b7_ => if b7_.1 < 0 then none else (laws_markGate.f k b4_.1 b4_.2.1 1).bind fun b8_ => (laws_heldGate.f k b8_.2.1 b8_.2.2 1).bind fun b9_ => if b9_ = b8_.1 then if b9_ < 0 then none else some true else none else none else none else none
theorem laws_FnExactCancelTruck.mono : ∀ a0 a1 a2 k,LeO (laws_FnExactCancelTruck.f k a0 a1 a2) (laws_FnExactCancelTruck.f (k + 1) a0 a1 a2):=by
 intro a0 a1 a2 k
 unfold laws_FnExactCancelTruck.f
 repeat' first
  | (with_reducible exact laws_szGate.mono _ _ _ _)
  | (with_reducible exact spec_CancelTruck.mono _ _ _ _)
  | (with_reducible exact laws_toGate.mono _ _ _)
  | (with_reducible exact impl_CancelTruck.mono _ _ _ _)
  | (with_reducible exact laws_eqGate.mono _ _ _ _ _)
  | (with_reducible exact laws_markGate.mono _ _ _ _)
  | (with_reducible exact laws_heldGate.mono _ _ _ _)
  | (with_reducible exact LeO.refl _)
  | (with_reducible exact LeO.none _)
  | (with_reducible refine LeO.ite ?_ ?_)
  | (with_reducible refine LeO.bind ?_ (fun _ => ?_))
set_option maxHeartbeats 60000000 in
set_option maxRecDepth 100000 in
theorem laws_FnExactCancelTruck.walk (k : Nat) (A0_0 : Option Addr) (c0_0 : Nat) (l0_0 : List Int) (A0_1 : Option Addr) (c0_1 : Nat) (l0_1 : List (List Int)) (a1 : Int) (t8 : Int) (c15 : List Int) (s16 : List (List Int)) (c30 : List Int) (s31 : List (List Int)) (b29 : Bool) (c105 : List Int) (s106 : List (List Int)) (m238 : Int) (c239 : List Int) (s240 : List (List Int)) (m276 : Int) (c277 : List Int) (s278 : List (List Int)) (w : World) (hr0_0 : Kd.C (Kd.int .i64) w A0_0 l0_0.length l0_0) (hc0_0 : l0_0.length ≤ c0_0) (hr0_1 : Kd.C (Kd.slice 3 (Kd.int .i64)) w A0_1 l0_1.length l0_1) (hc0_1 : l0_1.length ≤ c0_1) (E9 : laws_szGate.f k l0_0 l0_1 1048576 = some t8) (E17 : laws_toGate.f k l0_0 l0_1 = some (c15,s16)) (E32 : spec_CancelTruck.f k c15 s16 a1 = some (c30,s31,b29)) (E107 : impl_CancelTruck.f k c15 s16 a1 = some (c105,s106,b29)) (E162 : laws_eqGate.f k c105 s106 c30 s31 = some true) (E204 : laws_eqGate.f k c15 s16 c15 s16 = some true) (E241 : laws_markGate.f k c15 s16 1 = some (m238,c239,s240)) (E279 : laws_markGate.f k c105 s106 1 = some (m276,c277,s278)) (E297 : laws_heldGate.f k c277 s278 1 = some m276) (g0_ : ¬ t8 < 0) (g6_ : ¬ m238 < 0) (g8_ : ¬ m276 < 0) :
  Calls Try.prog 3 #[.agg #[.slice A0_0 l0_0.length c0_0, .slice A0_1 l0_1.length c0_1], .int .i64 a1] w fun e w' => e = .returned (.bool true) ∧ Below w.heap.size w w':=by
 have hu25:=Try.underlying25
 have hu27:=Try.underlying27
 have HR0_0:=Aside0.mk hr0_0
 have HC0_0:=Aside0.mk hc0_0
 have HR0_1:=Aside0.mk hr0_1
 have HC0_1:=Aside0.mk hc0_1
 clear hr0_0 hc0_0 hr0_1 hc0_1
 have HI:=Aside0.mk (Inv.start w)
 have n0_:=Aside0.mk E9
 clear E9
 have E9:=n0_
 clear n0_
 have n0_:=Aside0.mk E17
 clear E17
 have E17:=n0_
 clear n0_
 have n0_:=Aside0.mk E32
 clear E32
 have E32:=n0_
 clear n0_
 have n0_:=Aside0.mk E107
 clear E107
 have E107:=n0_
 clear n0_
 have n0_:=Aside0.mk E162
 clear E162
 have E162:=n0_
 clear n0_
 have n0_:=Aside0.mk E204
 clear E204
 have E204:=n0_
 clear n0_
 have n0_:=Aside0.mk E241
 clear E241
 have E241:=n0_
 clear n0_
 have n0_:=Aside0.mk E279
 clear E279
 have E279:=n0_
 clear n0_
 have n0_:=Aside0.mk E297
 clear E297
 have E297:=n0_
 clear n0_
 have g0_b : decide (t8 < 0) = false:=decide_eq_false g0_
 clear g0_
 have g6_b : decide (m238 < 0) = false:=decide_eq_false g6_
 clear g6_
 have g8_b : decide (m276 < 0) = false:=decide_eq_false g8_
 clear g8_
 go_enter Try.func3,Try.ntmps3
 try go_wp2_with (first | ((with_reducible refine gate_dst (N:=2) rfl ?_);refine box_event ?hg (N:=2) ?hd (cs:=#[.slice A0_0 l0_0.length c0_0, .slice A0_1 l0_1.length c0_1]) (t:=25) ?hr ?_;(case hd => rfl);(case hg => rfl);(case hr => first | (go_simp;done) | (go_simp;rfl));intro gb1 hg w2 hbox hb;have n0_:=Aside0.mk (Inv.box (by first | exact HI.out | exact HI.out.drewN _ | exact HI.out.drew) hb hbox hg);clear HI hb hbox hg;have HI:=n0_;clear n0_;have hq3 : w2.cell? ⟨gb1,0,none⟩ = some (.slice A0_0 l0_0.length c0_0):=HI.out.cell 0 rfl 0 rfl;have hf4 : w2.frozen? ⟨gb1,0,none⟩ = false:=HI.out.frozen 0 rfl 0;have hq5 : w2.cell? ⟨gb1,1,none⟩ = some (.slice A0_1 l0_1.length c0_1):=HI.out.cell 0 rfl 1 rfl;have hf6 : w2.frozen? ⟨gb1,1,none⟩ = false:=HI.out.frozen 0 rfl 1) | ((with_reducible refine gate_dst (N:=18) rfl ?_);(with_reducible refine gate_callee (f:=8) rfl ?_);refine goesL_ (some 18) rfl rfl Try.func8 (by kernel_rfl) rfl #[.agg #[.slice A0_0 l0_0.length c0_0, .slice A0_1 l0_1.length c0_1], .int .i64 1048576] rfl (by (try simp only [List.map_toArray,List.map_cons,List.map_nil]);first | done | rfl) ?_;(refine (laws_szGate.calls k _ _ l0_0 _ _ l0_1 1048576 t8 _ ?s0 ?s1 ?s2 ?s3 E9.out).mono ?_);(case s0 => repeat (first | exact (Kd.C_below HR0_0.out HI.out.below) | (with_reducible refine Kd.C_alloc ?_ _) | (with_reducible refine Kd.C_drewN ?_ _) | (with_reducible refine Kd.C_drew ?_)));(case s1 => exact HC0_0.out);(case s2 => repeat (first | exact (Kd.C_below HR0_1.out HI.out.below) | (with_reducible refine Kd.C_alloc ?_ _) | (with_reducible refine Kd.C_drewN ?_ _) | (with_reducible refine Kd.C_drew ?_)));(case s3 => exact HC0_1.out);rintro e w7 ⟨rfl,hb⟩;refine ⟨_,rfl, ?_⟩;have n0_:=Aside0.mk (Inv.step (by first | exact HI.out | exact HI.out.drewN _ | exact HI.out.drew) hb);clear HI hb;have HI:=n0_;clear n0_;clear hq3 hf4 hq5 hf6;have hq10 : w7.cell? ⟨gb1,0,none⟩ = some (.slice A0_0 l0_0.length c0_0):=HI.out.cell 0 rfl 0 rfl;have hf11 : w7.frozen? ⟨gb1,0,none⟩ = false:=HI.out.frozen 0 rfl 0;have hq12 : w7.cell? ⟨gb1,1,none⟩ = some (.slice A0_1 l0_1.length c0_1):=HI.out.cell 0 rfl 1 rfl;have hf13 : w7.frozen? ⟨gb1,1,none⟩ = false:=HI.out.frozen 0 rfl 1) | ((with_reducible refine gate_dst (N:=23) rfl ?_);(with_reducible refine gate_callee (f:=10) rfl ?_);refine goesL_ (some 23) rfl rfl Try.func10 (by kernel_rfl) rfl #[.agg #[.slice A0_0 l0_0.length c0_0, .slice A0_1 l0_1.length c0_1]] rfl (by (try simp only [List.map_toArray,List.map_cons,List.map_nil]);first | done | rfl) ?_;(refine (laws_toGate.calls k _ _ l0_0 _ _ l0_1 c15 s16 _ ?s0 ?s1 ?s2 ?s3 E17.out).mono ?_);(case s0 => repeat (first | exact (Kd.C_below HR0_0.out HI.out.below) | (with_reducible refine Kd.C_alloc ?_ _) | (with_reducible refine Kd.C_drewN ?_ _) | (with_reducible refine Kd.C_drew ?_)));(case s1 => exact HC0_0.out);(case s2 => repeat (first | exact (Kd.C_below HR0_1.out HI.out.below) | (with_reducible refine Kd.C_alloc ?_ _) | (with_reducible refine Kd.C_drewN ?_ _) | (with_reducible refine Kd.C_drew ?_)));(case s3 => exact HC0_1.out);rintro e w14 ⟨v0_,v1_,rfl,ho0,ho1,hb⟩;refine ⟨_,rfl, ?_⟩;obtain ⟨A18,p21,rfl⟩ := Kd.R_slice ho0;obtain ⟨A19,p22,rfl⟩ := Kd.S_slice ho1;have n0_:=Aside0.mk (Inv.gate (by first | exact HI.out | exact HI.out.drewN _ | exact HI.out.drew) hb ho0 ho1 (fun k hk => hk));clear HI hb ho0 ho1;have HI:=n0_;clear n0_;clear hq10 hf11 hq12 hf13;have hq24 : w14.cell? ⟨gb1,0,none⟩ = some (.slice A0_0 l0_0.length c0_0):=HI.out.cell 1 rfl 0 rfl;have hf25 : w14.frozen? ⟨gb1,0,none⟩ = false:=HI.out.frozen 1 rfl 0;have hq26 : w14.cell? ⟨gb1,1,none⟩ = some (.slice A0_1 l0_1.length c0_1):=HI.out.cell 1 rfl 1 rfl;have hf27 : w14.frozen? ⟨gb1,1,none⟩ = false:=HI.out.frozen 1 rfl 1) | ((with_reducible refine gate_dst (N:=25) rfl ?_);(with_reducible refine gate_callee (f:=9) rfl ?_);refine goesL_ (some 25) rfl rfl Try.func9 (by kernel_rfl) rfl #[.agg #[.slice A18 c15.length p21, .slice A19 s16.length p22], .int .i64 a1] rfl (by (try simp only [List.map_toArray,List.map_cons,List.map_nil]);first | done | rfl) ?_;(refine (spec_CancelTruck.calls k _ _ c15 _ _ s16 a1 c30 s31 b29 _ ?s0 ?s1 ?s2 ?s3 E32.out).mono ?_);(case s0 => first | exact HI.out.c0 0 rfl | exact (HI.out.drewN _).c0 0 rfl | exact HI.out.drew.c0 0 rfl);(case s1 => first | exact HI.out.n0 0 rfl | exact (HI.out.drewN _).n0 0 rfl | exact HI.out.drew.n0 0 rfl);(case s2 => first | exact HI.out.c1 0 rfl | exact (HI.out.drewN _).c1 0 rfl | exact HI.out.drew.c1 0 rfl);(case s3 => first | exact HI.out.n1 0 rfl | exact (HI.out.drewN _).n1 0 rfl | exact HI.out.drew.n1 0 rfl);rintro e w28 ⟨v0_,v1_,rfl,ho0,ho1,hb⟩;refine ⟨_,rfl, ?_⟩;obtain ⟨A33,p36,rfl⟩ := Kd.R_slice ho0;obtain ⟨A34,p37,rfl⟩ := Kd.S_slice ho1;have n0_:=Aside0.mk (Inv.gate (by first | exact HI.out | exact HI.out.drewN _ | exact HI.out.drew) hb ho0 ho1 (fun k hk => hk));clear HI hb ho0 ho1;have HI:=n0_;clear n0_;clear hq24 hf25 hq26 hf27;have hq39 : w28.cell? ⟨gb1,0,none⟩ = some (.slice A0_0 l0_0.length c0_0):=HI.out.cell 2 rfl 0 rfl;have hf40 : w28.frozen? ⟨gb1,0,none⟩ = false:=HI.out.frozen 2 rfl 0;have hq41 : w28.cell? ⟨gb1,1,none⟩ = some (.slice A0_1 l0_1.length c0_1):=HI.out.cell 2 rfl 1 rfl;have hf42 : w28.frozen? ⟨gb1,1,none⟩ = false:=HI.out.frozen 2 rfl 1) | ((with_reducible refine gate_dst (N:=6) rfl ?_);refine box_event ?hg (N:=6) ?hd (cs:=#[.slice none 0 0, .slice none 0 0]) (t:=27) ?hr ?_;(case hd => rfl);(case hg => rfl);(case hr => first | (go_simp;done) | (go_simp;rfl));intro gb43 hg w44 hbox hb;have n0_:=Aside0.mk (Inv.box (by first | exact HI.out | exact HI.out.drewN _ | exact HI.out.drew) hb hbox hg);clear HI hb hbox hg;have HI:=n0_;clear n0_;clear hq39 hf40 hq41 hf42;have hq45 : w44.cell? ⟨gb43,0,none⟩ = some (.slice none 0 0):=HI.out.cell 0 rfl 0 rfl;have hf46 : w44.frozen? ⟨gb43,0,none⟩ = false:=HI.out.frozen 0 rfl 0;have hq47 : w44.cell? ⟨gb43,1,none⟩ = some (.slice none 0 0):=HI.out.cell 0 rfl 1 rfl;have hf48 : w44.frozen? ⟨gb43,1,none⟩ = false:=HI.out.frozen 0 rfl 1;have hq49 : w44.cell? ⟨gb1,0,none⟩ = some (.slice A0_0 l0_0.length c0_0):=HI.out.cell 3 rfl 0 rfl;have hf50 : w44.frozen? ⟨gb1,0,none⟩ = false:=HI.out.frozen 3 rfl 0;have hq51 : w44.cell? ⟨gb1,1,none⟩ = some (.slice A0_1 l0_1.length c0_1):=HI.out.cell 3 rfl 1 rfl;have hf52 : w44.frozen? ⟨gb1,1,none⟩ = false:=HI.out.frozen 3 rfl 1) | ((with_reducible refine gate_store (t:=27) (p:=6) rfl ?_);refine store_event (t:=27) (p:=6) (v:=?vo_w53) (w1:=((w44.setCell ⟨gb43,0,none⟩ (.slice A33 c30.length p36)).setCell ⟨gb43,1,none⟩ (.slice A34 s31.length p37))) ?hg ?ho ?hn ?hr ?_;(case ho => rfl);(case hg => rfl);(case hn => rfl);(case hr => first | (go_simp;done) | (go_simp;rfl));intro w53 hw;have n0_:=Aside0.mk (Inv.put2 HI.out hw);clear HI hw;have HI:=n0_;clear n0_;clear hq45 hf46 hq47 hf48 hq49 hf50 hq51 hf52;have hq54 : w53.cell? ⟨gb43,0,none⟩ = some (.slice A33 c30.length p36):=HI.out.cell 0 rfl 0 rfl;have hf55 : w53.frozen? ⟨gb43,0,none⟩ = false:=HI.out.frozen 0 rfl 0;have hq56 : w53.cell? ⟨gb43,1,none⟩ = some (.slice A34 s31.length p37):=HI.out.cell 0 rfl 1 rfl;have hf57 : w53.frozen? ⟨gb43,1,none⟩ = false:=HI.out.frozen 0 rfl 1;have hq58 : w53.cell? ⟨gb1,0,none⟩ = some (.slice A0_0 l0_0.length c0_0):=HI.out.cell 3 rfl 0 rfl;have hf59 : w53.frozen? ⟨gb1,0,none⟩ = false:=HI.out.frozen 3 rfl 0;have hq60 : w53.cell? ⟨gb1,1,none⟩ = some (.slice A0_1 l0_1.length c0_1):=HI.out.cell 3 rfl 1 rfl;have hf61 : w53.frozen? ⟨gb1,1,none⟩ = false:=HI.out.frozen 3 rfl 1) | ((with_reducible refine gate_dst (N:=29) rfl ?_);(with_reducible refine gate_callee (f:=10) rfl ?_);refine goesL_ (some 29) rfl rfl Try.func10 (by kernel_rfl) rfl #[.agg #[.slice A0_0 l0_0.length c0_0, .slice A0_1 l0_1.length c0_1]] rfl (by (try simp only [List.map_toArray,List.map_cons,List.map_nil]);first | done | rfl) ?_;(refine (laws_toGate.calls k _ _ l0_0 _ _ l0_1 c15 s16 _ ?s0 ?s1 ?s2 ?s3 E17.out).mono ?_);(case s0 => repeat (first | exact (Kd.C_below HR0_0.out HI.out.below) | (with_reducible refine Kd.C_alloc ?_ _) | (with_reducible refine Kd.C_drewN ?_ _) | (with_reducible refine Kd.C_drew ?_)));(case s1 => exact HC0_0.out);(case s2 => repeat (first | exact (Kd.C_below HR0_1.out HI.out.below) | (with_reducible refine Kd.C_alloc ?_ _) | (with_reducible refine Kd.C_drewN ?_ _) | (with_reducible refine Kd.C_drew ?_)));(case s3 => exact HC0_1.out);rintro e w62 ⟨v0_,v1_,rfl,ho0,ho1,hb⟩;refine ⟨_,rfl, ?_⟩;obtain ⟨A63,p66,rfl⟩ := Kd.R_slice ho0;obtain ⟨A64,p67,rfl⟩ := Kd.S_slice ho1;have n0_:=Aside0.mk (Inv.gate (by first | exact HI.out | exact HI.out.drewN _ | exact HI.out.drew) hb ho0 ho1 (fun k hk => hk));clear HI hb ho0 ho1;have HI:=n0_;clear n0_;clear hq54 hf55 hq56 hf57 hq58 hf59 hq60 hf61;have hq69 : w62.cell? ⟨gb43,0,none⟩ = some (.slice A33 c30.length p36):=HI.out.cell 1 rfl 0 rfl;have hf70 : w62.frozen? ⟨gb43,0,none⟩ = false:=HI.out.frozen 1 rfl 0;have hq71 : w62.cell? ⟨gb43,1,none⟩ = some (.slice A34 s31.length p37):=HI.out.cell 1 rfl 1 rfl;have hf72 : w62.frozen? ⟨gb43,1,none⟩ = false:=HI.out.frozen 1 rfl 1;have hq73 : w62.cell? ⟨gb1,0,none⟩ = some (.slice A0_0 l0_0.length c0_0):=HI.out.cell 4 rfl 0 rfl;have hf74 : w62.frozen? ⟨gb1,0,none⟩ = false:=HI.out.frozen 4 rfl 0;have hq75 : w62.cell? ⟨gb1,1,none⟩ = some (.slice A0_1 l0_1.length c0_1):=HI.out.cell 4 rfl 1 rfl;have hf76 : w62.frozen? ⟨gb1,1,none⟩ = false:=HI.out.frozen 4 rfl 1) | ((with_reducible refine gate_dst (N:=8) rfl ?_);refine box_event ?hg (N:=8) ?hd (cs:=#[.slice none 0 0, .slice none 0 0]) (t:=27) ?hr ?_;(case hd => rfl);(case hg => rfl);(case hr => first | (go_simp;done) | (go_simp;rfl));intro gb77 hg w78 hbox hb;have n0_:=Aside0.mk (Inv.box (by first | exact HI.out | exact HI.out.drewN _ | exact HI.out.drew) hb hbox hg);clear HI hb hbox hg;have HI:=n0_;clear n0_;clear hq69 hf70 hq71 hf72 hq73 hf74 hq75 hf76;have hq79 : w78.cell? ⟨gb77,0,none⟩ = some (.slice none 0 0):=HI.out.cell 0 rfl 0 rfl;have hf80 : w78.frozen? ⟨gb77,0,none⟩ = false:=HI.out.frozen 0 rfl 0;have hq81 : w78.cell? ⟨gb77,1,none⟩ = some (.slice none 0 0):=HI.out.cell 0 rfl 1 rfl;have hf82 : w78.frozen? ⟨gb77,1,none⟩ = false:=HI.out.frozen 0 rfl 1;have hq83 : w78.cell? ⟨gb43,0,none⟩ = some (.slice A33 c30.length p36):=HI.out.cell 2 rfl 0 rfl;have hf84 : w78.frozen? ⟨gb43,0,none⟩ = false:=HI.out.frozen 2 rfl 0;have hq85 : w78.cell? ⟨gb43,1,none⟩ = some (.slice A34 s31.length p37):=HI.out.cell 2 rfl 1 rfl;have hf86 : w78.frozen? ⟨gb43,1,none⟩ = false:=HI.out.frozen 2 rfl 1;have hq87 : w78.cell? ⟨gb1,0,none⟩ = some (.slice A0_0 l0_0.length c0_0):=HI.out.cell 5 rfl 0 rfl;have hf88 : w78.frozen? ⟨gb1,0,none⟩ = false:=HI.out.frozen 5 rfl 0;have hq89 : w78.cell? ⟨gb1,1,none⟩ = some (.slice A0_1 l0_1.length c0_1):=HI.out.cell 5 rfl 1 rfl;have hf90 : w78.frozen? ⟨gb1,1,none⟩ = false:=HI.out.frozen 5 rfl 1) | ((with_reducible refine gate_store (t:=27) (p:=8) rfl ?_);refine store_event (t:=27) (p:=8) (v:=?vo_w91) (w1:=((w78.setCell ⟨gb77,0,none⟩ (.slice A63 c15.length p66)).setCell ⟨gb77,1,none⟩ (.slice A64 s16.length p67))) ?hg ?ho ?hn ?hr ?_;(case ho => rfl);(case hg => rfl);(case hn => rfl);(case hr => first | (go_simp;done) | (go_simp;rfl));intro w91 hw;have n0_:=Aside0.mk (Inv.put2 HI.out hw);clear HI hw;have HI:=n0_;clear n0_;clear hq79 hf80 hq81 hf82 hq83 hf84 hq85 hf86 hq87 hf88 hq89 hf90;have hq92 : w91.cell? ⟨gb77,0,none⟩ = some (.slice A63 c15.length p66):=HI.out.cell 0 rfl 0 rfl;have hf93 : w91.frozen? ⟨gb77,0,none⟩ = false:=HI.out.frozen 0 rfl 0;have hq94 : w91.cell? ⟨gb77,1,none⟩ = some (.slice A64 s16.length p67):=HI.out.cell 0 rfl 1 rfl;have hf95 : w91.frozen? ⟨gb77,1,none⟩ = false:=HI.out.frozen 0 rfl 1;have hq96 : w91.cell? ⟨gb43,0,none⟩ = some (.slice A33 c30.length p36):=HI.out.cell 2 rfl 0 rfl;have hf97 : w91.frozen? ⟨gb43,0,none⟩ = false:=HI.out.frozen 2 rfl 0;have hq98 : w91.cell? ⟨gb43,1,none⟩ = some (.slice A34 s31.length p37):=HI.out.cell 2 rfl 1 rfl;have hf99 : w91.frozen? ⟨gb43,1,none⟩ = false:=HI.out.frozen 2 rfl 1;have hq100 : w91.cell? ⟨gb1,0,none⟩ = some (.slice A0_0 l0_0.length c0_0):=HI.out.cell 5 rfl 0 rfl;have hf101 : w91.frozen? ⟨gb1,0,none⟩ = false:=HI.out.frozen 5 rfl 0;have hq102 : w91.cell? ⟨gb1,1,none⟩ = some (.slice A0_1 l0_1.length c0_1):=HI.out.cell 5 rfl 1 rfl;have hf103 : w91.frozen? ⟨gb1,1,none⟩ = false:=HI.out.frozen 5 rfl 1) | ((with_reducible refine gate_dst (N:=33) rfl ?_);(with_reducible refine gate_callee (f:=11) rfl ?_);refine goesL_ (some 33) rfl rfl Try.func11 (by kernel_rfl) rfl #[.agg #[.slice A63 c15.length p66, .slice A64 s16.length p67], .int .i64 a1] rfl (by (try simp only [List.map_toArray,List.map_cons,List.map_nil]);first | done | rfl) ?_;(refine (impl_CancelTruck.calls k _ _ c15 _ _ s16 a1 c105 s106 b29 _ ?s0 ?s1 ?s2 ?s3 E107.out).mono ?_);(case s0 => first | exact HI.out.c0 1 rfl | exact (HI.out.drewN _).c0 1 rfl | exact HI.out.drew.c0 1 rfl);(case s1 => first | exact HI.out.n0 1 rfl | exact (HI.out.drewN _).n0 1 rfl | exact HI.out.drew.n0 1 rfl);(case s2 => first | exact HI.out.c1 1 rfl | exact (HI.out.drewN _).c1 1 rfl | exact HI.out.drew.c1 1 rfl);(case s3 => first | exact HI.out.n1 1 rfl | exact (HI.out.drewN _).n1 1 rfl | exact HI.out.drew.n1 1 rfl);rintro e w104 ⟨v0_,v1_,rfl,ho0,ho1,hb⟩;refine ⟨_,rfl, ?_⟩;obtain ⟨A108,p111,rfl⟩ := Kd.R_slice ho0;obtain ⟨A109,p112,rfl⟩ := Kd.S_slice ho1;have n0_:=Aside0.mk (Inv.gate (by first | exact HI.out | exact HI.out.drewN _ | exact HI.out.drew) hb ho0 ho1 (fun k hk => hk));clear HI hb ho0 ho1;have HI:=n0_;clear n0_;clear hq92 hf93 hq94 hf95 hq96 hf97 hq98 hf99 hq100 hf101 hq102 hf103;have hq114 : w104.cell? ⟨gb77,0,none⟩ = some (.slice A63 c15.length p66):=HI.out.cell 1 rfl 0 rfl;have hf115 : w104.frozen? ⟨gb77,0,none⟩ = false:=HI.out.frozen 1 rfl 0;have hq116 : w104.cell? ⟨gb77,1,none⟩ = some (.slice A64 s16.length p67):=HI.out.cell 1 rfl 1 rfl;have hf117 : w104.frozen? ⟨gb77,1,none⟩ = false:=HI.out.frozen 1 rfl 1;have hq118 : w104.cell? ⟨gb43,0,none⟩ = some (.slice A33 c30.length p36):=HI.out.cell 3 rfl 0 rfl;have hf119 : w104.frozen? ⟨gb43,0,none⟩ = false:=HI.out.frozen 3 rfl 0;have hq120 : w104.cell? ⟨gb43,1,none⟩ = some (.slice A34 s31.length p37):=HI.out.cell 3 rfl 1 rfl;have hf121 : w104.frozen? ⟨gb43,1,none⟩ = false:=HI.out.frozen 3 rfl 1;have hq122 : w104.cell? ⟨gb1,0,none⟩ = some (.slice A0_0 l0_0.length c0_0):=HI.out.cell 6 rfl 0 rfl;have hf123 : w104.frozen? ⟨gb1,0,none⟩ = false:=HI.out.frozen 6 rfl 0;have hq124 : w104.cell? ⟨gb1,1,none⟩ = some (.slice A0_1 l0_1.length c0_1):=HI.out.cell 6 rfl 1 rfl;have hf125 : w104.frozen? ⟨gb1,1,none⟩ = false:=HI.out.frozen 6 rfl 1) | ((with_reducible refine gate_dst (N:=9) rfl ?_);refine box_event ?hg (N:=9) ?hd (cs:=#[.slice none 0 0, .slice none 0 0]) (t:=27) ?hr ?_;(case hd => rfl);(case hg => rfl);(case hr => first | (go_simp;done) | (go_simp;rfl));intro gb126 hg w127 hbox hb;have n0_:=Aside0.mk (Inv.box (by first | exact HI.out | exact HI.out.drewN _ | exact HI.out.drew) hb hbox hg);clear HI hb hbox hg;have HI:=n0_;clear n0_;clear hq114 hf115 hq116 hf117 hq118 hf119 hq120 hf121 hq122 hf123 hq124 hf125;have hq128 : w127.cell? ⟨gb126,0,none⟩ = some (.slice none 0 0):=HI.out.cell 0 rfl 0 rfl;have hf129 : w127.frozen? ⟨gb126,0,none⟩ = false:=HI.out.frozen 0 rfl 0;have hq130 : w127.cell? ⟨gb126,1,none⟩ = some (.slice none 0 0):=HI.out.cell 0 rfl 1 rfl;have hf131 : w127.frozen? ⟨gb126,1,none⟩ = false:=HI.out.frozen 0 rfl 1;have hq132 : w127.cell? ⟨gb77,0,none⟩ = some (.slice A63 c15.length p66):=HI.out.cell 2 rfl 0 rfl;have hf133 : w127.frozen? ⟨gb77,0,none⟩ = false:=HI.out.frozen 2 rfl 0;have hq134 : w127.cell? ⟨gb77,1,none⟩ = some (.slice A64 s16.length p67):=HI.out.cell 2 rfl 1 rfl;have hf135 : w127.frozen? ⟨gb77,1,none⟩ = false:=HI.out.frozen 2 rfl 1;have hq136 : w127.cell? ⟨gb43,0,none⟩ = some (.slice A33 c30.length p36):=HI.out.cell 4 rfl 0 rfl;have hf137 : w127.frozen? ⟨gb43,0,none⟩ = false:=HI.out.frozen 4 rfl 0;have hq138 : w127.cell? ⟨gb43,1,none⟩ = some (.slice A34 s31.length p37):=HI.out.cell 4 rfl 1 rfl;have hf139 : w127.frozen? ⟨gb43,1,none⟩ = false:=HI.out.frozen 4 rfl 1;have hq140 : w127.cell? ⟨gb1,0,none⟩ = some (.slice A0_0 l0_0.length c0_0):=HI.out.cell 7 rfl 0 rfl;have hf141 : w127.frozen? ⟨gb1,0,none⟩ = false:=HI.out.frozen 7 rfl 0;have hq142 : w127.cell? ⟨gb1,1,none⟩ = some (.slice A0_1 l0_1.length c0_1):=HI.out.cell 7 rfl 1 rfl;have hf143 : w127.frozen? ⟨gb1,1,none⟩ = false:=HI.out.frozen 7 rfl 1) | ((with_reducible refine gate_store (t:=27) (p:=9) rfl ?_);refine store_event (t:=27) (p:=9) (v:=?vo_w144) (w1:=((w127.setCell ⟨gb126,0,none⟩ (.slice A108 c105.length p111)).setCell ⟨gb126,1,none⟩ (.slice A109 s106.length p112))) ?hg ?ho ?hn ?hr ?_;(case ho => rfl);(case hg => rfl);(case hn => rfl);(case hr => first | (go_simp;done) | (go_simp;rfl));intro w144 hw;have n0_:=Aside0.mk (Inv.put2 HI.out hw);clear HI hw;have HI:=n0_;clear n0_;clear hq128 hf129 hq130 hf131 hq132 hf133 hq134 hf135 hq136 hf137 hq138 hf139 hq140 hf141 hq142 hf143;have hq145 : w144.cell? ⟨gb126,0,none⟩ = some (.slice A108 c105.length p111):=HI.out.cell 0 rfl 0 rfl;have hf146 : w144.frozen? ⟨gb126,0,none⟩ = false:=HI.out.frozen 0 rfl 0;have hq147 : w144.cell? ⟨gb126,1,none⟩ = some (.slice A109 s106.length p112):=HI.out.cell 0 rfl 1 rfl;have hf148 : w144.frozen? ⟨gb126,1,none⟩ = false:=HI.out.frozen 0 rfl 1;have hq149 : w144.cell? ⟨gb77,0,none⟩ = some (.slice A63 c15.length p66):=HI.out.cell 2 rfl 0 rfl;have hf150 : w144.frozen? ⟨gb77,0,none⟩ = false:=HI.out.frozen 2 rfl 0;have hq151 : w144.cell? ⟨gb77,1,none⟩ = some (.slice A64 s16.length p67):=HI.out.cell 2 rfl 1 rfl;have hf152 : w144.frozen? ⟨gb77,1,none⟩ = false:=HI.out.frozen 2 rfl 1;have hq153 : w144.cell? ⟨gb43,0,none⟩ = some (.slice A33 c30.length p36):=HI.out.cell 4 rfl 0 rfl;have hf154 : w144.frozen? ⟨gb43,0,none⟩ = false:=HI.out.frozen 4 rfl 0;have hq155 : w144.cell? ⟨gb43,1,none⟩ = some (.slice A34 s31.length p37):=HI.out.cell 4 rfl 1 rfl;have hf156 : w144.frozen? ⟨gb43,1,none⟩ = false:=HI.out.frozen 4 rfl 1;have hq157 : w144.cell? ⟨gb1,0,none⟩ = some (.slice A0_0 l0_0.length c0_0):=HI.out.cell 7 rfl 0 rfl;have hf158 : w144.frozen? ⟨gb1,0,none⟩ = false:=HI.out.frozen 7 rfl 0;have hq159 : w144.cell? ⟨gb1,1,none⟩ = some (.slice A0_1 l0_1.length c0_1):=HI.out.cell 7 rfl 1 rfl;have hf160 : w144.frozen? ⟨gb1,1,none⟩ = false:=HI.out.frozen 7 rfl 1) | ((with_reducible refine gate_dst (N:=38) rfl ?_);(with_reducible refine gate_callee (f:=12) rfl ?_);refine goesL_ (some 38) rfl rfl Try.func12 (by kernel_rfl) rfl #[.agg #[.slice A108 c105.length p111, .slice A109 s106.length p112], .agg #[.slice A33 c30.length p36, .slice A34 s31.length p37]] rfl (by (try simp only [List.map_toArray,List.map_cons,List.map_nil]);first | done | rfl) ?_;(refine (laws_eqGate.calls k _ _ c105 _ _ s106 _ _ c30 _ _ s31 true _ ?s0 ?s1 ?s2 ?s3 ?s4 ?s5 ?s6 ?s7 E162.out).mono ?_);(case s0 => first | exact HI.out.c0 1 rfl | exact (HI.out.drewN _).c0 1 rfl | exact HI.out.drew.c0 1 rfl);(case s1 => first | exact HI.out.n0 1 rfl | exact (HI.out.drewN _).n0 1 rfl | exact HI.out.drew.n0 1 rfl);(case s2 => first | exact HI.out.c1 1 rfl | exact (HI.out.drewN _).c1 1 rfl | exact HI.out.drew.c1 1 rfl);(case s3 => first | exact HI.out.n1 1 rfl | exact (HI.out.drewN _).n1 1 rfl | exact HI.out.drew.n1 1 rfl);(case s4 => first | exact HI.out.c0 5 rfl | exact (HI.out.drewN _).c0 5 rfl | exact HI.out.drew.c0 5 rfl);(case s5 => first | exact HI.out.n0 5 rfl | exact (HI.out.drewN _).n0 5 rfl | exact HI.out.drew.n0 5 rfl);(case s6 => first | exact HI.out.c1 5 rfl | exact (HI.out.drewN _).c1 5 rfl | exact HI.out.drew.c1 5 rfl);(case s7 => first | exact HI.out.n1 5 rfl | exact (HI.out.drewN _).n1 5 rfl | exact HI.out.drew.n1 5 rfl);rintro e w161 ⟨rfl,hb⟩;refine ⟨_,rfl, ?_⟩;have n0_:=Aside0.mk (Inv.step (by first | exact HI.out | exact HI.out.drewN _ | exact HI.out.drew) hb);clear HI hb;have HI:=n0_;clear n0_;clear hq145 hf146 hq147 hf148 hq149 hf150 hq151 hf152 hq153 hf154 hq155 hf156 hq157 hf158 hq159 hf160;have hq163 : w161.cell? ⟨gb126,0,none⟩ = some (.slice A108 c105.length p111):=HI.out.cell 0 rfl 0 rfl;have hf164 : w161.frozen? ⟨gb126,0,none⟩ = false:=HI.out.frozen 0 rfl 0;have hq165 : w161.cell? ⟨gb126,1,none⟩ = some (.slice A109 s106.length p112):=HI.out.cell 0 rfl 1 rfl;have hf166 : w161.frozen? ⟨gb126,1,none⟩ = false:=HI.out.frozen 0 rfl 1;have hq167 : w161.cell? ⟨gb77,0,none⟩ = some (.slice A63 c15.length p66):=HI.out.cell 2 rfl 0 rfl;have hf168 : w161.frozen? ⟨gb77,0,none⟩ = false:=HI.out.frozen 2 rfl 0;have hq169 : w161.cell? ⟨gb77,1,none⟩ = some (.slice A64 s16.length p67):=HI.out.cell 2 rfl 1 rfl;have hf170 : w161.frozen? ⟨gb77,1,none⟩ = false:=HI.out.frozen 2 rfl 1;have hq171 : w161.cell? ⟨gb43,0,none⟩ = some (.slice A33 c30.length p36):=HI.out.cell 4 rfl 0 rfl;have hf172 : w161.frozen? ⟨gb43,0,none⟩ = false:=HI.out.frozen 4 rfl 0;have hq173 : w161.cell? ⟨gb43,1,none⟩ = some (.slice A34 s31.length p37):=HI.out.cell 4 rfl 1 rfl;have hf174 : w161.frozen? ⟨gb43,1,none⟩ = false:=HI.out.frozen 4 rfl 1;have hq175 : w161.cell? ⟨gb1,0,none⟩ = some (.slice A0_0 l0_0.length c0_0):=HI.out.cell 7 rfl 0 rfl;have hf176 : w161.frozen? ⟨gb1,0,none⟩ = false:=HI.out.frozen 7 rfl 0;have hq177 : w161.cell? ⟨gb1,1,none⟩ = some (.slice A0_1 l0_1.length c0_1):=HI.out.cell 7 rfl 1 rfl;have hf178 : w161.frozen? ⟨gb1,1,none⟩ = false:=HI.out.frozen 7 rfl 1))
 clear hq163 hf164 hq165 hf166 hq167 hf168 hq169 hf170 hq171 hf172 hq173 hf174 hq175 hf176 hq177 hf178
 have n0_:=Aside0.mk HI.out.drew
 clear HI
 have HI:=n0_
 clear n0_
 refine start_ (n:=5) (S:=fun w' => w'.cell? ⟨gb77,0,none⟩ = some (.slice A63 c15.length p66) ∧ w'.cell? ⟨gb77,1,none⟩ = some (.slice A64 s16.length p67) ∧ w'.cell? ⟨gb1,0,none⟩ = some (.slice A0_0 l0_0.length c0_0) ∧ w'.cell? ⟨gb1,1,none⟩ = some (.slice A0_1 l0_1.length c0_1)) (ds := []) #[false,false,false,false,false] (by kernel_rfl) rfl rfl ⟨HI.out.cell 2 rfl 0 rfl,HI.out.cell 2 rfl 1 rfl,HI.out.cell 7 rfl 0 rfl,HI.out.cell 7 rfl 1 rfl⟩ (fun hHeld => ?_)
 generalize w161.drew = w179 at HI hHeld ⊢
 refine take_ (i:=0) (N:=some 45) (v:=?_) (a':=?_) #[true,false,false,false,false] rfl rfl (by kernel_rfl) (fun _ _ _ h => h) (Or.inl ⟨by rfl, ?_⟩) hHeld ?_ ?_
 rotate_left
 ·rintro w' ⟨s0,s1,s2,s3⟩
  go_simp
  with_reducible rfl
 rotate_left
 ·simp only [Act.put,sA_,s0_,s1_,i64_w,i32_w]
  rfl
 refine take_ (i:=1) (N:=some 46) (v:=?_) (a':=?_) #[true,true,false,false,false] rfl rfl (by kernel_rfl) (fun _ _ _ h => h) (Or.inl ⟨by rfl, ?_⟩) hHeld ?_ ?_
 rotate_left
 ·rintro w' ⟨s0,s1,s2,s3⟩
  go_simp
  with_reducible rfl
 rotate_left
 ·simp only [Act.put,sA_,s0_,s1_,i64_w,i32_w]
  rfl
 refine one_ (i:=2) (N:=some 47) #[true,true,true,false,false] rfl rfl (by kernel_rfl) (by decide) (fun K hK => ?_)
 refine goes_ Try.func10 (by kernel_rfl) rfl #[.agg #[.slice A0_0 l0_0.length c0_0, .slice A0_1 l0_1.length c0_1]] (by rfl) rfl rfl (by (try simp only [List.map_toArray,List.map_cons,List.map_nil]);first | done | rfl) ?_
 (refine (laws_toGate.calls k _ _ l0_0 _ _ l0_1 c15 s16 _ ?s0 ?s1 ?s2 ?s3 E17.out).mono ?_)
 (case s0 => repeat (first | exact (Kd.C_below HR0_0.out HI.out.below) | (with_reducible refine Kd.C_alloc ?_ _) | (with_reducible refine Kd.C_drewN ?_ _) | (with_reducible refine Kd.C_drew ?_)))
 (case s1 => exact HC0_0.out)
 (case s2 => repeat (first | exact (Kd.C_below HR0_1.out HI.out.below) | (with_reducible refine Kd.C_alloc ?_ _) | (with_reducible refine Kd.C_drewN ?_ _) | (with_reducible refine Kd.C_drew ?_)))
 (case s3 => exact HC0_1.out)
 rintro e w180 ⟨v0_,v1_,rfl,ho0,ho1,hb⟩
 refine ⟨_,rfl, ?_⟩
 obtain ⟨A181,p184,rfl⟩ := Kd.R_slice ho0
 obtain ⟨A182,p185,rfl⟩ := Kd.S_slice ho1
 have n0_:=Aside0.mk (Inv.gate (by first | exact HI.out | exact HI.out.drewN _ | exact HI.out.drew) hb ho0 ho1 (fun k hk => hk))
 clear HI hb ho0 ho1
 have HI:=n0_
 clear n0_
 have hq187 : w180.cell? ⟨gb126,0,none⟩ = some (.slice A108 c105.length p111):=HI.out.cell 1 rfl 0 rfl
 have hf188 : w180.frozen? ⟨gb126,0,none⟩ = false:=HI.out.frozen 1 rfl 0
 have hq189 : w180.cell? ⟨gb126,1,none⟩ = some (.slice A109 s106.length p112):=HI.out.cell 1 rfl 1 rfl
 have hf190 : w180.frozen? ⟨gb126,1,none⟩ = false:=HI.out.frozen 1 rfl 1
 have hq191 : w180.cell? ⟨gb77,0,none⟩ = some (.slice A63 c15.length p66):=HI.out.cell 3 rfl 0 rfl
 have hf192 : w180.frozen? ⟨gb77,0,none⟩ = false:=HI.out.frozen 3 rfl 0
 have hq193 : w180.cell? ⟨gb77,1,none⟩ = some (.slice A64 s16.length p67):=HI.out.cell 3 rfl 1 rfl
 have hf194 : w180.frozen? ⟨gb77,1,none⟩ = false:=HI.out.frozen 3 rfl 1
 have hq195 : w180.cell? ⟨gb43,0,none⟩ = some (.slice A33 c30.length p36):=HI.out.cell 5 rfl 0 rfl
 have hf196 : w180.frozen? ⟨gb43,0,none⟩ = false:=HI.out.frozen 5 rfl 0
 have hq197 : w180.cell? ⟨gb43,1,none⟩ = some (.slice A34 s31.length p37):=HI.out.cell 5 rfl 1 rfl
 have hf198 : w180.frozen? ⟨gb43,1,none⟩ = false:=HI.out.frozen 5 rfl 1
 have hq199 : w180.cell? ⟨gb1,0,none⟩ = some (.slice A0_0 l0_0.length c0_0):=HI.out.cell 8 rfl 0 rfl
 have hf200 : w180.frozen? ⟨gb1,0,none⟩ = false:=HI.out.frozen 8 rfl 0
 have hq201 : w180.cell? ⟨gb1,1,none⟩ = some (.slice A0_1 l0_1.length c0_1):=HI.out.cell 8 rfl 1 rfl
 have hf202 : w180.frozen? ⟨gb1,1,none⟩ = false:=HI.out.frozen 8 rfl 1
 clear hq187 hf188 hq189 hf190 hq191 hf192 hq193 hf194 hq195 hf196 hq197 hf198 hq199 hf200 hq201 hf202
 refine hK.out _ _ ⟨HI.out.cell 3 rfl 0 rfl,HI.out.cell 3 rfl 1 rfl,HI.out.cell 8 rfl 0 rfl,HI.out.cell 8 rfl 1 rfl⟩ (fun hHeld => ?_)
 clear hK K
 refine norm_ (a':=?_) ?_ ?_
 rotate_left
 ·show Act.put _ (some 47) _ = _
  simp only [Act.put,sA_,s0_,s1_,i64_w,i32_w]
  rfl
 refine one_ (i:=3) (N:=some 48) #[true,true,true,true,false] rfl rfl (by kernel_rfl) (by decide) (fun K hK => ?_)
 refine goes_ Try.func12 (by kernel_rfl) rfl #[.agg #[.slice A63 c15.length p66, .slice A64 s16.length p67], .agg #[.slice A181 c15.length p184, .slice A182 s16.length p185]] (by rfl) rfl rfl (by (try simp only [List.map_toArray,List.map_cons,List.map_nil]);first | done | rfl) ?_
 (refine (laws_eqGate.calls k _ _ c15 _ _ s16 _ _ c15 _ _ s16 true _ ?s0 ?s1 ?s2 ?s3 ?s4 ?s5 ?s6 ?s7 E204.out).mono ?_)
 (case s0 => first | exact HI.out.c0 4 rfl | exact (HI.out.drewN _).c0 4 rfl | exact HI.out.drew.c0 4 rfl)
 (case s1 => first | exact HI.out.n0 4 rfl | exact (HI.out.drewN _).n0 4 rfl | exact HI.out.drew.n0 4 rfl)
 (case s2 => first | exact HI.out.c1 4 rfl | exact (HI.out.drewN _).c1 4 rfl | exact HI.out.drew.c1 4 rfl)
 (case s3 => first | exact HI.out.n1 4 rfl | exact (HI.out.drewN _).n1 4 rfl | exact HI.out.drew.n1 4 rfl)
 (case s4 => first | exact HI.out.c0 0 rfl | exact (HI.out.drewN _).c0 0 rfl | exact HI.out.drew.c0 0 rfl)
 (case s5 => first | exact HI.out.n0 0 rfl | exact (HI.out.drewN _).n0 0 rfl | exact HI.out.drew.n0 0 rfl)
 (case s6 => first | exact HI.out.c1 0 rfl | exact (HI.out.drewN _).c1 0 rfl | exact HI.out.drew.c1 0 rfl)
 (case s7 => first | exact HI.out.n1 0 rfl | exact (HI.out.drewN _).n1 0 rfl | exact HI.out.drew.n1 0 rfl)
 rintro e w203 ⟨rfl,hb⟩
 refine ⟨_,rfl, ?_⟩
 have n0_:=Aside0.mk (Inv.step (by first | exact HI.out | exact HI.out.drewN _ | exact HI.out.drew) hb)
 clear HI hb
 have HI:=n0_
 clear n0_
 have hq205 : w203.cell? ⟨gb126,0,none⟩ = some (.slice A108 c105.length p111):=HI.out.cell 1 rfl 0 rfl
 have hf206 : w203.frozen? ⟨gb126,0,none⟩ = false:=HI.out.frozen 1 rfl 0
 have hq207 : w203.cell? ⟨gb126,1,none⟩ = some (.slice A109 s106.length p112):=HI.out.cell 1 rfl 1 rfl
 have hf208 : w203.frozen? ⟨gb126,1,none⟩ = false:=HI.out.frozen 1 rfl 1
 have hq209 : w203.cell? ⟨gb77,0,none⟩ = some (.slice A63 c15.length p66):=HI.out.cell 3 rfl 0 rfl
 have hf210 : w203.frozen? ⟨gb77,0,none⟩ = false:=HI.out.frozen 3 rfl 0
 have hq211 : w203.cell? ⟨gb77,1,none⟩ = some (.slice A64 s16.length p67):=HI.out.cell 3 rfl 1 rfl
 have hf212 : w203.frozen? ⟨gb77,1,none⟩ = false:=HI.out.frozen 3 rfl 1
 have hq213 : w203.cell? ⟨gb43,0,none⟩ = some (.slice A33 c30.length p36):=HI.out.cell 5 rfl 0 rfl
 have hf214 : w203.frozen? ⟨gb43,0,none⟩ = false:=HI.out.frozen 5 rfl 0
 have hq215 : w203.cell? ⟨gb43,1,none⟩ = some (.slice A34 s31.length p37):=HI.out.cell 5 rfl 1 rfl
 have hf216 : w203.frozen? ⟨gb43,1,none⟩ = false:=HI.out.frozen 5 rfl 1
 have hq217 : w203.cell? ⟨gb1,0,none⟩ = some (.slice A0_0 l0_0.length c0_0):=HI.out.cell 8 rfl 0 rfl
 have hf218 : w203.frozen? ⟨gb1,0,none⟩ = false:=HI.out.frozen 8 rfl 0
 have hq219 : w203.cell? ⟨gb1,1,none⟩ = some (.slice A0_1 l0_1.length c0_1):=HI.out.cell 8 rfl 1 rfl
 have hf220 : w203.frozen? ⟨gb1,1,none⟩ = false:=HI.out.frozen 8 rfl 1
 clear hq205 hf206 hq207 hf208 hq209 hf210 hq211 hf212 hq213 hf214 hq215 hf216 hq217 hf218 hq219 hf220
 refine hK.out _ _ ⟨HI.out.cell 3 rfl 0 rfl,HI.out.cell 3 rfl 1 rfl,HI.out.cell 8 rfl 0 rfl,HI.out.cell 8 rfl 1 rfl⟩ (fun hHeld => ?_)
 clear hK K
 refine norm_ (a':=?_) ?_ ?_
 rotate_left
 ·show Act.put _ (some 48) _ = _
  simp only [Act.put,sA_,s0_,s1_,i64_w,i32_w]
  rfl
 refine pure_ (i:=4) (N:=some 49) (v:=?_) (a':=?_) #[true,true,true,true,true] rfl rfl (by kernel_rfl) (fun _ _ _ h => h) (Or.inl ⟨by rfl, ?_⟩) ?_ ?_
 rotate_left
 ·intro w'
  go_simp
  with_reducible rfl
 rotate_left
 ·simp only [Act.put,sA_,s0_,s1_,i64_w,i32_w]
  rfl
 refine done_ (by kernel_rfl) ?_
 have hq221 : w203.cell? ⟨gb126,0,none⟩ = some (.slice A108 c105.length p111):=HI.out.cell 1 rfl 0 rfl
 have hf222 : w203.frozen? ⟨gb126,0,none⟩ = false:=HI.out.frozen 1 rfl 0
 have hq223 : w203.cell? ⟨gb126,1,none⟩ = some (.slice A109 s106.length p112):=HI.out.cell 1 rfl 1 rfl
 have hf224 : w203.frozen? ⟨gb126,1,none⟩ = false:=HI.out.frozen 1 rfl 1
 have hq225 : w203.cell? ⟨gb77,0,none⟩ = some (.slice A63 c15.length p66):=HI.out.cell 3 rfl 0 rfl
 have hf226 : w203.frozen? ⟨gb77,0,none⟩ = false:=HI.out.frozen 3 rfl 0
 have hq227 : w203.cell? ⟨gb77,1,none⟩ = some (.slice A64 s16.length p67):=HI.out.cell 3 rfl 1 rfl
 have hf228 : w203.frozen? ⟨gb77,1,none⟩ = false:=HI.out.frozen 3 rfl 1
 have hq229 : w203.cell? ⟨gb43,0,none⟩ = some (.slice A33 c30.length p36):=HI.out.cell 5 rfl 0 rfl
 have hf230 : w203.frozen? ⟨gb43,0,none⟩ = false:=HI.out.frozen 5 rfl 0
 have hq231 : w203.cell? ⟨gb43,1,none⟩ = some (.slice A34 s31.length p37):=HI.out.cell 5 rfl 1 rfl
 have hf232 : w203.frozen? ⟨gb43,1,none⟩ = false:=HI.out.frozen 5 rfl 1
 have hq233 : w203.cell? ⟨gb1,0,none⟩ = some (.slice A0_0 l0_0.length c0_0):=HI.out.cell 8 rfl 0 rfl
 have hf234 : w203.frozen? ⟨gb1,0,none⟩ = false:=HI.out.frozen 8 rfl 0
 have hq235 : w203.cell? ⟨gb1,1,none⟩ = some (.slice A0_1 l0_1.length c0_1):=HI.out.cell 8 rfl 1 rfl
 have hf236 : w203.frozen? ⟨gb1,1,none⟩ = false:=HI.out.frozen 8 rfl 1
 go_wp2_with (first | ((with_reducible refine gate_dst (N:=52) rfl ?_);(with_reducible refine gate_callee (f:=13) rfl ?_);refine goesL_ (some 52) rfl rfl Try.func13 (by kernel_rfl) rfl #[.agg #[.slice A63 c15.length p66, .slice A64 s16.length p67], .int .i64 1] rfl (by (try simp only [List.map_toArray,List.map_cons,List.map_nil]);first | done | rfl) ?_;(refine (laws_markGate.calls k ?P0w237 _ c15 ?P1w237 _ s16 1 m238 c239 s240 w _ ?sideB ?side0 ?sideP ?side1 ?sideQ E241.out).mono ?_);(case side0 => first | exact HI.out.own0 4 rfl | exact (HI.out.drewN _).own0 4 rfl);(case side1 => first | exact HI.out.own1 4 rfl | exact (HI.out.drewN _).own1 4 rfl);(case sideB => first | exact HI.out.below | exact (HI.out.drewN _).below);(case sideP => exact fun k_ h1_ h2_ => h2_.2 h1_.1);(case sideQ => exact fun k_ h1_ h2_ => h1_.2 h2_.1);rintro e w237 ⟨rfl,ho0,ho1,hb,hk⟩;refine ⟨_,rfl, ?_⟩;have n0_:=Aside0.mk (Inv.mark (by first | exact HI.out | exact HI.out.drewN _ | exact HI.out.drew) 4 rfl hb hk ho0 ho1);(try simp only [List.set_cons_zero,List.set_cons_succ] at n0_);clear HI ho0 ho1 hb hk;have HI:=n0_;clear n0_;clear hq221 hf222 hq223 hf224 hq225 hf226 hq227 hf228 hq229 hf230 hq231 hf232 hq233 hf234 hq235 hf236;have hq242 : w237.cell? ⟨gb126,0,none⟩ = some (.slice A108 c105.length p111):=HI.out.cell 1 rfl 0 rfl;have hf243 : w237.frozen? ⟨gb126,0,none⟩ = false:=HI.out.frozen 1 rfl 0;have hq244 : w237.cell? ⟨gb126,1,none⟩ = some (.slice A109 s106.length p112):=HI.out.cell 1 rfl 1 rfl;have hf245 : w237.frozen? ⟨gb126,1,none⟩ = false:=HI.out.frozen 1 rfl 1;have hq246 : w237.cell? ⟨gb77,0,none⟩ = some (.slice A63 c15.length p66):=HI.out.cell 3 rfl 0 rfl;have hf247 : w237.frozen? ⟨gb77,0,none⟩ = false:=HI.out.frozen 3 rfl 0;have hq248 : w237.cell? ⟨gb77,1,none⟩ = some (.slice A64 s16.length p67):=HI.out.cell 3 rfl 1 rfl;have hf249 : w237.frozen? ⟨gb77,1,none⟩ = false:=HI.out.frozen 3 rfl 1;have hq250 : w237.cell? ⟨gb43,0,none⟩ = some (.slice A33 c30.length p36):=HI.out.cell 5 rfl 0 rfl;have hf251 : w237.frozen? ⟨gb43,0,none⟩ = false:=HI.out.frozen 5 rfl 0;have hq252 : w237.cell? ⟨gb43,1,none⟩ = some (.slice A34 s31.length p37):=HI.out.cell 5 rfl 1 rfl;have hf253 : w237.frozen? ⟨gb43,1,none⟩ = false:=HI.out.frozen 5 rfl 1;have hq254 : w237.cell? ⟨gb1,0,none⟩ = some (.slice A0_0 l0_0.length c0_0):=HI.out.cell 8 rfl 0 rfl;have hf255 : w237.frozen? ⟨gb1,0,none⟩ = false:=HI.out.frozen 8 rfl 0;have hq256 : w237.cell? ⟨gb1,1,none⟩ = some (.slice A0_1 l0_1.length c0_1):=HI.out.cell 8 rfl 1 rfl;have hf257 : w237.frozen? ⟨gb1,1,none⟩ = false:=HI.out.frozen 8 rfl 1) | (go_at_call 12;(refine (laws_eqGate.calls k _ _ c105 _ _ s106 _ _ c30 _ _ s31 true _ ?s0 ?s1 ?s2 ?s3 ?s4 ?s5 ?s6 ?s7 E162.out).mono ?_);(case s0 => first | exact HI.out.c0 2 rfl | exact (HI.out.drewN _).c0 2 rfl | exact HI.out.drew.c0 2 rfl);(case s1 => first | exact HI.out.n0 2 rfl | exact (HI.out.drewN _).n0 2 rfl | exact HI.out.drew.n0 2 rfl);(case s2 => first | exact HI.out.c1 2 rfl | exact (HI.out.drewN _).c1 2 rfl | exact HI.out.drew.c1 2 rfl);(case s3 => first | exact HI.out.n1 2 rfl | exact (HI.out.drewN _).n1 2 rfl | exact HI.out.drew.n1 2 rfl);(case s4 => first | exact HI.out.c0 6 rfl | exact (HI.out.drewN _).c0 6 rfl | exact HI.out.drew.c0 6 rfl);(case s5 => first | exact HI.out.n0 6 rfl | exact (HI.out.drewN _).n0 6 rfl | exact HI.out.drew.n0 6 rfl);(case s6 => first | exact HI.out.c1 6 rfl | exact (HI.out.drewN _).c1 6 rfl | exact HI.out.drew.c1 6 rfl);(case s7 => first | exact HI.out.n1 6 rfl | exact (HI.out.drewN _).n1 6 rfl | exact HI.out.drew.n1 6 rfl);rintro e w258 ⟨rfl,hb⟩;have n0_:=Aside0.mk (Inv.step (by first | exact HI.out | exact HI.out.drewN _ | exact HI.out.drew) hb);clear HI hb;have HI:=n0_;clear n0_;clear hq242 hf243 hq244 hf245 hq246 hf247 hq248 hf249 hq250 hf251 hq252 hf253 hq254 hf255 hq256 hf257;have hq259 : w258.cell? ⟨gb126,0,none⟩ = some (.slice A108 c105.length p111):=HI.out.cell 1 rfl 0 rfl;have hf260 : w258.frozen? ⟨gb126,0,none⟩ = false:=HI.out.frozen 1 rfl 0;have hq261 : w258.cell? ⟨gb126,1,none⟩ = some (.slice A109 s106.length p112):=HI.out.cell 1 rfl 1 rfl;have hf262 : w258.frozen? ⟨gb126,1,none⟩ = false:=HI.out.frozen 1 rfl 1;have hq263 : w258.cell? ⟨gb77,0,none⟩ = some (.slice A63 c15.length p66):=HI.out.cell 3 rfl 0 rfl;have hf264 : w258.frozen? ⟨gb77,0,none⟩ = false:=HI.out.frozen 3 rfl 0;have hq265 : w258.cell? ⟨gb77,1,none⟩ = some (.slice A64 s16.length p67):=HI.out.cell 3 rfl 1 rfl;have hf266 : w258.frozen? ⟨gb77,1,none⟩ = false:=HI.out.frozen 3 rfl 1;have hq267 : w258.cell? ⟨gb43,0,none⟩ = some (.slice A33 c30.length p36):=HI.out.cell 5 rfl 0 rfl;have hf268 : w258.frozen? ⟨gb43,0,none⟩ = false:=HI.out.frozen 5 rfl 0;have hq269 : w258.cell? ⟨gb43,1,none⟩ = some (.slice A34 s31.length p37):=HI.out.cell 5 rfl 1 rfl;have hf270 : w258.frozen? ⟨gb43,1,none⟩ = false:=HI.out.frozen 5 rfl 1;have hq271 : w258.cell? ⟨gb1,0,none⟩ = some (.slice A0_0 l0_0.length c0_0):=HI.out.cell 8 rfl 0 rfl;have hf272 : w258.frozen? ⟨gb1,0,none⟩ = false:=HI.out.frozen 8 rfl 0;have hq273 : w258.cell? ⟨gb1,1,none⟩ = some (.slice A0_1 l0_1.length c0_1):=HI.out.cell 8 rfl 1 rfl;have hf274 : w258.frozen? ⟨gb1,1,none⟩ = false:=HI.out.frozen 8 rfl 1) | ((with_reducible refine gate_dst (N:=68) rfl ?_);(with_reducible refine gate_callee (f:=13) rfl ?_);refine goesL_ (some 68) rfl rfl Try.func13 (by kernel_rfl) rfl #[.agg #[.slice A108 c105.length p111, .slice A109 s106.length p112], .int .i64 1] rfl (by (try simp only [List.map_toArray,List.map_cons,List.map_nil]);first | done | rfl) ?_;(refine (laws_markGate.calls k ?P0w275 _ c105 ?P1w275 _ s106 1 m276 c277 s278 w _ ?sideB ?side0 ?sideP ?side1 ?sideQ E279.out).mono ?_);(case side0 => first | exact HI.out.own0 2 rfl | exact (HI.out.drewN _).own0 2 rfl);(case side1 => first | exact HI.out.own1 2 rfl | exact (HI.out.drewN _).own1 2 rfl);(case sideB => first | exact HI.out.below | exact (HI.out.drewN _).below);(case sideP => exact fun k_ h1_ h2_ => h2_.2 h1_.1);(case sideQ => exact fun k_ h1_ h2_ => h1_.2 h2_.1);rintro e w275 ⟨rfl,ho0,ho1,hb,hk⟩;refine ⟨_,rfl, ?_⟩;have n0_:=Aside0.mk (Inv.mark (by first | exact HI.out | exact HI.out.drewN _ | exact HI.out.drew) 2 rfl hb hk ho0 ho1);(try simp only [List.set_cons_zero,List.set_cons_succ] at n0_);clear HI ho0 ho1 hb hk;have HI:=n0_;clear n0_;clear hq259 hf260 hq261 hf262 hq263 hf264 hq265 hf266 hq267 hf268 hq269 hf270 hq271 hf272 hq273 hf274;have hq280 : w275.cell? ⟨gb126,0,none⟩ = some (.slice A108 c105.length p111):=HI.out.cell 1 rfl 0 rfl;have hf281 : w275.frozen? ⟨gb126,0,none⟩ = false:=HI.out.frozen 1 rfl 0;have hq282 : w275.cell? ⟨gb126,1,none⟩ = some (.slice A109 s106.length p112):=HI.out.cell 1 rfl 1 rfl;have hf283 : w275.frozen? ⟨gb126,1,none⟩ = false:=HI.out.frozen 1 rfl 1;have hq284 : w275.cell? ⟨gb77,0,none⟩ = some (.slice A63 c15.length p66):=HI.out.cell 3 rfl 0 rfl;have hf285 : w275.frozen? ⟨gb77,0,none⟩ = false:=HI.out.frozen 3 rfl 0;have hq286 : w275.cell? ⟨gb77,1,none⟩ = some (.slice A64 s16.length p67):=HI.out.cell 3 rfl 1 rfl;have hf287 : w275.frozen? ⟨gb77,1,none⟩ = false:=HI.out.frozen 3 rfl 1;have hq288 : w275.cell? ⟨gb43,0,none⟩ = some (.slice A33 c30.length p36):=HI.out.cell 5 rfl 0 rfl;have hf289 : w275.frozen? ⟨gb43,0,none⟩ = false:=HI.out.frozen 5 rfl 0;have hq290 : w275.cell? ⟨gb43,1,none⟩ = some (.slice A34 s31.length p37):=HI.out.cell 5 rfl 1 rfl;have hf291 : w275.frozen? ⟨gb43,1,none⟩ = false:=HI.out.frozen 5 rfl 1;have hq292 : w275.cell? ⟨gb1,0,none⟩ = some (.slice A0_0 l0_0.length c0_0):=HI.out.cell 8 rfl 0 rfl;have hf293 : w275.frozen? ⟨gb1,0,none⟩ = false:=HI.out.frozen 8 rfl 0;have hq294 : w275.cell? ⟨gb1,1,none⟩ = some (.slice A0_1 l0_1.length c0_1):=HI.out.cell 8 rfl 1 rfl;have hf295 : w275.frozen? ⟨gb1,1,none⟩ = false:=HI.out.frozen 8 rfl 1) | ((with_reducible refine gate_dst (N:=71) rfl ?_);(with_reducible refine gate_callee (f:=14) rfl ?_);refine goesL_ (some 71) rfl rfl Try.func14 (by kernel_rfl) rfl #[.agg #[.slice A108 c105.length p111, .slice A109 s106.length p112], .int .i64 1] rfl (by (try simp only [List.map_toArray,List.map_cons,List.map_nil]);first | done | rfl) ?_;have hl298 : c105.length = c277.length:=HI.out.len0 2 rfl;have hl299 : s106.length = s278.length:=HI.out.len1 2 rfl;refine calls_of_args (args':=#[.agg #[.slice A108 c277.length p111, .slice A109 s278.length p112], .int .i64 1]) (by rw [hl298,hl299]) ?_;clear hl298 hl299;(refine (laws_heldGate.calls k _ _ c277 _ _ s278 1 m276 _ ?s0 ?s1 ?s2 ?s3 E297.out).mono ?_);(case s0 => first | exact HI.out.c0 2 rfl | exact (HI.out.drewN _).c0 2 rfl | exact HI.out.drew.c0 2 rfl);(case s1 => first | exact HI.out.n0 2 rfl | exact (HI.out.drewN _).n0 2 rfl | exact HI.out.drew.n0 2 rfl);(case s2 => first | exact HI.out.c1 2 rfl | exact (HI.out.drewN _).c1 2 rfl | exact HI.out.drew.c1 2 rfl);(case s3 => first | exact HI.out.n1 2 rfl | exact (HI.out.drewN _).n1 2 rfl | exact HI.out.drew.n1 2 rfl);rintro e w296 ⟨rfl,hb⟩;refine ⟨_,rfl, ?_⟩;have n0_:=Aside0.mk (Inv.step (by first | exact HI.out | exact HI.out.drewN _ | exact HI.out.drew) hb);clear HI hb;have HI:=n0_;clear n0_;clear hq280 hf281 hq282 hf283 hq284 hf285 hq286 hf287 hq288 hf289 hq290 hf291 hq292 hf293 hq294 hf295;have hq300 : w296.cell? ⟨gb126,0,none⟩ = some (.slice A108 c105.length p111):=HI.out.cell 1 rfl 0 rfl;have hf301 : w296.frozen? ⟨gb126,0,none⟩ = false:=HI.out.frozen 1 rfl 0;have hq302 : w296.cell? ⟨gb126,1,none⟩ = some (.slice A109 s106.length p112):=HI.out.cell 1 rfl 1 rfl;have hf303 : w296.frozen? ⟨gb126,1,none⟩ = false:=HI.out.frozen 1 rfl 1;have hq304 : w296.cell? ⟨gb77,0,none⟩ = some (.slice A63 c15.length p66):=HI.out.cell 3 rfl 0 rfl;have hf305 : w296.frozen? ⟨gb77,0,none⟩ = false:=HI.out.frozen 3 rfl 0;have hq306 : w296.cell? ⟨gb77,1,none⟩ = some (.slice A64 s16.length p67):=HI.out.cell 3 rfl 1 rfl;have hf307 : w296.frozen? ⟨gb77,1,none⟩ = false:=HI.out.frozen 3 rfl 1;have hq308 : w296.cell? ⟨gb43,0,none⟩ = some (.slice A33 c30.length p36):=HI.out.cell 5 rfl 0 rfl;have hf309 : w296.frozen? ⟨gb43,0,none⟩ = false:=HI.out.frozen 5 rfl 0;have hq310 : w296.cell? ⟨gb43,1,none⟩ = some (.slice A34 s31.length p37):=HI.out.cell 5 rfl 1 rfl;have hf311 : w296.frozen? ⟨gb43,1,none⟩ = false:=HI.out.frozen 5 rfl 1;have hq312 : w296.cell? ⟨gb1,0,none⟩ = some (.slice A0_0 l0_0.length c0_0):=HI.out.cell 8 rfl 0 rfl;have hf313 : w296.frozen? ⟨gb1,0,none⟩ = false:=HI.out.frozen 8 rfl 0;have hq314 : w296.cell? ⟨gb1,1,none⟩ = some (.slice A0_1 l0_1.length c0_1):=HI.out.cell 8 rfl 1 rfl;have hf315 : w296.frozen? ⟨gb1,1,none⟩ = false:=HI.out.frozen 8 rfl 1) | ((with_reducible refine gate_dst (N:=79) rfl ?_);(with_reducible refine gate_callee (f:=10) rfl ?_);refine goesL_ (some 79) rfl rfl Try.func10 (by kernel_rfl) rfl #[.agg #[.slice A0_0 l0_0.length c0_0, .slice A0_1 l0_1.length c0_1]] rfl (by (try simp only [List.map_toArray,List.map_cons,List.map_nil]);first | done | rfl) ?_;(refine (laws_toGate.calls k _ _ l0_0 _ _ l0_1 c15 s16 _ ?s0 ?s1 ?s2 ?s3 E17.out).mono ?_);(case s0 => repeat (first | exact (Kd.C_below HR0_0.out HI.out.below) | (with_reducible refine Kd.C_alloc ?_ _) | (with_reducible refine Kd.C_drewN ?_ _) | (with_reducible refine Kd.C_drew ?_)));(case s1 => exact HC0_0.out);(case s2 => repeat (first | exact (Kd.C_below HR0_1.out HI.out.below) | (with_reducible refine Kd.C_alloc ?_ _) | (with_reducible refine Kd.C_drewN ?_ _) | (with_reducible refine Kd.C_drew ?_)));(case s3 => exact HC0_1.out);rintro e w316 ⟨v0_,v1_,rfl,ho0,ho1,hb⟩;refine ⟨_,rfl, ?_⟩;obtain ⟨A317,p320,rfl⟩ := Kd.R_slice ho0;obtain ⟨A318,p321,rfl⟩ := Kd.S_slice ho1;have n0_:=Aside0.mk (Inv.gate (by first | exact HI.out | exact HI.out.drewN _ | exact HI.out.drew) hb ho0 ho1 (fun k hk => hk));clear HI hb ho0 ho1;have HI:=n0_;clear n0_;clear hq300 hf301 hq302 hf303 hq304 hf305 hq306 hf307 hq308 hf309 hq310 hf311 hq312 hf313 hq314 hf315;have hq323 : w316.cell? ⟨gb126,0,none⟩ = some (.slice A108 c105.length p111):=HI.out.cell 2 rfl 0 rfl;have hf324 : w316.frozen? ⟨gb126,0,none⟩ = false:=HI.out.frozen 2 rfl 0;have hq325 : w316.cell? ⟨gb126,1,none⟩ = some (.slice A109 s106.length p112):=HI.out.cell 2 rfl 1 rfl;have hf326 : w316.frozen? ⟨gb126,1,none⟩ = false:=HI.out.frozen 2 rfl 1;have hq327 : w316.cell? ⟨gb77,0,none⟩ = some (.slice A63 c15.length p66):=HI.out.cell 4 rfl 0 rfl;have hf328 : w316.frozen? ⟨gb77,0,none⟩ = false:=HI.out.frozen 4 rfl 0;have hq329 : w316.cell? ⟨gb77,1,none⟩ = some (.slice A64 s16.length p67):=HI.out.cell 4 rfl 1 rfl;have hf330 : w316.frozen? ⟨gb77,1,none⟩ = false:=HI.out.frozen 4 rfl 1;have hq331 : w316.cell? ⟨gb43,0,none⟩ = some (.slice A33 c30.length p36):=HI.out.cell 6 rfl 0 rfl;have hf332 : w316.frozen? ⟨gb43,0,none⟩ = false:=HI.out.frozen 6 rfl 0;have hq333 : w316.cell? ⟨gb43,1,none⟩ = some (.slice A34 s31.length p37):=HI.out.cell 6 rfl 1 rfl;have hf334 : w316.frozen? ⟨gb43,1,none⟩ = false:=HI.out.frozen 6 rfl 1;have hq335 : w316.cell? ⟨gb1,0,none⟩ = some (.slice A0_0 l0_0.length c0_0):=HI.out.cell 9 rfl 0 rfl;have hf336 : w316.frozen? ⟨gb1,0,none⟩ = false:=HI.out.frozen 9 rfl 0;have hq337 : w316.cell? ⟨gb1,1,none⟩ = some (.slice A0_1 l0_1.length c0_1):=HI.out.cell 9 rfl 1 rfl;have hf338 : w316.frozen? ⟨gb1,1,none⟩ = false:=HI.out.frozen 9 rfl 1) | ((with_reducible refine gate_dst (N:=81) rfl ?_);(with_reducible refine gate_callee (f:=11) rfl ?_);refine goesL_ (some 81) rfl rfl Try.func11 (by kernel_rfl) rfl #[.agg #[.slice A317 c15.length p320, .slice A318 s16.length p321], .int .i64 a1] rfl (by (try simp only [List.map_toArray,List.map_cons,List.map_nil]);first | done | rfl) ?_;(refine (impl_CancelTruck.calls k _ _ c15 _ _ s16 a1 c105 s106 b29 _ ?s0 ?s1 ?s2 ?s3 E107.out).mono ?_);(case s0 => first | exact HI.out.c0 0 rfl | exact (HI.out.drewN _).c0 0 rfl | exact HI.out.drew.c0 0 rfl);(case s1 => first | exact HI.out.n0 0 rfl | exact (HI.out.drewN _).n0 0 rfl | exact HI.out.drew.n0 0 rfl);(case s2 => first | exact HI.out.c1 0 rfl | exact (HI.out.drewN _).c1 0 rfl | exact HI.out.drew.c1 0 rfl);(case s3 => first | exact HI.out.n1 0 rfl | exact (HI.out.drewN _).n1 0 rfl | exact HI.out.drew.n1 0 rfl);rintro e w339 ⟨v0_,v1_,rfl,ho0,ho1,hb⟩;refine ⟨_,rfl, ?_⟩;obtain ⟨A340,p343,rfl⟩ := Kd.R_slice ho0;obtain ⟨A341,p344,rfl⟩ := Kd.S_slice ho1;have n0_:=Aside0.mk (Inv.gate (by first | exact HI.out | exact HI.out.drewN _ | exact HI.out.drew) hb ho0 ho1 (fun k hk => hk));clear HI hb ho0 ho1;have HI:=n0_;clear n0_;clear hq323 hf324 hq325 hf326 hq327 hf328 hq329 hf330 hq331 hf332 hq333 hf334 hq335 hf336 hq337 hf338;have hq346 : w339.cell? ⟨gb126,0,none⟩ = some (.slice A108 c105.length p111):=HI.out.cell 3 rfl 0 rfl;have hf347 : w339.frozen? ⟨gb126,0,none⟩ = false:=HI.out.frozen 3 rfl 0;have hq348 : w339.cell? ⟨gb126,1,none⟩ = some (.slice A109 s106.length p112):=HI.out.cell 3 rfl 1 rfl;have hf349 : w339.frozen? ⟨gb126,1,none⟩ = false:=HI.out.frozen 3 rfl 1;have hq350 : w339.cell? ⟨gb77,0,none⟩ = some (.slice A63 c15.length p66):=HI.out.cell 5 rfl 0 rfl;have hf351 : w339.frozen? ⟨gb77,0,none⟩ = false:=HI.out.frozen 5 rfl 0;have hq352 : w339.cell? ⟨gb77,1,none⟩ = some (.slice A64 s16.length p67):=HI.out.cell 5 rfl 1 rfl;have hf353 : w339.frozen? ⟨gb77,1,none⟩ = false:=HI.out.frozen 5 rfl 1;have hq354 : w339.cell? ⟨gb43,0,none⟩ = some (.slice A33 c30.length p36):=HI.out.cell 7 rfl 0 rfl;have hf355 : w339.frozen? ⟨gb43,0,none⟩ = false:=HI.out.frozen 7 rfl 0;have hq356 : w339.cell? ⟨gb43,1,none⟩ = some (.slice A34 s31.length p37):=HI.out.cell 7 rfl 1 rfl;have hf357 : w339.frozen? ⟨gb43,1,none⟩ = false:=HI.out.frozen 7 rfl 1;have hq358 : w339.cell? ⟨gb1,0,none⟩ = some (.slice A0_0 l0_0.length c0_0):=HI.out.cell 10 rfl 0 rfl;have hf359 : w339.frozen? ⟨gb1,0,none⟩ = false:=HI.out.frozen 10 rfl 0;have hq360 : w339.cell? ⟨gb1,1,none⟩ = some (.slice A0_1 l0_1.length c0_1):=HI.out.cell 10 rfl 1 rfl;have hf361 : w339.frozen? ⟨gb1,1,none⟩ = false:=HI.out.frozen 10 rfl 1) | ((with_reducible refine gate_dst (N:=14) rfl ?_);refine box_event ?hg (N:=14) ?hd (cs:=#[.slice none 0 0, .slice none 0 0]) (t:=27) ?hr ?_;(case hd => rfl);(case hg => rfl);(case hr => first | (go_simp;done) | (go_simp;rfl));intro gb362 hg w363 hbox hb;have n0_:=Aside0.mk (Inv.box (by first | exact HI.out | exact HI.out.drewN _ | exact HI.out.drew) hb hbox hg);clear HI hb hbox hg;have HI:=n0_;clear n0_;clear hq346 hf347 hq348 hf349 hq350 hf351 hq352 hf353 hq354 hf355 hq356 hf357 hq358 hf359 hq360 hf361;have hq364 : w363.cell? ⟨gb362,0,none⟩ = some (.slice none 0 0):=HI.out.cell 0 rfl 0 rfl;have hf365 : w363.frozen? ⟨gb362,0,none⟩ = false:=HI.out.frozen 0 rfl 0;have hq366 : w363.cell? ⟨gb362,1,none⟩ = some (.slice none 0 0):=HI.out.cell 0 rfl 1 rfl;have hf367 : w363.frozen? ⟨gb362,1,none⟩ = false:=HI.out.frozen 0 rfl 1;have hq368 : w363.cell? ⟨gb126,0,none⟩ = some (.slice A108 c105.length p111):=HI.out.cell 4 rfl 0 rfl;have hf369 : w363.frozen? ⟨gb126,0,none⟩ = false:=HI.out.frozen 4 rfl 0;have hq370 : w363.cell? ⟨gb126,1,none⟩ = some (.slice A109 s106.length p112):=HI.out.cell 4 rfl 1 rfl;have hf371 : w363.frozen? ⟨gb126,1,none⟩ = false:=HI.out.frozen 4 rfl 1;have hq372 : w363.cell? ⟨gb77,0,none⟩ = some (.slice A63 c15.length p66):=HI.out.cell 6 rfl 0 rfl;have hf373 : w363.frozen? ⟨gb77,0,none⟩ = false:=HI.out.frozen 6 rfl 0;have hq374 : w363.cell? ⟨gb77,1,none⟩ = some (.slice A64 s16.length p67):=HI.out.cell 6 rfl 1 rfl;have hf375 : w363.frozen? ⟨gb77,1,none⟩ = false:=HI.out.frozen 6 rfl 1;have hq376 : w363.cell? ⟨gb43,0,none⟩ = some (.slice A33 c30.length p36):=HI.out.cell 8 rfl 0 rfl;have hf377 : w363.frozen? ⟨gb43,0,none⟩ = false:=HI.out.frozen 8 rfl 0;have hq378 : w363.cell? ⟨gb43,1,none⟩ = some (.slice A34 s31.length p37):=HI.out.cell 8 rfl 1 rfl;have hf379 : w363.frozen? ⟨gb43,1,none⟩ = false:=HI.out.frozen 8 rfl 1;have hq380 : w363.cell? ⟨gb1,0,none⟩ = some (.slice A0_0 l0_0.length c0_0):=HI.out.cell 11 rfl 0 rfl;have hf381 : w363.frozen? ⟨gb1,0,none⟩ = false:=HI.out.frozen 11 rfl 0;have hq382 : w363.cell? ⟨gb1,1,none⟩ = some (.slice A0_1 l0_1.length c0_1):=HI.out.cell 11 rfl 1 rfl;have hf383 : w363.frozen? ⟨gb1,1,none⟩ = false:=HI.out.frozen 11 rfl 1) | ((with_reducible refine gate_store (t:=27) (p:=14) rfl ?_);refine store_event (t:=27) (p:=14) (v:=?vo_w384) (w1:=((w363.setCell ⟨gb362,0,none⟩ (.slice A340 c105.length p343)).setCell ⟨gb362,1,none⟩ (.slice A341 s106.length p344))) ?hg ?ho ?hn ?hr ?_;(case ho => rfl);(case hg => rfl);(case hn => rfl);(case hr => first | (go_simp;done) | (go_simp;rfl));intro w384 hw;have n0_:=Aside0.mk (Inv.put2 HI.out hw);clear HI hw;have HI:=n0_;clear n0_;clear hq364 hf365 hq366 hf367 hq368 hf369 hq370 hf371 hq372 hf373 hq374 hf375 hq376 hf377 hq378 hf379 hq380 hf381 hq382 hf383;have hq385 : w384.cell? ⟨gb362,0,none⟩ = some (.slice A340 c105.length p343):=HI.out.cell 0 rfl 0 rfl;have hf386 : w384.frozen? ⟨gb362,0,none⟩ = false:=HI.out.frozen 0 rfl 0;have hq387 : w384.cell? ⟨gb362,1,none⟩ = some (.slice A341 s106.length p344):=HI.out.cell 0 rfl 1 rfl;have hf388 : w384.frozen? ⟨gb362,1,none⟩ = false:=HI.out.frozen 0 rfl 1;have hq389 : w384.cell? ⟨gb126,0,none⟩ = some (.slice A108 c105.length p111):=HI.out.cell 4 rfl 0 rfl;have hf390 : w384.frozen? ⟨gb126,0,none⟩ = false:=HI.out.frozen 4 rfl 0;have hq391 : w384.cell? ⟨gb126,1,none⟩ = some (.slice A109 s106.length p112):=HI.out.cell 4 rfl 1 rfl;have hf392 : w384.frozen? ⟨gb126,1,none⟩ = false:=HI.out.frozen 4 rfl 1;have hq393 : w384.cell? ⟨gb77,0,none⟩ = some (.slice A63 c15.length p66):=HI.out.cell 6 rfl 0 rfl;have hf394 : w384.frozen? ⟨gb77,0,none⟩ = false:=HI.out.frozen 6 rfl 0;have hq395 : w384.cell? ⟨gb77,1,none⟩ = some (.slice A64 s16.length p67):=HI.out.cell 6 rfl 1 rfl;have hf396 : w384.frozen? ⟨gb77,1,none⟩ = false:=HI.out.frozen 6 rfl 1;have hq397 : w384.cell? ⟨gb43,0,none⟩ = some (.slice A33 c30.length p36):=HI.out.cell 8 rfl 0 rfl;have hf398 : w384.frozen? ⟨gb43,0,none⟩ = false:=HI.out.frozen 8 rfl 0;have hq399 : w384.cell? ⟨gb43,1,none⟩ = some (.slice A34 s31.length p37):=HI.out.cell 8 rfl 1 rfl;have hf400 : w384.frozen? ⟨gb43,1,none⟩ = false:=HI.out.frozen 8 rfl 1;have hq401 : w384.cell? ⟨gb1,0,none⟩ = some (.slice A0_0 l0_0.length c0_0):=HI.out.cell 11 rfl 0 rfl;have hf402 : w384.frozen? ⟨gb1,0,none⟩ = false:=HI.out.frozen 11 rfl 0;have hq403 : w384.cell? ⟨gb1,1,none⟩ = some (.slice A0_1 l0_1.length c0_1):=HI.out.cell 11 rfl 1 rfl;have hf404 : w384.frozen? ⟨gb1,1,none⟩ = false:=HI.out.frozen 11 rfl 1) | ((with_reducible refine gate_dst (N:=86) rfl ?_);(with_reducible refine gate_callee (f:=12) rfl ?_);refine goesL_ (some 86) rfl rfl Try.func12 (by kernel_rfl) rfl #[.agg #[.slice A340 c105.length p343, .slice A341 s106.length p344], .agg #[.slice A33 c30.length p36, .slice A34 s31.length p37]] rfl (by (try simp only [List.map_toArray,List.map_cons,List.map_nil]);first | done | rfl) ?_;(refine (laws_eqGate.calls k _ _ c105 _ _ s106 _ _ c30 _ _ s31 true _ ?s0 ?s1 ?s2 ?s3 ?s4 ?s5 ?s6 ?s7 E162.out).mono ?_);(case s0 => first | exact HI.out.c0 1 rfl | exact (HI.out.drewN _).c0 1 rfl | exact HI.out.drew.c0 1 rfl);(case s1 => first | exact HI.out.n0 1 rfl | exact (HI.out.drewN _).n0 1 rfl | exact HI.out.drew.n0 1 rfl);(case s2 => first | exact HI.out.c1 1 rfl | exact (HI.out.drewN _).c1 1 rfl | exact HI.out.drew.c1 1 rfl);(case s3 => first | exact HI.out.n1 1 rfl | exact (HI.out.drewN _).n1 1 rfl | exact HI.out.drew.n1 1 rfl);(case s4 => first | exact HI.out.c0 9 rfl | exact (HI.out.drewN _).c0 9 rfl | exact HI.out.drew.c0 9 rfl);(case s5 => first | exact HI.out.n0 9 rfl | exact (HI.out.drewN _).n0 9 rfl | exact HI.out.drew.n0 9 rfl);(case s6 => first | exact HI.out.c1 9 rfl | exact (HI.out.drewN _).c1 9 rfl | exact HI.out.drew.c1 9 rfl);(case s7 => first | exact HI.out.n1 9 rfl | exact (HI.out.drewN _).n1 9 rfl | exact HI.out.drew.n1 9 rfl);rintro e w405 ⟨rfl,hb⟩;refine ⟨_,rfl, ?_⟩;have n0_:=Aside0.mk (Inv.step (by first | exact HI.out | exact HI.out.drewN _ | exact HI.out.drew) hb);clear HI hb;have HI:=n0_;clear n0_;clear hq385 hf386 hq387 hf388 hq389 hf390 hq391 hf392 hq393 hf394 hq395 hf396 hq397 hf398 hq399 hf400 hq401 hf402 hq403 hf404;have hq406 : w405.cell? ⟨gb362,0,none⟩ = some (.slice A340 c105.length p343):=HI.out.cell 0 rfl 0 rfl;have hf407 : w405.frozen? ⟨gb362,0,none⟩ = false:=HI.out.frozen 0 rfl 0;have hq408 : w405.cell? ⟨gb362,1,none⟩ = some (.slice A341 s106.length p344):=HI.out.cell 0 rfl 1 rfl;have hf409 : w405.frozen? ⟨gb362,1,none⟩ = false:=HI.out.frozen 0 rfl 1;have hq410 : w405.cell? ⟨gb126,0,none⟩ = some (.slice A108 c105.length p111):=HI.out.cell 4 rfl 0 rfl;have hf411 : w405.frozen? ⟨gb126,0,none⟩ = false:=HI.out.frozen 4 rfl 0;have hq412 : w405.cell? ⟨gb126,1,none⟩ = some (.slice A109 s106.length p112):=HI.out.cell 4 rfl 1 rfl;have hf413 : w405.frozen? ⟨gb126,1,none⟩ = false:=HI.out.frozen 4 rfl 1;have hq414 : w405.cell? ⟨gb77,0,none⟩ = some (.slice A63 c15.length p66):=HI.out.cell 6 rfl 0 rfl;have hf415 : w405.frozen? ⟨gb77,0,none⟩ = false:=HI.out.frozen 6 rfl 0;have hq416 : w405.cell? ⟨gb77,1,none⟩ = some (.slice A64 s16.length p67):=HI.out.cell 6 rfl 1 rfl;have hf417 : w405.frozen? ⟨gb77,1,none⟩ = false:=HI.out.frozen 6 rfl 1;have hq418 : w405.cell? ⟨gb43,0,none⟩ = some (.slice A33 c30.length p36):=HI.out.cell 8 rfl 0 rfl;have hf419 : w405.frozen? ⟨gb43,0,none⟩ = false:=HI.out.frozen 8 rfl 0;have hq420 : w405.cell? ⟨gb43,1,none⟩ = some (.slice A34 s31.length p37):=HI.out.cell 8 rfl 1 rfl;have hf421 : w405.frozen? ⟨gb43,1,none⟩ = false:=HI.out.frozen 8 rfl 1;have hq422 : w405.cell? ⟨gb1,0,none⟩ = some (.slice A0_0 l0_0.length c0_0):=HI.out.cell 11 rfl 0 rfl;have hf423 : w405.frozen? ⟨gb1,0,none⟩ = false:=HI.out.frozen 11 rfl 0;have hq424 : w405.cell? ⟨gb1,1,none⟩ = some (.slice A0_1 l0_1.length c0_1):=HI.out.cell 11 rfl 1 rfl;have hf425 : w405.frozen? ⟨gb1,1,none⟩ = false:=HI.out.frozen 11 rfl 1) | ((with_reducible refine gate_dst (N:=95) rfl ?_);(with_reducible refine gate_callee (f:=14) rfl ?_);refine goesL_ (some 95) rfl rfl Try.func14 (by kernel_rfl) rfl #[.agg #[.slice A108 c105.length p111, .slice A109 s106.length p112], .int .i64 1] rfl (by (try simp only [List.map_toArray,List.map_cons,List.map_nil]);first | done | rfl) ?_;have hl427 : c105.length = c277.length:=HI.out.len0 5 rfl;have hl428 : s106.length = s278.length:=HI.out.len1 5 rfl;refine calls_of_args (args':=#[.agg #[.slice A108 c277.length p111, .slice A109 s278.length p112], .int .i64 1]) (by rw [hl427,hl428]) ?_;clear hl427 hl428;(refine (laws_heldGate.calls k _ _ c277 _ _ s278 1 m276 _ ?s0 ?s1 ?s2 ?s3 E297.out).mono ?_);(case s0 => first | exact HI.out.c0 5 rfl | exact (HI.out.drewN _).c0 5 rfl | exact HI.out.drew.c0 5 rfl);(case s1 => first | exact HI.out.n0 5 rfl | exact (HI.out.drewN _).n0 5 rfl | exact HI.out.drew.n0 5 rfl);(case s2 => first | exact HI.out.c1 5 rfl | exact (HI.out.drewN _).c1 5 rfl | exact HI.out.drew.c1 5 rfl);(case s3 => first | exact HI.out.n1 5 rfl | exact (HI.out.drewN _).n1 5 rfl | exact HI.out.drew.n1 5 rfl);rintro e w426 ⟨rfl,hb⟩;refine ⟨_,rfl, ?_⟩;have n0_:=Aside0.mk (Inv.step (by first | exact HI.out | exact HI.out.drewN _ | exact HI.out.drew) hb);clear HI hb;have HI:=n0_;clear n0_;clear hq406 hf407 hq408 hf409 hq410 hf411 hq412 hf413 hq414 hf415 hq416 hf417 hq418 hf419 hq420 hf421 hq422 hf423 hq424 hf425;have hq429 : w426.cell? ⟨gb362,0,none⟩ = some (.slice A340 c105.length p343):=HI.out.cell 0 rfl 0 rfl;have hf430 : w426.frozen? ⟨gb362,0,none⟩ = false:=HI.out.frozen 0 rfl 0;have hq431 : w426.cell? ⟨gb362,1,none⟩ = some (.slice A341 s106.length p344):=HI.out.cell 0 rfl 1 rfl;have hf432 : w426.frozen? ⟨gb362,1,none⟩ = false:=HI.out.frozen 0 rfl 1;have hq433 : w426.cell? ⟨gb126,0,none⟩ = some (.slice A108 c105.length p111):=HI.out.cell 4 rfl 0 rfl;have hf434 : w426.frozen? ⟨gb126,0,none⟩ = false:=HI.out.frozen 4 rfl 0;have hq435 : w426.cell? ⟨gb126,1,none⟩ = some (.slice A109 s106.length p112):=HI.out.cell 4 rfl 1 rfl;have hf436 : w426.frozen? ⟨gb126,1,none⟩ = false:=HI.out.frozen 4 rfl 1;have hq437 : w426.cell? ⟨gb77,0,none⟩ = some (.slice A63 c15.length p66):=HI.out.cell 6 rfl 0 rfl;have hf438 : w426.frozen? ⟨gb77,0,none⟩ = false:=HI.out.frozen 6 rfl 0;have hq439 : w426.cell? ⟨gb77,1,none⟩ = some (.slice A64 s16.length p67):=HI.out.cell 6 rfl 1 rfl;have hf440 : w426.frozen? ⟨gb77,1,none⟩ = false:=HI.out.frozen 6 rfl 1;have hq441 : w426.cell? ⟨gb43,0,none⟩ = some (.slice A33 c30.length p36):=HI.out.cell 8 rfl 0 rfl;have hf442 : w426.frozen? ⟨gb43,0,none⟩ = false:=HI.out.frozen 8 rfl 0;have hq443 : w426.cell? ⟨gb43,1,none⟩ = some (.slice A34 s31.length p37):=HI.out.cell 8 rfl 1 rfl;have hf444 : w426.frozen? ⟨gb43,1,none⟩ = false:=HI.out.frozen 8 rfl 1;have hq445 : w426.cell? ⟨gb1,0,none⟩ = some (.slice A0_0 l0_0.length c0_0):=HI.out.cell 11 rfl 0 rfl;have hf446 : w426.frozen? ⟨gb1,0,none⟩ = false:=HI.out.frozen 11 rfl 0;have hq447 : w426.cell? ⟨gb1,1,none⟩ = some (.slice A0_1 l0_1.length c0_1):=HI.out.cell 11 rfl 1 rfl;have hf448 : w426.frozen? ⟨gb1,1,none⟩ = false:=HI.out.frozen 11 rfl 1))
 go_ret
 exact ⟨by first | rfl | (simp;done) | (simp [*];done),(by first | exact HI.out.below | exact (HI.out.drewN _).below | exact HI.out.drew.below)⟩
set_option maxHeartbeats 60000000 in
set_option maxRecDepth 100000 in
theorem laws_FnExactCancelTruck.early (k : Nat) (A0_0 : Option Addr) (c0_0 : Nat) (l0_0 : List Int) (A0_1 : Option Addr) (c0_1 : Nat) (l0_1 : List (List Int)) (a1 : Int) (t8 : Int) (w : World) (hr0_0 : Kd.C (Kd.int .i64) w A0_0 l0_0.length l0_0) (hc0_0 : l0_0.length ≤ c0_0) (hr0_1 : Kd.C (Kd.slice 3 (Kd.int .i64)) w A0_1 l0_1.length l0_1) (hc0_1 : l0_1.length ≤ c0_1) (E9 : laws_szGate.f k l0_0 l0_1 1048576 = some t8) (g0_ : t8 < 0) :
  Calls Try.prog 3 #[.agg #[.slice A0_0 l0_0.length c0_0, .slice A0_1 l0_1.length c0_1], .int .i64 a1] w fun e w' => e = .returned (.bool true) ∧ Below w.heap.size w w':=by
 have hu25:=Try.underlying25
 have hu27:=Try.underlying27
 have HR0_0:=Aside0.mk hr0_0
 have HC0_0:=Aside0.mk hc0_0
 have HR0_1:=Aside0.mk hr0_1
 have HC0_1:=Aside0.mk hc0_1
 clear hr0_0 hc0_0 hr0_1 hc0_1
 have HI:=Aside0.mk (Inv.start w)
 have n0_:=Aside0.mk E9
 clear E9
 have E9:=n0_
 clear n0_
 have g0_b : decide (t8 < 0) = true:=decide_eq_true g0_
 clear g0_
 go_enter Try.func3,Try.ntmps3
 go_wp2_with (first | ((with_reducible refine gate_dst (N:=2) rfl ?_);refine box_event ?hg (N:=2) ?hd (cs:=#[.slice A0_0 l0_0.length c0_0, .slice A0_1 l0_1.length c0_1]) (t:=25) ?hr ?_;(case hd => rfl);(case hg => rfl);(case hr => first | (go_simp;done) | (go_simp;rfl));intro gb1 hg w2 hbox hb;have n0_:=Aside0.mk (Inv.box (by first | exact HI.out | exact HI.out.drewN _ | exact HI.out.drew) hb hbox hg);clear HI hb hbox hg;have HI:=n0_;clear n0_;have hq3 : w2.cell? ⟨gb1,0,none⟩ = some (.slice A0_0 l0_0.length c0_0):=HI.out.cell 0 rfl 0 rfl;have hf4 : w2.frozen? ⟨gb1,0,none⟩ = false:=HI.out.frozen 0 rfl 0;have hq5 : w2.cell? ⟨gb1,1,none⟩ = some (.slice A0_1 l0_1.length c0_1):=HI.out.cell 0 rfl 1 rfl;have hf6 : w2.frozen? ⟨gb1,1,none⟩ = false:=HI.out.frozen 0 rfl 1) | ((with_reducible refine gate_dst (N:=18) rfl ?_);(with_reducible refine gate_callee (f:=8) rfl ?_);refine goesL_ (some 18) rfl rfl Try.func8 (by kernel_rfl) rfl #[.agg #[.slice A0_0 l0_0.length c0_0, .slice A0_1 l0_1.length c0_1], .int .i64 1048576] rfl (by (try simp only [List.map_toArray,List.map_cons,List.map_nil]);first | done | rfl) ?_;(refine (laws_szGate.calls k _ _ l0_0 _ _ l0_1 1048576 t8 _ ?s0 ?s1 ?s2 ?s3 E9.out).mono ?_);(case s0 => repeat (first | exact (Kd.C_below HR0_0.out HI.out.below) | (with_reducible refine Kd.C_alloc ?_ _) | (with_reducible refine Kd.C_drewN ?_ _) | (with_reducible refine Kd.C_drew ?_)));(case s1 => exact HC0_0.out);(case s2 => repeat (first | exact (Kd.C_below HR0_1.out HI.out.below) | (with_reducible refine Kd.C_alloc ?_ _) | (with_reducible refine Kd.C_drewN ?_ _) | (with_reducible refine Kd.C_drew ?_)));(case s3 => exact HC0_1.out);rintro e w7 ⟨rfl,hb⟩;refine ⟨_,rfl, ?_⟩;have n0_:=Aside0.mk (Inv.step (by first | exact HI.out | exact HI.out.drewN _ | exact HI.out.drew) hb);clear HI hb;have HI:=n0_;clear n0_;clear hq3 hf4 hq5 hf6;have hq10 : w7.cell? ⟨gb1,0,none⟩ = some (.slice A0_0 l0_0.length c0_0):=HI.out.cell 0 rfl 0 rfl;have hf11 : w7.frozen? ⟨gb1,0,none⟩ = false:=HI.out.frozen 0 rfl 0;have hq12 : w7.cell? ⟨gb1,1,none⟩ = some (.slice A0_1 l0_1.length c0_1):=HI.out.cell 0 rfl 1 rfl;have hf13 : w7.frozen? ⟨gb1,1,none⟩ = false:=HI.out.frozen 0 rfl 1))
 go_ret
 exact ⟨by first | rfl | (simp;done) | (simp [*];done),(by first | exact HI.out.below | exact (HI.out.drewN _).below | exact HI.out.drew.below)⟩
theorem laws_FnExactCancelTruck.calls (k : Nat) (A0_0 : Option Addr) (c0_0 : Nat) (l0_0 : List Int) (A0_1 : Option Addr) (c0_1 : Nat) (l0_1 : List (List Int)) (a1 : Int) (r : Bool) (w : World) (hr0_0 : Kd.C (Kd.int .i64) w A0_0 l0_0.length l0_0) (hc0_0 : l0_0.length ≤ c0_0) (hr0_1 : Kd.C (Kd.slice 3 (Kd.int .i64)) w A0_1 l0_1.length l0_1) (hc0_1 : l0_1.length ≤ c0_1) (h : laws_FnExactCancelTruck.f k l0_0 l0_1 a1 = some r) :
  Calls Try.prog 3 #[.agg #[.slice A0_0 l0_0.length c0_0, .slice A0_1 l0_1.length c0_1], .int .i64 a1] w fun e w' => e = .returned (.bool r) ∧ Below w.heap.size w w':=by
 unfold laws_FnExactCancelTruck.f at h
 obtain ⟨t8,E9,h2_⟩ := Option.bind_eq_some_iff.mp h
 clear h
 have h:=h2_
 clear h2_
 (try dsimp only at h)
 by_cases g0_ : t8 < 0
 ·rw [if_pos g0_] at h
  obtain rfl:=Option.some.inj h
  exact laws_FnExactCancelTruck.early k A0_0 c0_0 l0_0 A0_1 c0_1 l0_1 a1 t8 w hr0_0 hc0_0 hr0_1 hc0_1 E9 g0_
 rw [if_neg g0_] at h
 obtain ⟨⟨c15,s16⟩,E17,h2_⟩ := Option.bind_eq_some_iff.mp h
 clear h
 have h:=h2_
 clear h2_
 (try dsimp only at h)
 obtain ⟨⟨c30,s31,b29⟩,E32,h2_⟩ := Option.bind_eq_some_iff.mp h
 clear h
 have h:=h2_
 clear h2_
 (try dsimp only at h)
 obtain ⟨⟨c105,s106,z449⟩,E107,h2_⟩ := Option.bind_eq_some_iff.mp h
 clear h
 have h:=h2_
 clear h2_
 (try dsimp only at h)
 by_cases e450 : z449 = b29
 rotate_left
 ·rw [if_neg e450] at h
  cases h
 rw [if_pos e450] at h
 have f_:=e450.symm
 clear e450
 subst f_
 obtain ⟨z451,E162,h2_⟩ := Option.bind_eq_some_iff.mp h
 clear h
 have h:=h2_
 clear h2_
 (try dsimp only at h)
 by_cases e452 : z451 = true
 rotate_left
 ·rw [if_neg e452] at h
  cases h
 rw [if_pos e452] at h
 have f_:=e452.symm
 clear e452
 subst f_
 obtain ⟨z453,E204,h2_⟩ := Option.bind_eq_some_iff.mp h
 clear h
 have h:=h2_
 clear h2_
 (try dsimp only at h)
 by_cases e454 : z453 = true
 rotate_left
 ·rw [if_neg e454] at h
  cases h
 rw [if_pos e454] at h
 have f_:=e454.symm
 clear e454
 subst f_
 obtain ⟨⟨m238,c239,s240⟩,E241,h2_⟩ := Option.bind_eq_some_iff.mp h
 clear h
 have h:=h2_
 clear h2_
 (try dsimp only at h)
 by_cases g6_ : m238 < 0
 ·rw [if_pos g6_] at h
  cases h
 rw [if_neg g6_] at h
 obtain ⟨⟨m276,c277,s278⟩,E279,h2_⟩ := Option.bind_eq_some_iff.mp h
 clear h
 have h:=h2_
 clear h2_
 (try dsimp only at h)
 obtain ⟨z455,E297,h2_⟩ := Option.bind_eq_some_iff.mp h
 clear h
 have h:=h2_
 clear h2_
 (try dsimp only at h)
 by_cases e456 : z455 = m276
 rotate_left
 ·rw [if_neg e456] at h
  cases h
 rw [if_pos e456] at h
 have f_:=e456.symm
 clear e456
 subst f_
 by_cases g8_ : m276 < 0
 ·rw [if_pos g8_] at h
  cases h
 rw [if_neg g8_] at h
 obtain rfl:=Option.some.inj h
 exact laws_FnExactCancelTruck.walk k A0_0 c0_0 l0_0 A0_1 c0_1 l0_1 a1 t8 c15 s16 c30 s31 b29 c105 s106 m238 c239 s240 m276 c277 s278 w hr0_0 hc0_0 hr0_1 hc0_1 E9 E17 E32 E107 E162 E204 E241 E279 E297 g0_ g6_ g8_

end Go.Proofs.Ytcpoiklimbfppaa.PFnExactCancelTruck
