-- Written by a program of this session, over the kit's print (wip/xprint.py)
import Derived.Test.YtglfjaaaegfdnaaPFnGateSlotsx0
namespace Go.Proofs.Ytglfjaaaegfdnaa.PFnGateSlots
open Go.RowKit Go.Proofs.YtglfjaaaegfdnaaW.PrintWords Go.Proofs.YtglfjaaaegfdnaaW.PrintLast Go.Proofs.YtglfjaaaegfdnaaW.PrintMore
attribute [local go_sem] max2_int min2_int max_two min_two max_three min_three max_four min_four   -- for this text's walks alone
set_option linter.unusedVariables false
set_option linter.unusedSimpArgs false
















/-! ### slices_Sort_int: function 80 -/
open Go.Shelf Go.Lib Go.Sort in
theorem SOI_below {w0 w : World} {g n : Nat} {dk : Array Int} {os : Array Obj} (hb0 : Below w0.heap.size w0 w) (hg : w0.heap.size ≤ g) : Below w0.heap.size w0 (grow (putRow (Value.int .i64) (Sort.ahead w n) g 0 dk) os) :=
 hb0.trans ⟨rfl,rfl,rfl,by show w.heap.size ≤ (_ ++ os).size;rw [Array.size_append,size_putRow];show w.heap.size ≤ w.heap.size + _;omega,fun k hk => by
  have hk' : k < w.heap.size:=Nat.lt_of_lt_of_le hk hb0.size;rw [Sort.heap_grow_old _ os (by rw [size_putRow];exact hk')]
  show ((putRow (Value.int .i64) (Sort.ahead w n) g 0 dk).heap)[k]? = w.heap[k]?
  simp only [putRow,mapBlock,Array.getElem?_modify];rw [if_neg (by omega)]
  rfl⟩
open Go.Shelf Go.Lib Go.Sort in
theorem SOI_kept {w : World} {g n : Nat} {dk : Array Int} {os : Array Obj} {S : Nat → Prop} (hs : S g) : Kept w (grow (putRow (Value.int .i64) (Sort.ahead w n) g 0 dk) os) S :=
 ⟨by show w.heap.size ≤ (_ ++ os).size;rw [Array.size_append,size_putRow];show w.heap.size ≤ w.heap.size + _;omega,fun k hk hn => by
  rw [Sort.heap_grow_old _ os (by rw [size_putRow];exact hk)]
  show ((putRow (Value.int .i64) (Sort.ahead w n) g 0 dk).heap)[k]? = w.heap[k]?
  simp only [putRow,mapBlock,Array.getElem?_modify];rw [if_neg (fun h => hn (by subst h;exact hs))]
  rfl⟩
open Go.Shelf Go.Lib Go.Sort in
theorem SOI_holds {w : World} {base g cap : Nat} {ok : Nat → Prop} {xs : List Int} (hO : Kd.R (Kd.int .i64) 3 w base ok (.slice (some ⟨g,0,none⟩) xs.length cap) xs) : Holds (Value.int .i64) w g 0 xs.toArray:=fun j hj => by
 have hj' : j < xs.length:=hj;have:=Kd.R_cell (0 : Int) hO (j : Int) (by omega) (by omega);rw [Int.toNat_natCast] at this;rw [Nat.zero_add];refine ⟨this.1.trans ?_,this.2⟩
 unfold rdOf
 rw [Int.toNat_natCast,getElem!_pos xs.toArray j hj,List.getElem_toArray,List.getD_eq_getElem?_getD,List.getElem?_eq_getElem hj']
 rfl
open Go.Shelf Go.Lib Go.Sort in
theorem SOI_row {w : World} {base g cap m n : Nat} {ok : Nat → Prop} {cur : Array Value} {zs : List Int} {os : Array Obj} (hbase : base ≤ g) (hg : w.heap[g]? = some (.cells cur 3 (0,0))) (hm : m = zs.length) (hn : m ≤ cap) (hcap : cap ≤ maxLen) (hsz : cur.size = cap * 1)
  (hok : ok g) : Kd.R (Kd.int .i64) 3 (grow (putRow (Value.int .i64) (Sort.ahead w n) g 0 zs.toArray) os) base ok (.slice (some ⟨g,0,none⟩) m cap) zs:=by
 have hglt:=blk_lt hg;refine Kd.R_of_own ?_ (fun k hk => by injection hk with hk;subst hk;exact hok);refine ⟨by simp [encs],Or.inr ⟨g,cap,putCells (Value.int .i64) 0 zs.toArray cur,by rw [hm],hbase, ?_,by rw [← hm];exact hn,hcap,by rw [← hsz];simp [putCells], ?_⟩⟩
 ·rw [Sort.heap_grow_old _ os (by rw [size_putRow];exact hglt)];simp only [putRow,mapBlock,Array.getElem?_modify,if_true];show (w.heap[g]?).map _ = _;rw [hg];rfl
 apply List.ext_getElem
 ·simp [putCells,encs];omega
 intro j h1 h2;have hj : j < zs.length:=by simpa [encs] using h2
 simp [putCells,encs];rw [if_pos (by omega),List.getElem?_eq_getElem hj];rfl
def slices_Sort_int.f (l0 : List Int) : Option (List Int):=if l0.length < 4611686018427387904 then some (l0.mergeSort fun x y => decide (x ≤ y)) else none
set_option maxHeartbeats 8000000 in
set_option maxRecDepth 100000 in
open Go.Shelf Go.Lib Go.Sort in
theorem slices_Sort_int.calls (P0_ : Nat → Prop) (u9000_ : Value) (l0 : List Int) (r : List Int) (w0 w : World) (hB : Below w0.heap.size w0 w) (ho0 : Kd.R (Kd.int .i64) 3 w w0.heap.size P0_ u9000_ l0) (h : slices_Sort_int.f l0 = some r) :
  Calls Try.prog 80 #[u9000_] w fun e w' => e = .returned (.tuple #[]) ∧ Kd.R (Kd.int .i64) 3 w' w0.heap.size (fun k_ => (P0_ k_ ∨ w.heap.size ≤ k_)) u9000_ r ∧ Below w0.heap.size w0 w' ∧ Kept w w' (fun k_ => P0_ k_):=by
 unfold slices_Sort_int.f at h;by_cases hl : l0.length < 4611686018427387904
 ·rw [if_pos hl] at h;obtain rfl:=Option.some.inj h;obtain ⟨hlen,hnil | ⟨g,cap,cur,hv,hbase,hg,hn,hcap,hsz,htk⟩⟩ := Kd.own_of_R ho0
  ·obtain ⟨rfl,h0⟩ := hnil;obtain rfl:=List.eq_nil_of_length_eq_zero h0;refine (Try.slices_Sort_int_none none 0 w).mono fun e w' ⟨he,hw⟩ => ?_
   subst hw;rw [show (([] : List Int).mergeSort fun x y => decide (x ≤ y)) = [] from by simp];exact ⟨he,Kd.R_mono ho0 (fun k hk => .inl hk),hB,Kept.refl _ _⟩
  subst hv;have hglt:=blk_lt hg;have hP : P0_ g:=ho0.1 g rfl;have con:=Try.slices_Sort_int g 0 cap l0 w (SOI_holds ho0) hglt hl;have hs : l0.length = (l0.mergeSort fun x y => decide (x ≤ y)).length:=by rw [List.length_mergeSort]
  generalize (l0.mergeSort fun x y => decide (x ≤ y)) = zs at con hs ⊢;refine con.mono fun e w' ⟨he,n,os,hw⟩ => ?_
  subst hw;exact ⟨he,SOI_row (n:=n) (os:=os) (ok:=fun k_ => (P0_ k_ ∨ w.heap.size ≤ k_)) hbase hg hs hn hcap hsz (.inl hP),SOI_below hB hbase,SOI_kept hP⟩
 rw [if_neg hl] at h;cases h

/-! ### impl_Gate_put: function 45 -/
def impl_Gate_put.f (l0_0 : List Int) (l0_1 : List (List Int)) (a1 : Int) (a2 : Int) : Option (List (List Int)):=if 0 ≤ a2 then (if a2 < (l0_1.length : Int) then (if (l0_1.getD a2.toNat ([] : List Int)).length < 17592186044416 then some (l0_1.set a2.toNat ((l0_1.getD a2.toNat ([] : List Int) ++ [a1]).mergeSort fun x y => decide (x ≤ y))) else none) else none) else none
def impl_Gate_put.T1 : Bool × List (List Nat × List Nat):=(true,[([],[]),([0],[0]),([],[]),([],[]),([3],[3]),([],[]),([4,5],[4,5]),([6],[6]),([],[]),([8],[8]),([7,9],[7,9]),([1,2,0,1,2,3,4,5,6,7,8,9,10],[1,2]),([11,10,10,0,1,2,3,4,5,6,7,8,9,10],[10,11])])
def impl_Gate_put.B1 : List Nat := [0,1,0,0,8,0,56,120,0,256,1016,2047,4095]
theorem impl_Gate_put.tab1 : rtab .any (opsOf Try.f45 1) = impl_Gate_put.T1:=by kernel_rfl
theorem impl_Gate_put.bits1 : waitsOk impl_Gate_put.T1.2 impl_Gate_put.B1 = true:=by kernel_rfl
set_option maxHeartbeats 8000000 in
set_option maxRecDepth 100000 in
theorem impl_Gate_put.walk (A0_0 : Option Addr) (c0_0 : Nat) (l0_0 : List Int) (P0_1_ : Nat → Prop) (u9000_ : Value) (l0_1 : List (List Int)) (a1 : Int) (a2 : Int) (xs : List Int) (hxs : xs = l0_1.getD a2.toNat ([] : List Int)) (w0 w : World) (hB : Below w0.heap.size w0 w) (ho0_1 : Kd.S (Kd.slice 3 (Kd.int .i64)) 24 w w0.heap.size P0_1_ u9000_ l0_1) (p4 : 0 ≤ a2) (p5 : a2 < (l0_1.length : Int)) (p6 : xs.length < 17592186044416) :
  Calls Try.prog 45 #[.agg #[.slice A0_0 l0_0.length c0_0,u9000_], .int .i64 a1, .int .i64 a2] w fun e w' => e = .returned (.tuple #[]) ∧ Kd.S (Kd.slice 3 (Kd.int .i64)) 24 w' w0.heap.size (fun k_ => (P0_1_ k_ ∨ w.heap.size ≤ k_)) u9000_ (l0_1.set a2.toNat ((xs ++ [a1]).mergeSort fun x y => decide (x ≤ y))) ∧ Below w0.heap.size w0 w' ∧ Kept w w' (fun k_ => P0_1_ k_):=by
 have hu27:=Try.underlying27;have LM:=am_ p6;clear p6;have c4b0 : decide (0 ≤ a2) = true:=decide_eq_true p4;have c5b0 : decide (a2 < (l0_1.length : Int)) = true:=decide_eq_true p5;have P4:=am_ p4;have P5:=am_ p5;clear p4 p5;obtain ⟨go,co,eo,gb,gl,cl,HG⟩ := Kd.S_form ho0_1 (by have:=P4.out;have:=P5.out;omega);subst eo;have HMgo:=am_ (show P0_1_ go from (Kd.S_R ho0_1).1 go rfl);have GB:=am_ gb;have HO:=am_ (show Kd.S (Kd.slice 3 (Kd.int .i64)) 24 w w0.heap.size (fun k_ => P0_1_ k_ ∨ w.heap.size ≤ k_) (.slice (some ⟨go,0,none⟩) l0_1.length co) l0_1 from Kd.S_mono ho0_1 (fun k_ hk => .inl hk));have HK:=am_ (Kept.refl w P0_1_);have HW0:=am_ hB.size;have HB:=am_ hB;have HXS:=am_ hxs;clear hB gb gl HG ho0_1 hxs;go_enter Try.func45,Try.ntmps45;(try go_wp2_with ((with_reducible refine gate_dst (N:=3) rfl ?_);refine box_event ?hg (N:=3) ?hd (cs:=#[.slice A0_0 l0_0.length c0_0, .slice (some ⟨go,0,none⟩) l0_1.length co]) (t:=27) ?hr ?_;(case hd => rfl);(case hg => rfl);(case hr => (go_simp;done));intro gx hg w9 hbox hb;replace HO:=am_ (Kd.S_below (Kd.S_elderB (by exact HO.out) gx (Nat.le_of_eq hg.symm)) hb);replace HB:=am_ (below_step (by exact HB.out) hb);have BKg:=am_ hbox;have GWg:=am_ ((by rw [hg];exact (show Kept w _ P0_1_ from by exact HK.out).1 : w.heap.size ≤ gx));replace HK:=am_ (Kept.below (S:=P0_1_) (by exact HK.out) hb);clear hb hbox hg));have n0_:=am_ (Kd.S_drew HO.out);have n1_:=am_ (Kept.drew HK.out);have n2_:=am_ (below_drew1 HB.out);have n_g:=am_ (blk_drew BKg.out);clear HO HK HB BKg;have HO:=n0_;have HK:=n1_;have HB:=n2_;have BKg:=n_g;clear n0_ n1_ n2_ n_g;obtain ⟨oki1,ce1,hce1,hM1,hcell1,hfr1,hoki1,hH1⟩ := Kd.S_elem HO.out ([] : List Int) a2 P4.out (by have:=P5.out;omega);obtain ⟨v1,hv1,hR1⟩ := hM1;subst hv1
 have hx1 : (w9.drew).cell? ⟨go,a2.toNat,none⟩ = some v1:=by
  have:=hcell1 0 v1 rfl;rwa [show a2.toNat * (Kd.slice 3 (Kd.int .i64)).sz + 0 = a2.toNat from Nat.mul_one _] at this
 rw [← HXS.out] at hR1;obtain ⟨av,cv,ev⟩ := Kd.R_slice hR1;subst ev;have UU:=am_ hR1;have HH:=am_ hH1;have HI:=am_ hoki1;clear hR1 hH1 hoki1 hcell1 hfr1 hce1;have p4e:=eq_true P4.out;have p5e:=eq_true P5.out;refine st_ 13 (fun w' => w'.cell? ⟨gx,0,none⟩ = some (.slice A0_0 l0_0.length c0_0) ∧ w'.cell? ⟨gx,1,none⟩ = some (.slice (some ⟨go,0,none⟩) l0_1.length co) ∧ w'.cell? ⟨go,(a2).toNat,none⟩ = some (.slice av xs.length cv)) [12] impl_Gate_put.tab1 impl_Gate_put.bits1 ⟨(blk_cell BKg.out 0).trans rfl,(blk_cell BKg.out 1).trans rfl,hx1⟩ (fun hHeld HT_ HW_ => ?_);generalize w9.drew = w10 at HO BKg HK HB UU HH hx1 hHeld ⊢;replace HH:=am_ (Kd.H_widen HH.out);refine p_ 0 6 HT_ ?_;refine p_ 2 8 HT_ ?_;refine p_ 3 9 HT_ ?_;refine p_ 5 11 HT_ ?_;refine p_ 8 14 HT_ ?_;refine t_ 1 7 HT_ HW_ hHeld ?_;refine t_ 4 10 HT_ HW_ hHeld ?_;refine p_ 6 12 HT_ ?_;refine t_ 7 13 HT_ HW_ hHeld ?_;refine o_ 9 (some 15) HT_ (fun K hK => ?_);refine value_ (w1:=?_) (v:=?_) (by rfl) rfl ?_ ?_;rotate_left 2
 ·go_simp;constructor
  ·rfl
  rfl
 refine hK.out _ _ ⟨(blk_cell (blk_alloc BKg.out _) 0).trans rfl,(blk_cell (blk_alloc BKg.out _) 1).trans rfl,(World.cell?_alloc_lt _ _ _ (World.block_lt_of_cell? _ _ (hHeld.2.2))).trans (hHeld.2.2)⟩ (fun hHeld => ?_);clear hK K;refine norm_ (a':=?_) ?_ ?_;rotate_left
 ·show Act.put _ (some 15) _ = _;simp only [Act.put,sA_,s0_,s1_,i64_w,i32_w];rfl
 refine o_ 10 (some 16) HT_ (fun K hK => ?_);refine Kd.R_append_step (Kd.int .i64) (w0:=w0) w0.heap.size (by rfl) (.tmp 13) (.tmp 15) 24 3 (.int .i64 0) 8 rfl Try.underlying24 info3 rfl (by decide) (by omega) (.slice av xs.length cv) xs a1 [.int .i64 a1] (fun k_ => oki1 k_ ∨ ((P0_1_ k_ ∨ w.heap.size ≤ k_) ∧ k_ ≠ gx) ∧ w10.heap.size ≤ k_) (fun _ => False) rfl rfl ?aP (fun _ hk => hk.elim) ?aF ?aO ?aB ?aS ?aL ?_;(case aP => exact rfl);(case aB => exact (by exact HB.out));(case aF => exact (fun k_ hk => .inr ⟨⟨.inr (Nat.le_trans HK.out.1 hk),fun e_ => by have:=blk_lt BKg.out;omega⟩,hk⟩));(case aO => exact (by exact Kd.R_mono UU.out (fun _ hk => .inl hk)));(case aS => exact (below_size (by exact HB.out)));(case aL => have:=LM.out;omega);intro v2 w26 ho hb hg hat;have HS2_:=cell_grown hg hx1 (fun e_ => (HI.out _ (UU.out.1 _ e_.symm)).2 rfl);have n0_:=am_ (blk_grown (g:=gx) (o := .cells #[.slice A0_0 l0_0.length c0_0, .slice (some ⟨go,0,none⟩) l0_1.length co] 27 (0,0)) (by exact BKg.out) hg (Kd.R_ne UU.out BKg.out (by decide)));have n1_:=am_ hb;have n2_:=am_ (Kd.H_grown HH.out hg (fun k_ e_ => .inl (UU.out.1 k_ e_)));have n3_:=am_ ho;have n4_:=am_ (Kept.of_grown hg HK.out (fun k_ e_ => (HI.out k_ (UU.out.1 k_ e_)).1.1));clear BKg HB HH HK HO;have BKg:=n0_;have HB:=n1_;have HH:=n2_;have HN:=n3_;have HK:=n4_;clear n0_ n1_ n2_ n3_ n4_ ho hb hg hat;obtain ⟨ys,hys⟩ : ∃ ys : List Int,ys = xs ++ [a1]:=⟨_,rfl⟩;have n3_:=am_ (show Kd.R (Kd.int .i64) 3 w26 w0.heap.size _ v2 ys from by rw [hys];exact HN.out);have YS:=am_ hys;clear HN hys;have HN:=n3_;clear n3_;obtain ⟨Ao,co2,eo2⟩ := Kd.R_slice HN.out;subst eo2;obtain ⟨_,_,hraw,_,_,hcc,_⟩ := Kd.H_raw HH.out P4.out P5.out;obtain ⟨_,hfr⟩ := Kd.H_at HH.out P4.out P5.out;have hx2:=hcc 0 _ rfl;have hf2:=hfr 0;(try simp only [Nat.add_zero] at hx2);(try rw [show ((Kd.slice 3 (Kd.int .i64))).sz = 1 from rfl,Nat.mul_one] at hx2);(try simp only [Nat.add_zero] at hf2);(try rw [show ((Kd.slice 3 (Kd.int .i64))).sz = 1 from rfl,Nat.mul_one] at hf2);have HP:=Kd.S_seg0 HH.out P4.out P5.out (seg := [.slice Ao (ys).length co2]) (j:=0) (show 1 ≤ 1 from by decide) (x':=ys) (Kd.M_row HN.out) (fun _ hk => hk);(try simp only [show ((Kd.slice 3 (Kd.int .i64))).sz = 1 from rfl,Nat.mul_one,Nat.add_zero] at HP);have HNB:=am_ (show gx ≠ go from by have h_:=Kd.R_ne hraw BKg.out (by decide);intro e_;exact h_ (by rw [e_];rfl));have HQ:=am_ HP.1;clear HP hcc hfr;refine hK.out _ _ ⟨(blk_cell BKg.out 0).trans rfl,(blk_cell BKg.out 1).trans rfl,HS2_⟩ (fun hHeld => ?_);clear hK K;refine norm_ (a':=?_) ?_ ?_;rotate_left
 ·show Act.put _ (some 16) _ = _;simp only [Act.put,sA_,s0_,s1_,i64_w,i32_w];rfl
 refine p_ 11 17 HT_ ?_;refine z_ 12 none HT_ (fun K hK => ?_);refine skip_ (w1:=?_) (by rfl) rfl ?_ ?_;rotate_left
 ·go_simp;rfl
 refine hK.out _ _ ?_;clear hK K;refine d_ HT_ ?_;have n0_ : Aside0 (Kd.S (Kd.slice 3 (Kd.int .i64)) 24 (w26.setCell ⟨go,(a2 : Int).toNat,none⟩ (.slice Ao (ys).length co2)) w0.heap.size (fun k_ => (P0_1_ k_ ∨ w.heap.size ≤ k_) ∧ k_ ≠ gx) (.slice (some ⟨go,0,none⟩) l0_1.length co) (l0_1.set a2.toNat (ys))):=⟨HQ.out⟩;have n1_ : Aside0 ((w26.setCell ⟨go,(a2 : Int).toNat,none⟩ (.slice Ao (ys).length co2)).heap[gx]? = some (.cells #[.slice A0_0 l0_0.length c0_0, .slice (some ⟨go,0,none⟩) l0_1.length co] 27 (0,0))):=⟨by refine blk_far ?_ HNB.out _;exact BKg.out⟩;have n2_ : Aside0 (Below w0.heap.size w0 (w26.setCell ⟨go,(a2 : Int).toNat,none⟩ (.slice Ao (ys).length co2))):=⟨below_set HB.out GB.out⟩;have n3_ : Aside0 (Kept w (w26.setCell ⟨go,(a2 : Int).toNat,none⟩ (.slice Ao (ys).length co2)) P0_1_):=⟨Kept.setCell HK.out (.inl HMgo.out) _⟩;clear BKg HB HH HK HN HQ hx2 hf2 hraw;generalize (w26.setCell ⟨go,(a2 : Int).toNat,none⟩ (.slice Ao (ys).length co2)) = w30 at n0_ n1_ n2_ n3_ ⊢;have HO:=n0_;have BKg:=n1_;have HB:=n2_;have HK:=n3_;clear n0_ n1_ n2_ n3_;have hcz_0 : w30.cell? ⟨gx,0,none⟩ = some (.slice A0_0 l0_0.length c0_0):=(blk_cell BKg.out 0).trans rfl;have hcz_1 : w30.cell? ⟨gx,1,none⟩ = some (.slice (some ⟨go,0,none⟩) l0_1.length co):=(blk_cell BKg.out 1).trans rfl;have hfz_0:=blk_frozen BKg.out 0;have hfz_1:=blk_frozen BKg.out 1;obtain ⟨oki3,ce3,hce3,hM3,hcell3,hfr3,hoki3,hH3⟩ := Kd.S_elem HO.out ([] : List Int) a2 P4.out (by have:=P5.out;omega);obtain ⟨v3,hv3,hR3⟩ := hM3;subst hv3
 have hx3 : (w30).cell? ⟨go,a2.toNat,none⟩ = some v3:=by
  have:=hcell3 0 v3 rfl;rwa [show a2.toNat * (Kd.slice 3 (Kd.int .i64)).sz + 0 = a2.toNat from Nat.mul_one _] at this
 rw [show (l0_1.set a2.toNat (ys)).getD a2.toNat [] = ys from by rw [List.getD_eq_getElem?_getD,List.getElem?_set_self (by have:=P4.out;have:=P5.out;omega)];rfl] at hR3;obtain ⟨av3,cv3,ev3⟩ := Kd.R_slice hR3;subst ev3;have UR:=am_ hR3;have HH:=am_ hH3;have HJ:=am_ hoki3;clear hR3 hH3 hoki3 hcell3 hfr3 hce3
 have SF : slices_Sort_int.f (ys) = some ((ys).mergeSort fun x y => decide (x ≤ y)):=by
  unfold slices_Sort_int.f
  rw [if_pos (by have h1_:=LM.out;have h2_:=congrArg List.length YS.out;rw [List.length_append,List.length_singleton] at h2_;omega)]
 have SFA:=am_ SF;clear SF;go_wp2_with ((with_reducible refine gate_callee (f:=80) rfl ?_);refine goesL_ (some 23) rfl rfl Try.func80 (by kernel_rfl) rfl #[.slice av3 (ys).length cv3] rfl (by (try simp only [List.map_toArray,List.map_cons,List.map_nil]);rfl) ?_;(refine (slices_Sort_int.calls oki3 _ (ys) ((ys).mergeSort fun x y => decide (x ≤ y)) w0 _ ?sideB ?sideR SFA.out).mono ?_);(case sideB => exact (by exact HB.out));(case sideR => exact UR.out);rintro e w40 ⟨rfl,hR4,hb4,hk4⟩;refine ⟨_,rfl, ?_⟩;have R4:=am_ hR4;have B4:=am_ hb4;have K4:=am_ (show Kept w30 w40 oki3 from hk4);clear hR4 hb4 hk4);go_end0;have h1:=Kd.H_widen HH.out;have h2:=Kd.H_step (w1:=w40) h1 (fun j hj hn hlt => K4.out.2 j hlt (fun ho => hn (.inl ho)));have h3:=Kd.H_back h2 (x':=(ys).mergeSort fun x y => decide (x ≤ y)) (okp:=fun k_ => (oki3 k_ ∨ w30.heap.size ≤ k_)) ⟨_,rfl,R4.out⟩ (fun j hj => hj.elim (fun ho => .inl ho) (fun hf => .inr ⟨⟨.inr (Nat.le_trans HK.out.1 hf),fun e_ => by have:=blk_lt BKg.out;omega⟩,hf⟩));rw [List.set_set,YS.out] at h3;exact ⟨by rfl,Kd.S_mono h3 (fun _ hk => hk.1),B4.out,HK.out.then_ K4.out (fun j hj => (HJ.out j hj).1.1)⟩
set_option maxHeartbeats 8000000 in
set_option maxRecDepth 100000 in
theorem impl_Gate_put.calls (A0_0 : Option Addr) (c0_0 : Nat) (l0_0 : List Int) (P0_1_ : Nat → Prop) (u9000_ : Value) (l0_1 : List (List Int)) (a1 : Int) (a2 : Int) (r : List (List Int)) (w0 w : World) (hB : Below w0.heap.size w0 w) (hr0_0 : ∀ W_,Kept w W_ (fun k_ => P0_1_ k_) → Kd.C (Kd.int .i64) W_ A0_0 l0_0.length l0_0) (hc0_0 : l0_0.length ≤ c0_0) (ho0_1 : Kd.S (Kd.slice 3 (Kd.int .i64)) 24 w w0.heap.size P0_1_ u9000_ l0_1) (h : impl_Gate_put.f l0_0 l0_1 a1 a2 = some r) :
  Calls Try.prog 45 #[.agg #[.slice A0_0 l0_0.length c0_0,u9000_], .int .i64 a1, .int .i64 a2] w fun e w' => e = .returned (.tuple #[]) ∧ Kd.S (Kd.slice 3 (Kd.int .i64)) 24 w' w0.heap.size (fun k_ => (P0_1_ k_ ∨ w.heap.size ≤ k_)) u9000_ r ∧ Below w0.heap.size w0 w' ∧ Kept w w' (fun k_ => P0_1_ k_):=by
 have hu27:=Try.underlying27;clear hr0_0 hc0_0;unfold impl_Gate_put.f at h;by_cases c4 : 0 ≤ a2
 ·rw [if_pos c4] at h;by_cases c5 : a2 < (l0_1.length : Int)
  ·rw [if_pos c5] at h;obtain ⟨xs,hxs⟩ : ∃ xs,xs = l0_1.getD a2.toNat ([] : List Int):=⟨_,rfl⟩;rw [← hxs] at h;by_cases c6 : xs.length < 17592186044416
   ·rw [if_pos c6] at h;obtain rfl:=Option.some.inj h;clear h;exact impl_Gate_put.walk A0_0 c0_0 l0_0 P0_1_ u9000_ l0_1 a1 a2 xs hxs w0 w hB ho0_1 c4 c5 c6
   rw [if_neg c6] at h;cases h
  rw [if_neg c5] at h;cases h
 rw [if_neg c4] at h;cases h

/-! ### impl_Gate_drop_1: function 84 -/
def impl_Gate_drop_1.f (a0 : Int) (a1 : Int) : Option (Bool):=some (a0 == a1)
set_option maxHeartbeats 8000000 in
set_option maxRecDepth 100000 in
theorem impl_Gate_drop_1.calls (a0 : Int) (a1 : Int) {G1 : Nat} (r : Bool) (w : World) (hg1 : w.cell? ⟨G1,0,none⟩ = some (.int .i64 a1)) (h : impl_Gate_drop_1.f a0 a1 = some r) :
  Calls Try.prog 84 #[.int .i64 a0, .pointer (some ⟨G1,0,none⟩)] w fun e w' => e = .returned (.bool r) ∧ Below w.heap.size w w':=by
 have HB:=am_ (Below.refl w.heap.size w);have H : (some (a0 == a1)) = some r:=h;clear h;obtain rfl:=Option.some.inj H;go_enter Try.func84,Try.ntmps84;go_wp2;go_ret;exact ⟨by rfl,by exact HB.out⟩

/-! ### slices_DeleteFunc_int: function 83 -/
set_option maxHeartbeats 8000000 in
set_option maxRecDepth 100000 in
open Go.Shelf Go.Lib Go.Sort in
theorem DFO_gives {G : Nat} (x a1 : Int) (W : World) (hg1 : W.cell? ⟨G,0,none⟩ = some (.int .i64 a1)) :
  FnGives Try.prog 84 #[.pointer (some ⟨G,0,none⟩)] #[.int .i64 x] (.bool (decide (x = a1))) W:=by
 show Calls Try.prog 84 #[.int .i64 x, .pointer (some ⟨G,0,none⟩)] W _;go_enter Try.func84,Try.ntmps84;go_wp2;go_ret
 first
  | exact ⟨rfl,0,rfl⟩
  | exact ⟨by by_cases h : x = a1 <;> simp [h],0,rfl⟩
  | exact ⟨rfl,_,rfl⟩
  | exact ⟨by by_cases h : x = a1 <;> simp [h],_,rfl⟩
open Go.Shelf Go.Lib Go.Sort in
theorem DFO_below {w0 w : World} {g n : Nat} {dk : Array Int} {os : Array Obj} (hb0 : Below w0.heap.size w0 w) (hg : w0.heap.size ≤ g) : Below w0.heap.size w0 (grow (putRow (Value.int .i64) (Sort.ahead w n) g 0 dk) os) :=
 hb0.trans ⟨rfl,rfl,rfl,by show w.heap.size ≤ (_ ++ os).size;rw [Array.size_append,size_putRow];show w.heap.size ≤ w.heap.size + _;omega,fun k hk => by
  have hk' : k < w.heap.size:=Nat.lt_of_lt_of_le hk hb0.size;rw [Sort.heap_grow_old _ os (by rw [size_putRow];exact hk')]
  show ((putRow (Value.int .i64) (Sort.ahead w n) g 0 dk).heap)[k]? = w.heap[k]?
  simp only [putRow,mapBlock,Array.getElem?_modify];rw [if_neg (by omega)]
  rfl⟩
open Go.Shelf Go.Lib Go.Sort in
theorem DFO_kept {w : World} {g n : Nat} {dk : Array Int} {os : Array Obj} {S : Nat → Prop} (hs : S g) : Kept w (grow (putRow (Value.int .i64) (Sort.ahead w n) g 0 dk) os) S :=
 ⟨by show w.heap.size ≤ (_ ++ os).size;rw [Array.size_append,size_putRow];show w.heap.size ≤ w.heap.size + _;omega,fun k hk hn => by
  rw [Sort.heap_grow_old _ os (by rw [size_putRow];exact hk)]
  show ((putRow (Value.int .i64) (Sort.ahead w n) g 0 dk).heap)[k]? = w.heap[k]?
  simp only [putRow,mapBlock,Array.getElem?_modify];rw [if_neg (fun h => hn (by subst h;exact hs))]
  rfl⟩
set_option maxHeartbeats 8000000 in
set_option maxRecDepth 100000 in
open Go.Shelf Go.Lib Go.Sort in
theorem slices_DeleteFunc_int.own {P : Nat → Prop} {a1 : Int} {G : Nat} {A0 : Option Addr} {c0 : Nat} {l0 : List Int} {w0 w : World} (hO : Kd.R (Kd.int .i64) 3 w w0.heap.size P (.slice A0 l0.length c0) l0)
  (hG : ¬ P G) (hbox : w.heap[G]? = some (.cells #[.int .i64 a1] 3 (0,0))) (hb0 : Below w0.heap.size w0 w) (hl : 0 < l0.length) :
  Calls Try.prog 83 #[.slice A0 l0.length c0, .func (.func 84) #[] #[.pointer (some ⟨G,0,none⟩)]] w fun e w' => ∃ v1 : Value,e = .returned v1 ∧ Kd.R (Kd.int .i64) 3 w' w0.heap.size P v1 (l0.filter fun x => !decide (x = a1)) ∧ Below w0.heap.size w0 w' ∧ Kept w w' P:=by
 obtain ⟨hlen,hnil | ⟨g,cap,cur,hv,hbase,hg,hn,hcap,hsz,htk⟩⟩ := Kd.own_of_R hO
 ·omega
 injection hv with hv1 _ hv3;subst hv1;subst hv3;have hP : P g:=hO.1 g rfl;have hglt:=blk_lt hg;have hGlt:=blk_lt hbox
 have hne : G ≠ g:=by
  rintro rfl
  exact hG hP
 have hcell : w.cell? ⟨G,0,none⟩ = some (.int .i64 a1):=(blk_cell hbox 0).trans rfl
 have hH : Holds (Value.int .i64) w g 0 l0.toArray:=fun j hj => by
  have hj' : j < l0.length:=hj;have:=Kd.R_cell (0 : Int) hO (j : Int) (by omega) (by omega);rw [Int.toNat_natCast] at this;rw [Nat.zero_add];refine ⟨this.1.trans ?_,this.2⟩
  unfold rdOf
  rw [Int.toNat_natCast,getElem!_pos l0.toArray j hj,List.getElem_toArray,List.getD_eq_getElem?_getD,List.getElem?_eq_getElem hj']
  rfl
 have eg : ∀ args w,(callFunc 84 args).run Try.prog w = .ok (.enter 84 args) w:=enters_of Try.func84 (by kernel_rfl) rfl
 have pa : PredAt Try.prog 84 #[.pointer (some ⟨G,0,none⟩)] (Value.int .i64) (fun x => decide (x = a1)) w:=fun W x hb =>
  DFO_gives x a1 W ((hb.cell (p:=⟨G,0,none⟩) hGlt).trans hcell)
 have po : PredOver Try.prog 84 #[.pointer (some ⟨G,0,none⟩)] (Value.int .i64) (fun x => decide (x = a1)) g 0 l0.toArray.size w:=fun n os dk x _ =>
  DFO_gives x a1 _ (by
   unfold sortWorld
   rw [cell?_grow _ _ _ (by show G < (putRow _ _ _ _ _).heap.size;rw [size_putRow];exact hGlt),cell?_putRow_other _ _ g 0 _ _ (Or.inl hne)]
   exact hcell)
 have con:=Try.slices_DeleteFunc (Value.int .i64) (fun _ => rfl) (fun x => decide (x = a1)) 84 #[.pointer (some ⟨G,0,none⟩)] eg 0 Try.zeroValue3 g 0 c0 l0.toArray w pa po hH (by show l0.length ≤ _;have:=hcap;unfold maxLen at this;omega) hn;change Calls Try.prog 83 #[.slice (some ⟨g,0,none⟩) l0.length c0, .func (.func 84) #[] #[.pointer (some ⟨G,0,none⟩)]] w (fun e w' => e = .returned (.slice (some ⟨g,0,none⟩) (l0.filter fun x => !decide (x = a1)).length c0) ∧ ∃ q,w' = putRow (Value.int .i64) (Sort.ahead w q) g 0 ((l0.filter fun x => !decide (x = a1)) ++ List.replicate (l0.length - (l0.filter fun x => !decide (x = a1)).length) 0).toArray) at con;have hfl : (l0.filter fun x => !decide (x = a1)).length ≤ l0.length:=List.length_filter_le _ _;generalize (l0.filter fun x => !decide (x = a1)) = fl at con hfl ⊢
 have e_ : ∀ X : World,grow X #[] = X:=fun X => by
  unfold grow
  rw [Array.append_empty]
 refine con.mono fun e w' ⟨he,q,hw⟩ => ⟨_,he, ?_, ?_, ?_⟩
 ·subst hw;refine Kd.R_of_own ?_ (fun k hk => by injection hk with hk;subst hk;exact hP);refine ⟨by simp [encs],Or.inr ⟨g,c0,putCells (Value.int .i64) 0 (fl ++ List.replicate (l0.length - fl.length) 0).toArray cur,rfl,hbase, ?_,by omega,hcap,by rw [← hsz];simp [putCells], ?_⟩⟩
  ·simp only [putRow,mapBlock,Array.getElem?_modify,if_true];show (w.heap[g]?).map _ = _;rw [hg];rfl
  apply List.ext_getElem
  ·simp [putCells,encs];omega
  intro j h1 h2;have hj : j < fl.length:=by simpa [encs] using h2
  simp [putCells,encs];rw [if_pos (by omega),List.getElem?_append_left hj,List.getElem?_eq_getElem hj];rfl
 ·subst hw;have:=DFO_below (n:=q) (dk:=(fl ++ List.replicate (l0.length - fl.length) 0).toArray) (os:=#[]) hb0 hbase;rw [e_] at this;exact this
 subst hw;have:=DFO_kept (w:=w) (n:=q) (dk:=(fl ++ List.replicate (l0.length - fl.length) 0).toArray) (os:=#[]) (S:=P) hP;rw [e_] at this;exact this

/-! ### impl_Gate_drop: function 51 -/
def impl_Gate_drop.f (l0_0 : List Int) (l0_1 : List (List Int)) (a1 : Int) (a2 : Int) : Option (List (List Int)):=if 0 ≤ a2 then (if a2 < (l0_1.length : Int) then (if 0 < (l0_1.getD a2.toNat ([] : List Int)).length then some (l0_1.set a2.toNat ((l0_1.getD a2.toNat ([] : List Int)).filter fun x => !decide (x = a1))) else none) else none) else none
def impl_Gate_drop.T1 : Bool × List (List Nat × List Nat):=(true,[([],[]),([0],[0]),([],[]),([],[]),([3],[3]),([],[]),([4,5],[4,5]),([6],[6]),([],[]),([7,8],[7,8]),([1,2,0,1,2,3,4,5,6,7,8,9],[1,2]),([10,9,9,0,1,2,3,4,5,6,7,8,9],[9,10])])
def impl_Gate_drop.B1 : List Nat := [0,1,0,0,8,0,56,120,0,504,1023,2047]
theorem impl_Gate_drop.tab1 : rtab .any (opsOf Try.f51 1) = impl_Gate_drop.T1:=by kernel_rfl
theorem impl_Gate_drop.bits1 : waitsOk impl_Gate_drop.T1.2 impl_Gate_drop.B1 = true:=by kernel_rfl
set_option maxHeartbeats 8000000 in
set_option maxRecDepth 100000 in
theorem impl_Gate_drop.walk (A0_0 : Option Addr) (c0_0 : Nat) (l0_0 : List Int) (P0_1_ : Nat → Prop) (u9000_ : Value) (l0_1 : List (List Int)) (a1 : Int) (a2 : Int) (xs : List Int) (hxs : xs = l0_1.getD a2.toNat ([] : List Int)) (w0 w : World) (hB : Below w0.heap.size w0 w) (ho0_1 : Kd.S (Kd.slice 3 (Kd.int .i64)) 24 w w0.heap.size P0_1_ u9000_ l0_1) (p4 : 0 ≤ a2) (p5 : a2 < (l0_1.length : Int)) (p6 : 0 < xs.length) :
  Calls Try.prog 51 #[.agg #[.slice A0_0 l0_0.length c0_0,u9000_], .int .i64 a1, .int .i64 a2] w fun e w' => e = .returned (.tuple #[]) ∧ Kd.S (Kd.slice 3 (Kd.int .i64)) 24 w' w0.heap.size (fun k_ => (P0_1_ k_ ∨ w.heap.size ≤ k_)) u9000_ (l0_1.set a2.toNat (xs.filter fun x => !decide (x = a1))) ∧ Below w0.heap.size w0 w' ∧ Kept w w' (fun k_ => P0_1_ k_):=by
 have hu27:=Try.underlying27;have LM:=am_ p6;clear p6;have c4b0 : decide (0 ≤ a2) = true:=decide_eq_true p4;have c5b0 : decide (a2 < (l0_1.length : Int)) = true:=decide_eq_true p5;have P4:=am_ p4;have P5:=am_ p5;clear p4 p5;obtain ⟨go,co,eo,gb,gl,cl,HG⟩ := Kd.S_form ho0_1 (by have:=P4.out;have:=P5.out;omega);subst eo;have HMgo:=am_ (show P0_1_ go from (Kd.S_R ho0_1).1 go rfl);have GB:=am_ gb;have HO:=am_ (show Kd.S (Kd.slice 3 (Kd.int .i64)) 24 w w0.heap.size (fun k_ => P0_1_ k_ ∨ w.heap.size ≤ k_) (.slice (some ⟨go,0,none⟩) l0_1.length co) l0_1 from Kd.S_mono ho0_1 (fun k_ hk => .inl hk));have HK:=am_ (Kept.refl w P0_1_);have HW0:=am_ hB.size;have HB:=am_ hB;have HXS:=am_ hxs;clear hB gb gl HG ho0_1 hxs;go_enter Try.func51,Try.ntmps51;(try go_wp2_with (first | ((with_reducible refine gate_dst (N:=3) rfl ?_);refine box_event ?hg (N:=3) ?hd (cs:=#[.slice A0_0 l0_0.length c0_0, .slice (some ⟨go,0,none⟩) l0_1.length co]) (t:=27) ?hr ?_;(case hd => rfl);(case hg => rfl);(case hr => (go_simp;done));intro gx hg w8 hbox hb;replace HO:=am_ (Kd.S_below (Kd.S_elderB (by exact HO.out) gx (Nat.le_of_eq hg.symm)) hb);replace HB:=am_ (below_step (by exact HB.out) hb);have BKg:=am_ hbox;have GWg:=am_ ((by rw [hg];exact (show Kept w _ P0_1_ from by exact HK.out).1 : w.heap.size ≤ gx));replace HK:=am_ (Kept.below (S:=P0_1_) (by exact HK.out) hb);clear hb hbox hg) | ((with_reducible refine gate_dst (N:=4) rfl ?_);refine box_event ?hg (N:=4) ?hd (cs:=#[.int .i64 a1]) (t:=3) ?hr ?_;(case hd => rfl);(case hg => rfl);(case hr => (go_simp;done));intro gt hg w9 hbox hb;have n0_:=am_ (Kd.S_below (Kd.S_elderB (by exact HO.out) gt (Nat.le_of_eq hg.symm)) hb);have n1_:=am_ (Kept.below (S:=P0_1_) (by exact HK.out) hb);have n2_:=am_ (below_step (by exact HB.out) hb);have n3_:=am_ hbox;have n4_:=am_ ((by rw [hg];exact (show Kept w _ P0_1_ from by exact HK.out).1 : w.heap.size ≤ gt));have n5_:=am_ (blk_below (g:=gx) (o := .cells #[.slice A0_0 l0_0.length c0_0, .slice (some ⟨go,0,none⟩) l0_1.length co] 27 (0,0)) (by exact BKg.out) hb);clear BKg HO HK HB;have HO:=n0_;have HK:=n1_;have HB:=n2_;have BKt:=n3_;have GWt:=n4_;clear n0_ n1_ n2_ n3_ n4_;have BKg:=n5_;clear n5_ hb hbox hg)));have n0_:=am_ (Kd.S_drew HO.out);have n1_:=am_ (Kept.drew HK.out);have n2_:=am_ (below_drew1 HB.out);have n_g:=am_ (blk_drew BKg.out);have n_t:=am_ (blk_drew BKt.out);clear HO HK HB BKg BKt;have HO:=n0_;have HK:=n1_;have HB:=n2_;have BKg:=n_g;have BKt:=n_t;clear n0_ n1_ n2_ n_g n_t;obtain ⟨oki1,ce1,hce1,hM1,hcell1,hfr1,hoki1,hH1⟩ := Kd.S_elem HO.out ([] : List Int) a2 P4.out (by have:=P5.out;omega);obtain ⟨v1,hv1,hR1⟩ := hM1;subst hv1
 have hx1 : (w9.drew).cell? ⟨go,a2.toNat,none⟩ = some v1:=by
  have:=hcell1 0 v1 rfl;rwa [show a2.toNat * (Kd.slice 3 (Kd.int .i64)).sz + 0 = a2.toNat from Nat.mul_one _] at this
 rw [← HXS.out] at hR1;obtain ⟨av,cv,ev⟩ := Kd.R_slice hR1;subst ev;have UU:=am_ hR1;have HH:=am_ hH1;have HI:=am_ hoki1;clear hR1 hH1 hoki1 hcell1 hfr1 hce1;have p4e:=eq_true P4.out;have p5e:=eq_true P5.out;refine st_ 12 (fun w' => w'.cell? ⟨gx,0,none⟩ = some (.slice A0_0 l0_0.length c0_0) ∧ w'.cell? ⟨gx,1,none⟩ = some (.slice (some ⟨go,0,none⟩) l0_1.length co) ∧ w'.cell? ⟨go,(a2).toNat,none⟩ = some (.slice av xs.length cv)) [11] impl_Gate_drop.tab1 impl_Gate_drop.bits1 ⟨(blk_cell BKg.out 0).trans rfl,(blk_cell BKg.out 1).trans rfl,hx1⟩ (fun hHeld HT_ HW_ => ?_);generalize w9.drew = w10 at HO BKg BKt HK HB UU HH hx1 hHeld ⊢;refine p_ 0 6 HT_ ?_;refine p_ 2 8 HT_ ?_;refine p_ 3 9 HT_ ?_;refine p_ 5 11 HT_ ?_;refine p_ 8 14 HT_ ?_;refine t_ 1 7 HT_ HW_ hHeld ?_;refine t_ 4 10 HT_ HW_ hHeld ?_;refine p_ 6 12 HT_ ?_;refine t_ 7 13 HT_ HW_ hHeld ?_;refine o_ 9 (some 15) HT_ (fun K hK => ?_);refine goes_ Try.func83 (by kernel_rfl) rfl #[.slice av xs.length cv, .func (.func 84) #[] #[.pointer (some ⟨gt,0,none⟩)]] (by rfl) rfl rfl (by (try simp only [List.map_toArray,List.map_cons,List.map_nil]);rfl) ?_;refine (slices_DeleteFunc_int.own (P:=oki1) (G:=gt) (a1:=a1) (w0:=w0) ?sideR (fun h_ => (HI.out _ h_).1.2 rfl) ?sideX ?sideB LM.out).mono ?_;(case sideR => exact UU.out);(case sideX => exact BKt.out);(case sideB => exact (by exact HB.out));rintro e w26 ⟨v2,rfl,ho,hb,hk⟩;replace hk : Kept w10 w26 oki1:=hk;have HS2_:=cell_kept (hHeld.2.2) hk (fun h_ => (HI.out _ h_).2 rfl);refine ⟨_,rfl, ?_⟩;have n0_:=am_ (blk_kept BKg.out hk (fun h_ => (HI.out _ h_).1.1.2 rfl));have n1_:=am_ hb;have n2_:=am_ (Kd.H_kept HH.out hk (fun k_ ho_ hn_ h_ => hn_ h_));have n3_:=am_ ho;have n4_:=am_ (HK.out.then_ hk (fun k_ h_ => (HI.out k_ h_).1.1.1));clear BKg BKt HB HH HK HO;have BKg:=n0_;have HB:=n1_;have HH:=n2_;have HN:=n3_;have HK:=n4_;clear n0_ n1_ n2_ n3_ n4_ ho hb hk;obtain ⟨Ao,co2,eo2⟩ := Kd.R_slice HN.out;subst eo2;obtain ⟨_,_,hraw,_,_,hcc,_⟩ := Kd.H_raw HH.out P4.out P5.out;obtain ⟨_,hfr⟩ := Kd.H_at HH.out P4.out P5.out;have hx2:=hcc 0 _ rfl;have hf2:=hfr 0;(try simp only [Nat.add_zero] at hx2);(try rw [show ((Kd.slice 3 (Kd.int .i64))).sz = 1 from rfl,Nat.mul_one] at hx2);(try simp only [Nat.add_zero] at hf2);(try rw [show ((Kd.slice 3 (Kd.int .i64))).sz = 1 from rfl,Nat.mul_one] at hf2);have HP:=Kd.S_seg0 HH.out P4.out P5.out (seg := [.slice Ao (xs.filter fun x => !decide (x = a1)).length co2]) (j:=0) (show 1 ≤ 1 from by decide) (x':=xs.filter fun x => !decide (x = a1)) (Kd.M_row HN.out) (fun _ hk => hk);(try simp only [show ((Kd.slice 3 (Kd.int .i64))).sz = 1 from rfl,Nat.mul_one,Nat.add_zero] at HP);have HNB:=am_ (show gx ≠ go from by have h_:=Kd.R_ne hraw BKg.out (by decide);intro e_;exact h_ (by rw [e_];rfl));have HQ:=am_ HP.1;clear HP hcc hfr;refine hK.out _ _ ⟨(blk_cell BKg.out 0).trans rfl,(blk_cell BKg.out 1).trans rfl,HS2_⟩ (fun hHeld => ?_);clear hK K;refine norm_ (a':=?_) ?_ ?_;rotate_left
 ·show Act.put _ (some 15) _ = _;simp only [Act.put,sA_,s0_,s1_,i64_w,i32_w];rfl
 refine p_ 10 16 HT_ ?_;refine z_ 11 none HT_ (fun K hK => ?_);refine skip_ (w1:=?_) (by rfl) rfl ?_ ?_;rotate_left
 ·go_simp;rfl
 refine hK.out _ _ ?_;clear hK K;refine d_ HT_ ?_;try go_wp2
 go_end0;exact ⟨by rfl,Kd.S_mono (show Kd.S (Kd.slice 3 (Kd.int .i64)) 24 (w26.setCell ⟨go,(a2 : Int).toNat,none⟩ (.slice Ao (xs.filter fun x => !decide (x = a1)).length co2)) w0.heap.size _ _ _ from HQ.out) (fun _ hk => hk.1.1),below_set HB.out GB.out,Kept.setCell HK.out (.inl HMgo.out) _⟩
set_option maxHeartbeats 8000000 in
set_option maxRecDepth 100000 in
theorem impl_Gate_drop.calls (A0_0 : Option Addr) (c0_0 : Nat) (l0_0 : List Int) (P0_1_ : Nat → Prop) (u9000_ : Value) (l0_1 : List (List Int)) (a1 : Int) (a2 : Int) (r : List (List Int)) (w0 w : World) (hB : Below w0.heap.size w0 w) (hr0_0 : ∀ W_,Kept w W_ (fun k_ => P0_1_ k_) → Kd.C (Kd.int .i64) W_ A0_0 l0_0.length l0_0) (hc0_0 : l0_0.length ≤ c0_0) (ho0_1 : Kd.S (Kd.slice 3 (Kd.int .i64)) 24 w w0.heap.size P0_1_ u9000_ l0_1) (h : impl_Gate_drop.f l0_0 l0_1 a1 a2 = some r) :
  Calls Try.prog 51 #[.agg #[.slice A0_0 l0_0.length c0_0,u9000_], .int .i64 a1, .int .i64 a2] w fun e w' => e = .returned (.tuple #[]) ∧ Kd.S (Kd.slice 3 (Kd.int .i64)) 24 w' w0.heap.size (fun k_ => (P0_1_ k_ ∨ w.heap.size ≤ k_)) u9000_ r ∧ Below w0.heap.size w0 w' ∧ Kept w w' (fun k_ => P0_1_ k_):=by
 have hu27:=Try.underlying27;clear hr0_0 hc0_0;unfold impl_Gate_drop.f at h;by_cases c4 : 0 ≤ a2
 ·rw [if_pos c4] at h;by_cases c5 : a2 < (l0_1.length : Int)
  ·rw [if_pos c5] at h;obtain ⟨xs,hxs⟩ : ∃ xs,xs = l0_1.getD a2.toNat ([] : List Int):=⟨_,rfl⟩;rw [← hxs] at h;by_cases c6 : 0 < xs.length
   ·rw [if_pos c6] at h;obtain rfl:=Option.some.inj h;clear h;exact impl_Gate_drop.walk A0_0 c0_0 l0_0 P0_1_ u9000_ l0_1 a1 a2 xs hxs w0 w hB ho0_1 c4 c5 c6
   rw [if_neg c6] at h;cases h
  rw [if_neg c5] at h;cases h
 rw [if_neg c4] at h;cases h

end Go.Proofs.Ytglfjaaaegfdnaa.PFnGateSlots
