-- Written by a program of this session, over the kit's print (wip/xprint.py)
import Derived.Test.YthbibjfnmljpkaaPFnTrainLoadingx0
import Derived.Test.YthbibjfnmljpkaaPFnTrainLoadingx3
import Derived.Test.YthbibjfnmljpkaaPFnTrainLoadingx4
import Derived.Test.YthbibjfnmljpkaaPFnTrainLoadingx5
namespace Go.Proofs.Ythbibjfnmljpkaa.PFnTrainLoading
open Go.RowKit Go.Proofs.YthbibjfnmljpkaaW.PrintWords Go.Proofs.YthbibjfnmljpkaaW.PrintLast Go.Proofs.YthbibjfnmljpkaaW.PrintMore
attribute [local go_sem] max2_int min2_int max_two min_two max_three min_three max_four min_four   -- for this text's walks alone
set_option linter.unusedVariables false
set_option linter.unusedSimpArgs false

/-! ### impl_MostContainers: function 10 -/
/-- How many are loaded. -/
def impl_MostContainers.cnt (lo : List Int) : Nat:=(lo.filter fun x => decide (0 ≤ x)).length
/-- One whole choice: its places turned,weighed,and counted. -/
def impl_MostContainers_1.f (k : Nat) (ts : List S54) (xs : List S64) (m : Int) (p : List Int) : Option Int :=
 if m < (impl_MostContainers.cnt (p.map fun x => wrap64 (x - 1)) : Int) then (impl_isLoaded.f k ts xs (p.map fun x => wrap64 (x - 1))).bind fun b => some (if b = true then (impl_MostContainers.cnt (p.map fun x => wrap64 (x - 1)) : Int) else m) else some m
theorem impl_MostContainers_1.mono (k : Nat) (ts : List S54) (xs : List S64) (m : Int) (p : List Int) : LeO (impl_MostContainers_1.f k ts xs m p) (impl_MostContainers_1.f (k + 1) ts xs m p):=by
 unfold impl_MostContainers_1.f
 repeat' first
  | (with_reducible exact impl_isLoaded.mono _ _ _ k)
  | (with_reducible exact LeO.refl _)
  | (with_reducible exact LeO.none _)
  | (with_reducible refine LeO.ite ?_ ?_)
  | (with_reducible refine LeO.bind ?_ (fun _ => ?_))
theorem MCT_set (p q : List Int) (i : Nat) (hi : i < p.length) (hq : q = (p.take i).map (fun x => wrap64 (x - 1)) ++ p.drop i) : q.length = p.length ∧ rd q i = p[i]'hi ∧
  q.set i (wrap64 (rd q i - 1)) = (p.take (i + 1)).map (fun x => wrap64 (x - 1)) ++ p.drop (i + 1):=by
 have hl : ((p.take i).map (fun x => wrap64 (x - 1))).length = i:=by simp;omega
 have hr : rd q i = p[i]'hi:=by
  unfold rd
  rw [Int.toNat_natCast,hq,List.getD_eq_getElem?_getD,List.getElem?_append_right (by omega),hl,Nat.sub_self,List.getElem?_drop,Nat.add_zero,List.getElem?_eq_getElem hi]
  rfl
 refine ⟨by rw [hq,List.length_append,hl,List.length_drop];omega,hr, ?_⟩;rw [hr,hq,List.set_append,if_neg (by omega),hl,Nat.sub_self,List.drop_eq_getElem_cons hi,List.set_cons_zero,List.take_succ_eq_append_getElem hi,List.map_append,List.append_assoc]
 rfl
theorem MCT_cnt (p : List Int) (i : Nat) (hi : i < p.length) : impl_MostContainers.cnt ((p.take (i + 1)).map fun x => wrap64 (x - 1)) = impl_MostContainers.cnt ((p.take i).map fun x => wrap64 (x - 1)) + (if wrap64 (p[i]'hi - 1) ≥ 0 then 1 else 0):=by
 unfold impl_MostContainers.cnt
 rw [List.take_succ_eq_append_getElem hi,List.map_append,List.filter_append,List.length_append]
 by_cases c : wrap64 (p[i]'hi - 1) ≥ 0
 ·rw [if_pos c]
  simp [c]
 ·rw [if_neg c]
  simp [c]
theorem MCT_le (lo : List Int) : impl_MostContainers.cnt lo ≤ lo.length:=List.length_filter_le _ _
set_option maxHeartbeats 8000000 in
set_option maxRecDepth 100000 in
theorem impl_MostContainers_1.calls (k : Nat) (gm gt gl : Nat) (A0 : Option Addr) (c0 : Nat) (l0 : List S54) (A1 : Option Addr) (c1 : Nat) (l1 : List S64) (m : Int) (p : List Int) (v : Value) (ok : Nat → Prop) (r : Int) (w0 w : World)
  (hB : Below w0.heap.size w0 w) (hr0 : Kd.C k54 w0 A0 l0.length l0) (hc0 : l0.length ≤ c0) (hr1 : Kd.C k64 w0 A1 l1.length l1) (hc1 : l1.length ≤ c1)
  (hgm : w.heap[gm]? = some (.cells #[.int .i64 m] 3 (0,0))) (hgt : w.heap[gt]? = some (.cells #[.slice A0 l0.length c0] 28 (0,0))) (hgl : w.heap[gl]? = some (.cells #[.slice A1 l1.length c1] 30 (0,0)))
  (hm0 : w0.heap.size ≤ gm) (ho : Kd.R (Kd.int .i64) 3 w w0.heap.size ok v p) (hne : ∀ k_,ok k_ → k_ ≠ gm) (h : impl_MostContainers_1.f k l0 l1 m p = some r) :
  Calls Try.prog 38 #[v, .pointer (some ⟨gm,0,none⟩), .pointer (some ⟨gt,0,none⟩), .pointer (some ⟨gl,0,none⟩)] w fun e w' => e = .returned (.tuple #[]) ∧ Below w0.heap.size w0 w' ∧ Kept w w' (fun k_ => k_ = gm ∨ some k_ = v.ownBlock) ∧ w'.heap[gm]? = some (.cells #[.int .i64 r] 3 (0,0)):=by
 have hu3:=Try.underlying3;obtain ⟨A,c,rfl⟩ := Kd.R_slice ho;have hlen : p.length ≤ 9223372036854775807:=(Kd.R_reads' ho).2.2.2.1;have HLEN:=am_ hlen;have HO:=am_ (show Kd.R (Kd.int .i64) 3 w w0.heap.size (fun k_ => some k_ = (Value.slice A p.length c).ownBlock ∧ ok k_) (.slice A p.length c) p from Kd.R_tight2 rfl ho)
 have hgtm : gt ≠ gm:=by
  rintro rfl;rw [hgt] at hgm
  injection hgm with hgm
  injection hgm with _ h2
  exact absurd h2 (by decide)
 have hglm : gl ≠ gm:=by
  rintro rfl;rw [hgl] at hgm
  injection hgm with hgm
  injection hgm with _ h2
  exact absurd h2 (by decide)
 have hgtv : some gt ≠ (Value.slice A p.length c).ownBlock:=Kd.R_ne ho hgt (by decide);have hglv : some gl ≠ (Value.slice A p.length c).ownBlock:=Kd.R_ne ho hgl (by decide)
 have hgmv : ∀ k_,some k_ = (Value.slice A p.length c).ownBlock → k_ ≠ gm:=fun k_ e_ => hne k_ (ho.1 k_ e_.symm)
 have GM:=am_ hgm;have GT:=am_ hgt;have GL:=am_ hgl;have HK:=am_ (Kept.refl w (fun k_ => some k_ = (Value.slice A p.length c).ownBlock));have HB:=am_ hB;have HM0:=am_ hm0;have HR0:=am_ hr0;have HC0:=am_ hc0;have HR1:=am_ hr1;have HC1:=am_ hc1;have HF:=am_ h;have NT:=am_ hgtv;have NL:=am_ hglv;have NM:=am_ hgmv;have XT:=am_ hgtm;have XL:=am_ hglm;clear hB hr0 hc0 hr1 hc1 hgm hgt hgl hm0 ho hne h hgtv hglv hgmv hgtm hglm hlen
 go_enter Try.func38,Try.ntmps38
 go_wp2
 go_loopg [5,9] p.length (fun kq v5 v9 w' => ∃ (i cc : Nat) (q : List Int),v5 = .int .i64 (cc : Int) ∧ v9 = .int .i64 (i : Int) ∧ Aside0 (kq + i = p.length) ∧ Aside0 (cc = impl_MostContainers.cnt ((p.take i).map fun x => wrap64 (x - 1))) ∧ Aside0 (q = (p.take i).map (fun x => wrap64 (x - 1)) ++ p.drop i) ∧
  Aside0 (Kd.R (Kd.int .i64) 3 w' w0.heap.size (fun k_ => some k_ = (Value.slice A p.length c).ownBlock ∧ ok k_) (.slice A p.length c) q) ∧ Aside0 (Kept w w' (fun k_ => some k_ = (Value.slice A p.length c).ownBlock)) ∧ Aside0 (Below w0.heap.size w0 w'))
 case atStart => exact ⟨0,0,p,rfl,rfl,⟨rfl⟩,⟨rfl⟩,⟨rfl⟩,⟨HO.out⟩,⟨HK.out⟩,⟨HB.out⟩⟩
 case round =>
  clear HO HK HB;obtain ⟨i,cc,q,rfl,rfl,HI,HCC,HQ,HO,HK,HB⟩ := hrel
  by_cases c3 : (i : Int) < (p.length : Int)
  ·have c3b0 : decide ((i : Int) < (p.length : Int)) = true:=decide_eq_true c3
   have hi : i < p.length:=by omega
   obtain ⟨hql,hqr,hqs⟩ := MCT_set p q i hi HQ.out;have HN:=am_ (MCT_cnt p i hi);rw [← hqr,← HCC.out] at HN;have HCL : Aside0 (cc ≤ i):=⟨by rw [HCC.out];have h_:=MCT_le ((p.take i).map fun x => wrap64 (x - 1));rw [List.length_map,List.length_take] at h_;omega⟩;have HO' : Aside0 (Kd.R (Kd.int .i64) 3 wr w0.heap.size (fun k_ => some k_ = (Value.slice A p.length c).ownBlock ∧ ok k_) (.slice A q.length c) q):=⟨by rw [hql];exact HO.out⟩;clear HO;obtain ⟨go5,co5,eo5,gb5,gl5,cl5,HG5⟩ := Kd.R_form HO'.out (by omega)
   injection eo5 with ea_ en_ ec_
   subst ea_;subst ec_
   have p5 : 0 ≤ (i : Int):=by omega
   have q5 : (i : Int) < ((q.length : Int) : Int):=by omega
   obtain ⟨hx5,hf5⟩ := Kd.R_celln 0 HO'.out (i : Int) p5 q5;rw [Int.toNat_natCast] at hx5 hf5;replace hx5 : wr.cell? ⟨go5,i,none⟩ = some (.int .i64 (rd q i)):=hx5;have HP:=Kd.R_putg HO'.out (i : Int) (wrap64 (rd q i - 1));rw [Int.toNat_natCast] at HP;rw [hqs,show (Value.slice (some ⟨go5,0,none⟩) q.length c) = .slice (some ⟨go5,0,none⟩) p.length c from by rw [hql]] at HP;have HP7:=am_ HP;have GB5:=am_ gb5
   have q6 : (i : Int) < ((((p.take (i + 1)).map (fun x => wrap64 (x - 1)) ++ p.drop (i + 1)).length : Nat) : Int):=by
    rw [← hqs,List.length_set]
    exact q5
   have e6 : rd ((p.take (i + 1)).map (fun x => wrap64 (x - 1)) ++ p.drop (i + 1)) i = wrap64 (rd q i - 1):=by
    rw [← hqs]
    unfold rd
    rw [Int.toNat_natCast,List.getD_eq_getElem?_getD,List.getElem?_set_self (by omega)]
    rfl
   have l6 : ((p.take (i + 1)).map (fun x => wrap64 (x - 1)) ++ p.drop (i + 1)).length = p.length:=by rw [← hqs,List.length_set,hql]
   have P6:=am_ p5;have Q6:=am_ q6;have E6:=am_ e6;have L6:=am_ l6;have HIL:=am_ hi;clear gb5 gl5 cl5 HG5 HP hqs hqr q6 e6 l6 en_ hql;replace c3:=eq_true c3;have c5b0 : decide (0 ≤ (i : Int)) = true:=decide_eq_true p5;have c4 : wrap64 (rd q i - 1) ≥ 0 ∨ ¬ wrap64 (rd q i - 1) ≥ 0:=Classical.em _;clear p5 q5 hi
   rcases c4 with c4 | c4
   ·have c4b0 : decide (wrap64 (rd q i - 1) ≥ 0) = true:=decide_eq_true c4;have c4b1 : decide (0 ≤ wrap64 (rd q i - 1)) = true:=decide_eq_true c4;have C4:=am_ c4;clear c4
    go_wp2_with (((with_reducible refine gate_store (t:=3) (p:=17) rfl ?_);refine store_event (t:=3) (p:=17) (v:=?vo_w8) (w1:=(wr.setCell ⟨go5,i,none⟩ (.int .i64 (wrap64 (rd q i - 1))))) ?hg ?ho ?hn ?hr ?_;(case ho => rfl);(case hg => rfl);(case hn => rfl);(case hr => (go_simp;done));intro w8 hw;have hg : wr.grownBy w8 (some go5):=(by rw [hw];exact HP7.out.2);have hp_ : Kd.R (Kd.int .i64) 3 w8 w0.heap.size (fun k_ => some k_ = (Value.slice (some ⟨go5,0,none⟩) p.length c).ownBlock ∧ ok k_) (.slice (some ⟨go5,0,none⟩) p.length c) ((p.take (i + 1)).map (fun x => wrap64 (x - 1)) ++ p.drop (i + 1)):=(by rw [hw];exact HP7.out.1);have n0_:=am_ hp_;have n1_:=am_ ((by rw [hw];exact below_set (HB.out) GB5.out : Below w0.heap.size w0 w8));have n2_:=am_ (Kept.of_grown (S:=(fun k_ => some k_ = (Value.slice (some ⟨go5,0,none⟩) p.length c).ownBlock)) hg HK.out (fun k_ e_ => .inl e_.symm));have hx9:=(Kd.R_celln 0 (show Kd.R (Kd.int .i64) 3 w8 w0.heap.size (fun k_ => some k_ = (Value.slice (some ⟨go5,0,none⟩) p.length c).ownBlock ∧ ok k_) (.slice (some ⟨go5,0,none⟩) ((p.take (i + 1)).map (fun x => wrap64 (x - 1)) ++ p.drop (i + 1)).length c) ((p.take (i + 1)).map (fun x => wrap64 (x - 1)) ++ p.drop (i + 1)) from by rw [L6.out];exact hp_) (i : Int) P6.out Q6.out).1;rw [Int.toNat_natCast] at hx9;replace hx9 : w8.cell? ⟨go5,i,none⟩ = some (.int .i64 (wrap64 (rd q i - 1))):=hx9.trans (congrArg (fun z_ => some (Value.int .i64 z_)) E6.out);clear HO' HB HK;have HO:=n0_;have HB:=n1_;have HK:=n2_;clear n0_ n1_ n2_ hg hw hp_))
    go_roundg (p.length - (i + 1))
    case measure => have:=HI.out;have:=HIL.out;omega
    case rel => exact ⟨i + 1,cc + 1,_,by rw [Go.Proofs.YthbibjfnmljpkaaW.Help.w64 (by have:=HCL.out;have:=HIL.out;have:=HLEN.out;omega) (by have:=HCL.out;have:=HIL.out;have:=HLEN.out;omega)];rfl,by rw [Go.Proofs.YthbibjfnmljpkaaW.Help.w64 (by omega) (by have:=HIL.out;have:=HLEN.out;omega)];rfl,⟨by have:=HI.out;have:=HIL.out;omega⟩,⟨by rw [HN.out,if_pos C4.out]⟩,⟨rfl⟩,⟨HO.out⟩,⟨HK.out⟩,⟨HB.out⟩⟩
   ·have c4b0 : decide (wrap64 (rd q i - 1) ≥ 0) = false:=decide_eq_false c4;have c4b1 : decide (0 ≤ wrap64 (rd q i - 1)) = false:=decide_eq_false c4;have C4:=am_ c4;clear c4
    go_wp2_with (((with_reducible refine gate_store (t:=3) (p:=17) rfl ?_);refine store_event (t:=3) (p:=17) (v:=?vo_w8) (w1:=(wr.setCell ⟨go5,i,none⟩ (.int .i64 (wrap64 (rd q i - 1))))) ?hg ?ho ?hn ?hr ?_;(case ho => rfl);(case hg => rfl);(case hn => rfl);(case hr => (go_simp;done));intro w8 hw;have hg : wr.grownBy w8 (some go5):=(by rw [hw];exact HP7.out.2);have hp_ : Kd.R (Kd.int .i64) 3 w8 w0.heap.size (fun k_ => some k_ = (Value.slice (some ⟨go5,0,none⟩) p.length c).ownBlock ∧ ok k_) (.slice (some ⟨go5,0,none⟩) p.length c) ((p.take (i + 1)).map (fun x => wrap64 (x - 1)) ++ p.drop (i + 1)):=(by rw [hw];exact HP7.out.1);have n0_:=am_ hp_;have n1_:=am_ ((by rw [hw];exact below_set (HB.out) GB5.out : Below w0.heap.size w0 w8));have n2_:=am_ (Kept.of_grown (S:=(fun k_ => some k_ = (Value.slice (some ⟨go5,0,none⟩) p.length c).ownBlock)) hg HK.out (fun k_ e_ => .inl e_.symm));have hx9:=(Kd.R_celln 0 (show Kd.R (Kd.int .i64) 3 w8 w0.heap.size (fun k_ => some k_ = (Value.slice (some ⟨go5,0,none⟩) p.length c).ownBlock ∧ ok k_) (.slice (some ⟨go5,0,none⟩) ((p.take (i + 1)).map (fun x => wrap64 (x - 1)) ++ p.drop (i + 1)).length c) ((p.take (i + 1)).map (fun x => wrap64 (x - 1)) ++ p.drop (i + 1)) from by rw [L6.out];exact hp_) (i : Int) P6.out Q6.out).1;rw [Int.toNat_natCast] at hx9;replace hx9 : w8.cell? ⟨go5,i,none⟩ = some (.int .i64 (wrap64 (rd q i - 1))):=hx9.trans (congrArg (fun z_ => some (Value.int .i64 z_)) E6.out);clear HO' HB HK;have HO:=n0_;have HB:=n1_;have HK:=n2_;clear n0_ n1_ n2_ hg hw hp_))
    go_roundg (p.length - (i + 1))
    case measure => have:=HI.out;have:=HIL.out;omega
    case rel => exact ⟨i + 1,cc,_,rfl,by rw [Go.Proofs.YthbibjfnmljpkaaW.Help.w64 (by omega) (by have:=HIL.out;have:=HLEN.out;omega)];rfl,⟨by have:=HI.out;have:=HIL.out;omega⟩,⟨by rw [HN.out,if_neg (show ¬ wrap64 (rd q i - 1) ≥ 0 from Int.not_le.2 C4.out),Nat.add_zero]⟩,⟨rfl⟩,⟨HO.out⟩,⟨HK.out⟩,⟨HB.out⟩⟩
  ·have c3b0 : decide ((i : Int) < (p.length : Int)) = false:=decide_eq_false c3
   have hi : i = p.length:=by have:=HI.out;omega
   subst hi
   have hq : q = p.map (fun x => wrap64 (x - 1)):=by rw [HQ.out,List.take_length,List.drop_length,List.append_nil]
   subst hq;have hcc:=HCC.out;rw [List.take_length] at hcc;obtain ⟨q,hq⟩ : ∃ q,q = p.map (fun x => wrap64 (x - 1)):=⟨_,rfl⟩;have LQ:=am_ (show p.length = q.length by rw [hq,List.length_map]);rw [← hq] at hcc HO;have HF2:=HF.out
   unfold impl_MostContainers_1.f at HF2
   rw [← hq,← hcc] at HF2;have HO2:=am_ (show Kd.R (Kd.int .i64) 3 wr w0.heap.size (fun k_ => some k_ = (Value.slice A p.length c).ownBlock ∧ ok k_) (.slice A q.length c) q from by rw [← LQ.out];exact HO.out);have BM:=am_ (blk_kept GM.out HK.out (fun e_ => NM.out _ e_ rfl));have BT:=am_ (blk_kept GT.out HK.out NT.out);have BL:=am_ (blk_kept GL.out HK.out NL.out);have HFA:=am_ HF2;clear HQ HI HCC hcc hq c3 HF2 HF HO GM GT GL;have hcm:=(blk_cell BM.out 0).trans rfl;have hct:=(blk_cell BT.out 0).trans rfl;have hcl:=(blk_cell BL.out 0).trans rfl;have hfm:=blk_frozen BM.out 0;have D1 : m < (cc : Int) ∨ ¬ m < (cc : Int):=Classical.em _
   rcases D1 with c6 | c6
   ·have HF2:=HFA.out;rw [if_pos c6] at HF2;obtain ⟨b,hb1,hb2⟩ := Option.bind_eq_some_iff.mp HF2;obtain rfl:=Option.some.inj hb2;have A5:=am_ hb1;clear HFA HF2 hb1 hb2;have c6b0 : decide ((cc : Int) > m) = true:=decide_eq_true c6;have c6b1 : decide (m < (cc : Int)) = true:=decide_eq_true c6;clear c6
    cases b with
    | true =>
     go_wp2_with ((go_at_call 39;refine calls_of_args (args':=#[.slice A0 l0.length c0, .slice A1 l1.length c1, .slice A q.length c]) (by rw [LQ.out]) ?_;(refine (impl_isLoaded.calls k A0 c0 l0 A1 c1 l1 A c q true _ ?s1 HC0.out ?s3 HC1.out ?s5 ?s6 A5.out).mono ?_);(case s1 => repeat (exact Kd.C_below HR0.out HB.out));(case s3 => repeat (exact Kd.C_below HR1.out HB.out));(case s5 => repeat (exact (Kd.R_reads' HO2.out).2.2));(case s6 => exact (Kd.R_reads' HO2.out).2.1);rintro e w2 ⟨rfl,hb⟩;have n0_:=am_ (below_step (by exact HB.out) hb);have n1_:=am_ (Kept.below (S:=(fun k_ => some k_ = (Value.slice A p.length c).ownBlock)) (by exact HK.out) hb);have n2_:=am_ (blk_below (g:=gm) (o := .cells #[.int .i64 m] 3 (0,0)) (by exact BM.out) hb);clear HB HK BM BT BL hcm hfm hct hcl hb;have HB:=n0_;have HK:=n1_;have BM:=n2_;clear n0_ n1_ n2_;have hcm:=(blk_cell BM.out 0).trans rfl;have hfm:=blk_frozen BM.out 0))
     go_end0
     exact ⟨rfl,below_set HB.out HM0.out,Kept.setCell (HK.out.mono fun k_ hk => .inr hk) (.inl (.inl rfl)) _,blk_put BM.out 0 _ rfl⟩
    | false =>
     go_wp2_with ((go_at_call 39;refine calls_of_args (args':=#[.slice A0 l0.length c0, .slice A1 l1.length c1, .slice A q.length c]) (by rw [LQ.out]) ?_;(refine (impl_isLoaded.calls k A0 c0 l0 A1 c1 l1 A c q false _ ?s1 HC0.out ?s3 HC1.out ?s5 ?s6 A5.out).mono ?_);(case s1 => repeat (exact Kd.C_below HR0.out HB.out));(case s3 => repeat (exact Kd.C_below HR1.out HB.out));(case s5 => repeat (exact (Kd.R_reads' HO2.out).2.2));(case s6 => exact (Kd.R_reads' HO2.out).2.1);rintro e w2 ⟨rfl,hb⟩;have n0_:=am_ (below_step (by exact HB.out) hb);have n1_:=am_ (Kept.below (S:=(fun k_ => some k_ = (Value.slice A p.length c).ownBlock)) (by exact HK.out) hb);have n2_:=am_ (blk_below (g:=gm) (o := .cells #[.int .i64 m] 3 (0,0)) (by exact BM.out) hb);clear HB HK BM BT BL hcm hfm hct hcl hb;have HB:=n0_;have HK:=n1_;have BM:=n2_;clear n0_ n1_ n2_;have hcm:=(blk_cell BM.out 0).trans rfl;have hfm:=blk_frozen BM.out 0))
     go_end0
     exact ⟨rfl,HB.out,HK.out.mono fun k_ hk => .inr hk,BM.out⟩
   ·have HF2:=HFA.out;rw [if_neg c6] at HF2;obtain rfl:=Option.some.inj HF2;clear HFA HF2;have c6b0 : decide ((cc : Int) > m) = false:=decide_eq_false c6;have c6b1 : decide (m < (cc : Int)) = false:=decide_eq_false c6;clear c6
    go_wp2
    go_end0
    exact ⟨rfl,HB.out,HK.out.mono fun k_ hk => .inr hk,BM.out⟩
/-- The search's rounds: one after another,from j on. -/
def impl_choices_1.go (g : Nat → Int → Option Int) : Nat → Nat → Int → Option Int
 | 0,_,m => some m
 | e + 1,j,m => (g j m).bind fun m1 => impl_choices_1.go g e (j + 1) m1
theorem impl_choices_1.go_mono {g g' : Nat → Int → Option Int} (h : ∀ j m,LeO (g j m) (g' j m)) : ∀ e j m,LeO (impl_choices_1.go g e j m) (impl_choices_1.go g' e j m)
 | 0,_,_ => LeO.refl _
 | e + 1,j,m => LeO.bind (h j m) (fun m1 => impl_choices_1.go_mono h e (j + 1) m1)
/-- The search from a beginning p,d places ahead of its end. -/
def impl_choices_1.f (k : Nat) (ts : List S54) (xs : List S64) (n : Nat) : Nat → Int → List Int → Option Int
 | 0,m,p => impl_MostContainers_1.f k ts xs m p
 | d + 1,m,p => impl_choices_1.go (fun j m1 => impl_choices_1.f k ts xs n d m1 (p ++ [(j : Int)])) n 0 m
theorem impl_choices_1.mono (k : Nat) (ts : List S54) (xs : List S64) (n : Nat) : ∀ d m p,LeO (impl_choices_1.f k ts xs n d m p) (impl_choices_1.f (k + 1) ts xs n d m p)
 | 0,m,p => impl_MostContainers_1.mono k ts xs m p
 | d + 1,m,p => impl_choices_1.go_mono (fun j m1 => impl_choices_1.mono k ts xs n d m1 (p ++ [(j : Int)])) n 0 m
/-- A call in a drawn region through a function value that is known. -/
theorem MCT_goes {P : Program} {ops : Array Oper} {Q : Exit → Act → World → Prop} {oi : Oper} {N : Option Tmp} {a : Act} {w : World} {K : Act → World → Prop} {f : FuncId} {fn : Func} {x : Operand} {ops_ : Array Operand} {ts : Array TypeId} (hf : P.funcs[f]? = some fn) (hname : (fn.name == "runtime.NumGoroutine") = false) (hb : fn.body.isSome = true) (cap args all : Array Value)
  (hw : Region.wanted oi (yielded ops a.tmps) = true) (hN : oi.dst = N) (hop : oi.op = .call { callee := .value x,args:=ops_,argTypes:=ts }) (hx : a.eval x = .func (.func f) #[] cap) (hargs : ops_.map a.eval = args) (hall : args ++ cap = all)
  (h : Calls P f all w fun e w' => ∃ v,e = .returned v ∧ K (a.put N v) w') : if Region.wanted oi (yielded ops a.tmps) = true then Oper.wp P oi a w K Q else K (a.put N undef) w:=by
 refine call_ f all hw hN ?_ h;have he:=enters_ hf hname hb all w
 unfold execOp
 simp [hop,resolve,Deferred.ofValue,invoke,hx,hargs,hall,he]
/-- append(v,x) onto a row of one's own,told by the place: in the row's own room,or in a new block. -/
theorem MCT_run {P : Program} (w : World) (base : Nat) (t ty e : TypeId) (i : TypeInfo) (z : Value) (bytes : Nat) (ht : P.underlying t = some (.slice e)) (hi : P.info? e = some i) (hz : i.zero = some z) (hsize : i.size = 1) (hby : i.bytes = bytes) (hzs : z.cells.size = 1)
  (v : Value) (n : Nat) (xs : List Value) (hown : w.ownsRow base e 1 v n xs) (a : Addr) (c : Nat) (u : Value) (hnews : w.cell? a = some u) (h1 : u.oneCell' = true) (hbytes : (n + 1) * bytes ≤ 140737488355328) (hb0 : 0 < bytes) (hbase : base ≤ w.heap.size) :
  ∃ v' w',(Builtin.append_ #[t,t] ty #[v, .slice (some a) 1 c]).run P w = .ok v' w' ∧ w'.ownsRow base e 1 v' (n + 1) (xs ++ [u]) ∧
   ((∃ g cap,v = .slice (some ⟨g,0,none⟩) n cap ∧ v' = .slice (some ⟨g,0,none⟩) (n + 1) cap ∧ w.grownBy w' (some g)) ∨ (v'.ownBlock = some w.heap.size ∧ w.grownBy w' none)):=by
 have hnn : n + 1 ≤ 140737488355328:=Nat.le_trans (Nat.le_mul_of_pos_right _ hb0) hbytes
 have hsmall : n + 1 ≤ 9223372036854775807:=by omega
 have hnews' : ∀ j q,[u][j]? = some q → w.cell? (a.add j) = some q:=by
  intro j q hq
  cases j with
  | zero =>
   simp at hq
   subst hq
   simpa [Addr.add] using hnews
  | succ j => simp at hq
 have h1' : ∀ q ∈ [u],q.oneCell' = true:=by
  intro q hq
  simp at hq
  subst hq
  exact h1
 have hlen : (xs ++ [u]).length = (n + 1) * 1:=by rw [List.length_append,hown.1];simp
 rcases hown.2 with ⟨rfl,rfl⟩ | ⟨g,cap,cur,rfl,hbg,hg,hnc,hcm,hcs,htake⟩
 ·obtain ⟨v',w',hr,ho,hgr,_,hat⟩ := run_append_own_at (P:=P) w base t ty e i z 1 bytes ht hi hz hsize hby hzs (by decide) _ _ xs hown a 1 c [u] rfl hnews' h1' (by simp only [maxLen];omega) hbytes hbase;refine ⟨v',w',hr,ho, .inr ⟨?_,hgr⟩⟩
  rcases hat with hat | hat
  ·rcases ho.2 with ⟨_,hz0⟩ | ⟨g1,c1,cu1,rfl,_⟩
   ·omega
   ·simp [Value.ownBlock] at hat
  ·exact hat
 ·by_cases hroom : n + 1 ≤ cap
  ·have hfit : n * i.size + [u].length ≤ cur.size:=by rw [hcs,hsize];simp;omega
   have hr:=run_append_room (P:=P) w t ty e i ht hi g n cap cur hg a 1 c [u] (by rw [hsize];rfl) hnews' h1' hroom hfit;refine ⟨_,_,hr,⟨hlen, .inr ⟨g,cap,_,rfl,hbg,setRow_heap w g cur _ e _ hg,hroom,hcm, ?_, ?_⟩⟩, .inl ⟨g,cap,rfl,rfl,⟨rfl,rfl,rfl,by simp,fun k hk hne => setRow_other w g k _ (fun e => hne (by rw [e]))⟩⟩⟩
   ·rw [hsize] at hfit ⊢;simp only [List.size_toArray,List.length_append,List.length_take,List.length_drop,Array.length_toList] at hfit ⊢
    omega
   ·rw [hsize];rw [htake,← hlen]
    exact List.take_left
  ·have holds : ∀ j q,xs[j]? = some q → w.cell? ((⟨g,0,none⟩ : Addr).add j) = some q:=hown.cells (g:=g) rfl;have hr:=run_append_grow (P:=P) w t ty e i z ht hi hz ⟨g,0,none⟩ n cap xs (by rw [hsize];exact hown.1) holds a 1 c [u] (by rw [hsize];rfl) hnews' (by omega) (by omega) (growslice_fits (by omega) (by rw [hby];exact hbytes));have hge:=grownCap_ge w (n + 1) cap e;have hcm2 : grownCap w (n + 1) cap e ≤ maxLen:=grownCap_le_maxLen w (n + 1) cap e (by simp only [maxLen];omega);refine ⟨_,_,hr,⟨hlen, .inr ⟨w.heap.size,_,_,rfl,hbase,heap_alloc_new w.drew _,hge,hcm2, ?_, ?_⟩⟩, .inr ⟨rfl,⟨rfl,rfl,rfl,by simp,fun k hk _ => Below.heap_alloc w.drew _ k hk⟩⟩⟩
   ·have:=hown.1;simp only [Array.size_append,List.size_toArray,size_zeroCells,hzs,List.length_singleton]
    omega
   ·simp only [Array.toList_append,List.append_assoc];rw [← List.append_assoc,← hlen]
    exact List.take_left
theorem MCT_append {P : Program} {ops : Array Oper} {o : Oper} {a : Act} {Q : Exit → Act → World → Prop} {K : Act → World → Prop} {w0 W : World} (base B0 : Nat) (hw : Region.wanted o (yielded ops a.tmps) = true) (s x : Operand) (t e : TypeId) (z : Value) (bytes : Nat)
  (ho : o.op = .call { callee := .builtin .append,args:=#[s,x],argTypes:=#[t,t] })
  (ht : P.underlying t = some (.slice e)) (hinfo : (P.info? e).map (fun i => (i.zero,i.size,i.bytes)) = some (some z,1,bytes)) (hz : z.cells.size = 1) (hb0 : 0 < bytes)
  (v : Value) (xs : List Int) (y : Int) (hs : a.eval s = v) (hx : a.eval x = .slice (some ⟨W.heap.size,0,none⟩) 1 1)
  (HO : Kd.R (Kd.int .i64) e W base (fun _ => True) v xs) (HB : Below B0 w0 W) (hBb : B0 ≤ base) (hbase : base ≤ W.heap.size) (hl : (xs.length + 1) * bytes ≤ 140737488355328)
  (h : ∀ v1 w1,Kd.R (Kd.int .i64) e w1 base (fun _ => True) v1 (xs ++ [y]) → Below B0 w0 w1 → W.grownBy w1 v.ownBlock →
   ((v1.ownBlock = v.ownBlock ∧ ∀ w2,Kd.R (Kd.int .i64) e w2 base (fun _ => True) v1 (xs ++ [y]) → Kd.R (Kd.int .i64) e w2 base (fun _ => True) v xs) ∨ ((∃ b,v1.ownBlock = some b ∧ W.heap.size ≤ b) ∧ Kd.R (Kd.int .i64) e w1 base (fun _ => True) v xs ∧ W.grownBy w1 none)) → K (a.put o.dst v1) w1) :
  if Region.wanted o (yielded ops a.tmps) = true then Oper.wp P o a (W.alloc (.cells #[.int .i64 y] e)) K Q else K (a.put o.dst undef) (W.alloc (.cells #[.int .i64 y] e)):=by
 obtain ⟨i0,hi,hzz⟩ := Option.map_eq_some_iff.1 hinfo;simp only [Prod.mk.injEq] at hzz;obtain ⟨hz0,hz1,hz2⟩ := hzz;rw [if_pos hw];have hown:=Kd.own_of_R HO;have hown':=hown.alloc (.cells #[.int .i64 y] e)
 have hsz : (W.alloc (.cells #[.int .i64 y] e)).heap.size = W.heap.size + 1:=by simp
 obtain ⟨v1,w1,hr,ho1,hat⟩ := MCT_run (P:=P) (W.alloc (.cells #[.int .i64 y] e)) base t o.type e i0 z bytes ht hi hz0 hz1 hz2 hz v xs.length _ hown' ⟨W.heap.size,0,none⟩ 1 (.int .i64 y) ((blk_cell (blk_new W _) 0).trans rfl) rfl hl hb0 (by omega)
 have hal : ∀ row,W.grownBy (W.alloc (.cells #[.int .i64 y] e)) row:=fun row => World.grownBy_alloc W _ row
 have hR1 : Kd.R (Kd.int .i64) e w1 base (fun _ => True) v1 (xs ++ [y]):=Kd.R_of_own (by rw [List.length_append,List.length_singleton,encs_append];exact ho1) (fun _ _ => trivial)
 unfold Oper.wp execOp
 simp only [ho,resolve,invoke,builtin,Sem.run_bind,Sem.run_pure,Result.andThen_ok,List.map_toArray,List.map_cons,List.map_nil,hs,hx,hr]
 rcases hat with ⟨g,cap,hv,hv1,hg⟩ | ⟨hb,hg⟩
 ·subst hv;have hgb : W.grownBy w1 (some g):=World.grownBy.trans (hal _) hg;refine h v1 w1 hR1 (HB.grown hgb (Nat.le_trans hBb hbase) (fun k hk => Nat.le_trans hBb (own_base hown k hk))) hgb (.inl ⟨by rw [hv1];rfl,fun w2 h2 => ?_⟩);rw [hv1] at h2;have h3:=Kd.R_take h2 (m:=xs.length) (by simp);rw [List.take_left] at h3
  exact h3
 ·have hgb : W.grownBy w1 none:=World.grownBy.trans (hal _) hg;have hgv : W.grownBy w1 v.ownBlock:=⟨hgb.os,hgb.tape,hgb.output,hgb.size,fun k hk _ => hgb.block k hk (by simp)⟩
  exact h v1 w1 hR1 (HB.grown hgb (Nat.le_trans hBb hbase) (fun k hk => by cases hk)) hgv (.inr ⟨⟨_,hb,by omega⟩,Kd.R_grown HO hgb (fun _ _ => by simp),hgb⟩)
/-- The search's variables: where they lie,what they hold;all lie below b0,and none of them is the greatest number so far. -/
structure MCT_env (gs gc gn ge gm gt gl b0 : Nat) (sz : Int) (n : Nat) (A0 : Option Addr) (c0 : Nat) (l0 : List S54) (A1 : Option Addr) (c1 : Nat) (l1 : List S64) (w : World) : Prop where
 s : w.heap[gs]? = some (.cells #[.int .i64 sz] 3 (0,0))
 c : w.heap[gc]? = some (.cells #[.func (.func 38) #[] #[.pointer (some ⟨gm,0,none⟩), .pointer (some ⟨gt,0,none⟩), .pointer (some ⟨gl,0,none⟩)]] 67 (0,0))
 n : w.heap[gn]? = some (.cells #[.int .i64 (n : Int)] 3 (0,0))
 e : w.heap[ge]? = some (.cells #[.func (.func 71) #[] #[.pointer (some ⟨gs,0,none⟩), .pointer (some ⟨gc,0,none⟩), .pointer (some ⟨gn,0,none⟩), .pointer (some ⟨ge,0,none⟩)]] 67 (0,0))
 t : w.heap[gt]? = some (.cells #[.slice A0 l0.length c0] 28 (0,0))
 l : w.heap[gl]? = some (.cells #[.slice A1 l1.length c1] 30 (0,0))
 lt : gs < b0 ∧ gc < b0 ∧ gn < b0 ∧ ge < b0 ∧ gt < b0 ∧ gl < b0 ∧ gm < b0
 ne : gs ≠ gm ∧ gc ≠ gm ∧ gn ≠ gm ∧ ge ≠ gm ∧ gt ≠ gm ∧ gl ≠ gm
theorem MCT_env.kept {gs gc gn ge gm gt gl b0 : Nat} {sz : Int} {n : Nat} {A0 : Option Addr} {c0 : Nat} {l0 : List S54} {A1 : Option Addr} {c1 : Nat} {l1 : List S64} {w w' : World} {S : Nat → Prop} (h : MCT_env gs gc gn ge gm gt gl b0 sz n A0 c0 l0 A1 c1 l1 w) (hk : Kept w w' S) (hS : ∀ k,S k → k = gm ∨ b0 ≤ k) : MCT_env gs gc gn ge gm gt gl b0 sz n A0 c0 l0 A1 c1 l1 w':=by
 obtain ⟨e1,e2,e3,e4,e5,e6,e7⟩ := h.lt;obtain ⟨d1,d2,d3,d4,d5,d6⟩ := h.ne
 have no : ∀ k,k < b0 → k ≠ gm → ¬ S k:=fun k h1 h2 h3 => (hS k h3).elim h2 (fun h4 => absurd h1 (by omega))
 exact ⟨blk_kept h.s hk (no _ e1 d1),blk_kept h.c hk (no _ e2 d2),blk_kept h.n hk (no _ e3 d3),blk_kept h.e hk (no _ e4 d4),blk_kept h.t hk (no _ e5 d5),blk_kept h.l hk (no _ e6 d6),h.lt,h.ne⟩
set_option maxHeartbeats 8000000 in
set_option maxRecDepth 100000 in
theorem impl_choices_1.calls (k gs gc gn ge gm gt gl b0 : Nat) (sz : Int) (n : Nat) (A0 : Option Addr) (c0 : Nat) (l0 : List S54) (A1 : Option Addr) (c1 : Nat) (l1 : List S64) (w0 : World) (hr0 : Kd.C k54 w0 A0 l0.length l0) (hc0 : l0.length ≤ c0) (hr1 : Kd.C k64 w0 A1 l1.length l1) (hc1 : l1.length ≤ c1)
  (hm0 : w0.heap.size ≤ gm) (hn : n ≤ 1048577) (hsz : sz ≤ 1048577) : ∀ (d : Nat) (m : Int) (p : List Int) (v : Value) (r : Int) (w : World),(p.length : Int) + d = sz → MCT_env gs gc gn ge gm gt gl b0 sz n A0 c0 l0 A1 c1 l1 w → w.heap[gm]? = some (.cells #[.int .i64 m] 3 (0,0)) → Below w0.heap.size w0 w → b0 ≤ w.heap.size →
   Kd.R (Kd.int .i64) 3 w b0 (fun _ => True) v p → impl_choices_1.f k l0 l1 n d m p = some r →
   Calls Try.prog 71 #[v, .pointer (some ⟨gs,0,none⟩), .pointer (some ⟨gc,0,none⟩), .pointer (some ⟨gn,0,none⟩), .pointer (some ⟨ge,0,none⟩)] w fun e w' => e = .returned (.tuple #[]) ∧ Below w0.heap.size w0 w' ∧ Kept w w' (fun k_ => k_ = gm ∨ some k_ = v.ownBlock) ∧ w'.heap[gm]? = some (.cells #[.int .i64 r] 3 (0,0)) ∧ Kd.R (Kd.int .i64) 3 w' b0 (fun _ => True) v p:=by
 have hu3:=Try.underlying3;have HR0:=am_ hr0;have HC0:=am_ hc0;have HR1:=am_ hr1;have HC1:=am_ hc1;have HM0:=am_ hm0;have HNB:=am_ hn;have HSB:=am_ hsz;clear hr0 hc0 hr1 hc1 hm0 hn hsz;intro d
 induction d with
 | zero =>
  intro m p v r w hpd henv hgm hB hbz hO hf;obtain ⟨A,c,rfl⟩ := Kd.R_slice hO;have hcs:=(blk_cell henv.s 0).trans rfl;have e1b0 : decide ((p.length : Int) = sz) = true:=decide_eq_true (by omega);have e1b1 : ((p.length : Int) == sz) = true:=beq_iff_eq.2 (by omega);have HF:=am_ (show impl_MostContainers_1.f k l0 l1 m p = some r from hf)
  have HCLO : Aside0 (slices_Clone_int.f p = some p):=⟨by
   have h1_:=HSB.out
   unfold slices_Clone_int.f
   show (if (0 + p.length < 17592186044416) then some ([] ++ p) else none) = _
   rw [if_pos (by omega),List.nil_append]⟩
  have EN:=am_ henv;have GM:=am_ hgm;have HB:=am_ hB;have HBZ:=am_ hbz;have HO:=am_ (Kd.R_mono (Kd.R_bound hO) (fun k_ hk_ => (⟨trivial,hk_.2.1⟩ : True ∧ b0 ≤ k_)));clear hpd henv hgm hB hbz hO hf
  go_enter Try.func71,Try.ntmps71
  go_wp2
  refine start_ (n:=4) (S:=fun w' => w'.cell? ⟨gc,0,none⟩ = some (.func (.func 38) #[] #[.pointer (some ⟨gm,0,none⟩), .pointer (some ⟨gt,0,none⟩), .pointer (some ⟨gl,0,none⟩)])) (ds := [3]) #[false,false,false,false] (by kernel_rfl) rfl rfl ((blk_cell EN.out.c 0).trans rfl) (fun hHeld => ?_);have n0_:=am_ (below_drew1 HB.out);have n1_ : Aside0 (Kept w w.drew (fun _ => False)):=⟨Kept.drew (Kept.refl _ _)⟩;generalize w.drew = w2 at hHeld n0_ n1_ ⊢;have n2_:=am_ (EN.out.kept n1_.out (fun _ h_ => h_.elim));have n3_:=am_ (blk_kept GM.out n1_.out (fun h_ => h_));have n4_:=am_ (Kd.R_step HO.out (w1:=w2) (fun k_ _ hl_ => n1_.out.2 k_ hl_ (fun h_ => h_)));have n5_:=am_ (Nat.le_trans HBZ.out n1_.out.1);clear EN GM HB HO HBZ;have KD:=n1_;have HB:=n0_;have EN:=n2_;have GM:=n3_;have HO:=n4_;have HBZ:=n5_;clear n0_ n1_ n2_ n3_ n4_ n5_;refine take_ (i:=0) (N:=some 11) (v:=?_) (a':=?_) #[true,false,false,false] rfl rfl (by kernel_rfl) (fun _ _ _ h => h) (Or.inl ⟨by rfl, ?_⟩) hHeld ?_ ?_
  rotate_left
  ·rintro w' s0
   go_simp
   with_reducible rfl
  rotate_left
  ·simp only [Act.put,sA_,s0_,s1_,i64_w,i32_w]
   rfl
  refine pure_ (i:=1) (N:=some 12) (v:=?_) (a':=?_) #[true,true,false,false] rfl rfl (by kernel_rfl) (fun _ _ _ h => h) (Or.inl ⟨by rfl, ?_⟩) ?_ ?_
  rotate_left
  ·intro w'
   go_simp
   with_reducible rfl
  rotate_left
  ·simp only [Act.put,sA_,s0_,s1_,i64_w,i32_w]
   rfl
  refine one_ (i:=2) (N:=some 13) #[true,true,true,false] rfl rfl (by kernel_rfl) (by decide) (fun K hK => ?_);refine goes_ Try.func46 (by kernel_rfl) rfl #[.slice A p.length c] (by rfl) rfl rfl (by (try simp only [List.map_toArray,List.map_cons,List.map_nil]);rfl) ?_;refine (slices_Clone_int.calls A c p p _ ?s1 ?s2 HCLO.out).mono ?_
  (case s1 => repeat (exact (Kd.R_reads' HO.out).2.2))
  (case s2 => exact (Kd.R_reads' HO.out).2.1)
  rintro e w3 ⟨vp,rfl,hO3,hb3⟩;refine ⟨_,rfl, ?_⟩;have E3:=am_ (EN.out.kept (Kept.of_below hb3 (fun _ => False)) (fun _ h_ => h_.elim));have M3:=am_ (blk_below GM.out hb3);have B3:=am_ (below_step HB.out hb3);have K3:=am_ hb3;have O3:=am_ (Kd.R_bound hO3);clear hO3 hb3;refine hK.out _ _ ((blk_cell E3.out.c 0).trans rfl) (fun hHeld => ?_);clear hK K;refine norm_ (a':=?_) ?_ ?_
  rotate_left
  ·show Act.put _ (some 13) _ = _
   simp only [Act.put,sA_,s0_,s1_,i64_w,i32_w]
   rfl
  refine last_ (i:=3) (N:=some 14) #[true,true,true,true] rfl rfl (by kernel_rfl) (by decide) (fun K hK => ?_);refine MCT_goes Try.func38 (by kernel_rfl) rfl #[.pointer (some ⟨gm,0,none⟩), .pointer (some ⟨gt,0,none⟩), .pointer (some ⟨gl,0,none⟩)] #[vp] #[vp, .pointer (some ⟨gm,0,none⟩), .pointer (some ⟨gt,0,none⟩), .pointer (some ⟨gl,0,none⟩)] (by rfl) rfl rfl (by (try simp only [Act.eval]);rfl) (by (try simp only [List.map_toArray,List.map_cons,List.map_nil]);rfl) rfl ?_;refine (impl_MostContainers_1.calls k gm gt gl A0 c0 l0 A1 c1 l1 m p vp (fun k_ => w2.heap.size ≤ k_) r w0 w3 B3.out HR0.out HC0.out HR1.out HC1.out M3.out E3.out.t E3.out.l HM0.out ?s1 ?s2 HF.out).mono ?_
  (case s1 => exact Kd.R_mono (Kd.R_lower O3.out (below_size HB.out)) (fun k_ hk_ => hk_.2.1))
  (case s2 => exact fun k_ hk_ e_ => by have h1_:=EN.out.lt.2.2.2.2.2.2;have h2_:=HBZ.out;omega)
  rintro e w4 ⟨rfl,hb4,hk4,hm4⟩;refine ⟨_,rfl, ?_⟩;have B4:=am_ hb4;have K4:=am_ (show Kept w2 w4 (fun k_ => k_ = gm) from (Kept.of_below K3.out _).then_ hk4 (fun k_ hk_ => hk_.elim .inl (fun e_ => .inr (O3.out.1 k_ e_.symm).2.1)));have M4:=am_ hm4;clear hb4 hk4 hm4;refine hK.out _ _ ?_;clear hK K;refine done_ (by kernel_rfl) ?_
  try go_wp2
  (refine bodyPost_ret (results_none rfl _ _ _) rfl ?_)
  exact ⟨rfl,B4.out,(KD.out.mono (fun _ h_ => h_.elim)).then_ K4.out (fun _ e_ => .inl (.inl e_)),M4.out,Kd.R_step HO.out (fun k_ hk_ hl_ => K4.out.2 k_ hl_ (fun e_ => by have h1_:=EN.out.lt.2.2.2.2.2.2;have h2_:=hk_.2;omega)) |> fun h_ => Kd.R_mono h_ (fun _ _ => trivial)⟩
 | succ d ih =>
  intro m p v r w hpd henv hgm hB hbz hO hf;obtain ⟨A,c,rfl⟩ := Kd.R_slice hO;have hcs:=(blk_cell henv.s 0).trans rfl;have hcn:=(blk_cell henv.n 0).trans rfl;have e1b0 : decide ((p.length : Int) = sz) = false:=decide_eq_false (by omega);have e1b1 : ((p.length : Int) == sz) = false:=beq_eq_false_iff_ne.2 (by omega);have HF:=am_ (show impl_choices_1.go (fun j m1 => impl_choices_1.f k l0 l1 n d m1 (p ++ [(j : Int)])) n 0 m = some r from hf);have IH:=am_ ih;have HPD:=am_ hpd;have BB : Aside0 (w0.heap.size ≤ b0):=⟨by have h1_:=HM0.out;have h2_:=henv.lt.2.2.2.2.2.2;omega⟩;have LB : Aside0 ((p.length + 1) * 8 ≤ 140737488355328):=⟨by have h1_:=HSB.out;omega⟩;have EN:=am_ henv;have GM:=am_ hgm;have HB:=am_ hB;have HBZ:=am_ hbz;have HO:=am_ (Kd.R_mono (Kd.R_bound hO) (fun k_ hk_ => (⟨trivial,hk_.2.1⟩ : True ∧ b0 ≤ k_)));have OB : Aside0 (∀ k_,some k_ = (Value.slice A p.length c).ownBlock → b0 ≤ k_):=⟨fun k_ e_ => (HO.out.1 k_ e_.symm).2⟩;clear hpd henv hgm hB hbz hO hf ih
  go_enter Try.func71,Try.ntmps71
  go_wp2
  go_loopg [16] n (fun kq v16 w' => ∃ (j : Nat) (m1 : Int),v16 = .int .i64 (j : Int) ∧ Aside0 (kq + j = n) ∧ Aside0 (impl_choices_1.go (fun j m1 => impl_choices_1.f k l0 l1 n d m1 (p ++ [(j : Int)])) kq j m1 = some r) ∧ Aside0 (w'.heap[gm]? = some (.cells #[.int .i64 m1] 3 (0,0))) ∧ Aside0 (Below w0.heap.size w0 w') ∧
   Aside0 (Kept w w' (fun k_ => k_ = gm ∨ some k_ = (Value.slice A p.length c).ownBlock)) ∧ Aside0 (Kd.R (Kd.int .i64) 3 w' b0 (fun k_ => True ∧ b0 ≤ k_) (.slice A p.length c) p))
  case atStart => exact ⟨0,m,rfl,⟨rfl⟩,HF,GM,HB,⟨Kept.refl _ _⟩,HO⟩
  case round =>
   clear GM HB HO HF;obtain ⟨j,m1,rfl,HI,HG,GM,HB,HK,HO⟩ := hrel;have EN2:=am_ (EN.out.kept HK.out (fun k_ hk_ => hk_.elim .inl (fun e_ => .inr (OB.out k_ e_))))
   by_cases c3 : (j : Int) < (n : Int)
   ·have c3b0 : decide ((j : Int) < (n : Int)) = true:=decide_eq_true c3;have c3n : (j < n) = True:=eq_true (by omega);obtain ⟨e1,rfl⟩ : ∃ e1,gk = e1 + 1:=⟨gk - 1,by have h_:=HI.out;omega⟩;obtain ⟨m2,hq1,hq2⟩ := Option.bind_eq_some_iff.mp HG.out;have HQ1:=am_ hq1;have HQ2:=am_ hq2;clear HG hq1 hq2 c3
    go_wp2
    refine start_ (n:=6) (S:=fun w' => w'.cell? ⟨ge,0,none⟩ = some (.func (.func 71) #[] #[.pointer (some ⟨gs,0,none⟩), .pointer (some ⟨gc,0,none⟩), .pointer (some ⟨gn,0,none⟩), .pointer (some ⟨ge,0,none⟩)])) (ds := [5]) #[false,false,false,false,false,false] (by kernel_rfl) rfl rfl ((blk_cell EN2.out.e 0).trans rfl) (fun hHeld => ?_);have n1_ : Aside0 (Kept wr wr.drew (fun _ => False)):=⟨Kept.drew (Kept.refl _ _)⟩;have n2_:=am_ (below_drew1 HB.out);generalize wr.drew = w2 at hHeld n1_ n2_ ⊢;have EN3:=am_ (EN2.out.kept n1_.out (fun _ h_ => h_.elim));have GM2:=am_ (blk_kept GM.out n1_.out (fun h_ => h_));have HO2:=am_ (Kd.R_mono (Kd.R_step HO.out (w1:=w2) (fun k_ _ hl_ => n1_.out.2 k_ hl_ (fun h_ => h_))) (fun k_ hk_ => hk_.2));have HK2:=am_ (HK.out.then_ n1_.out (fun _ h_ => h_.elim));have HZ2:=am_ (Nat.le_trans HBZ.out HK2.out.1);have HB2:=n2_;clear EN2 GM HB HK HO n1_ n2_;have EN2:=EN3;clear EN3;refine take_ (i:=0) (N:=some 19) (v:=?_) (a':=?_) #[true,false,false,false,false,false] rfl rfl (by kernel_rfl) (fun _ _ _ h => h) (Or.inl ⟨by rfl, ?_⟩) hHeld ?_ ?_
    rotate_left
    ·rintro w' s0
     go_simp
     with_reducible rfl
    rotate_left
    ·simp only [Act.put,sA_,s0_,s1_,i64_w,i32_w]
     rfl
    refine pure_ (i:=1) (N:=some 20) (v:=?_) (a':=?_) #[true,true,false,false,false,false] rfl rfl (by kernel_rfl) (fun _ _ _ h => h) (Or.inl ⟨by rfl, ?_⟩) ?_ ?_
    rotate_left
    ·intro w'
     go_simp
     with_reducible rfl
    rotate_left
    ·simp only [Act.put,sA_,s0_,s1_,i64_w,i32_w]
     rfl
    refine pure_ (i:=2) (N:=some 21) (v:=?_) (a':=?_) #[true,true,true,false,false,false] rfl rfl (by kernel_rfl) (fun _ _ _ h => h) (Or.inl ⟨by rfl, ?_⟩) ?_ ?_
    rotate_left
    ·intro w'
     go_simp
     with_reducible rfl
    rotate_left
    ·simp only [Act.put,sA_,s0_,s1_,i64_w,i32_w]
     rfl
    refine one_ (i:=3) (N:=some 22) #[true,true,true,true,false,false] rfl rfl (by kernel_rfl) (by decide) (fun K hK => ?_);refine value_ (w1:=?_) (v:=?_) (by rfl) rfl ?_ ?_
    rotate_left 2
    ·go_simp
     constructor
     ·rfl
     ·rfl
    refine hK.out _ _ ((blk_cell (blk_alloc EN2.out.e _) 0).trans rfl) (fun hHeld => ?_);clear hK K;refine norm_ (a':=?_) ?_ ?_
    rotate_left
    ·show Act.put _ (some 22) _ = _
     simp only [Act.put,sA_,s0_,s1_,i64_w,i32_w]
     rfl
    refine one_ (i:=4) (N:=some 23) #[true,true,true,true,true,false] rfl rfl (by kernel_rfl) (by decide) (fun K hK => ?_);refine MCT_append (w0:=w0) (W:=w2) b0 w0.heap.size (by rfl) (.tmp 20) (.tmp 22) 39 3 (.int .i64 0) 8 rfl Try.underlying39 info3 rfl (by omega) (.slice A p.length c) p (j : Int) rfl rfl (Kd.R_mono HO2.out (fun _ _ => trivial)) HB2.out BB.out HZ2.out LB.out ?_
    intro v1 w5 hR5 hb5 hg5 hat
    have E5:=am_ (EN2.out.kept (S:=fun k_ => (Value.slice A p.length c).ownBlock = some k_) ⟨hg5.size,fun i_ hi_ hn_ => hg5.block i_ hi_ (fun e_ => hn_ e_.symm)⟩ (fun k_ e_ => .inr (OB.out k_ e_.symm)));have M5:=am_ (blk_grown GM2.out hg5 (fun e_ => by have h1_:=OB.out _ e_;have h2_:=EN2.out.lt.2.2.2.2.2.2;omega));have B5:=am_ hb5;have K5:=am_ (Kept.of_grown (S:=fun k_ => k_ = gm ∨ some k_ = (Value.slice A p.length c).ownBlock) hg5 HK2.out (fun k_ e_ => .inl (.inr e_.symm)));have Z5:=am_ (Nat.le_trans HZ2.out hg5.size);have R5:=am_ hR5
    have HAT:=am_ hat
    clear hR5 hb5 hg5 hat
    refine hK.out _ _ ((blk_cell E5.out.e 0).trans rfl) (fun hHeld => ?_);clear hK K;refine norm_ (a':=?_) ?_ ?_
    rotate_left
    ·show Act.put _ (some 23) _ = _
     simp only [Act.put,sA_,s0_,s1_,i64_w,i32_w]
     rfl
    refine last_ (i:=5) (N:=some 24) #[true,true,true,true,true,true] rfl rfl (by kernel_rfl) (by decide) (fun K hK => ?_);refine MCT_goes Try.func71 (by kernel_rfl) rfl #[.pointer (some ⟨gs,0,none⟩), .pointer (some ⟨gc,0,none⟩), .pointer (some ⟨gn,0,none⟩), .pointer (some ⟨ge,0,none⟩)] #[v1] #[v1, .pointer (some ⟨gs,0,none⟩), .pointer (some ⟨gc,0,none⟩), .pointer (some ⟨gn,0,none⟩), .pointer (some ⟨ge,0,none⟩)] (by rfl) rfl rfl (by (try simp only [Act.eval]);rfl) (by (try simp only [List.map_toArray,List.map_cons,List.map_nil]);rfl) rfl ?_;refine (IH.out m1 (p ++ [(j : Int)]) v1 m2 w5 (by have h1_:=HPD.out;rw [List.length_append,List.length_singleton];omega) E5.out M5.out B5.out Z5.out R5.out HQ1.out).mono ?_;rintro e w6 ⟨rfl,hb6,hk6,hm6,hR6⟩;refine ⟨_,rfl, ?_⟩;have n0_:=am_ hb6
    have n1_ : Aside0 (Kept w w6 (fun k_ => k_ = gm ∨ some k_ = (Value.slice A p.length c).ownBlock)):=⟨K5.out.then_ hk6 (fun k_ hk_ => hk_.elim (fun e_ => .inl (.inl e_)) (fun e_ => HAT.out.elim (fun h_ => .inl (.inr (e_.trans h_.1))) (fun h_ => by
     obtain ⟨⟨b,hb_,hle_⟩,_⟩ := h_;rw [hb_] at e_
     injection e_ with e_
     exact .inr (by have h3_:=HK2.out.1;omega))))⟩
    have n2_:=am_ hm6
    have n3_ : Aside0 (Kd.R (Kd.int .i64) 3 w6 b0 (fun k_ => True ∧ b0 ≤ k_) (.slice A p.length c) p):=⟨by
     rcases HAT.out with h_ | ⟨⟨b,hb_,hle_⟩,_,hgn_⟩
     ·exact Kd.R_mono (Kd.R_bound (h_.2 w6 hR6)) (fun k_ hk_ => ⟨trivial,hk_.2.1⟩)
     ·have h1_:=Kd.R_grown (Kd.R_bound HO2.out) hgn_ (fun _ _ => by simp)
      exact Kd.R_mono (Kd.R_step h1_ (fun k_ hk_ hl_ => hk6.2 k_ hl_ (fun h2_ => h2_.elim (fun e_ => by have h3_:=EN2.out.lt.2.2.2.2.2.2;have h4_:=hk_.2.1;omega) (fun e_ => by
       rw [hb_] at e_
       injection e_ with e_
       have h4_:=hk_.2.2.1
       omega)))) (fun k_ hk_ => ⟨trivial,hk_.2.1⟩)⟩
    clear hb6 hk6 hm6 hR6;refine hK.out _ _ ?_;clear hK K;refine done_ (by kernel_rfl) ?_
    try go_wp2
    go_roundg e1
    case measure => omega
    case rel => exact ⟨j + 1,m2,by rw [Go.Proofs.YthbibjfnmljpkaaW.Help.w64 (by omega) (by have h1_:=HI.out;have h2_:=HNB.out;omega)];rfl,⟨by have h1_:=HI.out;omega⟩,HQ2,n2_,n0_,n1_,n3_⟩
   ·have c3b0 : decide ((j : Int) < (n : Int)) = false:=decide_eq_false c3;have c3n : (j < n) = False:=eq_false (by omega)
    obtain rfl : gk = 0:=by have h_:=HI.out;omega
    obtain rfl:=Option.some.inj HG.out;clear c3
    go_wp2
    go_end0
    exact ⟨rfl,HB.out,HK.out,GM.out,Kd.R_mono HO.out (fun _ _ => trivial)⟩
theorem MCT_start {gs gc gn ge gm gt gl : Nat} (sz : Int) (n : Nat) (A0 : Option Addr) (c0 : Nat) (l0 : List S54) (A1 : Option Addr) (c1 : Nat) (l1 : List S64) {m : Int} {w0 w w4 : World} (hgm : w.heap[gm]? = some (.cells #[.int .i64 m] 3 (0,0))) (hgt : w.heap[gt]? = some (.cells #[.slice A0 l0.length c0] 28 (0,0))) (hgl : w.heap[gl]? = some (.cells #[.slice A1 l1.length c1] 30 (0,0)))
  (hs : w4.heap[gs]? = some (.cells #[.int .i64 sz] 3 (0,0))) (hn : w4.heap[gn]? = some (.cells #[.int .i64 (n : Int)] 3 (0,0))) (hc : w4.heap[gc]? = some (.cells #[.func (.func 38) #[] #[.pointer (some ⟨gm,0,none⟩), .pointer (some ⟨gt,0,none⟩), .pointer (some ⟨gl,0,none⟩)]] 67 (0,0))) (he : w4.heap[ge]? = some (.cells #[.nilFunc] 67 (0,0)))
  (ls : w.heap.size ≤ gs) (ln : w.heap.size ≤ gn) (lc : w.heap.size ≤ gc) (le : w.heap.size ≤ ge) (nc : gc ≠ ge) (ns : gs < ge) (nn : gn < ge) (hb : Below w.heap.size w w4) (hB : Below w0.heap.size w0 w) :
  MCT_env gs gc gn ge gm gt gl (w4.setCell ⟨ge,0,none⟩ (.func (.func 71) #[] #[.pointer (some ⟨gs,0,none⟩), .pointer (some ⟨gc,0,none⟩), .pointer (some ⟨gn,0,none⟩), .pointer (some ⟨ge,0,none⟩)])).heap.size sz n A0 c0 l0 A1 c1 l1 (w4.setCell ⟨ge,0,none⟩ (.func (.func 71) #[] #[.pointer (some ⟨gs,0,none⟩), .pointer (some ⟨gc,0,none⟩), .pointer (some ⟨gn,0,none⟩), .pointer (some ⟨ge,0,none⟩)])) ∧ (w4.setCell ⟨ge,0,none⟩ (.func (.func 71) #[] #[.pointer (some ⟨gs,0,none⟩), .pointer (some ⟨gc,0,none⟩), .pointer (some ⟨gn,0,none⟩), .pointer (some ⟨ge,0,none⟩)])).heap[gm]? = some (.cells #[.int .i64 m] 3 (0,0)) ∧ Below w0.heap.size w0 (w4.setCell ⟨ge,0,none⟩ (.func (.func 71) #[] #[.pointer (some ⟨gs,0,none⟩), .pointer (some ⟨gc,0,none⟩), .pointer (some ⟨gn,0,none⟩), .pointer (some ⟨ge,0,none⟩)])) ∧ Below w.heap.size w (w4.setCell ⟨ge,0,none⟩ (.func (.func 71) #[] #[.pointer (some ⟨gs,0,none⟩), .pointer (some ⟨gc,0,none⟩), .pointer (some ⟨gn,0,none⟩), .pointer (some ⟨ge,0,none⟩)])) ∧
   (w4.setCell ⟨ge,0,none⟩ (.func (.func 71) #[] #[.pointer (some ⟨gs,0,none⟩), .pointer (some ⟨gc,0,none⟩), .pointer (some ⟨gn,0,none⟩), .pointer (some ⟨ge,0,none⟩)])).cell? ⟨ge,0,none⟩ = some (.func (.func 71) #[] #[.pointer (some ⟨gs,0,none⟩), .pointer (some ⟨gc,0,none⟩), .pointer (some ⟨gn,0,none⟩), .pointer (some ⟨ge,0,none⟩)]) ∧ (store ⟨ge,0,none⟩ (.func (.func 71) #[] #[.pointer (some ⟨gs,0,none⟩), .pointer (some ⟨gc,0,none⟩), .pointer (some ⟨gn,0,none⟩), .pointer (some ⟨ge,0,none⟩)])).run Try.prog w4 = .ok () (w4.setCell ⟨ge,0,none⟩ (.func (.func 71) #[] #[.pointer (some ⟨gs,0,none⟩), .pointer (some ⟨gc,0,none⟩), .pointer (some ⟨gn,0,none⟩), .pointer (some ⟨ge,0,none⟩)])):=by
 have hst : (store ⟨ge,0,none⟩ (.func (.func 71) #[] #[.pointer (some ⟨gs,0,none⟩), .pointer (some ⟨gc,0,none⟩), .pointer (some ⟨gn,0,none⟩), .pointer (some ⟨ge,0,none⟩)])).run Try.prog w4 = .ok () (w4.setCell ⟨ge,0,none⟩ (.func (.func 71) #[] #[.pointer (some ⟨gs,0,none⟩), .pointer (some ⟨gc,0,none⟩), .pointer (some ⟨gn,0,none⟩), .pointer (some ⟨ge,0,none⟩)])):=by
  rw [run_store Try.prog w4 _ _ _ rfl,show w4.cell? ⟨ge,0,none⟩ = some .nilFunc from (blk_cell he 0).trans rfl,blk_frozen he 0]
  rfl
 have hbe : (w4.setCell ⟨ge,0,none⟩ (.func (.func 71) #[] #[.pointer (some ⟨gs,0,none⟩), .pointer (some ⟨gc,0,none⟩), .pointer (some ⟨gn,0,none⟩), .pointer (some ⟨ge,0,none⟩)])).heap[ge]? = some (.cells #[.func (.func 71) #[] #[.pointer (some ⟨gs,0,none⟩), .pointer (some ⟨gc,0,none⟩), .pointer (some ⟨gn,0,none⟩), .pointer (some ⟨ge,0,none⟩)]] 67 (0,0)):=blk_put he 0 _ rfl;have hk : Kept w4 (w4.setCell ⟨ge,0,none⟩ (.func (.func 71) #[] #[.pointer (some ⟨gs,0,none⟩), .pointer (some ⟨gc,0,none⟩), .pointer (some ⟨gn,0,none⟩), .pointer (some ⟨ge,0,none⟩)])) (fun k_ => k_ = ge):=Kept.setCell (S:=fun k_ => k_ = ge) (Kept.refl _ _) (.inl rfl) _;have hb5 : Below w.heap.size w (w4.setCell ⟨ge,0,none⟩ (.func (.func 71) #[] #[.pointer (some ⟨gs,0,none⟩), .pointer (some ⟨gc,0,none⟩), .pointer (some ⟨gn,0,none⟩), .pointer (some ⟨ge,0,none⟩)])):=below_set hb le;generalize (w4.setCell ⟨ge,0,none⟩ (.func (.func 71) #[] #[.pointer (some ⟨gs,0,none⟩), .pointer (some ⟨gc,0,none⟩), .pointer (some ⟨gn,0,none⟩), .pointer (some ⟨ge,0,none⟩)])) = w5 at hbe hk hb5 hst ⊢;have hgtm : gt ≠ gm:=blk_ne hgt hgm (by decide);have hglm : gl ≠ gm:=blk_ne hgl hgm (by decide);have lm:=blk_lt hgm;have lt:=blk_lt hgt;have ll:=blk_lt hgl;have h5:=hb5.size;have e1:=blk_kept hs hk (by omega);have e2:=blk_kept hc hk nc;have e3:=blk_kept hn hk (by omega);refine ⟨⟨e1,e2,e3,hbe,blk_below hgt hb5,blk_below hgl hb5,⟨blk_lt e1,blk_lt e2,blk_lt e3,blk_lt hbe,by omega,by omega,by omega⟩,⟨by omega,by omega,by omega,by omega,hgtm,hglm⟩⟩,blk_below hgm hb5,below_step hB hb5,hb5,(blk_cell hbe 0).trans rfl,hst⟩
set_option maxHeartbeats 8000000 in
set_option maxRecDepth 100000 in
theorem impl_choices.calls (k gm gt gl : Nat) (sz : Int) (n d : Nat) (A0 : Option Addr) (c0 : Nat) (l0 : List S54) (A1 : Option Addr) (c1 : Nat) (l1 : List S64) (w0 w : World) (hr0 : Kd.C k54 w0 A0 l0.length l0) (hc0 : l0.length ≤ c0) (hr1 : Kd.C k64 w0 A1 l1.length l1) (hc1 : l1.length ≤ c1)
  (hm0 : w0.heap.size ≤ gm) (hn : n ≤ 1048577) (hsz : sz ≤ 1048577) (m r : Int) (hd : (d : Int) = sz) (hB : Below w0.heap.size w0 w) (hgm : w.heap[gm]? = some (.cells #[.int .i64 m] 3 (0,0))) (hgt : w.heap[gt]? = some (.cells #[.slice A0 l0.length c0] 28 (0,0))) (hgl : w.heap[gl]? = some (.cells #[.slice A1 l1.length c1] 30 (0,0)))
  (hf : impl_choices_1.f k l0 l1 n d m [] = some r) :
  Calls Try.prog 37 #[.int .i64 sz, .int .i64 (n : Int), .func (.func 38) #[] #[.pointer (some ⟨gm,0,none⟩), .pointer (some ⟨gt,0,none⟩), .pointer (some ⟨gl,0,none⟩)]] w fun e w' => e = .returned (.tuple #[]) ∧ Below w0.heap.size w0 w' ∧ Kept w w' (fun k_ => k_ = gm) ∧ w'.heap[gm]? = some (.cells #[.int .i64 r] 3 (0,0)):=by
 have hu3:=Try.underlying3;have hu67:=Try.underlying67;have hz67:=Try.zeroValue67;have HR0:=am_ hr0;have HC0:=am_ hc0;have HR1:=am_ hr1;have HC1:=am_ hc1;have HM0:=am_ hm0;have HNB:=am_ hn;have HSB:=am_ hsz;have HD:=am_ (show ((([] : List Int).length : Nat) : Int) + d = sz by simpa using hd);have HB:=am_ hB;have GM:=am_ hgm;have GT:=am_ hgt;have GL:=am_ hgl;have HF:=am_ hf;clear hr0 hc0 hr1 hc1 hm0 hn hsz hd hB hgm hgt hgl hf
 go_enter Try.func37,Try.ntmps37
 go_wp2_with (first | ((with_reducible refine gate_dst (N:=3) rfl ?_);refine box_event ?hg (N:=3) ?hd (cs:=#[.int .i64 sz]) (t:=3) ?hr ?_;(case hd => rfl);(case hg => rfl);(case hr => (go_simp;done));intro gs hg w1 hbox hb;have BS:=am_ hbox;have WB:=am_ (show Below w.heap.size w w1 from hb);have LS:=am_ (Nat.le_of_eq hg.symm);clear hb hbox hg) | ((with_reducible refine gate_dst (N:=4) rfl ?_);refine box_event ?hg (N:=4) ?hd (cs:=#[.int .i64 (n : Int)]) (t:=3) ?hr ?_;(case hd => rfl);(case hg => rfl);(case hr => (go_simp;done));intro gn hg w2 hbox hb;have hBS_:=am_ (blk_below BS.out hb);clear BS;have BS:=hBS_;clear hBS_;have BN:=am_ hbox;have LN:=am_ (Nat.le_trans WB.out.size (Nat.le_of_eq hg.symm));have hq_:=am_ (below_step WB.out hb);clear WB;have WB:=hq_;clear hq_ hb hbox hg) | ((with_reducible refine gate_dst (N:=5) rfl ?_);refine box_event ?hg (N:=5) ?hd (cs:=#[.func (.func 38) #[] #[.pointer (some ⟨gm,0,none⟩), .pointer (some ⟨gt,0,none⟩), .pointer (some ⟨gl,0,none⟩)]]) (t:=67) ?hr ?_;(case hd => rfl);(case hg => rfl);(case hr => (go_simp;done));intro gc hg w3 hbox hb;have hBS_:=am_ (blk_below BS.out hb);clear BS;have BS:=hBS_;clear hBS_;have hBN_:=am_ (blk_below BN.out hb);clear BN;have BN:=hBN_;clear hBN_;have BC:=am_ hbox;have LC:=am_ (Nat.le_trans WB.out.size (Nat.le_of_eq hg.symm));have hq_:=am_ (below_step WB.out hb);clear WB;have WB:=hq_;clear hq_ hb hbox hg) | ((with_reducible refine gate_dst (N:=6) rfl ?_);refine box_event ?hg (N:=6) ?hd (cs:=#[.nilFunc]) (t:=67) ?hr ?_;(case hd => rfl);(case hg => rfl);(case hr => (go_simp;done));intro ge hg w4 hbox hb;have NE:=am_ (show gc ≠ ge from fun e_ => by have h1_:=blk_lt BC.out;omega);have NS:=am_ (show gs < ge from by have h1_:=blk_lt BS.out;omega);have NN:=am_ (show gn < ge from by have h1_:=blk_lt BN.out;omega);have hBS_:=am_ (blk_below BS.out hb);clear BS;have BS:=hBS_;clear hBS_;have hBN_:=am_ (blk_below BN.out hb);clear BN;have BN:=hBN_;clear hBN_;have hBC_:=am_ (blk_below BC.out hb);clear BC;have BC:=hBC_;clear hBC_;have BE:=am_ hbox;have LE:=am_ (Nat.le_trans WB.out.size (Nat.le_of_eq hg.symm));have hq_:=am_ (below_step WB.out hb);have hfe:=blk_frozen BE.out 0;have hce0 : w4.cell? ⟨ge,0,none⟩ = some .nilFunc:=(blk_cell BE.out 0).trans rfl;clear WB;have WB:=hq_;clear hq_ hb hbox hg;have HST:=am_ (MCT_start sz n A0 c0 l0 A1 c1 l1 GM.out GT.out GL.out BS.out BN.out BC.out BE.out LS.out LN.out LC.out LE.out NE.out NS.out NN.out WB.out HB.out);have hce:=HST.out.2.2.2.2) | ((with_reducible refine gate_dst (N:=9) rfl ?_);refine goesD_ (some 9) rfl rfl Try.func71 (by kernel_rfl) rfl #[.pointer (some ⟨gs,0,none⟩), .pointer (some ⟨gc,0,none⟩), .pointer (some ⟨gn,0,none⟩), .pointer (some ⟨ge,0,none⟩)] #[.slice none 0 0] #[.slice none 0 0, .pointer (some ⟨gs,0,none⟩), .pointer (some ⟨gc,0,none⟩), .pointer (some ⟨gn,0,none⟩), .pointer (some ⟨ge,0,none⟩)] rfl (by (try simp only [Act.eval]);rfl) (by (try simp only [List.map_toArray,List.map_cons,List.map_nil]);rfl) rfl ?_;refine (impl_choices_1.calls k gs gc gn ge gm gt gl (w4.setCell ⟨ge,0,none⟩ (.func (.func 71) #[] #[.pointer (some ⟨gs,0,none⟩), .pointer (some ⟨gc,0,none⟩), .pointer (some ⟨gn,0,none⟩), .pointer (some ⟨ge,0,none⟩)])).heap.size sz n A0 c0 l0 A1 c1 l1 w0 HR0.out HC0.out HR1.out HC1.out HM0.out HNB.out HSB.out d m [] (.slice none 0 0) r (w4.setCell ⟨ge,0,none⟩ (.func (.func 71) #[] #[.pointer (some ⟨gs,0,none⟩), .pointer (some ⟨gc,0,none⟩), .pointer (some ⟨gn,0,none⟩), .pointer (some ⟨ge,0,none⟩)])) HD.out HST.out.1 HST.out.2.1 HST.out.2.2.1 (Nat.le_refl _) (Kd.R_nil _ _ _ _ _) HF.out).mono ?_;rintro e w6 ⟨rfl,hb6,hk6,hm6,_⟩;refine ⟨_,rfl, ?_⟩;have B6:=am_ hb6;have K6:=am_ hk6;have M6:=am_ hm6;clear hb6 hk6 hm6))
 go_end0
 exact ⟨rfl,B6.out,(Kept.of_below HST.out.2.2.2.1 _).then_ K6.out (fun k_ hk_ => hk_.elim .inl (fun e_ => by simp [Value.ownBlock] at e_)),M6.out⟩
def impl_MostContainers.f (k : Nat) (l0 : List S54) (l1 : List S64) : Option (Int × Bool):=(impl_IsValidTrain.f k l0).bind fun a => (if a = true then ((impl_IsValidContainers.f k l1).bind fun b => (if b = true then (if (l1.length : Int) > 7 then some (0,false) else (if (l0.length : Int) > 3 then some (0,false) else ((impl_choices_1.f k l0 l1 (l0.length + 1) l1.length 0 []).bind fun m => some (m,true)))) else some (0,false))) else some (0,false))
theorem impl_MostContainers.mono : ∀ a0 a1 k,LeO (impl_MostContainers.f k a0 a1) (impl_MostContainers.f (k + 1) a0 a1):=by
 intro a0 a1 k
 unfold impl_MostContainers.f
 repeat' first
  | (with_reducible exact impl_IsValidTrain.mono _ k)
  | (with_reducible exact impl_IsValidContainers.mono _ k)
  | (with_reducible exact impl_choices_1.mono k _ _ _ _ _ _)
  | (with_reducible exact LeO.refl _)
  | (with_reducible exact LeO.none _)
  | (with_reducible refine LeO.ite ?_ ?_)
  | (with_reducible refine LeO.bind ?_ (fun _ => ?_))
set_option maxHeartbeats 8000000 in
set_option maxRecDepth 100000 in
theorem impl_MostContainers.no1 (k : Nat) (A0 : Option Addr) (c0 : Nat) (l0 : List S54) (A1 : Option Addr) (c1 : Nat) (l1 : List S64) (w : World) (hr0 : Kd.C k54 w A0 l0.length l0) (hc0 : l0.length ≤ c0) (hr1 : Kd.C k64 w A1 l1.length l1) (hc1 : l1.length ≤ c1)  (h4 : impl_IsValidTrain.f k l0 = some false) :
  Calls Try.prog 10 #[.slice A0 l0.length c0, .slice A1 l1.length c1] w fun e w' => e = .returned (.tuple #[.int .i64 0, .bool false]) ∧ Below w.heap.size w w':=by
 have hu3:=Try.underlying3;have hu28:=Try.underlying28;have hu30:=Try.underlying30;have hz3:=Try.zeroValue3;have HR0:=am_ hr0;have HC0:=am_ hc0;have HR1:=am_ hr1;have HC1:=am_ hc1;have HB:=am_ (Below.refl w.heap.size w);clear hr0 hc0 hr1 hc1;have A4:=am_ h4;clear h4
 go_enter Try.func10,Try.ntmps10
 go_wp2_with (first | ((with_reducible refine gate_dst (N:=2) rfl ?_);refine box_event ?hg (N:=2) ?hd (cs:=#[.slice A0 l0.length c0]) (t:=28) ?hr ?_;(case hd => rfl);(case hg => rfl);(case hr => (go_simp;done));intro gt hg w1 hbox hb;have BT:=am_ hbox;have n0_:=am_ hb;clear HB;have HB:=n0_;clear n0_ hb hbox hg) | ((with_reducible refine gate_dst (N:=3) rfl ?_);refine box_event ?hg (N:=3) ?hd (cs:=#[.slice A1 l1.length c1]) (t:=30) ?hr ?_;(case hd => rfl);(case hg => rfl);(case hr => (go_simp;done));intro gl hg w2 hbox hb;have hBT_:=am_ (blk_below BT.out hb);clear BT;have BT:=hBT_;clear hBT_;have BL:=am_ hbox;have n0_:=am_ (below_step HB.out hb);clear HB;have HB:=n0_;clear n0_ hb hbox hg;have hct:=(blk_cell BT.out 0).trans rfl;have hcl:=(blk_cell BL.out 0).trans rfl) | ((with_reducible refine gate_callee (f:=20) rfl ?_);refine goesL_ (some 8) rfl rfl Try.func20 (by kernel_rfl) rfl #[.slice A0 l0.length c0] rfl (by (try simp only [List.map_toArray,List.map_cons,List.map_nil]);rfl) ?_;(refine (impl_IsValidTrain.calls k A0 c0 l0 false _ ?s1 HC0.out A4.out).mono ?_);(case s1 => repeat (exact Kd.C_below HR0.out HB.out));rintro e w3 ⟨rfl,hb⟩;refine ⟨_,rfl, ?_⟩;have n0_:=am_ (below_step (by exact HB.out) hb);have hBT_:=am_ (blk_below BT.out hb);clear BT;have BT:=hBT_;clear hBT_;have hBL_:=am_ (blk_below BL.out hb);clear BL;have BL:=hBL_;clear hBL_;clear hct hcl HB;have HB:=n0_;clear n0_ hb;have hct:=(blk_cell BT.out 0).trans rfl;have hcl:=(blk_cell BL.out 0).trans rfl))
 go_ret2
 exact ⟨by rfl,(by exact HB.out)⟩
set_option maxHeartbeats 8000000 in
set_option maxRecDepth 100000 in
theorem impl_MostContainers.no2 (k : Nat) (A0 : Option Addr) (c0 : Nat) (l0 : List S54) (A1 : Option Addr) (c1 : Nat) (l1 : List S64) (w : World) (hr0 : Kd.C k54 w A0 l0.length l0) (hc0 : l0.length ≤ c0) (hr1 : Kd.C k64 w A1 l1.length l1) (hc1 : l1.length ≤ c1) (h4 : impl_IsValidTrain.f k l0 = some true) (h5 : impl_IsValidContainers.f k l1 = some false) :
  Calls Try.prog 10 #[.slice A0 l0.length c0, .slice A1 l1.length c1] w fun e w' => e = .returned (.tuple #[.int .i64 0, .bool false]) ∧ Below w.heap.size w w':=by
 have hu3:=Try.underlying3;have hu28:=Try.underlying28;have hu30:=Try.underlying30;have hz3:=Try.zeroValue3;have HR0:=am_ hr0;have HC0:=am_ hc0;have HR1:=am_ hr1;have HC1:=am_ hc1;have HB:=am_ (Below.refl w.heap.size w);clear hr0 hc0 hr1 hc1;have A4:=am_ h4;clear h4;have A5:=am_ h5;clear h5
 go_enter Try.func10,Try.ntmps10
 go_wp2_with (first | ((with_reducible refine gate_dst (N:=2) rfl ?_);refine box_event ?hg (N:=2) ?hd (cs:=#[.slice A0 l0.length c0]) (t:=28) ?hr ?_;(case hd => rfl);(case hg => rfl);(case hr => (go_simp;done));intro gt hg w1 hbox hb;have BT:=am_ hbox;have n0_:=am_ hb;clear HB;have HB:=n0_;clear n0_ hb hbox hg) | ((with_reducible refine gate_dst (N:=3) rfl ?_);refine box_event ?hg (N:=3) ?hd (cs:=#[.slice A1 l1.length c1]) (t:=30) ?hr ?_;(case hd => rfl);(case hg => rfl);(case hr => (go_simp;done));intro gl hg w2 hbox hb;have hBT_:=am_ (blk_below BT.out hb);clear BT;have BT:=hBT_;clear hBT_;have BL:=am_ hbox;have n0_:=am_ (below_step HB.out hb);clear HB;have HB:=n0_;clear n0_ hb hbox hg;have hct:=(blk_cell BT.out 0).trans rfl;have hcl:=(blk_cell BL.out 0).trans rfl) | ((with_reducible refine gate_callee (f:=20) rfl ?_);refine goesL_ (some 8) rfl rfl Try.func20 (by kernel_rfl) rfl #[.slice A0 l0.length c0] rfl (by (try simp only [List.map_toArray,List.map_cons,List.map_nil]);rfl) ?_;(refine (impl_IsValidTrain.calls k A0 c0 l0 true _ ?s1 HC0.out A4.out).mono ?_);(case s1 => repeat (exact Kd.C_below HR0.out HB.out));rintro e w3 ⟨rfl,hb⟩;refine ⟨_,rfl, ?_⟩;have n0_:=am_ (below_step (by exact HB.out) hb);have hBT_:=am_ (blk_below BT.out hb);clear BT;have BT:=hBT_;clear hBT_;have hBL_:=am_ (blk_below BL.out hb);clear BL;have BL:=hBL_;clear hBL_;clear hct hcl HB;have HB:=n0_;clear n0_ hb;have hct:=(blk_cell BT.out 0).trans rfl;have hcl:=(blk_cell BL.out 0).trans rfl) | (go_at_call 36;(refine (impl_IsValidContainers.calls k A1 c1 l1 false _ ?s1 HC1.out A5.out).mono ?_);(case s1 => repeat (exact Kd.C_below HR1.out HB.out));rintro e w4 ⟨rfl,hb⟩;have n0_:=am_ (below_step (by exact HB.out) hb);have hBT_:=am_ (blk_below BT.out hb);clear BT;have BT:=hBT_;clear hBT_;have hBL_:=am_ (blk_below BL.out hb);clear BL;have BL:=hBL_;clear hBL_;clear hct hcl HB;have HB:=n0_;clear n0_ hb;have hct:=(blk_cell BT.out 0).trans rfl;have hcl:=(blk_cell BL.out 0).trans rfl))
 go_ret2
 exact ⟨by rfl,(by exact HB.out)⟩
set_option maxHeartbeats 8000000 in
set_option maxRecDepth 100000 in
theorem impl_MostContainers.no3 (k : Nat) (A0 : Option Addr) (c0 : Nat) (l0 : List S54) (A1 : Option Addr) (c1 : Nat) (l1 : List S64) (w : World) (hr0 : Kd.C k54 w A0 l0.length l0) (hc0 : l0.length ≤ c0) (hr1 : Kd.C k64 w A1 l1.length l1) (hc1 : l1.length ≤ c1) (h4 : impl_IsValidTrain.f k l0 = some true) (h5 : impl_IsValidContainers.f k l1 = some true) (h6 : (l1.length : Int) > 7) :
  Calls Try.prog 10 #[.slice A0 l0.length c0, .slice A1 l1.length c1] w fun e w' => e = .returned (.tuple #[.int .i64 0, .bool false]) ∧ Below w.heap.size w w':=by
 have hu3:=Try.underlying3;have hu28:=Try.underlying28;have hu30:=Try.underlying30;have hz3:=Try.zeroValue3;have HR0:=am_ hr0;have HC0:=am_ hc0;have HR1:=am_ hr1;have HC1:=am_ hc1;have HB:=am_ (Below.refl w.heap.size w);clear hr0 hc0 hr1 hc1;have A4:=am_ h4;clear h4;have A5:=am_ h5;clear h5;have d7 : decide ((l1.length : Int) > 7) = true:=decide_eq_true h6;have e7 : (7 < (l1.length : Int)) = True:=eq_true h6;have f7 : (7 < l1.length) = True:=eq_true (by omega);clear h6
 go_enter Try.func10,Try.ntmps10
 go_wp2_with (first | ((with_reducible refine gate_dst (N:=2) rfl ?_);refine box_event ?hg (N:=2) ?hd (cs:=#[.slice A0 l0.length c0]) (t:=28) ?hr ?_;(case hd => rfl);(case hg => rfl);(case hr => (go_simp;done));intro gt hg w1 hbox hb;have BT:=am_ hbox;have n0_:=am_ hb;clear HB;have HB:=n0_;clear n0_ hb hbox hg) | ((with_reducible refine gate_dst (N:=3) rfl ?_);refine box_event ?hg (N:=3) ?hd (cs:=#[.slice A1 l1.length c1]) (t:=30) ?hr ?_;(case hd => rfl);(case hg => rfl);(case hr => (go_simp;done));intro gl hg w2 hbox hb;have hBT_:=am_ (blk_below BT.out hb);clear BT;have BT:=hBT_;clear hBT_;have BL:=am_ hbox;have n0_:=am_ (below_step HB.out hb);clear HB;have HB:=n0_;clear n0_ hb hbox hg;have hct:=(blk_cell BT.out 0).trans rfl;have hcl:=(blk_cell BL.out 0).trans rfl) | ((with_reducible refine gate_callee (f:=20) rfl ?_);refine goesL_ (some 8) rfl rfl Try.func20 (by kernel_rfl) rfl #[.slice A0 l0.length c0] rfl (by (try simp only [List.map_toArray,List.map_cons,List.map_nil]);rfl) ?_;(refine (impl_IsValidTrain.calls k A0 c0 l0 true _ ?s1 HC0.out A4.out).mono ?_);(case s1 => repeat (exact Kd.C_below HR0.out HB.out));rintro e w3 ⟨rfl,hb⟩;refine ⟨_,rfl, ?_⟩;have n0_:=am_ (below_step (by exact HB.out) hb);have hBT_:=am_ (blk_below BT.out hb);clear BT;have BT:=hBT_;clear hBT_;have hBL_:=am_ (blk_below BL.out hb);clear BL;have BL:=hBL_;clear hBL_;clear hct hcl HB;have HB:=n0_;clear n0_ hb;have hct:=(blk_cell BT.out 0).trans rfl;have hcl:=(blk_cell BL.out 0).trans rfl) | (go_at_call 36;(refine (impl_IsValidContainers.calls k A1 c1 l1 true _ ?s1 HC1.out A5.out).mono ?_);(case s1 => repeat (exact Kd.C_below HR1.out HB.out));rintro e w4 ⟨rfl,hb⟩;have n0_:=am_ (below_step (by exact HB.out) hb);have hBT_:=am_ (blk_below BT.out hb);clear BT;have BT:=hBT_;clear hBT_;have hBL_:=am_ (blk_below BL.out hb);clear BL;have BL:=hBL_;clear hBL_;clear hct hcl HB;have HB:=n0_;clear n0_ hb;have hct:=(blk_cell BT.out 0).trans rfl;have hcl:=(blk_cell BL.out 0).trans rfl))
 go_ret2
 exact ⟨by rfl,(by exact HB.out)⟩
set_option maxHeartbeats 8000000 in
set_option maxRecDepth 100000 in
theorem impl_MostContainers.no4 (k : Nat) (A0 : Option Addr) (c0 : Nat) (l0 : List S54) (A1 : Option Addr) (c1 : Nat) (l1 : List S64) (w : World) (hr0 : Kd.C k54 w A0 l0.length l0) (hc0 : l0.length ≤ c0) (hr1 : Kd.C k64 w A1 l1.length l1) (hc1 : l1.length ≤ c1) (h4 : impl_IsValidTrain.f k l0 = some true) (h5 : impl_IsValidContainers.f k l1 = some true) (h6 : ¬ (l1.length : Int) > 7) (h7 : (l0.length : Int) > 3) :
  Calls Try.prog 10 #[.slice A0 l0.length c0, .slice A1 l1.length c1] w fun e w' => e = .returned (.tuple #[.int .i64 0, .bool false]) ∧ Below w.heap.size w w':=by
 have hu3:=Try.underlying3;have hu28:=Try.underlying28;have hu30:=Try.underlying30;have hz3:=Try.zeroValue3;have HR0:=am_ hr0;have HC0:=am_ hc0;have HR1:=am_ hr1;have HC1:=am_ hc1;have HB:=am_ (Below.refl w.heap.size w);clear hr0 hc0 hr1 hc1;have A4:=am_ h4;clear h4;have A5:=am_ h5;clear h5;have d7 : decide ((l1.length : Int) > 7) = false:=decide_eq_false h6;have e7 : (7 < (l1.length : Int)) = False:=eq_false h6;have f7 : (7 < l1.length) = False:=eq_false (by omega);have d3 : decide ((l0.length : Int) > 3) = true:=decide_eq_true h7;have e3 : (3 < (l0.length : Int)) = True:=eq_true h7;have f3 : (3 < l0.length) = True:=eq_true (by omega);clear h6 h7
 go_enter Try.func10,Try.ntmps10
 go_wp2_with (first | ((with_reducible refine gate_dst (N:=2) rfl ?_);refine box_event ?hg (N:=2) ?hd (cs:=#[.slice A0 l0.length c0]) (t:=28) ?hr ?_;(case hd => rfl);(case hg => rfl);(case hr => (go_simp;done));intro gt hg w1 hbox hb;have BT:=am_ hbox;have n0_:=am_ hb;clear HB;have HB:=n0_;clear n0_ hb hbox hg) | ((with_reducible refine gate_dst (N:=3) rfl ?_);refine box_event ?hg (N:=3) ?hd (cs:=#[.slice A1 l1.length c1]) (t:=30) ?hr ?_;(case hd => rfl);(case hg => rfl);(case hr => (go_simp;done));intro gl hg w2 hbox hb;have hBT_:=am_ (blk_below BT.out hb);clear BT;have BT:=hBT_;clear hBT_;have BL:=am_ hbox;have n0_:=am_ (below_step HB.out hb);clear HB;have HB:=n0_;clear n0_ hb hbox hg;have hct:=(blk_cell BT.out 0).trans rfl;have hcl:=(blk_cell BL.out 0).trans rfl) | ((with_reducible refine gate_callee (f:=20) rfl ?_);refine goesL_ (some 8) rfl rfl Try.func20 (by kernel_rfl) rfl #[.slice A0 l0.length c0] rfl (by (try simp only [List.map_toArray,List.map_cons,List.map_nil]);rfl) ?_;(refine (impl_IsValidTrain.calls k A0 c0 l0 true _ ?s1 HC0.out A4.out).mono ?_);(case s1 => repeat (exact Kd.C_below HR0.out HB.out));rintro e w3 ⟨rfl,hb⟩;refine ⟨_,rfl, ?_⟩;have n0_:=am_ (below_step (by exact HB.out) hb);have hBT_:=am_ (blk_below BT.out hb);clear BT;have BT:=hBT_;clear hBT_;have hBL_:=am_ (blk_below BL.out hb);clear BL;have BL:=hBL_;clear hBL_;clear hct hcl HB;have HB:=n0_;clear n0_ hb;have hct:=(blk_cell BT.out 0).trans rfl;have hcl:=(blk_cell BL.out 0).trans rfl) | (go_at_call 36;(refine (impl_IsValidContainers.calls k A1 c1 l1 true _ ?s1 HC1.out A5.out).mono ?_);(case s1 => repeat (exact Kd.C_below HR1.out HB.out));rintro e w4 ⟨rfl,hb⟩;have n0_:=am_ (below_step (by exact HB.out) hb);have hBT_:=am_ (blk_below BT.out hb);clear BT;have BT:=hBT_;clear hBT_;have hBL_:=am_ (blk_below BL.out hb);clear BL;have BL:=hBL_;clear hBL_;clear hct hcl HB;have HB:=n0_;clear n0_ hb;have hct:=(blk_cell BT.out 0).trans rfl;have hcl:=(blk_cell BL.out 0).trans rfl))
 go_ret2
 exact ⟨by rfl,(by exact HB.out)⟩
set_option maxHeartbeats 8000000 in
set_option maxRecDepth 100000 in
theorem impl_MostContainers.yes (k : Nat) (A0 : Option Addr) (c0 : Nat) (l0 : List S54) (A1 : Option Addr) (c1 : Nat) (l1 : List S64) (m : Int) (w : World) (hr0 : Kd.C k54 w A0 l0.length l0) (hc0 : l0.length ≤ c0) (hr1 : Kd.C k64 w A1 l1.length l1) (hc1 : l1.length ≤ c1) (h4 : impl_IsValidTrain.f k l0 = some true) (h5 : impl_IsValidContainers.f k l1 = some true) (h6 : ¬ (l1.length : Int) > 7) (h7 : ¬ (l0.length : Int) > 3) (h8 : impl_choices_1.f k l0 l1 (l0.length + 1) l1.length 0 [] = some m) :
  Calls Try.prog 10 #[.slice A0 l0.length c0, .slice A1 l1.length c1] w fun e w' => e = .returned (.tuple #[.int .i64 m, .bool true]) ∧ Below w.heap.size w w':=by
 have hu3:=Try.underlying3;have hu28:=Try.underlying28;have hu30:=Try.underlying30;have hz3:=Try.zeroValue3;have HR0:=am_ hr0;have HC0:=am_ hc0;have HR1:=am_ hr1;have HC1:=am_ hc1;have HB:=am_ (Below.refl w.heap.size w);clear hr0 hc0 hr1 hc1;have A4:=am_ h4;clear h4;have A5:=am_ h5;clear h5;have A6:=am_ h8;have L7:=am_ h6;have L3:=am_ h7;have d7 : decide ((l1.length : Int) > 7) = false:=decide_eq_false h6;have e7 : (7 < (l1.length : Int)) = False:=eq_false h6;have f7 : (7 < l1.length) = False:=eq_false (by omega);have d3 : decide ((l0.length : Int) > 3) = false:=decide_eq_false h7;have e3 : (3 < (l0.length : Int)) = False:=eq_false h7;have f3 : (3 < l0.length) = False:=eq_false (by omega)
 have hwr : wrap64 ((l0.length : Int) + 1) = ((l0.length + 1 : Nat) : Int):=by rw [Go.Proofs.YthbibjfnmljpkaaW.Help.w64 (by omega) (by omega)];rfl
 clear h6 h7 h8
 go_enter Try.func10,Try.ntmps10
 go_wp2_with (first | ((with_reducible refine gate_dst (N:=2) rfl ?_);refine box_event ?hg (N:=2) ?hd (cs:=#[.slice A0 l0.length c0]) (t:=28) ?hr ?_;(case hd => rfl);(case hg => rfl);(case hr => (go_simp;done));intro gt hg w1 hbox hb;have BT:=am_ hbox;have n0_:=am_ hb;clear HB;have HB:=n0_;clear n0_ hb hbox hg) | ((with_reducible refine gate_dst (N:=3) rfl ?_);refine box_event ?hg (N:=3) ?hd (cs:=#[.slice A1 l1.length c1]) (t:=30) ?hr ?_;(case hd => rfl);(case hg => rfl);(case hr => (go_simp;done));intro gl hg w2 hbox hb;have hBT_:=am_ (blk_below BT.out hb);clear BT;have BT:=hBT_;clear hBT_;have BL:=am_ hbox;have n0_:=am_ (below_step HB.out hb);clear HB;have HB:=n0_;clear n0_ hb hbox hg;have hct:=(blk_cell BT.out 0).trans rfl;have hcl:=(blk_cell BL.out 0).trans rfl) | ((with_reducible refine gate_callee (f:=20) rfl ?_);refine goesL_ (some 8) rfl rfl Try.func20 (by kernel_rfl) rfl #[.slice A0 l0.length c0] rfl (by (try simp only [List.map_toArray,List.map_cons,List.map_nil]);rfl) ?_;(refine (impl_IsValidTrain.calls k A0 c0 l0 true _ ?s1 HC0.out A4.out).mono ?_);(case s1 => repeat (exact Kd.C_below HR0.out HB.out));rintro e w3 ⟨rfl,hb⟩;refine ⟨_,rfl, ?_⟩;have n0_:=am_ (below_step (by exact HB.out) hb);have hBT_:=am_ (blk_below BT.out hb);clear BT;have BT:=hBT_;clear hBT_;have hBL_:=am_ (blk_below BL.out hb);clear BL;have BL:=hBL_;clear hBL_;clear hct hcl HB;have HB:=n0_;clear n0_ hb;have hct:=(blk_cell BT.out 0).trans rfl;have hcl:=(blk_cell BL.out 0).trans rfl) | (go_at_call 36;(refine (impl_IsValidContainers.calls k A1 c1 l1 true _ ?s1 HC1.out A5.out).mono ?_);(case s1 => repeat (exact Kd.C_below HR1.out HB.out));rintro e w4 ⟨rfl,hb⟩;have n0_:=am_ (below_step (by exact HB.out) hb);have hBT_:=am_ (blk_below BT.out hb);clear BT;have BT:=hBT_;clear hBT_;have hBL_:=am_ (blk_below BL.out hb);clear BL;have BL:=hBL_;clear hBL_;clear hct hcl HB;have HB:=n0_;clear n0_ hb;have hct:=(blk_cell BT.out 0).trans rfl;have hcl:=(blk_cell BL.out 0).trans rfl) | ((with_reducible refine gate_dst (N:=6) rfl ?_);refine box_event ?hg (N:=6) ?hd (cs:=#[.int .i64 0]) (t:=3) ?hr ?_;(case hd => rfl);(case hg => rfl);(case hr => (go_simp;done));intro gm hg w5 hbox hb;have hBT_:=am_ (blk_below BT.out hb);clear BT;have BT:=hBT_;clear hBT_;have hBL_:=am_ (blk_below BL.out hb);clear BL;have BL:=hBL_;clear hBL_;have BM:=am_ hbox;have n0_:=am_ (below_step (by exact HB.out) hb);have GE:=am_ (show w.heap.size ≤ gm from by rw [hg];exact (below_size (by exact HB.out)));clear hct hcl HB;have HB:=n0_;clear n0_ hb hbox hg;have W6:=am_ (show Below w.heap.size w (w5.setCell ⟨gm,0,none⟩ (.int .i64 0)) from below_set HB.out GE.out);have BM6:=am_ (show (w5.setCell ⟨gm,0,none⟩ (.int .i64 0)).heap[gm]? = some (.cells #[.int .i64 0] 3 (0,0)) from blk_put BM.out 0 _ rfl);have BT6:=am_ (show (w5.setCell ⟨gm,0,none⟩ (.int .i64 0)).heap[gt]? = some (.cells #[.slice A0 l0.length c0] 28 (0,0)) from blk_far BT.out (blk_ne BT.out BM.out (by decide)) _);have BL6:=am_ (show (w5.setCell ⟨gm,0,none⟩ (.int .i64 0)).heap[gl]? = some (.cells #[.slice A1 l1.length c1] 30 (0,0)) from blk_far BL.out (blk_ne BL.out BM.out (by decide)) _);have hcm:=(blk_cell BM.out 0).trans rfl;have hfm:=blk_frozen BM.out 0;have hct:=(blk_cell BT6.out 0).trans rfl;have hcl:=(blk_cell BL6.out 0).trans rfl) | ((with_reducible refine gate_dst (N:=31) rfl ?_);refine goesL_ (some 31) rfl rfl Try.func37 (by kernel_rfl) rfl #[.int .i64 (l1.length : Int), .int .i64 ((l0.length + 1 : Nat) : Int), .func (.func 38) #[] #[.pointer (some ⟨gm,0,none⟩), .pointer (some ⟨gt,0,none⟩), .pointer (some ⟨gl,0,none⟩)]] rfl (by (try simp only [List.map_toArray,List.map_cons,List.map_nil]);(rw [hwr];rfl)) ?_;(refine (impl_choices.calls k gm gt gl (l1.length : Int) (l0.length + 1) l1.length A0 c0 l0 A1 c1 l1 w _ HR0.out HC0.out HR1.out HC1.out GE.out (by have h_:=L3.out;omega) (by have h_:=L7.out;omega) 0 m rfl W6.out BM6.out BT6.out BL6.out A6.out).mono ?_);rintro e w7 ⟨rfl,hb7,hk7,hm7⟩;refine ⟨_,rfl, ?_⟩;have B7:=am_ hb7;have M7:=am_ hm7;clear hcm hfm hct hcl hb7 hk7 hm7;have hcm:=(blk_cell M7.out 0).trans rfl))
 go_ret2
 exact ⟨by rfl,B7.out⟩
theorem impl_MostContainers.calls (k : Nat) (A0 : Option Addr) (c0 : Nat) (l0 : List S54) (A1 : Option Addr) (c1 : Nat) (l1 : List S64) (r1 : Int) (r2 : Bool) (w : World) (hr0 : Kd.C k54 w A0 l0.length l0) (hc0 : l0.length ≤ c0) (hr1 : Kd.C k64 w A1 l1.length l1) (hc1 : l1.length ≤ c1) (h : impl_MostContainers.f k l0 l1 = some (r1,r2)) :
  Calls Try.prog 10 #[.slice A0 l0.length c0, .slice A1 l1.length c1] w fun e w' => e = .returned (.tuple #[.int .i64 r1, .bool r2]) ∧ Below w.heap.size w w':=by
 unfold impl_MostContainers.f at h
 obtain ⟨a,h4,h⟩ := Option.bind_eq_some_iff.mp h
 cases a with
 | false =>
  obtain ⟨rfl,rfl⟩ := Prod.mk.inj (Option.some.inj ((if_neg (by simp)).symm.trans h))
  exact impl_MostContainers.no1 k A0 c0 l0 A1 c1 l1 w hr0 hc0 hr1 hc1 h4
 | true =>
  rw [if_pos rfl] at h;obtain ⟨b,h5,h⟩ := Option.bind_eq_some_iff.mp h
  cases b with
  | false =>
   obtain ⟨rfl,rfl⟩ := Prod.mk.inj (Option.some.inj ((if_neg (by simp)).symm.trans h))
   exact impl_MostContainers.no2 k A0 c0 l0 A1 c1 l1 w hr0 hc0 hr1 hc1 h4 h5
  | true =>
   rw [if_pos rfl] at h
   by_cases h6 : (l1.length : Int) > 7
   ·obtain ⟨rfl,rfl⟩ := Prod.mk.inj (Option.some.inj ((if_pos h6).symm.trans h))
    exact impl_MostContainers.no3 k A0 c0 l0 A1 c1 l1 w hr0 hc0 hr1 hc1 h4 h5 h6
   ·rw [if_neg h6] at h
    by_cases h7 : (l0.length : Int) > 3
    ·obtain ⟨rfl,rfl⟩ := Prod.mk.inj (Option.some.inj ((if_pos h7).symm.trans h))
     exact impl_MostContainers.no4 k A0 c0 l0 A1 c1 l1 w hr0 hc0 hr1 hc1 h4 h5 h6 h7
    ·rw [if_neg h7] at h;obtain ⟨m,h8,h⟩ := Option.bind_eq_some_iff.mp h;obtain ⟨rfl,rfl⟩ := Prod.mk.inj (Option.some.inj h)
     exact impl_MostContainers.yes k A0 c0 l0 A1 c1 l1 m w hr0 hc0 hr1 hc1 h4 h5 h6 h7 h8

/-! ### laws_rBig: function 13 -/
def laws_rBig.f (l0 : List Int) : Option (Bool):=some (decide ((l0.length : Int) > 65536))
set_option maxHeartbeats 8000000 in
set_option maxRecDepth 100000 in
theorem laws_rBig.calls (A0 : Option Addr) (c0 : Nat) (l0 : List Int) (r : Bool) (w : World) (hr0 : Kd.C (Kd.int .u8) w A0 l0.length l0) (hc0 : l0.length ≤ c0) (h : laws_rBig.f l0 = some r) :
  Calls Try.prog 13 #[.slice A0 l0.length c0] w fun e w' => e = .returned (.bool r) ∧ Drawn0 w w':=by
 have HR0:=am_ hr0;have HC0:=am_ hc0;clear hr0 hc0;have H : (some (decide ((l0.length : Int) > 65536))) = some r:=h;clear h;obtain rfl:=Option.some.inj H
 go_enter Try.func13,Try.ntmps13
 go_wp2
 go_ret
 exact ⟨by rfl,by repeat (exact Drawn0.refl _)⟩

end Go.Proofs.Ythbibjfnmljpkaa.PFnTrainLoading
