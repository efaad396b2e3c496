-- The walk of laws.FnGateSlots, printed by a program of this session (wip/gatelaw.py)
import Derived.Test.YtglfjaaaegfdnaaPFnGateSlotsx0
import Derived.Test.YtglfjaaaegfdnaaPFnGateSlotsx1
import Derived.Test.YtglfjaaaegfdnaaPFnGateSlotsx2
import Derived.Test.YtglfjaaaegfdnaaPFnGateSlotsx3
import Derived.Test.YtglfjaaaegfdnaaPFnGateSlotsx5
import Derived.Test.YtglfjaaaegfdnaaPFnGateSlotsx11
import Derived.Test.YtglfjaaaegfdnaaPFnGateSlotsx12
import Derived.Test.YtglfjaaaegfdnaaPFnGateSlotsx16
import Derived.Test.YtglfjaaaegfdnaaPFnGateSlotsx17
import Derived.Test.YtglfjaaaegfdnaaPFnGateSlotsx18
namespace Go.Proofs.Ytglfjaaaegfdnaa.PFnGateSlots
open Go.RowKit Go.Proofs.YtglfjaaaegfdnaaW.PrintWords Go.Proofs.YtglfjaaaegfdnaaW.PrintLast Go.Proofs.YtglfjaaaegfdnaaW.PrintMore
set_option linter.unusedVariables false
set_option linter.unusedSimpArgs false
/-- A gate that can be read. -/
structure Gr_ (w : World) (A0 : Option Addr) (c0 : Nat) (cs : List Int) (A1 : Option Addr) (c1 : Nat) (ss : List (List Int)) : Prop where
 a : Kd.C (Kd.int .i64) w A0 cs.length cs
 b : cs.length ≤ c0
 c : Kd.C (Kd.slice 3 (Kd.int .i64)) w A1 ss.length ss
 d : ss.length ≤ c1
/-- A row that can be read. -/
structure Rw_ {α : Type} (q : Kd α) (w : World) (A : Option Addr) (c : Nat) (xs : List α) : Prop where
 a : Kd.C q w A xs.length xs
 b : xs.length ≤ c
/-- A variable that holds a gate. -/
structure Bx_ (w : World) (g : Nat) (v0 v1 : Value) : Prop where
 h : w.heap[g]? = some (.cells #[v0,v1] 27 (0,0))
section
variable {w W W1 W2 : World} {A0 A1 A : Option Addr} {c0 c1 c b0 b1 g : Nat} {cs xs : List Int} {ss : List (List Int)} {ok ok' : Nat → Prop} {v0 v1 : Value}
theorem Gr_.below (h : Gr_ W A0 c0 cs A1 c1 ss) (hb : Below W.heap.size W W1) : Gr_ W1 A0 c0 cs A1 c1 ss := ⟨Kd.C_below h.a hb,h.b,Kd.C_below h.c hb,h.d⟩
theorem Rw_.below {α : Type} {q : Kd α} {ys : List α} (h : Rw_ q W A c ys) (hb : Below W.heap.size W W1) : Rw_ q W1 A c ys := ⟨Kd.C_below h.a hb,h.b⟩
theorem Bx_.below (h : Bx_ W g v0 v1) (hb : Below W.heap.size W W1) : Bx_ W1 g v0 v1 := ⟨blk_below h.h hb⟩
theorem gr_S (h0 : Kd.R (Kd.int .i64) 3 W b0 ok (.slice A0 cs.length c0) cs) (h1 : Kd.S (Kd.slice 3 (Kd.int .i64)) 24 W b1 ok' (.slice A1 ss.length c1) ss) : Gr_ W A0 c0 cs A1 c1 ss := ⟨(Kd.R_reads' h0).2.2,(Kd.R_reads' h0).2.1,(Kd.S_reads' h1).2.2,(Kd.S_reads' h1).2.1⟩
theorem gr_N (h0 : Kd.R (Kd.int .i64) 3 W b0 ok (.slice A0 cs.length c0) cs) (h1 : Kd.N (Kd.slice 3 (Kd.int .i64)) 24 W b1 ok' (.slice A1 ss.length c1) ss) : Gr_ W A0 c0 cs A1 c1 ss := ⟨(Kd.R_reads' h0).2.2,(Kd.R_reads' h0).2.1,(Kd.N_reads' h1).2.2,(Kd.N_reads' h1).2.1⟩
theorem gr_Q (h0 : Kd.R (Kd.int .i64) 3 W b0 ok (.slice A0 cs.length c0) cs) (h1 : Kd.Q (Kd.slice 3 (Kd.int .i64)) 24 W b1 ok' (.slice A1 ss.length c1) ss) : Gr_ W A0 c0 cs A1 c1 ss := ⟨(Kd.R_reads' h0).2.2,(Kd.R_reads' h0).2.1,(Kd.Q_reads' h1).2.2,(Kd.Q_reads' h1).2.1⟩
theorem rw_R (h0 : Kd.R (Kd.int .i64) 3 W b0 ok (.slice A cs.length c) cs) : Rw_ (Kd.int .i64) W A c cs := ⟨(Kd.R_reads' h0).2.2,(Kd.R_reads' h0).2.1⟩
/-- A new variable and what is stored in it, as one step. -/
theorem put_ (hg : g = W.heap.size) (hx : W1.heap[g]? = some (.cells #[.slice none 0 0,.slice none 0 0] 27 (0,0))) (hb : Below W.heap.size W W1) (hw : W2 = (W1.setCell ⟨g,0,none⟩ v0).setCell ⟨g,1,none⟩ v1) : Below W.heap.size W W2 ∧ Bx_ W2 g v0 v1 := by
 rw [hw]
 have he : W.heap.size ≤ g := by omega
 exact ⟨below_set (below_set hb he) he,⟨blk_put (cs:=#[v0,.slice none 0 0]) (blk_put (cs:=#[.slice none 0 0,.slice none 0 0]) hx 0 v0 rfl) 1 v1 rfl⟩⟩
theorem Bx_.q0 (h : Bx_ W g v0 v1) : W.cell? ⟨g,0,none⟩ = some v0 := (blk_cell h.h 0).trans rfl
theorem Bx_.q1 (h : Bx_ W g v0 v1) : W.cell? ⟨g,1,none⟩ = some v1 := (blk_cell h.h 1).trans rfl
theorem dr_ (W : World) (n : Nat) : Below W.heap.size W (W.drewN n) := pw_below_drewN (Below.refl _ _) n
end
theorem ca_ {P : Program} {f : FuncId} {args : Array Value} {w : World} {Q : Ending → World → Prop} (h : Calls P f args w Q) : Calls P f args w Q := h
/-- Three ways through a scan's test. -/
theorem scn_ {α : Type} {t : Bool} {c : Prop} [Decidable c] {x : Option α} {y r : α} (H : (if t = true then (if c then x else some y) else some y) = some r) : (t = true ∧ decide c = true ∧ x = some r) ∨ (t = true ∧ decide c = false) ∨ t = false := by
 rcases ib_ H with ⟨h, H⟩ | ⟨h, _⟩
 · rcases id_ H with ⟨h2, H⟩ | ⟨h2, _⟩
   · exact .inl ⟨h, h2, H⟩
   · exact .inr (.inl ⟨h, h2⟩)
 · exact .inr (.inr h)
def laws_FnGateSlots.cnt : Nat → Int → Int → Int → List (List Int) → List (List Int) → Option (Int × Int)
 | 0,_,_,_,_,_ => none
 | k + 1,n,m,i,a,b => if i < (a.length : Int) then (if 0 ≤ i then (if i < (b.length : Int) then (laws_FnGateSlots.cnt k (wrap64 (n + ((rd_L2 a i).length : Int))) (wrap64 (m + ((rd_L2 b i).length : Int))) (wrap64 (i + 1)) a b) else none) else none) else some (n,m)
def laws_FnGateSlots.ck (k : Nat) (g1 : List (List Int)) (c0 : List Int) (c1 : List (List Int)) (lo : List Int) (sl : Int) : Option Int := (laws_FnGateSlots.cnt k 0 0 0 g1 c1).bind fun b => ((impl_FreeShare.f k c0 c1).bind fun s => (if s.2.2 = true then (if b.1 = wrap64 (b.2 + (lo.length : Int)) then (if 0 ≤ sl then (if sl < (c1.length : Int) then (if ((rd_L2 c1 sl).length : Int) = 0 then (if (lo.length : Int) > 0 → s.1 ≤ 0 then ((impl_IsValidGate.f k c0 c1).bind fun t => (if t = true then some 0 else none)) else none) else none) else none) else none) else none) else none))
def laws_FnGateSlots.f3 (k : Nat) (l0 : List Int) : Option Bool := (spec_DrawSpreadSlots.f k l0).bind fun b => ((impl_SpreadSlots.f k b.1 b.2).bind fun s => ((spec_SpreadSlots.f k b.1 b.2).bind fun t => (if s.1 = t.1 then (if s.2 = t.2 then (if 0 ≤ s.1 then some true else none) else none) else none)))
def laws_FnGateSlots.ck2 (k : Nat) (c0 : List Int) (c1 : List (List Int)) (tr tq : Int) : Option Int := (impl_TruckSlot.f k c0 c1 tr).bind fun s => (if s.2 = true then (if s.1 = tq then some 0 else none) else none)
def laws_FnGateSlots.f2 (k : Nat) (l0 : List Int) : Option Bool := (spec_DrawMoveTruck.f k l0).bind fun b => ((impl_MoveTruck.f k b.1 b.2.1 b.2.2.1 b.2.2.2).bind fun c => ((spec_MoveTruck.f k b.1 b.2.1 b.2.2.1 b.2.2.2).bind fun d => (if c.2.2 = d.2.2 then ((laws_rGates.f k c.1 c.2.1 d.1 d.2.1).bind fun t => (if t = true then ((if c.2.2 = true then laws_FnGateSlots.ck2 k c.1 c.2.1 b.2.2.1 b.2.2.2 else some 0).bind fun _ => laws_FnGateSlots.f3 k l0) else none)) else none)))
def laws_FnGateSlots.f1 (k : Nat) (l0 : List Int) : Option Bool := (spec_DrawCloseSlot.f k l0).bind fun b => ((impl_CloseSlot.f k b.1 b.2.1 b.2.2).bind fun c => ((spec_CloseSlot.f k b.1 b.2.1 b.2.2).bind fun d => (if c.2.2.2 = d.2.2.2 then ((laws_rInts.f k c.2.2.1 d.2.2.1).bind fun t1 => (if t1 = true then ((laws_rGates.f k c.1 c.2.1 d.1 d.2.1).bind fun t2 => (if t2 = true then ((if c.2.2.2 = true then laws_FnGateSlots.ck k b.2.1 c.1 c.2.1 c.2.2.1 b.2.2 else some 0).bind fun _ => laws_FnGateSlots.f2 k l0) else none)) else none)) else none)))
def laws_FnGateSlots.f (k : Nat) (l0 : List Int) : Option Bool := (laws_rBig.f l0).bind fun t => (if t = true then some true else laws_FnGateSlots.f1 k l0)
set_option maxHeartbeats 8000000 in
set_option maxRecDepth 100000 in
theorem laws_FnGateSlots.calls (k : Nat) (A0 : Option Addr) (c0 : Nat) (l0 : List Int) (r : Bool) (w : World) (hr0 : Kd.C (Kd.int .u8) w A0 l0.length l0) (hc0 : l0.length ≤ c0) (h : laws_FnGateSlots.f k l0 = some r) :
  Calls Try.prog 4 #[.slice A0 l0.length c0] w fun e w' => e = .returned (.bool r) ∧ Below w.heap.size w w' := by
 have hu:=Try.underlying27
 have HP : Rw_ (Kd.int .u8) w A0 c0 l0:=⟨hr0,hc0⟩
 clear hr0 hc0
 have HB:=Below.refl w.heap.size w
 have H:=bn_ h
 clear h
 obtain ⟨t,E0,H⟩ := H
 replace H:=ib_ H
 obtain ⟨rfl,H⟩|⟨rfl,H⟩ := H
 ·obtain rfl:=Option.some.inj H
  go_enter Try.func4,Try.ntmps4
  go_wp2_with (first | ((with_reducible refine gate_callee (f:=6) rfl ?_);refine goesL_ (some 32) rfl rfl Try.func6 (by kernel_rfl) rfl #[.slice A0 l0.length c0] rfl (by (try simp only [List.map_toArray,List.map_cons,List.map_nil]);first | done | rfl) ?_;refine (laws_rBig.calls _ _ l0 true _ HP.a HP.b E0.out).mono ?_;rintro e w1 ⟨rfl,hn_⟩;obtain ⟨nd,rfl⟩ := hn_;have hb:=dr_ w nd;generalize World.drewN w nd = w1 at hb ⊢;refine ⟨_,rfl, ?_⟩;replace HB:=below_step HB hb;clear hb))
  go_ret
  exact ⟨by rfl,HB⟩
 unfold laws_FnGateSlots.f1 at H
 replace H:=bn_ H
 obtain ⟨⟨g0,g1,sl⟩,E1,H⟩ := H
 dsimp only at H
 replace H:=bn_ H
 obtain ⟨⟨d0,d1,lo,ok⟩,E2,H⟩ := H
 dsimp only at H
 replace H:=bn_ H
 obtain ⟨⟨e0,e1,lp,ok'⟩,E3,H⟩ := H
 dsimp only at H
 replace H:=ip_ H
 obtain ⟨hk,H⟩ := H
 subst hk
 replace H:=bn_ H
 obtain ⟨t1,E4,H⟩ := H
 replace H:=ip_ H
 obtain ⟨rfl,H⟩ := H
 replace H:=bn_ H
 obtain ⟨t2,E5,H⟩ := H
 replace H:=ip_ H
 obtain ⟨rfl,H⟩ := H
 replace H:=bn_ H
 obtain ⟨_,E6,H⟩ := H
 have E7:=am_ H
 clear H
 have hne : (ok != ok) = false:=by simp
 go_enter Try.func4,Try.ntmps4
 go_upto_if 67 with (first | ((with_reducible refine gate_callee (f:=6) rfl ?_);refine goesL_ (some 32) rfl rfl Try.func6 (by kernel_rfl) rfl #[.slice A0 l0.length c0] rfl (by (try simp only [List.map_toArray,List.map_cons,List.map_nil]);first | done | rfl) ?_;refine (laws_rBig.calls _ _ l0 false _ HP.a HP.b E0.out).mono ?_;rintro e w1 ⟨rfl,hn_⟩;obtain ⟨nd,rfl⟩ := hn_;have hb:=dr_ w nd;generalize World.drewN w nd = w1 at hb ⊢;refine ⟨_,rfl, ?_⟩;replace HB:=below_step HB hb;replace HP:=HP.below hb;clear hb) | ((with_reducible refine gate_callee (f:=22) rfl ?_);refine goesL_ (some 35) rfl rfl Try.func22 (by kernel_rfl) rfl #[.slice A0 l0.length c0] rfl (by (try simp only [List.map_toArray,List.map_cons,List.map_nil]);first | done | rfl) ?_;refine (spec_DrawCloseSlot.calls k _ _ l0 g0 g1 sl _ HP.a HP.b E1.out).mono ?_;rintro e w2 ⟨v0_,v1_,rfl,ho0,ho1,hb⟩;refine ⟨_,rfl, ?_⟩;replace HB:=below_step HB hb;replace HP:=HP.below hb;clear hb;obtain ⟨A3,c4,rfl⟩ := Kd.R_slice ho0;obtain ⟨A5,c6,rfl,_⟩ := Kd.Q_slice ho1;have G7:=gr_Q ho0 ho1;clear ho0 ho1) | ((with_reducible refine gate_dst (N:=3) rfl ?_);refine box_event ?hg (N:=3) ?hd (cs:=#[.slice none 0 0, .slice none 0 0]) (t:=27) ?hr ?_;(case hd => rfl);(case hg => rfl);(case hr => (go_simp;done));intro gb10 hg w8 hx hb;have hG:=am_ hg;have hX:=am_ hx;have hB:=am_ hb;have hz0:=c2_0 hx;have hz1:=c2_1 hx;have hf0:=blk_frozen hx 0;have hf1:=blk_frozen hx 1;clear hg hx hb) | ((with_reducible refine gate_store (t:=27) (p:=3) rfl ?_);refine store_event (t:=27) (p:=3) (v:=?vo_w9) (w1:=((w8.setCell ⟨gb10,0,none⟩ (.slice A3 g0.length c4)).setCell ⟨gb10,1,none⟩ (.slice A5 g1.length c6))) ?hg ?ho ?hn ?hr ?_;(case ho => rfl);(case hg => rfl);(case hn => rfl);(case hr => (go_simp;done));intro w9 hw;clear hz0 hz1 hf0 hf1;obtain ⟨hb2,B11⟩ := put_ hG.out hX.out hB.out hw;clear hG hX hB hw;replace HB:=below_step HB hb2;replace HP:=HP.below hb2;replace G7:=G7.below hb2;clear hb2;have q12:=B11.q0;have q13:=B11.q1) | ((with_reducible refine gate_callee (f:=23) rfl ?_);refine goesL_ (some 41) rfl rfl Try.func23 (by kernel_rfl) rfl #[.agg #[.slice A3 g0.length c4, .slice A5 g1.length c6], .int .i64 sl] rfl (by (try simp only [List.map_toArray,List.map_cons,List.map_nil]);first | done | rfl) ?_;refine (impl_CloseSlot.calls k _ _ g0 _ _ g1 sl d0 d1 lo ok _ G7.a G7.b G7.c G7.d E2.out).mono ?_;rintro e w14 ⟨v0_,v1_,v2_,rfl,ho0,ho1,ho2,hb⟩;refine ⟨_,rfl, ?_⟩;replace HB:=below_step HB hb;replace HP:=HP.below hb;replace G7:=G7.below hb;replace B11:=B11.below hb;clear hb;obtain ⟨A15,c16,rfl⟩ := Kd.R_slice ho0;obtain ⟨A17,c18,rfl⟩ := Kd.S_slice ho1;have G19:=gr_S ho0 ho1;clear ho0 ho1;obtain ⟨A20,c21,rfl⟩ := Kd.R_slice ho2;have R22:=rw_R ho2;clear ho2;clear q12 q13) | ((with_reducible refine gate_dst (N:=5) rfl ?_);refine box_event ?hg (N:=5) ?hd (cs:=#[.slice none 0 0, .slice none 0 0]) (t:=27) ?hr ?_;(case hd => rfl);(case hg => rfl);(case hr => (go_simp;done));intro gb25 hg w23 hx hb;have hG:=am_ hg;have hX:=am_ hx;have hB:=am_ hb;have hz0:=c2_0 hx;have hz1:=c2_1 hx;have hf0:=blk_frozen hx 0;have hf1:=blk_frozen hx 1;clear hg hx hb) | ((with_reducible refine gate_store (t:=27) (p:=5) rfl ?_);refine store_event (t:=27) (p:=5) (v:=?vo_w24) (w1:=((w23.setCell ⟨gb25,0,none⟩ (.slice A15 d0.length c16)).setCell ⟨gb25,1,none⟩ (.slice A17 d1.length c18))) ?hg ?ho ?hn ?hr ?_;(case ho => rfl);(case hg => rfl);(case hn => rfl);(case hr => (go_simp;done));intro w24 hw;clear hz0 hz1 hf0 hf1;obtain ⟨hb2,B26⟩ := put_ hG.out hX.out hB.out hw;clear hG hX hB hw;replace HB:=below_step HB hb2;replace HP:=HP.below hb2;replace G7:=G7.below hb2;replace B11:=B11.below hb2;replace G19:=G19.below hb2;replace R22:=R22.below hb2;clear hb2;have q27:=B11.q0;have q28:=B11.q1) | ((with_reducible refine gate_callee (f:=24) rfl ?_);refine goesL_ (some 48) rfl rfl Try.func24 (by kernel_rfl) rfl #[.agg #[.slice A3 g0.length c4, .slice A5 g1.length c6], .int .i64 sl] rfl (by (try simp only [List.map_toArray,List.map_cons,List.map_nil]);first | done | rfl) ?_;refine (spec_CloseSlot.calls k _ _ g0 _ _ g1 sl e0 e1 lp ok _ G7.a G7.b G7.c G7.d E3.out).mono ?_;rintro e w29 ⟨v0_,v1_,v2_,rfl,ho0,ho1,ho2,hb⟩;refine ⟨_,rfl, ?_⟩;replace HB:=below_step HB hb;replace HP:=HP.below hb;replace G7:=G7.below hb;replace B11:=B11.below hb;replace G19:=G19.below hb;replace R22:=R22.below hb;replace B26:=B26.below hb;clear hb;obtain ⟨A30,c31,rfl⟩ := Kd.R_slice ho0;obtain ⟨A32,c33,rfl⟩ := Kd.N_slice ho1;have G34:=gr_N ho0 ho1;clear ho0 ho1;obtain ⟨A35,c36,rfl⟩ := Kd.R_slice ho2;have R37:=rw_R ho2;clear ho2;clear q27 q28) | ((with_reducible refine gate_dst (N:=8) rfl ?_);refine box_event ?hg (N:=8) ?hd (cs:=#[.slice none 0 0, .slice none 0 0]) (t:=27) ?hr ?_;(case hd => rfl);(case hg => rfl);(case hr => (go_simp;done));intro gb40 hg w38 hx hb;have hG:=am_ hg;have hX:=am_ hx;have hB:=am_ hb;have hz0:=c2_0 hx;have hz1:=c2_1 hx;have hf0:=blk_frozen hx 0;have hf1:=blk_frozen hx 1;clear hg hx hb) | ((with_reducible refine gate_store (t:=27) (p:=8) rfl ?_);refine store_event (t:=27) (p:=8) (v:=?vo_w39) (w1:=((w38.setCell ⟨gb40,0,none⟩ (.slice A30 e0.length c31)).setCell ⟨gb40,1,none⟩ (.slice A32 e1.length c33))) ?hg ?ho ?hn ?hr ?_;(case ho => rfl);(case hg => rfl);(case hn => rfl);(case hr => (go_simp;done));intro w39 hw;clear hz0 hz1 hf0 hf1;obtain ⟨hb2,B41⟩ := put_ hG.out hX.out hB.out hw;clear hG hX hB hw;replace HB:=below_step HB hb2;replace HP:=HP.below hb2;replace G7:=G7.below hb2;replace B11:=B11.below hb2;replace G19:=G19.below hb2;replace R22:=R22.below hb2;replace B26:=B26.below hb2;replace G34:=G34.below hb2;replace R37:=R37.below hb2;clear hb2) | (go_at_call 25;(with_reducible refine ca_ (args:=#[.slice A20 lo.length c21, .slice A35 lp.length c36]) ?_);refine (laws_rInts.calls k _ _ lo _ _ lp true _ R22.a R22.b R37.a R37.b E4.out).mono ?_;rintro e w42 ⟨rfl,hn_⟩;obtain ⟨nd,rfl⟩ := hn_;have hb:=dr_ w39 nd;generalize World.drewN w39 nd = w42 at hb ⊢;replace HB:=below_step HB hb;replace HP:=HP.below hb;replace G7:=G7.below hb;replace B11:=B11.below hb;replace G19:=G19.below hb;replace R22:=R22.below hb;replace B26:=B26.below hb;replace G34:=G34.below hb;replace R37:=R37.below hb;replace B41:=B41.below hb;clear hb;have q43:=B26.q0;have q44:=B26.q1;have q45:=B41.q0;have q46:=B41.q1) | (go_at_call 10;(with_reducible refine ca_ (args:=#[.agg #[.slice A15 d0.length c16, .slice A17 d1.length c18], .agg #[.slice A30 e0.length c31, .slice A32 e1.length c33]]) ?_);refine (laws_rGates.calls k _ _ d0 _ _ d1 _ _ e0 _ _ e1 true _ G19.a G19.b G19.c G19.d G34.a G34.b G34.c G34.d E5.out).mono ?_;rintro e w47 ⟨rfl,hb⟩;replace HB:=below_step HB hb;replace HP:=HP.below hb;replace G7:=G7.below hb;replace B11:=B11.below hb;replace G19:=G19.below hb;replace R22:=R22.below hb;replace B26:=B26.below hb;replace G34:=G34.below hb;replace R37:=R37.below hb;replace B41:=B41.below hb;clear hb;clear q43 q44 q45 q46))
 clear G34 R37 B41
 go_cut [] (fun wc => Below w.heap.size w wc ∧ Rw_ (Kd.int .u8) wc A0 c0 l0)
 case first =>
  have H:=E6.out
  clear E6 E7
  replace H:=ic_ H
  obtain ⟨hk,H⟩|⟨hk,H⟩ := H
  ·subst hk
   unfold laws_FnGateSlots.ck at H
   replace H:=bn_ H
   obtain ⟨⟨n,m⟩,E8,H⟩ := H
   dsimp only at H
   replace H:=bn_ H
   obtain ⟨⟨fr,al,fi⟩,E9,H⟩ := H
   dsimp only at H
   replace H:=ip_ H
   obtain ⟨rfl,H⟩ := H
   replace H:=ip_ H
   obtain ⟨h1,H⟩ := H
   replace H:=ip_ H
   obtain ⟨h2,H⟩ := H
   replace H:=ip_ H
   obtain ⟨h3,H⟩ := H
   replace H:=ip_ H
   obtain ⟨h4,H⟩ := H
   replace H:=ip_ H
   obtain ⟨h5,H⟩ := H
   replace H:=bn_ H
   obtain ⟨t,Ea,H⟩ := H
   replace H:=ip_ H
   obtain ⟨rfl,H⟩ := H
   clear H
   have F1:=am_ h1
   have F2:=am_ h2
   have F3:=am_ h3
   have F4:=am_ h4
   have F5:=am_ h5
   clear h1 h2 h3 h4 h5
   go_wp2
   go_loopg [11,12,13] k (fun kq v11 v12 v13 w' => ∃ x11 x12 x13 : Int, v11 = .int .i64 x11 ∧ v12 = .int .i64 x12 ∧ v13 = .int .i64 x13 ∧ Aside0 (laws_FnGateSlots.cnt kq x11 x12 x13 g1 d1 = some (n,m)) ∧ Below w.heap.size w w' ∧ Rw_ (Kd.int .u8) w' A0 c0 l0 ∧ Gr_ w' A3 c4 g0 A5 c6 g1 ∧ Gr_ w' A15 c16 d0 A17 c18 d1 ∧ Bx_ w' gb10 (.slice A3 g0.length c4) (.slice A5 g1.length c6) ∧ Bx_ w' gb25 (.slice A15 d0.length c16) (.slice A17 d1.length c18))
   case atStart => exact ⟨0,0,0,rfl,rfl,rfl,E8,HB,HP,G7,G19,B11,B26⟩
   case round =>
   clear E8 HB HP G7 G19 B11 B26 R22
   obtain ⟨x11,x12,x13,rfl,rfl,rfl,E8,HB,HP,G7,G19,B11,B26⟩ := hrel
   cases gk with
   | zero => exact absurd E8.out (by simp [laws_FnGateSlots.cnt])
   | succ k2 =>
   have H:=E8.out
   clear E8
   simp only [laws_FnGateSlots.cnt] at H
   replace H:=id_ H
   obtain ⟨hi,H⟩|⟨hi,H⟩ := H
   ·replace H:=iq_ H
    obtain ⟨hj,H⟩ := H
    replace H:=iq_ H
    obtain ⟨hl,H⟩ := H
    have E8:=am_ H
    clear H
    have p1:=of_decide_eq_true hj
    have p2:=of_decide_eq_true hi
    have p3:=of_decide_eq_true hl
    obtain ⟨ad1,B1_,b1_,rfl,hx1,_,_⟩ := at_L2 G7.c x13 p1 p2
    obtain ⟨ad2,B2_,b2_,rfl,hx2,_,_⟩ := at_L2 G19.c x13 p1 p3
    replace p1:=eq_true p1
    replace p2:=eq_true p2
    replace p3:=eq_true p3
    have q48:=B11.q0
    have q49:=B11.q1
    have q50:=B26.q0
    have q51:=B26.q1
    go_wp2
    go_roundg k2
    case measure => omega
    case rel => exact ⟨_,_,_,rfl,rfl,rfl,E8,HB,HP,G7,G19,B11,B26⟩
   simp only [Option.some.injEq,Prod.mk.injEq] at H
   obtain ⟨rfl,rfl⟩ := H
   have za_:=beq_iff_eq.mpr F1.out
   have ya_:=bne_eq_false_iff_eq.mpr F1.out
   have zb_:=beq_iff_eq.mpr F4.out
   have yb_:=bne_eq_false_iff_eq.mpr F4.out
   have p1:=F2.out
   have p2:=F3.out
   obtain ⟨ad1,B1_,b1_,rfl,hx1,_,_⟩ := at_L2 G19.c sl p1 p2
   have hp1:=decide_eq_true p1
   have hp2:=decide_eq_true p2
   replace p1:=eq_true p1
   replace p2:=eq_true p2
   have q52:=B11.q0
   have q53:=B11.q1
   have q54:=B26.q0
   have q55:=B26.q1
   by_cases hl : 0 < (lo.length : Int)
   ·have hm1:=decide_eq_true hl
    have hm2 : decide (0 < lo.length) = true:=decide_eq_true (by omega)
    have hm3 : decide (0 < fr) = false:=decide_eq_false (by have:=F5.out hl;omega)
    clear hl
    go_wp2_with (first | ((with_reducible refine gate_callee (f:=14) rfl ?_);refine goesL_ (some 93) rfl rfl Try.func14 (by kernel_rfl) rfl #[.agg #[.slice A15 d0.length c16, .slice (some ad1) d1.length c18]] rfl (by (try simp only [List.map_toArray,List.map_cons,List.map_nil]);first | done | rfl) ?_;refine (impl_FreeShare.calls k _ _ d0 _ _ d1 fr al true _ G19.a G19.b G19.c G19.d E9.out).mono ?_;rintro e w56 ⟨rfl,hb⟩;refine ⟨_,rfl, ?_⟩;replace HB:=below_step HB hb;replace HP:=HP.below hb;replace G19:=G19.below hb;replace B26:=B26.below hb;clear hb;clear q52 q53 q54 q55;have q57:=B26.q0;have q58:=B26.q1;obtain ⟨_,B3_,b3_,e_,hx2,_,_⟩ := at_L2 G19.c sl F2.out F3.out;cases e_;clear hx1) | (go_at_call 15;(with_reducible refine ca_ (args:=#[.agg #[.slice A15 d0.length c16, .slice (some ad1) d1.length c18]]) ?_);refine (impl_IsValidGate.calls k _ _ d0 _ _ d1 true _ G19.a G19.b G19.c G19.d Ea.out).mono ?_;rintro e w59 ⟨rfl,hb⟩;replace HB:=below_step HB hb;replace HP:=HP.below hb;replace G19:=G19.below hb;replace B26:=B26.below hb;clear hb;clear q57 q58))
    go_meet
    case rel => exact ⟨HB,HP⟩
   have hm1:=decide_eq_false hl
   have hm2 : decide (0 < lo.length) = false:=decide_eq_false (by omega)
   clear hl
   go_wp2_with (first | ((with_reducible refine gate_callee (f:=14) rfl ?_);refine goesL_ (some 93) rfl rfl Try.func14 (by kernel_rfl) rfl #[.agg #[.slice A15 d0.length c16, .slice (some ad1) d1.length c18]] rfl (by (try simp only [List.map_toArray,List.map_cons,List.map_nil]);first | done | rfl) ?_;refine (impl_FreeShare.calls k _ _ d0 _ _ d1 fr al true _ G19.a G19.b G19.c G19.d E9.out).mono ?_;rintro e w56 ⟨rfl,hb⟩;refine ⟨_,rfl, ?_⟩;replace HB:=below_step HB hb;replace HP:=HP.below hb;replace G19:=G19.below hb;replace B26:=B26.below hb;clear hb;clear q52 q53 q54 q55;have q57:=B26.q0;have q58:=B26.q1;obtain ⟨_,B3_,b3_,e_,hx2,_,_⟩ := at_L2 G19.c sl F2.out F3.out;cases e_;clear hx1) | (go_at_call 15;(with_reducible refine ca_ (args:=#[.agg #[.slice A15 d0.length c16, .slice (some ad1) d1.length c18]]) ?_);refine (impl_IsValidGate.calls k _ _ d0 _ _ d1 true _ G19.a G19.b G19.c G19.d Ea.out).mono ?_;rintro e w59 ⟨rfl,hb⟩;replace HB:=below_step HB hb;replace HP:=HP.below hb;replace G19:=G19.below hb;replace B26:=B26.below hb;clear hb;clear q57 q58))
   go_meet
   case rel => exact ⟨HB,HP⟩
  replace hk:=Bool.eq_false_iff.mpr hk
  subst hk
  go_wp2
  go_meet
  case rel => exact ⟨HB,HP⟩
 case rest =>
 clear E0 E1 E2 E3 E4 E5 E6 HB HP G7 G19 B11 B26 R22
 obtain ⟨HB,HP⟩ := hcut
 have H:=E7.out
 clear E7
 unfold laws_FnGateSlots.f2 at H
 replace H:=bn_ H
 obtain ⟨⟨h0,h1,tr,tq⟩,E1,H⟩ := H
 dsimp only at H
 replace H:=bn_ H
 obtain ⟨⟨m0,m1,fi⟩,E2,H⟩ := H
 dsimp only at H
 replace H:=bn_ H
 obtain ⟨⟨n0,n1,fj⟩,E3,H⟩ := H
 dsimp only at H
 replace H:=ip_ H
 obtain ⟨hk,H⟩ := H
 subst hk
 replace H:=bn_ H
 obtain ⟨t2,E5,H⟩ := H
 replace H:=ip_ H
 obtain ⟨rfl,H⟩ := H
 replace H:=bn_ H
 obtain ⟨_,E6,H⟩ := H
 have E7:=am_ H
 clear H hne
 have hne : (fi != fi) = false:=by simp
 go_upto_if 159 with (first | ((with_reducible refine gate_callee (f:=26) rfl ?_);refine goesL_ (some 132) rfl rfl Try.func26 (by kernel_rfl) rfl #[.slice A0 l0.length c0] rfl (by (try simp only [List.map_toArray,List.map_cons,List.map_nil]);first | done | rfl) ?_;refine (spec_DrawMoveTruck.calls k _ _ l0 h0 h1 tr tq _ HP.a HP.b E1.out).mono ?_;rintro e w101 ⟨v0_,v1_,rfl,ho0,ho1,hb⟩;refine ⟨_,rfl, ?_⟩;replace HB:=below_step HB hb;replace HP:=HP.below hb;clear hb;obtain ⟨A102,c103,rfl⟩ := Kd.R_slice ho0;obtain ⟨A104,c105,rfl,_⟩ := Kd.Q_slice ho1;have G106:=gr_Q ho0 ho1;clear ho0 ho1) | ((with_reducible refine gate_dst (N:=17) rfl ?_);refine box_event ?hg (N:=17) ?hd (cs:=#[.slice none 0 0, .slice none 0 0]) (t:=27) ?hr ?_;(case hd => rfl);(case hg => rfl);(case hr => (go_simp;done));intro gb109 hg w107 hx hb;have hG:=am_ hg;have hX:=am_ hx;have hB:=am_ hb;have hz0:=c2_0 hx;have hz1:=c2_1 hx;have hf0:=blk_frozen hx 0;have hf1:=blk_frozen hx 1;clear hg hx hb) | ((with_reducible refine gate_store (t:=27) (p:=17) rfl ?_);refine store_event (t:=27) (p:=17) (v:=?vo_w108) (w1:=((w107.setCell ⟨gb109,0,none⟩ (.slice A102 h0.length c103)).setCell ⟨gb109,1,none⟩ (.slice A104 h1.length c105))) ?hg ?ho ?hn ?hr ?_;(case ho => rfl);(case hg => rfl);(case hn => rfl);(case hr => (go_simp;done));intro w108 hw;clear hz0 hz1 hf0 hf1;obtain ⟨hb2,B110⟩ := put_ hG.out hX.out hB.out hw;clear hG hX hB hw;replace HB:=below_step HB hb2;replace HP:=HP.below hb2;replace G106:=G106.below hb2;clear hb2;have q111:=B110.q0;have q112:=B110.q1) | ((with_reducible refine gate_callee (f:=13) rfl ?_);refine goesL_ (some 140) rfl rfl Try.func13 (by kernel_rfl) rfl #[.agg #[.slice A102 h0.length c103, .slice A104 h1.length c105], .int .i64 tr, .int .i64 tq] rfl (by (try simp only [List.map_toArray,List.map_cons,List.map_nil]);first | done | rfl) ?_;refine (impl_MoveTruck.calls k _ _ h0 _ _ h1 tr tq m0 m1 fi _ G106.a G106.b G106.c G106.d E2.out).mono ?_;rintro e w113 ⟨v0_,v1_,rfl,ho0,ho1,hb⟩;refine ⟨_,rfl, ?_⟩;replace HB:=below_step HB hb;replace HP:=HP.below hb;replace G106:=G106.below hb;replace B110:=B110.below hb;clear hb;obtain ⟨A114,c115,rfl⟩ := Kd.R_slice ho0;obtain ⟨A116,c117,rfl⟩ := Kd.S_slice ho1;have G118:=gr_S ho0 ho1;clear ho0 ho1;clear q111 q112) | ((with_reducible refine gate_dst (N:=20) rfl ?_);refine box_event ?hg (N:=20) ?hd (cs:=#[.slice none 0 0, .slice none 0 0]) (t:=27) ?hr ?_;(case hd => rfl);(case hg => rfl);(case hr => (go_simp;done));intro gb121 hg w119 hx hb;have hG:=am_ hg;have hX:=am_ hx;have hB:=am_ hb;have hz0:=c2_0 hx;have hz1:=c2_1 hx;have hf0:=blk_frozen hx 0;have hf1:=blk_frozen hx 1;clear hg hx hb) | ((with_reducible refine gate_store (t:=27) (p:=20) rfl ?_);refine store_event (t:=27) (p:=20) (v:=?vo_w120) (w1:=((w119.setCell ⟨gb121,0,none⟩ (.slice A114 m0.length c115)).setCell ⟨gb121,1,none⟩ (.slice A116 m1.length c117))) ?hg ?ho ?hn ?hr ?_;(case ho => rfl);(case hg => rfl);(case hn => rfl);(case hr => (go_simp;done));intro w120 hw;clear hz0 hz1 hf0 hf1;obtain ⟨hb2,B122⟩ := put_ hG.out hX.out hB.out hw;clear hG hX hB hw;replace HB:=below_step HB hb2;replace HP:=HP.below hb2;replace G106:=G106.below hb2;replace B110:=B110.below hb2;replace G118:=G118.below hb2;clear hb2;have q123:=B110.q0;have q124:=B110.q1) | ((with_reducible refine gate_callee (f:=27) rfl ?_);refine goesL_ (some 147) rfl rfl Try.func27 (by kernel_rfl) rfl #[.agg #[.slice A102 h0.length c103, .slice A104 h1.length c105], .int .i64 tr, .int .i64 tq] rfl (by (try simp only [List.map_toArray,List.map_cons,List.map_nil]);first | done | rfl) ?_;refine (spec_MoveTruck.calls k _ _ h0 _ _ h1 tr tq n0 n1 fi _ G106.a G106.b G106.c G106.d E3.out).mono ?_;rintro e w125 ⟨v0_,v1_,rfl,ho0,ho1,hb⟩;refine ⟨_,rfl, ?_⟩;replace HB:=below_step HB hb;replace HP:=HP.below hb;replace G106:=G106.below hb;replace B110:=B110.below hb;replace G118:=G118.below hb;replace B122:=B122.below hb;clear hb;obtain ⟨A126,c127,rfl⟩ := Kd.R_slice ho0;obtain ⟨A128,c129,rfl⟩ := Kd.S_slice ho1;have G130:=gr_S ho0 ho1;clear ho0 ho1;clear q123 q124) | ((with_reducible refine gate_dst (N:=22) rfl ?_);refine box_event ?hg (N:=22) ?hd (cs:=#[.slice none 0 0, .slice none 0 0]) (t:=27) ?hr ?_;(case hd => rfl);(case hg => rfl);(case hr => (go_simp;done));intro gb133 hg w131 hx hb;have hG:=am_ hg;have hX:=am_ hx;have hB:=am_ hb;have hz0:=c2_0 hx;have hz1:=c2_1 hx;have hf0:=blk_frozen hx 0;have hf1:=blk_frozen hx 1;clear hg hx hb) | ((with_reducible refine gate_store (t:=27) (p:=22) rfl ?_);refine store_event (t:=27) (p:=22) (v:=?vo_w132) (w1:=((w131.setCell ⟨gb133,0,none⟩ (.slice A126 n0.length c127)).setCell ⟨gb133,1,none⟩ (.slice A128 n1.length c129))) ?hg ?ho ?hn ?hr ?_;(case ho => rfl);(case hg => rfl);(case hn => rfl);(case hr => (go_simp;done));intro w132 hw;clear hz0 hz1 hf0 hf1;obtain ⟨hb2,B134⟩ := put_ hG.out hX.out hB.out hw;clear hG hX hB hw;replace HB:=below_step HB hb2;replace HP:=HP.below hb2;replace G106:=G106.below hb2;replace B110:=B110.below hb2;replace G118:=G118.below hb2;replace B122:=B122.below hb2;replace G130:=G130.below hb2;clear hb2;have q135:=B122.q0;have q136:=B122.q1;have q137:=B134.q0;have q138:=B134.q1) | (go_at_call 10;(with_reducible refine ca_ (args:=#[.agg #[.slice A114 m0.length c115, .slice A116 m1.length c117], .agg #[.slice A126 n0.length c127, .slice A128 n1.length c129]]) ?_);refine (laws_rGates.calls k _ _ m0 _ _ m1 _ _ n0 _ _ n1 true _ G118.a G118.b G118.c G118.d G130.a G130.b G130.c G130.d E5.out).mono ?_;rintro e w139 ⟨rfl,hb⟩;replace HB:=below_step HB hb;replace HP:=HP.below hb;replace G106:=G106.below hb;replace B110:=B110.below hb;replace G118:=G118.below hb;replace B122:=B122.below hb;replace G130:=G130.below hb;replace B134:=B134.below hb;clear hb;clear q135 q136 q137 q138))
 clear G130 B134 G106 B110
 go_cut [] (fun wc => Below w.heap.size w wc ∧ Rw_ (Kd.int .u8) wc A0 c0 l0)
 case first =>
  have H:=E6.out
  clear E6 E7
  replace H:=ic_ H
  obtain ⟨hk,H⟩|⟨hk,H⟩ := H
  ·subst hk
   unfold laws_FnGateSlots.ck2 at H
   replace H:=bn_ H
   obtain ⟨⟨at_,tl⟩,E8,H⟩ := H
   dsimp only at H
   replace H:=ip_ H
   obtain ⟨rfl,H⟩ := H
   replace H:=ip_ H
   obtain ⟨h1_,H⟩ := H
   clear H
   have za_:=beq_iff_eq.mpr h1_
   have ya_:=bne_eq_false_iff_eq.mpr h1_
   clear h1_
   have q140:=B122.q0
   have q141:=B122.q1
   go_wp2_with (first | ((with_reducible refine gate_callee (f:=11) rfl ?_);refine goesL_ (some 163) rfl rfl Try.func11 (by kernel_rfl) rfl #[.agg #[.slice A114 m0.length c115, .slice A116 m1.length c117], .int .i64 tr] rfl (by (try simp only [List.map_toArray,List.map_cons,List.map_nil]);first | done | rfl) ?_;refine (impl_TruckSlot.calls k _ _ m0 _ _ m1 tr at_ true _ G118.a G118.b G118.c G118.d E8.out).mono ?_;rintro e w142 ⟨rfl,hb⟩;refine ⟨_,rfl, ?_⟩;replace HB:=below_step HB hb;replace HP:=HP.below hb;replace G118:=G118.below hb;replace B122:=B122.below hb;clear hb;clear q140 q141))
   go_meet
   case rel => exact ⟨HB,HP⟩
  replace hk:=Bool.eq_false_iff.mpr hk
  subst hk
  go_wp2
  go_meet
  case rel => exact ⟨HB,HP⟩
 case rest =>
 clear E1 E2 E3 E5 E6 HB HP G118 B122
 obtain ⟨HB,HP⟩ := hcut
 have H:=E7.out
 clear E7
 unfold laws_FnGateSlots.f3 at H
 replace H:=bn_ H
 obtain ⟨⟨x0,x1⟩,E1,H⟩ := H
 dsimp only at H
 replace H:=bn_ H
 obtain ⟨⟨s,u⟩,E2,H⟩ := H
 dsimp only at H
 replace H:=bn_ H
 obtain ⟨⟨s2,u2⟩,E3,H⟩ := H
 dsimp only at H
 replace H:=ip_ H
 obtain ⟨h1_,H⟩ := H
 replace H:=ip_ H
 obtain ⟨h2_,H⟩ := H
 replace H:=ip_ H
 obtain ⟨h3_,H⟩ := H
 obtain rfl:=Option.some.inj H
 have za_:=beq_iff_eq.mpr h1_
 have ya_:=bne_eq_false_iff_eq.mpr h1_
 have zb_:=beq_iff_eq.mpr h2_
 have yb_:=bne_eq_false_iff_eq.mpr h2_
 have hd_:=decide_eq_true h3_
 have he_ : decide (s ≥ 0) = true:=hd_
 clear h1_ h2_
 go_wp2_with (first | ((with_reducible refine gate_callee (f:=28) rfl ?_);refine goesL_ (some 174) rfl rfl Try.func28 (by kernel_rfl) rfl #[.slice A0 l0.length c0] rfl (by (try simp only [List.map_toArray,List.map_cons,List.map_nil]);first | done | rfl) ?_;refine (spec_DrawSpreadSlots.calls k _ _ l0 x0 x1 _ HP.a HP.b E1.out).mono ?_;rintro e w201 ⟨v0_,v1_,rfl,ho0,ho1,hb⟩;refine ⟨_,rfl, ?_⟩;replace HB:=below_step HB hb;replace HP:=HP.below hb;clear hb;obtain ⟨A202,c203,rfl⟩ := Kd.R_slice ho0;obtain ⟨A204,c205,rfl,_⟩ := Kd.Q_slice ho1;have G206:=gr_Q ho0 ho1;clear ho0 ho1) | ((with_reducible refine gate_dst (N:=26) rfl ?_);refine box_event ?hg (N:=26) ?hd (cs:=#[.slice none 0 0, .slice none 0 0]) (t:=27) ?hr ?_;(case hd => rfl);(case hg => rfl);(case hr => (go_simp;done));intro gb209 hg w207 hx hb;have hG:=am_ hg;have hX:=am_ hx;have hB:=am_ hb;have hz0:=c2_0 hx;have hz1:=c2_1 hx;have hf0:=blk_frozen hx 0;have hf1:=blk_frozen hx 1;clear hg hx hb) | ((with_reducible refine gate_store (t:=27) (p:=26) rfl ?_);refine store_event (t:=27) (p:=26) (v:=?vo_w208) (w1:=((w207.setCell ⟨gb209,0,none⟩ (.slice A202 x0.length c203)).setCell ⟨gb209,1,none⟩ (.slice A204 x1.length c205))) ?hg ?ho ?hn ?hr ?_;(case ho => rfl);(case hg => rfl);(case hn => rfl);(case hr => (go_simp;done));intro w208 hw;clear hz0 hz1 hf0 hf1;obtain ⟨hb2,B210⟩ := put_ hG.out hX.out hB.out hw;clear hG hX hB hw;replace HB:=below_step HB hb2;replace HP:=HP.below hb2;replace G206:=G206.below hb2;clear hb2;have q211:=B210.q0;have q212:=B210.q1) | ((with_reducible refine gate_callee (f:=29) rfl ?_);refine goesL_ (some 177) rfl rfl Try.func29 (by kernel_rfl) rfl #[.agg #[.slice A202 x0.length c203, .slice A204 x1.length c205]] rfl (by (try simp only [List.map_toArray,List.map_cons,List.map_nil]);first | done | rfl) ?_;refine (impl_SpreadSlots.calls k _ _ x0 _ _ x1 s u _ G206.a G206.b G206.c G206.d E2.out).mono ?_;rintro e w213 ⟨rfl,hb⟩;refine ⟨_,rfl, ?_⟩;replace HB:=below_step HB hb;replace HP:=HP.below hb;replace G206:=G206.below hb;replace B210:=B210.below hb;clear hb;clear q211 q212;have q214:=B210.q0;have q215:=B210.q1) | ((with_reducible refine gate_callee (f:=30) rfl ?_);refine goesL_ (some 182) rfl rfl Try.func30 (by kernel_rfl) rfl #[.agg #[.slice A202 x0.length c203, .slice A204 x1.length c205]] rfl (by (try simp only [List.map_toArray,List.map_cons,List.map_nil]);first | done | rfl) ?_;refine (spec_SpreadSlots.calls k _ _ x0 _ _ x1 s2 u2 _ G206.a G206.b G206.c G206.d E3.out).mono ?_;rintro e w216 ⟨rfl,hb⟩;refine ⟨_,rfl, ?_⟩;replace HB:=below_step HB hb;replace HP:=HP.below hb;replace G206:=G206.below hb;replace B210:=B210.below hb;clear hb;clear q214 q215))
 go_ret
 exact ⟨by first | rfl | (simp;done) | (simp [*];done),HB⟩
end Go.Proofs.Ytglfjaaaegfdnaa.PFnGateSlots
