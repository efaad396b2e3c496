-- The walk of laws.FnBooking, printed by a program of this session (wip/gatelaw.py)
import Derived.Test.YtglfjaaaegfdnaaPFnBookingx0
import Derived.Test.YtglfjaaaegfdnaaPFnBookingx1
import Derived.Test.YtglfjaaaegfdnaaPFnBookingx7
import Derived.Test.YtglfjaaaegfdnaaPFnBookingx8
import Derived.Test.YtglfjaaaegfdnaaPFnBookingx10
import Derived.Test.YtglfjaaaegfdnaaPFnBookingx12
import Derived.Test.YtglfjaaaegfdnaaPFnBookingx13
import Derived.Test.YtglfjaaaegfdnaaPFnBookingx14
import Derived.Test.YtglfjaaaegfdnaaPFnBookingx15
import Derived.Test.YtglfjaaaegfdnaaPFnBookingx16
namespace Go.Proofs.Ytglfjaaaegfdnaa.PFnBooking
open Go.RowKit Go.Proofs.YtglfjaaaegfdnaaW.PrintWords Go.Proofs.YtglfjaaaegfdnaaW.PrintLast Go.Proofs.YtglfjaaaegfdnaaW.PrintMore
set_option linter.unusedVariables false
set_option linter.unusedSimpArgs false
/-- A gate that can be read. -/
structure Gr_ (w : World) (A0 : Option Addr) (c0 : Nat) (cs : List Int) (A1 : Option Addr) (c1 : Nat) (ss : List (List Int)) : Prop where
 a : Kd.C (Kd.int .i64) w A0 cs.length cs
 b : cs.length ≤ c0
 c : Kd.C (Kd.slice 3 (Kd.int .i64)) w A1 ss.length ss
 d : ss.length ≤ c1
/-- A row that can be read. -/
structure Rw_ {α : Type} (q : Kd α) (w : World) (A : Option Addr) (c : Nat) (xs : List α) : Prop where
 a : Kd.C q w A xs.length xs
 b : xs.length ≤ c
/-- A variable that holds a gate. -/
structure Bx_ (w : World) (g : Nat) (v0 v1 : Value) : Prop where
 h : w.heap[g]? = some (.cells #[v0,v1] 27 (0,0))
section
variable {w W W1 W2 : World} {A0 A1 A : Option Addr} {c0 c1 c b0 b1 g : Nat} {cs xs : List Int} {ss : List (List Int)} {ok ok' : Nat → Prop} {v0 v1 : Value}
theorem Gr_.below (h : Gr_ W A0 c0 cs A1 c1 ss) (hb : Below W.heap.size W W1) : Gr_ W1 A0 c0 cs A1 c1 ss := ⟨Kd.C_below h.a hb,h.b,Kd.C_below h.c hb,h.d⟩
theorem Rw_.below {α : Type} {q : Kd α} {ys : List α} (h : Rw_ q W A c ys) (hb : Below W.heap.size W W1) : Rw_ q W1 A c ys := ⟨Kd.C_below h.a hb,h.b⟩
theorem Bx_.below (h : Bx_ W g v0 v1) (hb : Below W.heap.size W W1) : Bx_ W1 g v0 v1 := ⟨blk_below h.h hb⟩
theorem gr_S (h0 : Kd.R (Kd.int .i64) 3 W b0 ok (.slice A0 cs.length c0) cs) (h1 : Kd.S (Kd.slice 3 (Kd.int .i64)) 24 W b1 ok' (.slice A1 ss.length c1) ss) : Gr_ W A0 c0 cs A1 c1 ss := ⟨(Kd.R_reads' h0).2.2,(Kd.R_reads' h0).2.1,(Kd.S_reads' h1).2.2,(Kd.S_reads' h1).2.1⟩
theorem gr_N (h0 : Kd.R (Kd.int .i64) 3 W b0 ok (.slice A0 cs.length c0) cs) (h1 : Kd.N (Kd.slice 3 (Kd.int .i64)) 24 W b1 ok' (.slice A1 ss.length c1) ss) : Gr_ W A0 c0 cs A1 c1 ss := ⟨(Kd.R_reads' h0).2.2,(Kd.R_reads' h0).2.1,(Kd.N_reads' h1).2.2,(Kd.N_reads' h1).2.1⟩
theorem gr_Q (h0 : Kd.R (Kd.int .i64) 3 W b0 ok (.slice A0 cs.length c0) cs) (h1 : Kd.Q (Kd.slice 3 (Kd.int .i64)) 24 W b1 ok' (.slice A1 ss.length c1) ss) : Gr_ W A0 c0 cs A1 c1 ss := ⟨(Kd.R_reads' h0).2.2,(Kd.R_reads' h0).2.1,(Kd.Q_reads' h1).2.2,(Kd.Q_reads' h1).2.1⟩
theorem rw_R (h0 : Kd.R (Kd.int .i64) 3 W b0 ok (.slice A cs.length c) cs) : Rw_ (Kd.int .i64) W A c cs := ⟨(Kd.R_reads' h0).2.2,(Kd.R_reads' h0).2.1⟩
/-- A new variable and what is stored in it, as one step. -/
theorem put_ (hg : g = W.heap.size) (hx : W1.heap[g]? = some (.cells #[.slice none 0 0,.slice none 0 0] 27 (0,0))) (hb : Below W.heap.size W W1) (hw : W2 = (W1.setCell ⟨g,0,none⟩ v0).setCell ⟨g,1,none⟩ v1) : Below W.heap.size W W2 ∧ Bx_ W2 g v0 v1 := by
 rw [hw]
 have he : W.heap.size ≤ g := by omega
 exact ⟨below_set (below_set hb he) he,⟨blk_put (cs:=#[v0,.slice none 0 0]) (blk_put (cs:=#[.slice none 0 0,.slice none 0 0]) hx 0 v0 rfl) 1 v1 rfl⟩⟩
theorem Bx_.q0 (h : Bx_ W g v0 v1) : W.cell? ⟨g,0,none⟩ = some v0 := (blk_cell h.h 0).trans rfl
theorem Bx_.q1 (h : Bx_ W g v0 v1) : W.cell? ⟨g,1,none⟩ = some v1 := (blk_cell h.h 1).trans rfl
theorem dr_ (W : World) (n : Nat) : Below W.heap.size W (W.drewN n) := pw_below_drewN (Below.refl _ _) n
end
theorem ca_ {P : Program} {f : FuncId} {args : Array Value} {w : World} {Q : Ending → World → Prop} (h : Calls P f args w Q) : Calls P f args w Q := h
/-- Three ways through a scan's test. -/
theorem scn_ {α : Type} {t : Bool} {c : Prop} [Decidable c] {x : Option α} {y r : α} (H : (if t = true then (if c then x else some y) else some y) = some r) : (t = true ∧ decide c = true ∧ x = some r) ∨ (t = true ∧ decide c = false) ∨ t = false := by
 rcases ib_ H with ⟨h, H⟩ | ⟨h, _⟩
 · rcases id_ H with ⟨h2, H⟩ | ⟨h2, _⟩
   · exact .inl ⟨h, h2, H⟩
   · exact .inr (.inl ⟨h, h2⟩)
 · exact .inr (.inr h)
def laws_FnBooking.ck (k : Nat) (g0 : List Int) (g1 : List (List Int)) (b0 : List Int) (b1 : List (List Int)) (tr sl : Int) : Option Int := (impl_TruckSlot.f k b0 b1 tr).bind fun a => ((impl_CancelTruck.f k b0 b1 tr).bind fun c => ((impl_MoveTruck.f k b0 b1 tr sl).bind fun m => ((impl_FreeShare.f k g0 g1).bind fun p => ((impl_FreeShare.f k b0 b1).bind fun q => (if a.2 = true then (if c.2.2 = true then (if m.2.2 = true then (if p.2.2 = true then (if q.2.2 = true then (if a.1 = sl then ((laws_rGates.f k c.1 c.2.1 g0 g1).bind fun t1 => (if t1 = true then ((laws_rGates.f k m.1 m.2.1 b0 b1).bind fun t2 => (if t2 = true then (if q.1 = wrap64 (p.1 - 1) then ((impl_IsValidGate.f k b0 b1).bind fun t3 => (if t3 = true then some 0 else none)) else none) else none)) else none)) else none) else none) else none) else none) else none) else none)))))
def laws_FnBooking.f3 (k : Nat) (l0 : List Int) : Option Bool := (spec_DrawTruckSlot.f k l0).bind fun b => ((impl_TruckSlot.f k b.1 b.2.1 b.2.2).bind fun s => ((impl_CancelTruck.f k b.1 b.2.1 b.2.2).bind fun c => ((spec_TruckSlot.f k b.1 b.2.1 b.2.2).bind fun t => ((spec_CancelTruck.f k b.1 b.2.1 b.2.2).bind fun d => (if s.1 = t.1 then (if s.2 = t.2 then (if c.2.2 = d.2.2 then (if c.2.2 = s.2 then (laws_rGates.f k c.1 c.2.1 d.1 d.2.1) else none) else none) else none) else none)))))
def laws_FnBooking.scan : Nat → Int → Bool → Int → List Int → List (List Int) → Option Int
 | 0,_,_,_,_,_ => none
 | k + 1,e,fi,i,c,s => if fi = true then (if i < e then (if 0 ≤ i then (if i < (s.length : Int) then (if i < (c.length : Int) then (if ((rd_L2 s i).length : Int) < rd c i then none else (laws_FnBooking.scan k e fi (wrap64 (i + 1)) c s)) else none) else none) else none) else some 0) else some 0
def laws_FnBooking.f2 (k : Nat) (l0 : List Int) : Option Bool := (spec_DrawBookEarliest.f k l0).bind fun b => ((impl_BookEarliest.f k b.1 b.2.1 b.2.2.1 b.2.2.2.1 b.2.2.2.2).bind fun c => ((spec_BookEarliest.f k b.1 b.2.1 b.2.2.1 b.2.2.2.1 b.2.2.2.2).bind fun d => (if c.2.2.2 = d.2.2.2 then (if c.2.2.1 = d.2.2.1 then ((laws_rGates.f k c.1 c.2.1 d.1 d.2.1).bind fun t => (if t = true then ((laws_FnBooking.scan k c.2.2.1 c.2.2.2 b.2.2.2.1 b.1 b.2.1).bind fun _ => laws_FnBooking.f3 k l0) else none)) else none) else none)))
def laws_FnBooking.f1 (k : Nat) (l0 : List Int) : Option Bool := (spec_DrawBookSlot.f k l0).bind fun b => ((impl_BookSlot.f k b.1 b.2.1 b.2.2.1 b.2.2.2).bind fun c => ((spec_BookSlot.f k b.1 b.2.1 b.2.2.1 b.2.2.2).bind fun d => (if c.2.2 = d.2.2 then ((laws_rGates.f k c.1 c.2.1 d.1 d.2.1).bind fun t => (if t = true then ((if c.2.2 = true then laws_FnBooking.ck k b.1 b.2.1 c.1 c.2.1 b.2.2.1 b.2.2.2 else some 0).bind fun _ => laws_FnBooking.f2 k l0) else none)) else none)))
def laws_FnBooking.f (k : Nat) (l0 : List Int) : Option Bool := (laws_rBig.f l0).bind fun t => (if t = true then some true else laws_FnBooking.f1 k l0)
set_option maxHeartbeats 8000000 in
set_option maxRecDepth 100000 in
theorem laws_FnBooking.calls (k : Nat) (A0 : Option Addr) (c0 : Nat) (l0 : List Int) (r : Bool) (w : World) (hr0 : Kd.C (Kd.int .u8) w A0 l0.length l0) (hc0 : l0.length ≤ c0) (h : laws_FnBooking.f k l0 = some r) :
  Calls Try.prog 3 #[.slice A0 l0.length c0] w fun e w' => e = .returned (.bool r) ∧ Below w.heap.size w w' := by
 have hu:=Try.underlying27
 have HP : Rw_ (Kd.int .u8) w A0 c0 l0:=⟨hr0,hc0⟩
 clear hr0 hc0
 have HB:=Below.refl w.heap.size w
 have H:=bn_ h
 clear h
 obtain ⟨t,E0,H⟩ := H
 replace H:=ib_ H
 obtain ⟨rfl,H⟩|⟨rfl,H⟩ := H
 ·obtain rfl:=Option.some.inj H
  go_enter Try.func3,Try.ntmps3
  go_wp2_with (first | ((with_reducible refine gate_callee (f:=6) rfl ?_);refine goesL_ (some 44) rfl rfl Try.func6 (by kernel_rfl) rfl #[.slice A0 l0.length c0] rfl (by (try simp only [List.map_toArray,List.map_cons,List.map_nil]);first | done | rfl) ?_;refine (laws_rBig.calls _ _ l0 true _ HP.a HP.b E0.out).mono ?_;rintro e w1 ⟨rfl,hn_⟩;obtain ⟨nd,rfl⟩ := hn_;have hb:=dr_ w nd;generalize World.drewN w nd = w1 at hb ⊢;refine ⟨_,rfl, ?_⟩;replace HB:=below_step HB hb;clear hb))
  go_ret
  exact ⟨by rfl,HB⟩
 unfold laws_FnBooking.f1 at H
 replace H:=bn_ H
 obtain ⟨⟨g0,g1,tr,sl⟩,E1,H⟩ := H
 dsimp only at H
 replace H:=bn_ H
 obtain ⟨⟨b0,b1,ok⟩,E2,H⟩ := H
 dsimp only at H
 replace H:=bn_ H
 obtain ⟨⟨d0,d1,ok'⟩,E3,H⟩ := H
 dsimp only at H
 replace H:=ip_ H
 obtain ⟨hk,H⟩ := H
 subst hk
 replace H:=bn_ H
 obtain ⟨t2,E5,H⟩ := H
 replace H:=ip_ H
 obtain ⟨rfl,H⟩ := H
 replace H:=bn_ H
 obtain ⟨_,E6,H⟩ := H
 have E7:=am_ H
 clear H
 have hne : (ok != ok) = false:=by simp
 go_enter Try.func3,Try.ntmps3
 go_upto_if 74 with (first | ((with_reducible refine gate_callee (f:=6) rfl ?_);refine goesL_ (some 44) rfl rfl Try.func6 (by kernel_rfl) rfl #[.slice A0 l0.length c0] rfl (by (try simp only [List.map_toArray,List.map_cons,List.map_nil]);first | done | rfl) ?_;refine (laws_rBig.calls _ _ l0 false _ HP.a HP.b E0.out).mono ?_;rintro e w1 ⟨rfl,hn_⟩;obtain ⟨nd,rfl⟩ := hn_;have hb:=dr_ w nd;generalize World.drewN w nd = w1 at hb ⊢;refine ⟨_,rfl, ?_⟩;replace HB:=below_step HB hb;replace HP:=HP.below hb;clear hb) | ((with_reducible refine gate_callee (f:=7) rfl ?_);refine goesL_ (some 47) rfl rfl Try.func7 (by kernel_rfl) rfl #[.slice A0 l0.length c0] rfl (by (try simp only [List.map_toArray,List.map_cons,List.map_nil]);first | done | rfl) ?_;refine (spec_DrawBookSlot.calls k _ _ l0 g0 g1 tr sl _ HP.a HP.b E1.out).mono ?_;rintro e w2 ⟨v0_,v1_,rfl,ho0,ho1,hb⟩;refine ⟨_,rfl, ?_⟩;replace HB:=below_step HB hb;replace HP:=HP.below hb;clear hb;obtain ⟨A3,c4,rfl⟩ := Kd.R_slice ho0;obtain ⟨A5,c6,rfl,_⟩ := Kd.Q_slice ho1;have G7:=gr_Q ho0 ho1;clear ho0 ho1) | ((with_reducible refine gate_dst (N:=3) rfl ?_);refine box_event ?hg (N:=3) ?hd (cs:=#[.slice none 0 0, .slice none 0 0]) (t:=27) ?hr ?_;(case hd => rfl);(case hg => rfl);(case hr => (go_simp;done));intro gb10 hg w8 hx hb;have hG:=am_ hg;have hX:=am_ hx;have hB:=am_ hb;have hz0:=c2_0 hx;have hz1:=c2_1 hx;have hf0:=blk_frozen hx 0;have hf1:=blk_frozen hx 1;clear hg hx hb) | ((with_reducible refine gate_store (t:=27) (p:=3) rfl ?_);refine store_event (t:=27) (p:=3) (v:=?vo_w9) (w1:=((w8.setCell ⟨gb10,0,none⟩ (.slice A3 g0.length c4)).setCell ⟨gb10,1,none⟩ (.slice A5 g1.length c6))) ?hg ?ho ?hn ?hr ?_;(case ho => rfl);(case hg => rfl);(case hn => rfl);(case hr => (go_simp;done));intro w9 hw;clear hz0 hz1 hf0 hf1;obtain ⟨hb2,B11⟩ := put_ hG.out hX.out hB.out hw;clear hG hX hB hw;replace HB:=below_step HB hb2;replace HP:=HP.below hb2;replace G7:=G7.below hb2;clear hb2;have q12:=B11.q0;have q13:=B11.q1) | ((with_reducible refine gate_callee (f:=8) rfl ?_);refine goesL_ (some 55) rfl rfl Try.func8 (by kernel_rfl) rfl #[.agg #[.slice A3 g0.length c4, .slice A5 g1.length c6], .int .i64 tr, .int .i64 sl] rfl (by (try simp only [List.map_toArray,List.map_cons,List.map_nil]);first | done | rfl) ?_;refine (impl_BookSlot.calls k _ _ g0 _ _ g1 tr sl b0 b1 ok _ G7.a G7.b G7.c G7.d E2.out).mono ?_;rintro e w14 ⟨v0_,v1_,rfl,ho0,ho1,hb⟩;refine ⟨_,rfl, ?_⟩;replace HB:=below_step HB hb;replace HP:=HP.below hb;replace G7:=G7.below hb;replace B11:=B11.below hb;clear hb;obtain ⟨A15,c16,rfl⟩ := Kd.R_slice ho0;obtain ⟨A17,c18,rfl⟩ := Kd.S_slice ho1;have G19:=gr_S ho0 ho1;clear ho0 ho1;clear q12 q13) | ((with_reducible refine gate_dst (N:=6) rfl ?_);refine box_event ?hg (N:=6) ?hd (cs:=#[.slice none 0 0, .slice none 0 0]) (t:=27) ?hr ?_;(case hd => rfl);(case hg => rfl);(case hr => (go_simp;done));intro gb22 hg w20 hx hb;have hG:=am_ hg;have hX:=am_ hx;have hB:=am_ hb;have hz0:=c2_0 hx;have hz1:=c2_1 hx;have hf0:=blk_frozen hx 0;have hf1:=blk_frozen hx 1;clear hg hx hb) | ((with_reducible refine gate_store (t:=27) (p:=6) rfl ?_);refine store_event (t:=27) (p:=6) (v:=?vo_w21) (w1:=((w20.setCell ⟨gb22,0,none⟩ (.slice A15 b0.length c16)).setCell ⟨gb22,1,none⟩ (.slice A17 b1.length c18))) ?hg ?ho ?hn ?hr ?_;(case ho => rfl);(case hg => rfl);(case hn => rfl);(case hr => (go_simp;done));intro w21 hw;clear hz0 hz1 hf0 hf1;obtain ⟨hb2,B23⟩ := put_ hG.out hX.out hB.out hw;clear hG hX hB hw;replace HB:=below_step HB hb2;replace HP:=HP.below hb2;replace G7:=G7.below hb2;replace B11:=B11.below hb2;replace G19:=G19.below hb2;clear hb2;have q24:=B11.q0;have q25:=B11.q1) | ((with_reducible refine gate_callee (f:=9) rfl ?_);refine goesL_ (some 62) rfl rfl Try.func9 (by kernel_rfl) rfl #[.agg #[.slice A3 g0.length c4, .slice A5 g1.length c6], .int .i64 tr, .int .i64 sl] rfl (by (try simp only [List.map_toArray,List.map_cons,List.map_nil]);first | done | rfl) ?_;refine (spec_BookSlot.calls k _ _ g0 _ _ g1 tr sl d0 d1 ok _ G7.a G7.b G7.c G7.d E3.out).mono ?_;rintro e w26 ⟨v0_,v1_,rfl,ho0,ho1,hb⟩;refine ⟨_,rfl, ?_⟩;replace HB:=below_step HB hb;replace HP:=HP.below hb;replace G7:=G7.below hb;replace B11:=B11.below hb;replace G19:=G19.below hb;replace B23:=B23.below hb;clear hb;obtain ⟨A27,c28,rfl⟩ := Kd.R_slice ho0;obtain ⟨A29,c30,rfl⟩ := Kd.S_slice ho1;have G31:=gr_S ho0 ho1;clear ho0 ho1;clear q24 q25) | ((with_reducible refine gate_dst (N:=8) rfl ?_);refine box_event ?hg (N:=8) ?hd (cs:=#[.slice none 0 0, .slice none 0 0]) (t:=27) ?hr ?_;(case hd => rfl);(case hg => rfl);(case hr => (go_simp;done));intro gb34 hg w32 hx hb;have hG:=am_ hg;have hX:=am_ hx;have hB:=am_ hb;have hz0:=c2_0 hx;have hz1:=c2_1 hx;have hf0:=blk_frozen hx 0;have hf1:=blk_frozen hx 1;clear hg hx hb) | ((with_reducible refine gate_store (t:=27) (p:=8) rfl ?_);refine store_event (t:=27) (p:=8) (v:=?vo_w33) (w1:=((w32.setCell ⟨gb34,0,none⟩ (.slice A27 d0.length c28)).setCell ⟨gb34,1,none⟩ (.slice A29 d1.length c30))) ?hg ?ho ?hn ?hr ?_;(case ho => rfl);(case hg => rfl);(case hn => rfl);(case hr => (go_simp;done));intro w33 hw;clear hz0 hz1 hf0 hf1;obtain ⟨hb2,B35⟩ := put_ hG.out hX.out hB.out hw;clear hG hX hB hw;replace HB:=below_step HB hb2;replace HP:=HP.below hb2;replace G7:=G7.below hb2;replace B11:=B11.below hb2;replace G19:=G19.below hb2;replace B23:=B23.below hb2;replace G31:=G31.below hb2;clear hb2;have q36:=B23.q0;have q37:=B23.q1;have q38:=B35.q0;have q39:=B35.q1) | (go_at_call 10;(with_reducible refine ca_ (args:=#[.agg #[.slice A15 b0.length c16, .slice A17 b1.length c18], .agg #[.slice A27 d0.length c28, .slice A29 d1.length c30]]) ?_);refine (laws_rGates.calls k _ _ b0 _ _ b1 _ _ d0 _ _ d1 true _ G19.a G19.b G19.c G19.d G31.a G31.b G31.c G31.d E5.out).mono ?_;rintro e w40 ⟨rfl,hb⟩;replace HB:=below_step HB hb;replace HP:=HP.below hb;replace G7:=G7.below hb;replace B11:=B11.below hb;replace G19:=G19.below hb;replace B23:=B23.below hb;replace G31:=G31.below hb;replace B35:=B35.below hb;clear hb;clear q36 q37 q38 q39))
 clear G31 B35
 go_cut [] (fun wc => Below w.heap.size w wc ∧ Rw_ (Kd.int .u8) wc A0 c0 l0)
 case first =>
  have H:=E6.out
  clear E6 E7
  replace H:=ic_ H
  obtain ⟨hk,H⟩|⟨hk,H⟩ := H
  ·subst hk
   unfold laws_FnBooking.ck at H
   replace H:=bn_ H
   obtain ⟨⟨at_,o1⟩,F1,H⟩ := H
   dsimp only at H
   replace H:=bn_ H
   obtain ⟨⟨x0,x1,o2⟩,F2,H⟩ := H
   dsimp only at H
   replace H:=bn_ H
   obtain ⟨⟨m0,m1,o3⟩,F3,H⟩ := H
   dsimp only at H
   replace H:=bn_ H
   obtain ⟨⟨fr,al,o4⟩,F4,H⟩ := H
   dsimp only at H
   replace H:=bn_ H
   obtain ⟨⟨le,al2,o5⟩,F5,H⟩ := H
   dsimp only at H
   replace H:=ip_ H
   obtain ⟨rfl,H⟩ := H
   replace H:=ip_ H
   obtain ⟨rfl,H⟩ := H
   replace H:=ip_ H
   obtain ⟨rfl,H⟩ := H
   replace H:=ip_ H
   obtain ⟨rfl,H⟩ := H
   replace H:=ip_ H
   obtain ⟨rfl,H⟩ := H
   replace H:=ip_ H
   obtain ⟨h1_,H⟩ := H
   replace H:=bn_ H
   obtain ⟨t1,F6,H⟩ := H
   replace H:=ip_ H
   obtain ⟨rfl,H⟩ := H
   replace H:=bn_ H
   obtain ⟨t2,F7,H⟩ := H
   replace H:=ip_ H
   obtain ⟨rfl,H⟩ := H
   replace H:=ip_ H
   obtain ⟨h2_,H⟩ := H
   replace H:=bn_ H
   obtain ⟨t3,F8,H⟩ := H
   replace H:=ip_ H
   obtain ⟨rfl,H⟩ := H
   clear H
   have za_:=beq_iff_eq.mpr h1_
   have ya_:=bne_eq_false_iff_eq.mpr h1_
   have zb_:=beq_iff_eq.mpr h2_
   have yb_:=bne_eq_false_iff_eq.mpr h2_
   clear h1_ h2_
   have q41:=B23.q0
   have q42:=B23.q1
   go_wp2_with (first | ((with_reducible refine gate_callee (f:=11) rfl ?_);refine goesL_ (some 78) rfl rfl Try.func11 (by kernel_rfl) rfl #[.agg #[.slice A15 b0.length c16, .slice A17 b1.length c18], .int .i64 tr] rfl (by (try simp only [List.map_toArray,List.map_cons,List.map_nil]);first | done | rfl) ?_;refine (impl_TruckSlot.calls k _ _ b0 _ _ b1 tr at_ true _ G19.a G19.b G19.c G19.d F1.out).mono ?_;rintro e w43 ⟨rfl,hb⟩;refine ⟨_,rfl, ?_⟩;replace HB:=below_step HB hb;replace HP:=HP.below hb;replace G7:=G7.below hb;replace B11:=B11.below hb;replace G19:=G19.below hb;replace B23:=B23.below hb;clear hb;clear q41 q42;have q44:=B23.q0;have q45:=B23.q1) | ((with_reducible refine gate_callee (f:=12) rfl ?_);refine goesL_ (some 84) rfl rfl Try.func12 (by kernel_rfl) rfl #[.agg #[.slice A15 b0.length c16, .slice A17 b1.length c18], .int .i64 tr] rfl (by (try simp only [List.map_toArray,List.map_cons,List.map_nil]);first | done | rfl) ?_;refine (impl_CancelTruck.calls k _ _ b0 _ _ b1 tr x0 x1 true _ G19.a G19.b G19.c G19.d F2.out).mono ?_;rintro e w46 ⟨v0_,v1_,rfl,ho0,ho1,hb⟩;refine ⟨_,rfl, ?_⟩;replace HB:=below_step HB hb;replace HP:=HP.below hb;replace G7:=G7.below hb;replace B11:=B11.below hb;replace G19:=G19.below hb;replace B23:=B23.below hb;clear hb;obtain ⟨A47,c48,rfl⟩ := Kd.R_slice ho0;obtain ⟨A49,c50,rfl⟩ := Kd.S_slice ho1;have G51:=gr_S ho0 ho1;clear ho0 ho1;clear q44 q45) | ((with_reducible refine gate_dst (N:=12) rfl ?_);refine box_event ?hg (N:=12) ?hd (cs:=#[.slice none 0 0, .slice none 0 0]) (t:=27) ?hr ?_;(case hd => rfl);(case hg => rfl);(case hr => (go_simp;done));intro gb54 hg w52 hx hb;have hG:=am_ hg;have hX:=am_ hx;have hB:=am_ hb;have hz0:=c2_0 hx;have hz1:=c2_1 hx;have hf0:=blk_frozen hx 0;have hf1:=blk_frozen hx 1;clear hg hx hb) | ((with_reducible refine gate_store (t:=27) (p:=12) rfl ?_);refine store_event (t:=27) (p:=12) (v:=?vo_w53) (w1:=((w52.setCell ⟨gb54,0,none⟩ (.slice A47 x0.length c48)).setCell ⟨gb54,1,none⟩ (.slice A49 x1.length c50))) ?hg ?ho ?hn ?hr ?_;(case ho => rfl);(case hg => rfl);(case hn => rfl);(case hr => (go_simp;done));intro w53 hw;clear hz0 hz1 hf0 hf1;obtain ⟨hb2,B55⟩ := put_ hG.out hX.out hB.out hw;clear hG hX hB hw;replace HB:=below_step HB hb2;replace HP:=HP.below hb2;replace G7:=G7.below hb2;replace B11:=B11.below hb2;replace G19:=G19.below hb2;replace B23:=B23.below hb2;replace G51:=G51.below hb2;clear hb2;have q56:=B23.q0;have q57:=B23.q1) | ((with_reducible refine gate_callee (f:=13) rfl ?_);refine goesL_ (some 91) rfl rfl Try.func13 (by kernel_rfl) rfl #[.agg #[.slice A15 b0.length c16, .slice A17 b1.length c18], .int .i64 tr, .int .i64 sl] rfl (by (try simp only [List.map_toArray,List.map_cons,List.map_nil]);first | done | rfl) ?_;refine (impl_MoveTruck.calls k _ _ b0 _ _ b1 tr sl m0 m1 true _ G19.a G19.b G19.c G19.d F3.out).mono ?_;rintro e w58 ⟨v0_,v1_,rfl,ho0,ho1,hb⟩;refine ⟨_,rfl, ?_⟩;replace HB:=below_step HB hb;replace HP:=HP.below hb;replace G7:=G7.below hb;replace B11:=B11.below hb;replace G19:=G19.below hb;replace B23:=B23.below hb;replace G51:=G51.below hb;replace B55:=B55.below hb;clear hb;obtain ⟨A59,c60,rfl⟩ := Kd.R_slice ho0;obtain ⟨A61,c62,rfl⟩ := Kd.S_slice ho1;have G63:=gr_S ho0 ho1;clear ho0 ho1;clear q56 q57) | ((with_reducible refine gate_dst (N:=14) rfl ?_);refine box_event ?hg (N:=14) ?hd (cs:=#[.slice none 0 0, .slice none 0 0]) (t:=27) ?hr ?_;(case hd => rfl);(case hg => rfl);(case hr => (go_simp;done));intro gb66 hg w64 hx hb;have hG:=am_ hg;have hX:=am_ hx;have hB:=am_ hb;have hz0:=c2_0 hx;have hz1:=c2_1 hx;have hf0:=blk_frozen hx 0;have hf1:=blk_frozen hx 1;clear hg hx hb) | ((with_reducible refine gate_store (t:=27) (p:=14) rfl ?_);refine store_event (t:=27) (p:=14) (v:=?vo_w65) (w1:=((w64.setCell ⟨gb66,0,none⟩ (.slice A59 m0.length c60)).setCell ⟨gb66,1,none⟩ (.slice A61 m1.length c62))) ?hg ?ho ?hn ?hr ?_;(case ho => rfl);(case hg => rfl);(case hn => rfl);(case hr => (go_simp;done));intro w65 hw;clear hz0 hz1 hf0 hf1;obtain ⟨hb2,B67⟩ := put_ hG.out hX.out hB.out hw;clear hG hX hB hw;replace HB:=below_step HB hb2;replace HP:=HP.below hb2;replace G7:=G7.below hb2;replace B11:=B11.below hb2;replace G19:=G19.below hb2;replace B23:=B23.below hb2;replace G51:=G51.below hb2;replace B55:=B55.below hb2;replace G63:=G63.below hb2;clear hb2;have q68:=B11.q0;have q69:=B11.q1) | ((with_reducible refine gate_callee (f:=14) rfl ?_);refine goesL_ (some 96) rfl rfl Try.func14 (by kernel_rfl) rfl #[.agg #[.slice A3 g0.length c4, .slice A5 g1.length c6]] rfl (by (try simp only [List.map_toArray,List.map_cons,List.map_nil]);first | done | rfl) ?_;refine (impl_FreeShare.calls k _ _ g0 _ _ g1 fr al true _ G7.a G7.b G7.c G7.d F4.out).mono ?_;rintro e w70 ⟨rfl,hb⟩;refine ⟨_,rfl, ?_⟩;replace HB:=below_step HB hb;replace HP:=HP.below hb;replace G7:=G7.below hb;replace B11:=B11.below hb;replace G19:=G19.below hb;replace B23:=B23.below hb;replace G51:=G51.below hb;replace B55:=B55.below hb;replace G63:=G63.below hb;replace B67:=B67.below hb;clear hb;clear q68 q69;have q71:=B23.q0;have q72:=B23.q1) | ((with_reducible refine gate_callee (f:=14) rfl ?_);refine goesL_ (some 102) rfl rfl Try.func14 (by kernel_rfl) rfl #[.agg #[.slice A15 b0.length c16, .slice A17 b1.length c18]] rfl (by (try simp only [List.map_toArray,List.map_cons,List.map_nil]);first | done | rfl) ?_;refine (impl_FreeShare.calls k _ _ b0 _ _ b1 le al2 true _ G19.a G19.b G19.c G19.d F5.out).mono ?_;rintro e w73 ⟨rfl,hb⟩;refine ⟨_,rfl, ?_⟩;replace HB:=below_step HB hb;replace HP:=HP.below hb;replace G7:=G7.below hb;replace B11:=B11.below hb;replace G19:=G19.below hb;replace B23:=B23.below hb;replace G51:=G51.below hb;replace B55:=B55.below hb;replace G63:=G63.below hb;replace B67:=B67.below hb;clear hb;clear q71 q72;have q74:=B55.q0;have q75:=B55.q1;have q76:=B11.q0;have q77:=B11.q1) | (go_at_call 10;(with_reducible refine ca_ (args:=#[.agg #[.slice A47 x0.length c48, .slice A49 x1.length c50], .agg #[.slice A3 g0.length c4, .slice A5 g1.length c6]]) ?_);refine (laws_rGates.calls k _ _ x0 _ _ x1 _ _ g0 _ _ g1 true _ G51.a G51.b G51.c G51.d G7.a G7.b G7.c G7.d F6.out).mono ?_;rintro e w78 ⟨rfl,hb⟩;replace HB:=below_step HB hb;replace HP:=HP.below hb;replace G7:=G7.below hb;replace B11:=B11.below hb;replace G19:=G19.below hb;replace B23:=B23.below hb;replace G51:=G51.below hb;replace B55:=B55.below hb;replace G63:=G63.below hb;replace B67:=B67.below hb;clear hb;clear q74 q75 q76 q77;have q79:=B67.q0;have q80:=B67.q1;have q81:=B23.q0;have q82:=B23.q1) | (go_at_call 10;(with_reducible refine ca_ (args:=#[.agg #[.slice A59 m0.length c60, .slice A61 m1.length c62], .agg #[.slice A15 b0.length c16, .slice A17 b1.length c18]]) ?_);refine (laws_rGates.calls k _ _ m0 _ _ m1 _ _ b0 _ _ b1 true _ G63.a G63.b G63.c G63.d G19.a G19.b G19.c G19.d F7.out).mono ?_;rintro e w83 ⟨rfl,hb⟩;replace HB:=below_step HB hb;replace HP:=HP.below hb;replace G7:=G7.below hb;replace B11:=B11.below hb;replace G19:=G19.below hb;replace B23:=B23.below hb;replace G51:=G51.below hb;replace B55:=B55.below hb;replace G63:=G63.below hb;replace B67:=B67.below hb;clear hb;clear q79 q80 q81 q82;have q84:=B23.q0;have q85:=B23.q1) | (go_at_call 15;(with_reducible refine ca_ (args:=#[.agg #[.slice A15 b0.length c16, .slice A17 b1.length c18]]) ?_);refine (impl_IsValidGate.calls k _ _ b0 _ _ b1 true _ G19.a G19.b G19.c G19.d F8.out).mono ?_;rintro e w86 ⟨rfl,hb⟩;replace HB:=below_step HB hb;replace HP:=HP.below hb;replace G7:=G7.below hb;replace B11:=B11.below hb;replace G19:=G19.below hb;replace B23:=B23.below hb;replace G51:=G51.below hb;replace B55:=B55.below hb;replace G63:=G63.below hb;replace B67:=B67.below hb;clear hb;clear q84 q85))
   go_meet
   case rel => exact ⟨HB,HP⟩
  replace hk:=Bool.eq_false_iff.mpr hk
  subst hk
  go_wp2
  go_meet
  case rel => exact ⟨HB,HP⟩
 case rest =>
 clear E0 E1 E2 E3 E5 E6 HB HP G7 G19 B11 B23
 obtain ⟨HB,HP⟩ := hcut
 have H:=E7.out
 clear E7 hne
 unfold laws_FnBooking.f2 at H
 replace H:=bn_ H
 obtain ⟨⟨h0,h1,tr,fo,tq⟩,E1,H⟩ := H
 dsimp only at H
 replace H:=bn_ H
 obtain ⟨⟨e0,e1,at_,fi⟩,E2,H⟩ := H
 dsimp only at H
 replace H:=bn_ H
 obtain ⟨⟨v0,v1,at2,fi'⟩,E3,H⟩ := H
 dsimp only at H
 replace H:=ip_ H
 obtain ⟨hk,H⟩ := H
 subst hk
 replace H:=ip_ H
 obtain ⟨h1_,H⟩ := H
 replace H:=bn_ H
 obtain ⟨t2,E5,H⟩ := H
 replace H:=ip_ H
 obtain ⟨rfl,H⟩ := H
 replace H:=bn_ H
 obtain ⟨u_,E6,H⟩ := H
 have E7:=am_ H
 clear H
 have hne : (fi != fi) = false:=by simp
 have za_:=beq_iff_eq.mpr h1_
 have ya_:=bne_eq_false_iff_eq.mpr h1_
 clear h1_
 go_wp2_with (first | ((with_reducible refine gate_callee (f:=16) rfl ?_);refine goesL_ (some 154) rfl rfl Try.func16 (by kernel_rfl) rfl #[.slice A0 l0.length c0] rfl (by (try simp only [List.map_toArray,List.map_cons,List.map_nil]);first | done | rfl) ?_;refine (spec_DrawBookEarliest.calls k _ _ l0 h0 h1 tr fo tq _ HP.a HP.b E1.out).mono ?_;rintro e w101 ⟨v0_,v1_,rfl,ho0,ho1,hb⟩;refine ⟨_,rfl, ?_⟩;replace HB:=below_step HB hb;replace HP:=HP.below hb;clear hb;obtain ⟨A102,c103,rfl⟩ := Kd.R_slice ho0;obtain ⟨A104,c105,rfl,_⟩ := Kd.Q_slice ho1;have G106:=gr_Q ho0 ho1;clear ho0 ho1) | ((with_reducible refine gate_dst (N:=22) rfl ?_);refine box_event ?hg (N:=22) ?hd (cs:=#[.slice none 0 0, .slice none 0 0]) (t:=27) ?hr ?_;(case hd => rfl);(case hg => rfl);(case hr => (go_simp;done));intro gb109 hg w107 hx hb;have hG:=am_ hg;have hX:=am_ hx;have hB:=am_ hb;have hz0:=c2_0 hx;have hz1:=c2_1 hx;have hf0:=blk_frozen hx 0;have hf1:=blk_frozen hx 1;clear hg hx hb) | ((with_reducible refine gate_store (t:=27) (p:=22) rfl ?_);refine store_event (t:=27) (p:=22) (v:=?vo_w108) (w1:=((w107.setCell ⟨gb109,0,none⟩ (.slice A102 h0.length c103)).setCell ⟨gb109,1,none⟩ (.slice A104 h1.length c105))) ?hg ?ho ?hn ?hr ?_;(case ho => rfl);(case hg => rfl);(case hn => rfl);(case hr => (go_simp;done));intro w108 hw;clear hz0 hz1 hf0 hf1;obtain ⟨hb2,B110⟩ := put_ hG.out hX.out hB.out hw;clear hG hX hB hw;replace HB:=below_step HB hb2;replace HP:=HP.below hb2;replace G106:=G106.below hb2;clear hb2;have q111:=B110.q0;have q112:=B110.q1) | ((with_reducible refine gate_callee (f:=17) rfl ?_);refine goesL_ (some 164) rfl rfl Try.func17 (by kernel_rfl) rfl #[.agg #[.slice A102 h0.length c103, .slice A104 h1.length c105], .int .i64 tr, .int .i64 fo, .int .i64 tq] rfl (by (try simp only [List.map_toArray,List.map_cons,List.map_nil]);first | done | rfl) ?_;refine (impl_BookEarliest.calls k _ _ h0 _ _ h1 tr fo tq e0 e1 at_ fi _ G106.a G106.b G106.c G106.d E2.out).mono ?_;rintro e w113 ⟨v0_,v1_,rfl,ho0,ho1,hb⟩;refine ⟨_,rfl, ?_⟩;replace HB:=below_step HB hb;replace HP:=HP.below hb;replace G106:=G106.below hb;replace B110:=B110.below hb;clear hb;obtain ⟨A114,c115,rfl⟩ := Kd.R_slice ho0;obtain ⟨A116,c117,rfl⟩ := Kd.S_slice ho1;have G118:=gr_S ho0 ho1;clear ho0 ho1;clear q111 q112) | ((with_reducible refine gate_dst (N:=26) rfl ?_);refine box_event ?hg (N:=26) ?hd (cs:=#[.slice none 0 0, .slice none 0 0]) (t:=27) ?hr ?_;(case hd => rfl);(case hg => rfl);(case hr => (go_simp;done));intro gb121 hg w119 hx hb;have hG:=am_ hg;have hX:=am_ hx;have hB:=am_ hb;have hz0:=c2_0 hx;have hz1:=c2_1 hx;have hf0:=blk_frozen hx 0;have hf1:=blk_frozen hx 1;clear hg hx hb) | ((with_reducible refine gate_store (t:=27) (p:=26) rfl ?_);refine store_event (t:=27) (p:=26) (v:=?vo_w120) (w1:=((w119.setCell ⟨gb121,0,none⟩ (.slice A114 e0.length c115)).setCell ⟨gb121,1,none⟩ (.slice A116 e1.length c117))) ?hg ?ho ?hn ?hr ?_;(case ho => rfl);(case hg => rfl);(case hn => rfl);(case hr => (go_simp;done));intro w120 hw;clear hz0 hz1 hf0 hf1;obtain ⟨hb2,B122⟩ := put_ hG.out hX.out hB.out hw;clear hG hX hB hw;replace HB:=below_step HB hb2;replace HP:=HP.below hb2;replace G106:=G106.below hb2;replace B110:=B110.below hb2;replace G118:=G118.below hb2;clear hb2;have q123:=B110.q0;have q124:=B110.q1) | ((with_reducible refine gate_callee (f:=18) rfl ?_);refine goesL_ (some 173) rfl rfl Try.func18 (by kernel_rfl) rfl #[.agg #[.slice A102 h0.length c103, .slice A104 h1.length c105], .int .i64 tr, .int .i64 fo, .int .i64 tq] rfl (by (try simp only [List.map_toArray,List.map_cons,List.map_nil]);first | done | rfl) ?_;refine (spec_BookEarliest.calls k _ _ h0 _ _ h1 tr fo tq v0 v1 at2 fi _ G106.a G106.b G106.c G106.d E3.out).mono ?_;rintro e w125 ⟨v0_,v1_,rfl,ho0,ho1,hb⟩;refine ⟨_,rfl, ?_⟩;replace HB:=below_step HB hb;replace HP:=HP.below hb;replace G106:=G106.below hb;replace B110:=B110.below hb;replace G118:=G118.below hb;replace B122:=B122.below hb;clear hb;obtain ⟨A126,c127,rfl⟩ := Kd.R_slice ho0;obtain ⟨A128,c129,rfl⟩ := Kd.S_slice ho1;have G130:=gr_S ho0 ho1;clear ho0 ho1;clear q123 q124) | ((with_reducible refine gate_dst (N:=29) rfl ?_);refine box_event ?hg (N:=29) ?hd (cs:=#[.slice none 0 0, .slice none 0 0]) (t:=27) ?hr ?_;(case hd => rfl);(case hg => rfl);(case hr => (go_simp;done));intro gb133 hg w131 hx hb;have hG:=am_ hg;have hX:=am_ hx;have hB:=am_ hb;have hz0:=c2_0 hx;have hz1:=c2_1 hx;have hf0:=blk_frozen hx 0;have hf1:=blk_frozen hx 1;clear hg hx hb) | ((with_reducible refine gate_store (t:=27) (p:=29) rfl ?_);refine store_event (t:=27) (p:=29) (v:=?vo_w132) (w1:=((w131.setCell ⟨gb133,0,none⟩ (.slice A126 v0.length c127)).setCell ⟨gb133,1,none⟩ (.slice A128 v1.length c129))) ?hg ?ho ?hn ?hr ?_;(case ho => rfl);(case hg => rfl);(case hn => rfl);(case hr => (go_simp;done));intro w132 hw;clear hz0 hz1 hf0 hf1;obtain ⟨hb2,B134⟩ := put_ hG.out hX.out hB.out hw;clear hG hX hB hw;replace HB:=below_step HB hb2;replace HP:=HP.below hb2;replace G106:=G106.below hb2;replace B110:=B110.below hb2;replace G118:=G118.below hb2;replace B122:=B122.below hb2;replace G130:=G130.below hb2;clear hb2;have q135:=B122.q0;have q136:=B122.q1;have q137:=B134.q0;have q138:=B134.q1) | (go_at_call 10;(with_reducible refine ca_ (args:=#[.agg #[.slice A114 e0.length c115, .slice A116 e1.length c117], .agg #[.slice A126 v0.length c127, .slice A128 v1.length c129]]) ?_);refine (laws_rGates.calls k _ _ e0 _ _ e1 _ _ v0 _ _ v1 true _ G118.a G118.b G118.c G118.d G130.a G130.b G130.c G130.d E5.out).mono ?_;rintro e w139 ⟨rfl,hb⟩;replace HB:=below_step HB hb;replace HP:=HP.below hb;replace G106:=G106.below hb;replace B110:=B110.below hb;replace G118:=G118.below hb;replace B122:=B122.below hb;replace G130:=G130.below hb;replace B134:=B134.below hb;clear hb;clear q135 q136 q137 q138))
 clear G118 G130 B122 B134
 clear E1 E2 E3 E5
 go_loopg [32] k (fun kq v32 w' => ∃ x32 : Int, v32 = .int .i64 x32 ∧ Aside0 (laws_FnBooking.scan kq at_ fi x32 h0 h1 = some u_) ∧ Below w.heap.size w w' ∧ Rw_ (Kd.int .u8) w' A0 c0 l0 ∧ Gr_ w' A102 c103 h0 A104 c105 h1 ∧ Bx_ w' gb109 (.slice A102 h0.length c103) (.slice A104 h1.length c105))
 case atStart => exact ⟨fo,rfl,E6,HB,HP,G106,B110⟩
 case round =>
 clear E6 HB HP G106 B110
 obtain ⟨x32,rfl,E6,HB,HP,G106,B110⟩ := hrel
 cases gk with
 | zero => exact absurd E6.out (by simp [laws_FnBooking.scan])
 | succ k2 =>
 have H:=E6.out
 clear E6
 simp only [laws_FnBooking.scan] at H
 replace H:=scn_ H
 obtain ⟨rfl,hi,H⟩|⟨rfl,hi⟩|rfl := H
 ·replace H:=iq_ H
  obtain ⟨hj,H⟩ := H
  replace H:=iq_ H
  obtain ⟨hl,H⟩ := H
  replace H:=iq_ H
  obtain ⟨hm,H⟩ := H
  replace H:=ic_ H
  obtain ⟨_,H⟩|⟨hn,H⟩ := H
  ·cases H
  have E6:=am_ H
  clear H
  have hn_:=decide_eq_false hn
  clear hn
  have p1:=of_decide_eq_true hj
  have p2:=of_decide_eq_true hl
  have p3:=of_decide_eq_true hm
  obtain ⟨ad1,B1_,b1_,rfl,hx1,_,_⟩ := at_L2 G106.c x32 p1 p2
  obtain ⟨ad2,rfl,hx2⟩ := Kd.at_int G106.a x32 p1 p3
  replace p1:=eq_true p1
  replace p2:=eq_true p2
  replace p3:=eq_true p3
  have q140:=B110.q0
  have q141:=B110.q1
  go_wp2_with (fail)
  repeat (go_quiet (fail);try go_wp2)
  go_roundg k2
  case measure => omega
  case rel => exact ⟨_,rfl,E6,below_step HB (dr_ _ _),HP.below (dr_ _ _),G106.below (dr_ _ _),B110.below (dr_ _ _)⟩
 all_goals
  clear G106 B110
  have H:=E7.out
  clear E7 hne
  unfold laws_FnBooking.f3 at H
  replace H:=bn_ H
  obtain ⟨⟨k0,k1,u⟩,E1,H⟩ := H
  dsimp only at H
  replace H:=bn_ H
  obtain ⟨⟨s,tl⟩,E2,H⟩ := H
  dsimp only at H
  replace H:=bn_ H
  obtain ⟨⟨c1,c2,go⟩,E3,H⟩ := H
  dsimp only at H
  replace H:=bn_ H
  obtain ⟨⟨s2,kn⟩,E4,H⟩ := H
  dsimp only at H
  replace H:=bn_ H
  obtain ⟨⟨d1,d2,wa⟩,E5,H⟩ := H
  dsimp only at H
  replace H:=ip_ H
  obtain ⟨h1_,H⟩ := H
  replace H:=ip_ H
  obtain ⟨h2_,H⟩ := H
  replace H:=ip_ H
  obtain ⟨h3_,H⟩ := H
  replace H:=ip_ H
  obtain ⟨h4_,H⟩ := H
  have E6:=am_ H
  clear H
  have za_:=beq_iff_eq.mpr h1_
  have ya_:=bne_eq_false_iff_eq.mpr h1_
  have zb_:=beq_iff_eq.mpr h2_
  have yb_:=bne_eq_false_iff_eq.mpr h2_
  have zc_:=beq_iff_eq.mpr h3_
  have yc_:=bne_eq_false_iff_eq.mpr h3_
  have zd_:=beq_iff_eq.mpr h4_
  have yd_:=bne_eq_false_iff_eq.mpr h4_
  clear h1_ h2_ h3_ h4_
  go_wp2_with (first | ((with_reducible refine gate_callee (f:=19) rfl ?_);refine goesL_ (some 214) rfl rfl Try.func19 (by kernel_rfl) rfl #[.slice A0 l0.length c0] rfl (by (try simp only [List.map_toArray,List.map_cons,List.map_nil]);first | done | rfl) ?_;refine (spec_DrawTruckSlot.calls k _ _ l0 k0 k1 u _ HP.a HP.b E1.out).mono ?_;rintro e w201 ⟨v0_,v1_,rfl,ho0,ho1,hb⟩;refine ⟨_,rfl, ?_⟩;replace HB:=below_step HB hb;replace HP:=HP.below hb;clear hb;obtain ⟨A202,c203,rfl⟩ := Kd.R_slice ho0;obtain ⟨A204,c205,rfl,_⟩ := Kd.Q_slice ho1;have G206:=gr_Q ho0 ho1;clear ho0 ho1) | ((with_reducible refine gate_dst (N:=33) rfl ?_);refine box_event ?hg (N:=33) ?hd (cs:=#[.slice none 0 0, .slice none 0 0]) (t:=27) ?hr ?_;(case hd => rfl);(case hg => rfl);(case hr => (go_simp;done));intro gb209 hg w207 hx hb;have hG:=am_ hg;have hX:=am_ hx;have hB:=am_ hb;have hz0:=c2_0 hx;have hz1:=c2_1 hx;have hf0:=blk_frozen hx 0;have hf1:=blk_frozen hx 1;clear hg hx hb) | ((with_reducible refine gate_store (t:=27) (p:=33) rfl ?_);refine store_event (t:=27) (p:=33) (v:=?vo_w208) (w1:=((w207.setCell ⟨gb209,0,none⟩ (.slice A202 k0.length c203)).setCell ⟨gb209,1,none⟩ (.slice A204 k1.length c205))) ?hg ?ho ?hn ?hr ?_;(case ho => rfl);(case hg => rfl);(case hn => rfl);(case hr => (go_simp;done));intro w208 hw;clear hz0 hz1 hf0 hf1;obtain ⟨hb2,B210⟩ := put_ hG.out hX.out hB.out hw;clear hG hX hB hw;replace HB:=below_step HB hb2;replace HP:=HP.below hb2;replace G206:=G206.below hb2;clear hb2;have q211:=B210.q0;have q212:=B210.q1) | ((with_reducible refine gate_callee (f:=11) rfl ?_);refine goesL_ (some 220) rfl rfl Try.func11 (by kernel_rfl) rfl #[.agg #[.slice A202 k0.length c203, .slice A204 k1.length c205], .int .i64 u] rfl (by (try simp only [List.map_toArray,List.map_cons,List.map_nil]);first | done | rfl) ?_;refine (impl_TruckSlot.calls k _ _ k0 _ _ k1 u s tl _ G206.a G206.b G206.c G206.d E2.out).mono ?_;rintro e w213 ⟨rfl,hb⟩;refine ⟨_,rfl, ?_⟩;replace HB:=below_step HB hb;replace HP:=HP.below hb;replace G206:=G206.below hb;replace B210:=B210.below hb;clear hb;clear q211 q212;have q214:=B210.q0;have q215:=B210.q1) | ((with_reducible refine gate_callee (f:=12) rfl ?_);refine goesL_ (some 226) rfl rfl Try.func12 (by kernel_rfl) rfl #[.agg #[.slice A202 k0.length c203, .slice A204 k1.length c205], .int .i64 u] rfl (by (try simp only [List.map_toArray,List.map_cons,List.map_nil]);first | done | rfl) ?_;refine (impl_CancelTruck.calls k _ _ k0 _ _ k1 u c1 c2 go _ G206.a G206.b G206.c G206.d E3.out).mono ?_;rintro e w216 ⟨v0_,v1_,rfl,ho0,ho1,hb⟩;refine ⟨_,rfl, ?_⟩;replace HB:=below_step HB hb;replace HP:=HP.below hb;replace G206:=G206.below hb;replace B210:=B210.below hb;clear hb;obtain ⟨A217,c218,rfl⟩ := Kd.R_slice ho0;obtain ⟨A219,c220,rfl⟩ := Kd.S_slice ho1;have G221:=gr_S ho0 ho1;clear ho0 ho1;clear q214 q215) | ((with_reducible refine gate_dst (N:=37) rfl ?_);refine box_event ?hg (N:=37) ?hd (cs:=#[.slice none 0 0, .slice none 0 0]) (t:=27) ?hr ?_;(case hd => rfl);(case hg => rfl);(case hr => (go_simp;done));intro gb224 hg w222 hx hb;have hG:=am_ hg;have hX:=am_ hx;have hB:=am_ hb;have hz0:=c2_0 hx;have hz1:=c2_1 hx;have hf0:=blk_frozen hx 0;have hf1:=blk_frozen hx 1;clear hg hx hb) | ((with_reducible refine gate_store (t:=27) (p:=37) rfl ?_);refine store_event (t:=27) (p:=37) (v:=?vo_w223) (w1:=((w222.setCell ⟨gb224,0,none⟩ (.slice A217 c1.length c218)).setCell ⟨gb224,1,none⟩ (.slice A219 c2.length c220))) ?hg ?ho ?hn ?hr ?_;(case ho => rfl);(case hg => rfl);(case hn => rfl);(case hr => (go_simp;done));intro w223 hw;clear hz0 hz1 hf0 hf1;obtain ⟨hb2,B225⟩ := put_ hG.out hX.out hB.out hw;clear hG hX hB hw;replace HB:=below_step HB hb2;replace HP:=HP.below hb2;replace G206:=G206.below hb2;replace B210:=B210.below hb2;replace G221:=G221.below hb2;clear hb2;have q226:=B210.q0;have q227:=B210.q1) | ((with_reducible refine gate_callee (f:=20) rfl ?_);refine goesL_ (some 232) rfl rfl Try.func20 (by kernel_rfl) rfl #[.agg #[.slice A202 k0.length c203, .slice A204 k1.length c205], .int .i64 u] rfl (by (try simp only [List.map_toArray,List.map_cons,List.map_nil]);first | done | rfl) ?_;refine (spec_TruckSlot.calls k _ _ k0 _ _ k1 u s2 kn _ G206.a G206.b G206.c G206.d E4.out).mono ?_;rintro e w228 ⟨rfl,hb⟩;refine ⟨_,rfl, ?_⟩;replace HB:=below_step HB hb;replace HP:=HP.below hb;replace G206:=G206.below hb;replace B210:=B210.below hb;replace G221:=G221.below hb;replace B225:=B225.below hb;clear hb;clear q226 q227;have q229:=B210.q0;have q230:=B210.q1) | ((with_reducible refine gate_callee (f:=21) rfl ?_);refine goesL_ (some 238) rfl rfl Try.func21 (by kernel_rfl) rfl #[.agg #[.slice A202 k0.length c203, .slice A204 k1.length c205], .int .i64 u] rfl (by (try simp only [List.map_toArray,List.map_cons,List.map_nil]);first | done | rfl) ?_;refine (spec_CancelTruck.calls k _ _ k0 _ _ k1 u d1 d2 wa _ G206.a G206.b G206.c G206.d E5.out).mono ?_;rintro e w231 ⟨v0_,v1_,rfl,ho0,ho1,hb⟩;refine ⟨_,rfl, ?_⟩;replace HB:=below_step HB hb;replace HP:=HP.below hb;replace G206:=G206.below hb;replace B210:=B210.below hb;replace G221:=G221.below hb;replace B225:=B225.below hb;clear hb;obtain ⟨A232,c233,rfl⟩ := Kd.R_slice ho0;obtain ⟨A234,c235,rfl⟩ := Kd.S_slice ho1;have G236:=gr_S ho0 ho1;clear ho0 ho1;clear q229 q230) | ((with_reducible refine gate_dst (N:=41) rfl ?_);refine box_event ?hg (N:=41) ?hd (cs:=#[.slice none 0 0, .slice none 0 0]) (t:=27) ?hr ?_;(case hd => rfl);(case hg => rfl);(case hr => (go_simp;done));intro gb239 hg w237 hx hb;have hG:=am_ hg;have hX:=am_ hx;have hB:=am_ hb;have hz0:=c2_0 hx;have hz1:=c2_1 hx;have hf0:=blk_frozen hx 0;have hf1:=blk_frozen hx 1;clear hg hx hb) | ((with_reducible refine gate_store (t:=27) (p:=41) rfl ?_);refine store_event (t:=27) (p:=41) (v:=?vo_w238) (w1:=((w237.setCell ⟨gb239,0,none⟩ (.slice A232 d1.length c233)).setCell ⟨gb239,1,none⟩ (.slice A234 d2.length c235))) ?hg ?ho ?hn ?hr ?_;(case ho => rfl);(case hg => rfl);(case hn => rfl);(case hr => (go_simp;done));intro w238 hw;clear hz0 hz1 hf0 hf1;obtain ⟨hb2,B240⟩ := put_ hG.out hX.out hB.out hw;clear hG hX hB hw;replace HB:=below_step HB hb2;replace HP:=HP.below hb2;replace G206:=G206.below hb2;replace B210:=B210.below hb2;replace G221:=G221.below hb2;replace B225:=B225.below hb2;replace G236:=G236.below hb2;clear hb2;have q241:=B225.q0;have q242:=B225.q1;have q243:=B240.q0;have q244:=B240.q1) | (go_at_call 10;(with_reducible refine ca_ (args:=#[.agg #[.slice A217 c1.length c218, .slice A219 c2.length c220], .agg #[.slice A232 d1.length c233, .slice A234 d2.length c235]]) ?_);refine (laws_rGates.calls k _ _ c1 _ _ c2 _ _ d1 _ _ d2 r _ G221.a G221.b G221.c G221.d G236.a G236.b G236.c G236.d E6.out).mono ?_;rintro e w245 ⟨rfl,hb⟩;replace HB:=below_step HB hb;replace HP:=HP.below hb;replace G206:=G206.below hb;replace B210:=B210.below hb;replace G221:=G221.below hb;replace B225:=B225.below hb;replace G236:=G236.below hb;replace B240:=B240.below hb;clear hb;clear q241 q242 q243 q244))
  go_ret
  exact ⟨by first | rfl | (simp;done) | (simp [*];done),HB⟩
end Go.Proofs.Ytglfjaaaegfdnaa.PFnBooking
