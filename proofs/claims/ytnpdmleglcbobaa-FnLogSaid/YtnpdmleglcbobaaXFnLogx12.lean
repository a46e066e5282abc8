-- A printed text of this session (wip/x/xprint.py).
import Derived.Test.YtnpdmleglcbobaaXFnLogx0
import Derived.Test.YtnpdmleglcbobaaXFnLogx10
namespace Go.Proofs.Ytnpdmleglcbobaa.XFnLog
open Go.RowKit Go.Proofs.YtnpdmleglcbobaaW.PrintWords Go.Proofs.YtnpdmleglcbobaaW.PrintLast Go.Proofs.YtnpdmleglcbobaaW.PrintMore
attribute [local go_sem] max2_int min2_int max_two min_two max_three min_three max_four min_four   -- for this text's walks alone
set_option linter.unusedVariables false
set_option linter.unusedSimpArgs false

def fl11_ (n m : Nat) : Array Bool := ((List.range n).map fun i => m.testBit i).toArray

/-! ### F5: function 98 -/
mutual
def F5.j0 : Nat → List Int → Int → Int → Bool → Bool → Bool → List ByteArray → Int → Int → Option (Bool × Bool × Bool × List ByteArray × (List (S129)) × Int × Int × Int × Int)
 | 0, _, _, _, _, _, _, _, _, _ => none
 | k + 1, x1000, x1001, x1002, x446000, x446001, x446002, x446003, x446005, x446006 => (F1.f x1000 x1001 x1002 4).bind fun bt458 => (F5.l0 k bt458.1 x1000 bt458.2.1 bt458.2.2 x446000 x446001 x446002 x446003 ([] : List (S129)) x446005 x446006)
def F5.l0 : Nat → Int → List Int → Int → Int → Bool → Bool → Bool → List ByteArray → List (S129) → Int → Int → Option (Bool × Bool × Bool × List ByteArray × (List (S129)) × Int × Int × Int × Int)
 | 0, _, _, _, _, _, _, _, _, _, _, _ => none
 | k + 1, x4, x1000, x1001, x1002, x446000, x446001, x446002, x446003, x446004, x446005, x446006 => if x4 > 0 then ((some (([(⟨(⟨#[99, 97, 116]⟩ : ByteArray), (⟨#[102, 101, 108, 105, 110, 101]⟩ : ByteArray)⟩ : S129), (⟨(⟨#[114, 117, 110]⟩ : ByteArray), (⟨#[114, 117, 110, 110, 105, 110, 103]⟩ : ByteArray)⟩ : S129), (⟨(⟨#[104, 111, 117, 115, 101]⟩ : ByteArray), (⟨#[104, 111, 109, 101]⟩ : ByteArray)⟩ : S129), (⟨(⟨#[113, 117, 105, 99, 107]⟩ : ByteArray), (⟨#[102, 97, 115, 116]⟩ : ByteArray)⟩ : S129), (⟨(⟨#[114, 117, 110, 110, 105, 110, 103]⟩ : ByteArray), (⟨#[106, 111, 103]⟩ : ByteArray)⟩ : S129)] : List (S129)) : List (S129))).bind fun y461 => ((F1.f x1000 x1001 x1002 5).bind fun bt464 => (if 0 ≤ bt464.1 then (if bt464.1 < (y461.length : Int) then (if x446004.length < 4398046511104 then (F5.l0 k (wrap64 (x4 - 1)) x1000 bt464.2.1 bt464.2.2 x446000 x446001 x446002 x446003 (x446004 ++ [(⟨(rd_T129 y461 bt464.1).f0, (rd_T129 y461 bt464.1).f1⟩ : S129)]) x446005 x446006) else (none)) else (none)) else (none)))) else ((F15.f x1000 x1001 x1002 8).bind fun bt471 => (if bt471.1 = true then ((F1.f x1000 bt471.2.1 bt471.2.2 3).bind fun bt474 => ((F1.f x1000 bt474.2.1 bt474.2.2 2).bind fun bt477 => (some (x446000, x446001, x446002, x446003, x446004, wrap64 (1 + bt474.1), wrap64 ((wrap64 (1 + bt474.1)) + bt477.1), bt477.2.1, bt477.2.2)))) else (some (x446000, x446001, x446002, x446003, x446004, x446005, x446006, bt471.2.1, bt471.2.2))))
end
def F5.f (k : Nat) (s0_0 : List Int) (s0_1 : Int) (s0_2 : Int) : Option (Bool × Bool × Bool × List ByteArray × (List (S129)) × Int × Int × Int × Int) := (F15.f s0_0 s0_1 s0_2 4).bind fun bt436 => ((F15.f s0_0 bt436.2.1 bt436.2.2 2).bind fun bt439 => ((F15.f s0_0 bt439.2.1 bt439.2.2 10).bind fun bt442 => ((F15.f s0_0 bt442.2.1 bt442.2.2 2).bind fun bt446 => (if bt446.1 = true then ((some (([(⟨#[116, 104, 101]⟩ : ByteArray), (⟨#[111, 102]⟩ : ByteArray), (⟨#[97]⟩ : ByteArray), (⟨#[105, 116, 39, 115]⟩ : ByteArray)] : List ByteArray) : List ByteArray)).bind fun y449 => ((F1.f s0_0 bt446.2.1 bt446.2.2 4).bind fun bt452 => (if 0 ≤ (wrap64 (1 + bt452.1)) then (if (wrap64 (1 + bt452.1)) ≤ (y449.length : Int) then (F5.j0 k s0_0 bt452.2.1 bt452.2.2 (!bt436.1) bt439.1 bt442.1 (y449.take ((wrap64 (1 + bt452.1)) : Int).toNat) 0 0) else (none)) else (none)))) else (F5.j0 k s0_0 bt446.2.1 bt446.2.2 (!bt436.1) bt439.1 bt442.1 ([] : List ByteArray) 0 0)))))
theorem F5.mono_l : ∀ k, (∀ y0 y1 y2 y3 y4 y5 y6 y7 y8, LeO (F5.j0 k y0 y1 y2 y3 y4 y5 y6 y7 y8) (F5.j0 (k + 1) y0 y1 y2 y3 y4 y5 y6 y7 y8)) ∧ (∀ y0 y1 y2 y3 y4 y5 y6 y7 y8 y9 y10, LeO (F5.l0 k y0 y1 y2 y3 y4 y5 y6 y7 y8 y9 y10) (F5.l0 (k + 1) y0 y1 y2 y3 y4 y5 y6 y7 y8 y9 y10))
 | 0 => ⟨fun _ _ _ _ _ _ _ _ _ r h => by simp [F5.j0] at h, fun _ _ _ _ _ _ _ _ _ _ _ r h => by simp [F5.l0] at h⟩
 | k + 1 => by
  obtain ⟨ih0, ih1⟩ := F5.mono_l k
  refine ⟨?_, ?_⟩
  all_goals intros
  all_goals first | unfold F5.j0 | unfold F5.l0
  all_goals
   repeat' with_reducible first | exact ih0 _ _ _ _ _ _ _ _ _ | exact ih1 _ _ _ _ _ _ _ _ _ _ _ | exact LeO.refl _ | exact LeO.none _ | refine LeO.ite ?_ ?_ | refine LeO.bind ?_ (fun _ => ?_)
theorem F5.mono : ∀ a0 a1 a2 k, LeO (F5.f k a0 a1 a2) (F5.f (k + 1) a0 a1 a2) := by
 intro a0 a1 a2 k
 obtain ⟨ih0, ih1⟩ := F5.mono_l k
 unfold F5.f
 repeat' with_reducible first | exact ih0 _ _ _ _ _ _ _ _ _ | exact ih1 _ _ _ _ _ _ _ _ _ _ _ | exact LeO.refl _ | exact LeO.none _ | refine LeO.ite ?_ ?_ | refine LeO.bind ?_ (fun _ => ?_)
def F5.T7 : Bool × List (List Nat × List Nat) := (true, [([], []), ([0], [0]), ([], []), ([], []), ([], []), ([], []), ([], []), ([2, 3, 4, 5, 6], [2, 3, 4, 5, 6]), ([], []), ([8], [8]), ([7, 9], [7, 9]), ([10], [10]), ([11], [11]), ([1, 12, 9], [1, 12]), ([0, 1, 2, 3, 4, 5, 6, 7, 8, 9, 10, 11, 12, 13], []), ([14, 13, 13, 0, 1, 2, 3, 4, 5, 6, 7, 8, 9, 10, 11, 12, 13], [13, 14])])
def F5.B7 : List Nat := [0, 1, 0, 0, 0, 0, 0, 124, 0, 256, 1020, 2044, 4092, 8191, 16383, 32767]
theorem F5.tab7 : rtab .any (opsOf Try.f98 7) = F5.T7 := by kernel_rfl
theorem F5.bits7 : waitsOk F5.T7.2 F5.B7 = true := by kernel_rfl
set_option maxHeartbeats 8000000 in
set_option maxRecDepth 100000 in
theorem F5.calls (k : Nat) (g : Nat) (s0_0 : List Int) (s0_1 : Int) (s0_2 : Int) (r1 : Bool) (r2 : Bool) (r3 : Bool) (r4 : List ByteArray) (r5 : List (S129)) (r6 : Int) (r7 : Int) (r8 : Int) (r9 : Int) (w0 w : World) (hI : IsS106 w0 w g s0_0 s0_1 s0_2) (hB : Below w0.heap.size w0 w) (h : F5.f k s0_0 s0_1 s0_2 = some (r1, r2, r3, r4, r5, r6, r7, r8, r9)) :
 Calls Try.prog 98 #[.pointer (some ⟨g, 0, none⟩)] w fun e w' => ∃ v3_ v4_ : Value, e = .returned (.agg #[.bool r1, .bool r2, .bool r3, v3_, v4_, .int .i64 r6, .int .i64 r7]) ∧ Kd.R Kd.string 9 w' w.heap.size (fun _ => True) v3_ r4 ∧ Kd.R k129 129 w' w.heap.size (fun _ => True) v4_ r5 ∧ IsS106 w0 w' g s0_0 r8 r9 ∧ Below w0.heap.size w0 w' ∧ KeepBut w w' g none := by
 have hu124 := Try.underlying124
 have hu129 := Try.underlying129
 have HI0 := zm hI
 have HK := zm (KeepBut.refl w g none)
 have HL := zm hB.size
 clear hI
 have HW0 := zm hB.size
 have HB := zm hB
 clear hB
 have H := h
 unfold F5.f at H
 clear h
 replace H := zbi H
 obtain ⟨⟨t436, t437, t438⟩, A2, H⟩ := H
 try dsimp only at H
 replace H := zbi H
 obtain ⟨⟨t439, t440, t441⟩, A3, H⟩ := H
 try dsimp only at H
 replace H := zbi H
 obtain ⟨⟨t442, t443, t444⟩, A4, H⟩ := H
 try dsimp only at H
 replace H := zbi H
 obtain ⟨⟨t446, t447, t448⟩, A5, H⟩ := H
 try dsimp only at H
 have HC6 := zm H
 clear H
 go_enter Try.func98, Try.ntmps98
 go_upto_if 14 with (first | ((with_reducible refine gate_dst (N := 2) rfl ?_); refine box_event (by rfl) (N := 2) (by rfl) (cs := #[.bool false, .bool false, .bool false, .slice none 0 0, .slice none 0 0, .int .i64 0, .int .i64 0]) (t := 124) zgs ?_; intro gb435 hg w7 hbox hb; replace HB := zm (below_step (zj106 HB) hb); have BK435 := zm (hbox); have GW435 := zge hg (keep_size (w := w) (g := g) (row := none) (zk HK)); have GE435 := zm ((Nat.le_trans HW0.out (by rw [hg]; exact (keep_size (w := w) (g := g) (row := none) (zk HK)) : w.heap.size ≤ gb435) : w0.heap.size ≤ gb435)); replace HK := zkB HK hb; obtain ⟨NB0_435, NB435_0⟩ := znn hg (IsS106.lt (show IsS106 w0 _ g s0_0 s0_1 s0_2 from zi106 HI0)); replace HI0 := zm (IsS106.below (zi106 HI0) hb); clear hb hbox hg) | ((with_reducible refine gate_callee (f := 80) rfl ?_); refine zgl 6 Try.func80 #[.pointer (some ⟨g, 0, none⟩), .int .i64 4] ?_; refine (F15.calls g s0_0 s0_1 s0_2 4 t436 t437 t438 w0 _ (zi106 HI0) (zj106 HB) A2.out).mono ?_; rintro e w8 ⟨rfl, hi, hb, hk⟩; refine ⟨_, rfl, ?_⟩; replace BK435 := zkb BK435 NB435_0 hk; replace HK := zkt HK hk; replace HB := zm (hb); replace HI0 := zm (hi); (try clear hb hk hi)) | ((with_reducible refine gate_callee (f := 80) rfl ?_); refine zgl 9 Try.func80 #[.pointer (some ⟨g, 0, none⟩), .int .i64 2] ?_; refine (F15.calls g s0_0 t437 t438 2 t439 t440 t441 w0 _ (zi106 HI0) (zj106 HB) A3.out).mono ?_; rintro e w9 ⟨rfl, hi, hb, hk⟩; refine ⟨_, rfl, ?_⟩; replace BK435 := zkb BK435 NB435_0 hk; replace HK := zkt HK hk; replace HB := zm (hb); replace HI0 := zm (hi); (try clear hb hk hi)) | ((with_reducible refine gate_callee (f := 80) rfl ?_); refine zgl 11 Try.func80 #[.pointer (some ⟨g, 0, none⟩), .int .i64 10] ?_; refine (F15.calls g s0_0 t440 t441 10 t442 t443 t444 w0 _ (zi106 HI0) (zj106 HB) A4.out).mono ?_; rintro e w10 ⟨rfl, hi, hb, hk⟩; refine ⟨_, rfl, ?_⟩; replace BK435 := zkb BK435 NB435_0 hk; replace HK := zkt HK hk; replace HB := zm (hb); replace HI0 := zm (hi); (try clear hb hk hi)) | ((with_reducible refine gate_dst (N := 3) rfl ?_); refine box_event (by rfl) (N := 3) (by rfl) (cs := #[.bool false, .bool false, .bool false, .slice none 0 0, .slice none 0 0, .int .i64 0, .int .i64 0]) (t := 124) zgs ?_; intro gb445 hg w11 hbox hb; replace HB := zm (below_step (zj106 HB) hb); have BK445 := zm (hbox); have GW445 := zge hg (keep_size (w := w) (g := g) (row := none) (zk HK)); have GE445 := zm ((Nat.le_trans HW0.out (by rw [hg]; exact (keep_size (w := w) (g := g) (row := none) (zk HK)) : w.heap.size ≤ gb445) : w0.heap.size ≤ gb445)); replace HK := zkB HK hb; obtain ⟨NB435_445, NB445_435⟩ := znn hg (blk_lt (zb BK435)); replace BK435 := zbb BK435 hb; obtain ⟨NB0_445, NB445_0⟩ := znn hg (IsS106.lt (show IsS106 w0 _ g s0_0 t443 t444 from zi106 HI0)); replace HI0 := zm (IsS106.below (zi106 HI0) hb); clear hb hbox hg; obtain ⟨_, _⟩ := zne NB445_435; obtain ⟨_, _⟩ := zne NB445_0; obtain ⟨⟨hcz14_0, hcz14_1, hcz14_2, hcz14_3, hcz14_4, hcz14_5, hcz14_6⟩, hfz14_0, hfz14_1, hfz14_2, hfz14_3, hfz14_4, hfz14_5, hfz14_6⟩ := zc7 BK445) | ((with_reducible refine gate_callee (f := 80) rfl ?_); refine zgl 14 Try.func80 #[.pointer (some ⟨g, 0, none⟩), .int .i64 2] ?_; refine (F15.calls g s0_0 t443 t444 2 t446 t447 t448 w0 _ (zi106 HI0) (zj106 HB) A5.out).mono ?_; rintro e w15 ⟨rfl, hi, hb, hk⟩; refine ⟨_, rfl, ?_⟩; replace BK435 := zm (KeepBut.blk hk (g' := gb435) (o := .cells #[.bool false, .bool false, .bool false, .slice none 0 0, .slice none 0 0, .int .i64 0, .int .i64 0] 124 (0, 0)) (zp BK435) NB435_0.out (by simp)); replace BK445 := zm (KeepBut.blk hk (g' := gb445) (o := .cells #[.bool (!t436), .bool t439, .bool t442, .slice none 0 0, .slice none 0 0, .int .i64 0, .int .i64 0] 124 (0, 0)) (zp BK445) NB445_0.out (by simp)); replace HK := zkt HK hk; replace HB := zm (hb); replace HI0 := zm (hi); (try clear hb hk hi)))
 (try simp only [Act.put, List.setIfInBounds_toArray, List.set_cons_zero, List.set_cons_succ])
 go_cut [] (fun wc => ∃ (kq : Nat) (x1001_5 : Int) (x1002_5 : Int) (x446003_5 : List ByteArray) (u446003 : Value), Aside0 (F5.j0 kq s0_0 x1001_5 x1002_5 (!t436) t439 t442 x446003_5 0 0 = some (r1, r2, r3, r4, r5, r6, r7, r8, r9)) ∧ Aside0 (kq ≤ k) ∧ Aside0 (Kd.R Kd.string 9 wc w.heap.size (fun _ => True) u446003 x446003_5) ∧ Aside0 (wc.heap[gb435]? = some (.cells #[.bool false, .bool false, .bool false, (.slice none 0 0), (.slice none 0 0), .int .i64 0, .int .i64 0] 124 (0, 0))) ∧ Aside0 (wc.heap[gb445]? = some (.cells #[.bool (!t436), .bool t439, .bool t442, u446003, (.slice none 0 0), .int .i64 0, .int .i64 0] 124 (0, 0))) ∧ Aside0 (IsS106 w0 wc g s0_0 x1001_5 x1002_5) ∧ Aside0 (KeepBut w wc g none) ∧ Aside0 (Below w0.heap.size w0 wc))
 case first =>
  have H := HC6.out
  clear HC6
  by_cases c16 : t446 = true
  rotate_left
  ·replace c16 := Bool.eq_false_iff.mpr c16
   subst c16
   rw [if_neg (show ¬ (false = true) by decide)] at H
   have H' := zm H
   clear H
   go_wp2
   go_meet
   case rel => exact ⟨_, (t447), (t448), (([] : List ByteArray)), (.slice none 0 0), H', ⟨by first | omega | exact Nat.le_refl _⟩, ⟨by first | exact Kd.R_nil _ _ _ _ _ | exact Kd.N_nil _ _ _ _ _ | exact Kd.V_nil _ _ _ _ _ | exact Kd.Q_nil _ _ _ _ _ | exact Kd.S_nil _ _ _ _ _⟩, ⟨zb BK435⟩, ⟨zb BK445⟩, ⟨zi106 HI0⟩, ⟨zk HK⟩, ⟨zj106 HB⟩⟩
  subst c16
  rw [if_pos rfl] at H
  obtain ⟨y449, hy449⟩ : ∃ y_ : List ByteArray, y_ = (([(⟨#[116, 104, 101]⟩ : ByteArray), (⟨#[111, 102]⟩ : ByteArray), (⟨#[97]⟩ : ByteArray), (⟨#[105, 116, 39, 115]⟩ : ByteArray)] : List ByteArray)) := ⟨_, rfl⟩
  replace H : ((F1.f s0_0 t447 t448 4).bind fun bt452 => (if 0 ≤ (wrap64 (1 + bt452.1)) then (if (wrap64 (1 + bt452.1)) ≤ (y449.length : Int) then (F5.j0 k s0_0 bt452.2.1 bt452.2.2 (!t436) t439 t442 (y449.take ((wrap64 (1 + bt452.1)) : Int).toNat) 0 0) else (none)) else (none))) = some (r1, r2, r3, r4, r5, r6, r7, r8, r9) := zby hy449 H
  have Ny449 := zm hy449
  clear hy449
  replace H := zbi H
  obtain ⟨⟨t452, t453, t454⟩, A17, H⟩ := H
  try dsimp only at H
  obtain ⟨ji18, hji18⟩ : ∃ j_ : Int, (wrap64 (1 + t452)) = j_ := ⟨_, rfl⟩
  replace H : (if 0 ≤ (ji18) then (if (ji18) ≤ (y449.length : Int) then (F5.j0 k s0_0 t453 t454 (!t436) t439 t442 (y449.take ((ji18) : Int).toNat) 0 0) else (none)) else (none)) = some (r1, r2, r3, r4, r5, r6, r7, r8, r9) := by first | (rw [hji18] at H; exact H) | (simp only [hji18] at H ⊢; exact H)
  (try rw [hji18] at A17)
  have hji18w : (IntKind.i64.wrap (1 + t452)) = ji18 := (i64_w _).trans hji18
  replace H := zif H
  obtain ⟨c19, H⟩ := H
  have c19b0 := eq_true c19
  have c19b1 := decide_eq_true c19
  clear c19
  replace H := zif H
  obtain ⟨c20, H⟩ := H
  have c20b0 := eq_true c20
  have c20b1 := decide_eq_true c20
  clear c20
  obtain ⟨y455, hy455⟩ : ∃ y_ : List ByteArray, y_ = (y449.take ((ji18) : Int).toNat) := ⟨_, rfl⟩
  replace H : (F5.j0 k s0_0 t453 t454 (!t436) t439 t442 y455 0 0) = some (r1, r2, r3, r4, r5, r6, r7, r8, r9) := zby hy455 H
  have Ny455 := zm hy455
  clear hy455
  have H' := zm H
  clear H
  go_wp2_with (first | ((with_reducible refine gate_dst (N := 15) rfl ?_); refine Kd.R_lit Kd.string _ 9 ?hg (N := 15) ?hd (xs := ([(⟨#[116, 104, 101]⟩ : ByteArray), (⟨#[111, 102]⟩ : ByteArray), (⟨#[97]⟩ : ByteArray), (⟨#[105, 116, 39, 115]⟩ : ByteArray)] : List ByteArray)) (inner := [.string (⟨#[116, 104, 101]⟩ : ByteArray), .string (⟨#[111, 102]⟩ : ByteArray), .string (⟨#[97]⟩ : ByteArray), .string (⟨#[105, 116, 39, 115]⟩ : ByteArray)]) (ok := fun _ => True) (okp := fun _ => True) ?hr ?hp (fun _ hk => hk) trivial (Below.refl _ _) (Nat.le_refl _) (by simp) ?_; (case hd => rfl); (case hg => rfl); (case hr => first | (go_simp; done) | (go_simp; rfl)); (case hp => exact (Reps.one (show Kd.M Kd.string _ _ _ (⟨#[116, 104, 101]⟩ : ByteArray) [.string (⟨#[116, 104, 101]⟩ : ByteArray)] from rfl) (Reps.one (show Kd.M Kd.string _ _ _ (⟨#[111, 102]⟩ : ByteArray) [.string (⟨#[111, 102]⟩ : ByteArray)] from rfl) (Reps.one (show Kd.M Kd.string _ _ _ (⟨#[97]⟩ : ByteArray) [.string (⟨#[97]⟩ : ByteArray)] from rfl) (Reps.one (show Kd.M Kd.string _ _ _ (⟨#[105, 116, 39, 115]⟩ : ByteArray) [.string (⟨#[105, 116, 39, 115]⟩ : ByteArray)] from rfl) (Reps.none _ _)))))); intro v450 w21 ho22 hb hg_ hnew_; clear hg_ hnew_; (first | rw [← Ny449.out] at ho22 | (simp only [Int.reduceToNat] at ho22; rw [← Ny449.out] at ho22)); have HO451 := zm (Kd.R_lower ho22 (keep_size (w := w) (g := g) (row := none) (zk HK))); replace HI0 := zm (IsS106.below (zi106 HI0) hb); replace BK435 := zbb BK435 hb; replace BK445 := zbb BK445 hb; replace HK := zkB HK hb; replace HB := zm (below_step (zj106 HB) hb); clear hb ho22) | ((with_reducible refine gate_callee (f := 55) rfl ?_); refine zgl 17 Try.func55 #[.pointer (some ⟨g, 0, none⟩), .int .i64 4] ?_; refine (F1.calls g s0_0 t447 t448 4 t452 t453 t454 w0 _ (zi106 HI0) (zj106 HB) A17.out).mono ?_; rintro e w23 ⟨rfl, hi, hb, hk⟩; refine ⟨_, rfl, ?_⟩; replace BK435 := zkb BK435 NB435_0 hk; replace BK445 := zkb BK445 NB445_0 hk; replace HO451 := zKR106 HI0 HO451 hk; replace HK := zkt HK hk; replace HB := zm (hb); replace HI0 := zm (hi); (try clear hb hk hi); obtain ⟨Ao24, co24, eo24⟩ := Kd.R_slice HO451.out; subst eo24; have q25 : ((ji18) : Int) ≤ ((y449.length : Int) : Int) := of_decide_eq_true zas; obtain ⟨i025, hi025, _, hsz25, _⟩ := info_parts info9; have hcut25 := cut_to (P := Try.prog) 64 9 .i64 Try.underlying64 hi025 Ao24 y449.length co24 (ji18) (of_decide_eq_true zas) q25 (Kd.R_reads' HO451.out).2.1; have hr25 := Kd.R_take (m := ((ji18) : Int).toNat) HO451.out (by omega); have hy25 : y455.length = ((ji18) : Int).toNat := (by rw [Ny455.out, List.length_take]; omega); rw [← Ny455.out] at hr25; rw [← hy25] at hr25 hcut25; clear hy25 hi025 hsz25 HO451; have HO457 := zm hr25; clear hr25; replace q25 := eq_true q25; obtain ⟨_, _⟩ := zne NB445_435; obtain ⟨_, _⟩ := zne NB445_0; obtain ⟨⟨_, _, _, _, _, _, _⟩, _, _, _, _, _, _, _⟩ := zc7 BK445))
  go_meet
  case rel => exact ⟨_, (t453), (t454), (y455), (.slice Ao24 y455.length co24), H', ⟨by first | omega | exact Nat.le_refl _⟩, ⟨by (with_reducible repeat (first | apply Kd.R_alloc | apply Kd.R_drewN | apply Kd.R_drew)); exact Kd.R_mono (Kd.R_far (p := ⟨gb445, 3, none⟩) (Kd.R_types HO457.out BK445.out (by decide)) (fun _ hk => hk.2) (.slice Ao24 y455.length co24)) (fun _ hk => trivial)⟩, ⟨zp BK435⟩, ⟨zp BK445⟩, ⟨zi106 HI0⟩, ⟨zk HK⟩, ⟨zj106 HB⟩⟩
 case rest =>
  clear HC6
  try clear hcz14_0 hcz14_1 hcz14_2 hcz14_3 hcz14_4 hcz14_5 hcz14_6
  try clear hfz14_0 hfz14_1 hfz14_2 hfz14_3 hfz14_4 hfz14_5 hfz14_6
  obtain ⟨kq, x1001_5, x1002_5, x446003_5, u446003, HA, HJ5, HO_446003, BK435, BK445, HI0, HK, HB⟩ := hcut
  cases kq with
  | zero => exact absurd HA.out (by simp [F5.j0])
  | succ kj5 =>
   have H := HA.out
   clear HA
   simp only [F5.j0] at H
   replace H := zbi H
   obtain ⟨⟨t458, t459, t460⟩, A29, H⟩ := H
   try dsimp only at H
   have H' := zm H
   clear H
   go_wp2_with (first | ((with_reducible refine gate_callee (f := 55) rfl ?_); refine zgl 22 Try.func55 #[.pointer (some ⟨g, 0, none⟩), .int .i64 4] ?_; refine (F1.calls g s0_0 x1001_5 x1002_5 4 t458 t459 t460 w0 _ (zi106 HI0) (zj106 HB) A29.out).mono ?_; rintro e w30 ⟨rfl, hi, hb, hk⟩; refine ⟨_, rfl, ?_⟩; replace HO_446003 := zKR106 HI0 HO_446003 hk; replace BK435 := zkb BK435 NB435_0 hk; replace BK445 := zkb BK445 NB445_0 hk; replace HK := zkt HK hk; replace HB := zm (hb); replace HI0 := zm (hi); (try clear hb hk hi)))
   go_loopg [4] kj5 (fun kq v4 w' => ∃ (x4_2 : Int) (x1001_2 : Int) (x1002_2 : Int) (x446004_2 : List (S129)) (u446004 : Value), v4 = .int .i64 x4_2 ∧ Aside0 (F5.l0 kq x4_2 s0_0 x1001_2 x1002_2 (!t436) t439 t442 x446003_5 x446004_2 0 0 = some (r1, r2, r3, r4, r5, r6, r7, r8, r9)) ∧ Aside0 (kq ≤ kj5) ∧ Aside0 (Kd.R Kd.string 9 w' w.heap.size (fun _ => True) u446003 x446003_5) ∧ Aside0 (Kd.R k129 129 w' w.heap.size (fun _ => True) u446004 x446004_2) ∧ Aside0 (w'.heap[gb435]? = some (.cells #[.bool false, .bool false, .bool false, (.slice none 0 0), (.slice none 0 0), .int .i64 0, .int .i64 0] 124 (0, 0))) ∧ Aside0 (w'.heap[gb445]? = some (.cells #[.bool (!t436), .bool t439, .bool t442, u446003, u446004, .int .i64 0, .int .i64 0] 124 (0, 0))) ∧ Aside0 (IsS106 w0 w' g s0_0 x1001_2 x1002_2) ∧ Aside0 (KeepBut w w' g none) ∧ Aside0 (Below w0.heap.size w0 w'))
   case atStart => exact ⟨(t458), (t459), (t460), (([] : List (S129))), (.slice none 0 0), zrs, H', ⟨Nat.le_refl _⟩, ⟨zr HO_446003⟩, ⟨by first | exact Kd.R_nil _ _ _ _ _ | exact Kd.N_nil _ _ _ _ _ | exact Kd.V_nil _ _ _ _ _ | exact Kd.Q_nil _ _ _ _ _ | exact Kd.S_nil _ _ _ _ _⟩, ⟨zb BK435⟩, ⟨zb BK445⟩, ⟨zi106 HI0⟩, ⟨zk HK⟩, ⟨zj106 HB⟩⟩
   case round =>
    clear H'
    try clear hcz14_0 hcz14_1 hcz14_2 hcz14_3 hcz14_4 hcz14_5 hcz14_6
    try clear hfz14_0 hfz14_1 hfz14_2 hfz14_3 hfz14_4 hfz14_5 hfz14_6
    obtain ⟨x4_2, x1001_2, x1002_2, x446004_2, u446004, rfl, HA, HK2, HO_446003, HO_446004, BK435, BK445, HI0, HK, HB⟩ := hrel
    cases gk with
    | zero => exact absurd HA.out (by simp [F5.l0])
    | succ k2 =>
     have H := HA.out
     clear HA
     simp only [F5.l0] at H
     by_cases c31 : x4_2 > 0
     rotate_left
     ·rw [if_neg c31] at H
      have c31b0 := decide_eq_false c31
      clear c31
      replace H := zbi H
      obtain ⟨⟨t471, t472, t473⟩, A47, H⟩ := H
      try dsimp only at H
      by_cases c48 : t471 = true
      rotate_left
      ·replace c48 := Bool.eq_false_iff.mpr c48
       subst c48
       rw [if_neg (show ¬ (false = true) by decide)] at H
       simp only [Option.some.injEq, Prod.mk.injEq] at H
       obtain ⟨rfl, rfl, rfl, rfl, rfl, rfl, rfl, rfl, rfl⟩ := H
       go_wp2_with (first | ((with_reducible refine gate_callee (f := 80) rfl ?_); refine zgl 43 Try.func80 #[.pointer (some ⟨g, 0, none⟩), .int .i64 8] ?_; refine (F15.calls g s0_0 x1001_2 x1002_2 8 false t472 t473 w0 _ (zi106 HI0) (zj106 HB) A47.out).mono ?_; rintro e w65 ⟨rfl, hi, hb, hk⟩; refine ⟨_, rfl, ?_⟩; replace HO_446003 := zKR106 HI0 HO_446003 hk; replace HO_446004 := zKR106 HI0 HO_446004 hk; replace BK435 := zkb BK435 NB435_0 hk; replace BK445 := zkb BK445 NB445_0 hk; replace HK := zkt HK hk; replace HB := zm (hb); replace HI0 := zm (hi); (try clear hb hk hi); obtain ⟨_, _⟩ := zne NB445_435; obtain ⟨_, _⟩ := zne NB445_0; obtain ⟨⟨_, _, _, _, _, _, _⟩, _, _, _, _, _, _, _⟩ := zc7 BK445; obtain ⟨_, _⟩ := zne NB435_0; obtain ⟨⟨_, _, _, _, _, _, _⟩, _, _, _, _, _, _, _⟩ := zc7 BK435; obtain ⟨Ao71, co71, eo71⟩ := Kd.R_slice HO_446003.out; subst eo71; obtain ⟨Ao72, co72, eo72⟩ := Kd.R_slice HO_446004.out; subst eo72))
       refine bodyPost_ret (results_cell_row rfl _ _ gb435 124 #[.bool (!t436), .bool t439, .bool t442, .slice Ao71 x446003_5.length co71, .slice Ao72 x446004_2.length co72, .int .i64 0, .int .i64 0] (0, 0) _ rfl (zp BK435) Try.underlying124 rfl (by kernel_rfl)) rfl ?_
       exact ⟨_, _, zre, by (with_reducible repeat (first | apply Kd.R_alloc | apply Kd.R_drewN | apply Kd.R_drew)); exact Kd.R_mono (Kd.R_far (p := ⟨gb435, 6, none⟩) (Kd.R_far (p := ⟨gb435, 5, none⟩) (Kd.R_far (p := ⟨gb435, 4, none⟩) (Kd.R_far (p := ⟨gb435, 3, none⟩) (Kd.R_far (p := ⟨gb435, 2, none⟩) (Kd.R_far (p := ⟨gb435, 1, none⟩) (Kd.R_far (p := ⟨gb435, 0, none⟩) (Kd.R_types HO_446003.out BK435.out (by decide)) (fun _ hk => hk.2) (.bool (!t436))) (fun _ hk => hk.2) (.bool t439)) (fun _ hk => hk.2) (.bool t442)) (fun _ hk => hk.2) (.slice Ao71 x446003_5.length co71)) (fun _ hk => hk.2) (.slice Ao72 x446004_2.length co72)) (fun _ hk => hk.2) (.int .i64 0)) (fun _ hk => hk.2) (.int .i64 0)) (fun _ hk => trivial), zxR (Kd.R_mono (Kd.R_far (p := ⟨gb435, 6, none⟩) (Kd.R_far (p := ⟨gb435, 5, none⟩) (Kd.R_far (p := ⟨gb435, 4, none⟩) (Kd.R_far (p := ⟨gb435, 3, none⟩) (Kd.R_far (p := ⟨gb435, 2, none⟩) (Kd.R_far (p := ⟨gb435, 1, none⟩) (Kd.R_far (p := ⟨gb435, 0, none⟩) (Kd.R_types HO_446004.out BK435.out (by decide)) (fun _ hk => hk.2) (.bool (!t436))) (fun _ hk => hk.2) (.bool t439)) (fun _ hk => hk.2) (.bool t442)) (fun _ hk => hk.2) (.slice Ao71 x446003_5.length co71)) (fun _ hk => hk.2) (.slice Ao72 x446004_2.length co72)) (fun _ hk => hk.2) (.int .i64 0)) (fun _ hk => hk.2) (.int .i64 0)) (fun _ hk => trivial)), zi106 HI0, zj106 HB, zk HK⟩

      subst c48
      rw [if_pos rfl] at H
      replace H := zbi H
      obtain ⟨⟨t474, t475, t476⟩, A49, H⟩ := H
      try dsimp only at H
      replace H := zbi H
      obtain ⟨⟨t477, t478, t479⟩, A50, H⟩ := H
      try dsimp only at H
      simp only [Option.some.injEq, Prod.mk.injEq] at H
      obtain ⟨rfl, rfl, rfl, rfl, rfl, rfl, rfl, rfl, rfl⟩ := H
      try go_wp2_with (first | ((with_reducible refine gate_callee (f := 80) rfl ?_); refine zgl 43 Try.func80 #[.pointer (some ⟨g, 0, none⟩), .int .i64 8] ?_; refine (F15.calls g s0_0 x1001_2 x1002_2 8 true t472 t473 w0 _ (zi106 HI0) (zj106 HB) A47.out).mono ?_; rintro e w51 ⟨rfl, hi, hb, hk⟩; refine ⟨_, rfl, ?_⟩; replace HO_446003 := zKR106 HI0 HO_446003 hk; replace HO_446004 := zKR106 HI0 HO_446004 hk; replace BK435 := zkb BK435 NB435_0 hk; replace BK445 := zkb BK445 NB445_0 hk; replace HK := zkt HK hk; replace HB := zm (hb); replace HI0 := zm (hi); (try clear hb hk hi)) | ((with_reducible refine gate_callee (f := 55) rfl ?_); refine zgl 45 Try.func55 #[.pointer (some ⟨g, 0, none⟩), .int .i64 3] ?_; refine (F1.calls g s0_0 t472 t473 3 t474 t475 t476 w0 _ (zi106 HI0) (zj106 HB) A49.out).mono ?_; rintro e w52 ⟨rfl, hi, hb, hk⟩; refine ⟨_, rfl, ?_⟩; replace HO_446003 := zKR106 HI0 HO_446003 hk; replace HO_446004 := zKR106 HI0 HO_446004 hk; replace BK435 := zkb BK435 NB435_0 hk; replace BK445 := zkb BK445 NB445_0 hk; replace HK := zkt HK hk; replace HB := zm (hb); replace HI0 := zm (hi); (try clear hb hk hi); obtain ⟨_, _⟩ := zne NB445_435; obtain ⟨_, _⟩ := zne NB445_0; obtain ⟨⟨_, _, _, _, _, _, _⟩, _, _, _, _, _, _, _⟩ := zc7 BK445))
      have n0_ : Aside0 (Kd.R Kd.string 9 (w52.setCell ⟨gb445, 5, none⟩ (.int .i64 (wrap64 (1 + t474)))) w.heap.size (fun _ => True) u446003 x446003_5) := ⟨by (with_reducible repeat (first | apply Kd.R_alloc | apply Kd.R_drewN | apply Kd.R_drew)); exact Kd.R_mono (Kd.R_far (p := ⟨gb445, 5, none⟩) (Kd.R_types HO_446003.out BK445.out (by decide)) (fun _ hk => hk.2) (.int .i64 (wrap64 (1 + t474)))) (fun _ hk => trivial)⟩
      have n1_ : Aside0 (Kd.R k129 129 (w52.setCell ⟨gb445, 5, none⟩ (.int .i64 (wrap64 (1 + t474)))) w.heap.size (fun _ => True) u446004 x446004_2) := ⟨by (with_reducible repeat (first | apply Kd.R_alloc | apply Kd.R_drewN | apply Kd.R_drew)); exact Kd.R_mono (Kd.R_far (p := ⟨gb445, 5, none⟩) (Kd.R_types HO_446004.out BK445.out (by decide)) (fun _ hk => hk.2) (.int .i64 (wrap64 (1 + t474)))) (fun _ hk => trivial)⟩
      have n2_ : Aside0 ((w52.setCell ⟨gb445, 5, none⟩ (.int .i64 (wrap64 (1 + t474)))).heap[gb435]? = some (.cells #[.bool false, .bool false, .bool false, .slice none 0 0, .slice none 0 0, .int .i64 0, .int .i64 0] 124 (0, 0))) := ⟨zp BK435⟩
      have n3_ : Aside0 ((w52.setCell ⟨gb445, 5, none⟩ (.int .i64 (wrap64 (1 + t474)))).heap[gb445]? = some (.cells #[.bool (!t436), .bool t439, .bool t442, u446003, u446004, .int .i64 (wrap64 (1 + t474)), .int .i64 0] 124 (0, 0))) := ⟨zp BK445⟩
      have n4_ : Aside0 (IsS106 w0 (w52.setCell ⟨gb445, 5, none⟩ (.int .i64 (wrap64 (1 + t474)))) g s0_0 t475 t476) := ⟨zi106 HI0⟩
      have n5_ : Aside0 (KeepBut w (w52.setCell ⟨gb445, 5, none⟩ (.int .i64 (wrap64 (1 + t474)))) g none) := ⟨zk HK⟩
      have n6_ : Aside0 (Below w0.heap.size w0 (w52.setCell ⟨gb445, 5, none⟩ (.int .i64 (wrap64 (1 + t474))))) := ⟨zj106 HB⟩
      (try clear HO_446003)
      (try clear HO_446004)
      (try clear BK435)
      (try clear BK445)
      (try clear HI0)
      (try clear HK)
      (try clear HB)
      generalize (w52.setCell ⟨gb445, 5, none⟩ (.int .i64 (wrap64 (1 + t474)))) = w56 at n0_ n1_ n2_ n3_ n4_ n5_ n6_ ⊢
      have HO_446003 := n0_
      have HO_446004 := n1_
      have BK435 := n2_
      have BK445 := n3_
      have HI0 := n4_
      have HK := n5_
      have HB := n6_
      clear n0_ n1_ n2_ n3_ n4_ n5_ n6_
      replace HO_446003 := zm (Kd.R_drew HO_446003.out)
      replace HO_446004 := zm (Kd.R_drew HO_446004.out)
      replace BK435 := zm (blk_drew BK435.out)
      replace BK445 := zm (blk_drew BK445.out)
      replace HI0 := zm (IsS106.drew HI0.out)
      replace HK := zm (keep_drew HK.out)
      replace HB := zm (below_drew1 HB.out)
      refine start_ (n := 7) (S := fun w' => w'.cell? ⟨gb445, 0, none⟩ = some (.bool (!t436)) ∧ w'.cell? ⟨gb445, 1, none⟩ = some (.bool t439) ∧ w'.cell? ⟨gb445, 2, none⟩ = some (.bool t442) ∧ w'.cell? ⟨gb445, 3, none⟩ = some (u446003) ∧ w'.cell? ⟨gb445, 4, none⟩ = some (u446004) ∧ w'.cell? ⟨gb445, 5, none⟩ = some (.int .i64 (wrap64 (1 + t474))) ∧ w'.cell? ⟨gb445, 6, none⟩ = some (.int .i64 0)) (ds := [6]) #[false, false, false, false, false, false, false] (by kernel_rfl) rfl rfl ⟨zd BK445 0, zd BK445 1, zd BK445 2, zd BK445 3, zd BK445 4, zd BK445 5, zd BK445 6⟩ (fun hHeld => ?_)
      generalize w56.drew = w57 at HO_446003 HO_446004 BK435 BK445 HI0 HK HB hHeld ⊢
      refine pure_ (i := 0) (N := some 48) (v := ?_) (a' := ?_) #[true, false, false, false, false, false, false] rfl rfl (by kernel_rfl) (fun _ _ _ h => h) (Or.inl ⟨by rfl, ?_⟩) ?_ ?_
      rotate_left
      ·intro w'
       go_simp
       with_reducible rfl
      rotate_left
      ·simp only [Act.put, List.setIfInBounds_toArray, List.set_cons_zero, List.set_cons_succ, i64_w, i32_w]
       rfl
      refine pure_ (i := 2) (N := some 50) (v := ?_) (a' := ?_) #[true, false, true, false, false, false, false] rfl rfl (by kernel_rfl) (fun _ _ _ h => h) (Or.inl ⟨by rfl, ?_⟩) ?_ ?_
      rotate_left
      ·intro w'
       go_simp
       with_reducible rfl
      rotate_left
      ·simp only [Act.put, List.setIfInBounds_toArray, List.set_cons_zero, List.set_cons_succ, i64_w, i32_w]
       rfl
      refine take_ (i := 1) (N := some 49) (v := ?_) (a' := ?_) #[true, true, true, false, false, false, false] rfl rfl (by kernel_rfl) (fun _ _ _ h => h) (Or.inl ⟨by rfl, ?_⟩) hHeld ?_ ?_
      rotate_left
      ·rintro w' ⟨s0, s1, s2, s3, s4, s5, s6⟩
       go_simp
       with_reducible rfl
      rotate_left
      ·simp only [Act.put, List.setIfInBounds_toArray, List.set_cons_zero, List.set_cons_succ, i64_w, i32_w]
       rfl
      refine one_ (i := 3) (N := some 51) #[true, true, true, true, false, false, false] rfl rfl (by kernel_rfl) (by decide) (fun K hK => ?_)
      refine goes_ Try.func55 (by kernel_rfl) rfl #[.pointer (some ⟨g, 0, none⟩), .int .i64 2] (by rfl) rfl rfl zar ?_
      refine (F1.calls g s0_0 t475 t476 2 t477 t478 t479 w0 _ (zi106 HI0) (zj106 HB) A50.out).mono ?_
      rintro e w58 ⟨rfl, hi, hb, hk⟩
      refine ⟨_, rfl, ?_⟩
      replace HO_446003 := zKR106 HI0 HO_446003 hk
      replace HO_446004 := zKR106 HI0 HO_446004 hk
      replace BK435 := zkb BK435 NB435_0 hk
      replace BK445 := zkb BK445 NB445_0 hk
      replace HK := zkt HK hk
      replace HB := zm (hb)
      replace HI0 := zm (hi)
      (try clear hb hk hi)
      refine hK.out _ _ ⟨zd BK445 0, zd BK445 1, zd BK445 2, zd BK445 3, zd BK445 4, zd BK445 5, zd BK445 6⟩ (fun hHeld => ?_)
      clear hK K
      refine norm_ zac ?_
      refine pure_ (i := 4) (N := some 52) (v := ?_) (a' := ?_) #[true, true, true, true, true, false, false] rfl rfl (by kernel_rfl) (fun _ _ _ h => h) (Or.inl ⟨by rfl, ?_⟩) ?_ ?_
      rotate_left
      ·intro w'
       go_simp
       with_reducible rfl
      rotate_left
      ·simp only [Act.put, List.setIfInBounds_toArray, List.set_cons_zero, List.set_cons_succ, i64_w, i32_w]
       rfl
      refine pure_ (i := 5) (N := some 53) (v := ?_) (a' := ?_) #[true, true, true, true, true, true, false] rfl rfl (by kernel_rfl) (fun _ _ _ h => h) (Or.inl ⟨by rfl, ?_⟩) ?_ ?_
      rotate_left
      ·intro w'
       go_simp
       with_reducible rfl
      rotate_left
      ·simp only [Act.put, List.setIfInBounds_toArray, List.set_cons_zero, List.set_cons_succ, i64_w, i32_w]
       rfl
      refine last_ (i := 6) (N := none) #[true, true, true, true, true, true, true] rfl rfl (by kernel_rfl) (by decide) (fun K hK => ?_)
      have hs59 : w58.cell? ⟨gb445, 6, none⟩ = some (.int .i64 0) := zd BK445 6
      have hfs59 := blk_frozen BK445.out 6
      have hns59_0 := NB435_445.out
      have hms59_0 := NB445_435.out
      refine skip_ (w1 := ?_) (by rfl) rfl ?_ ?_
      rotate_left
      ·go_simp
       rfl
      refine hK.out _ _ ?_
      clear hK K
      refine done_ (by kernel_rfl) ?_
      obtain ⟨⟨_, _, _, _, _, _, _⟩, _, _, _, _, _, _, _⟩ := zc7 BK445
      obtain ⟨_, _⟩ := zne NB435_0
      obtain ⟨⟨_, _, _, _, _, _, _⟩, _, _, _, _, _, _, _⟩ := zc7 BK435
      obtain ⟨Ao63, co63, eo63⟩ := Kd.R_slice HO_446003.out
      subst eo63
      obtain ⟨Ao64, co64, eo64⟩ := Kd.R_slice HO_446004.out
      subst eo64
      try go_wp2
      refine bodyPost_ret (results_cell_row rfl _ _ gb435 124 #[.bool (!t436), .bool t439, .bool t442, .slice Ao63 x446003_5.length co63, .slice Ao64 x446004_2.length co64, .int .i64 (wrap64 (1 + t474)), .int .i64 (wrap64 ((wrap64 (1 + t474)) + t477))] (0, 0) _ rfl (zp BK435) Try.underlying124 rfl (by kernel_rfl)) rfl ?_
      exact ⟨_, _, zre, by (with_reducible repeat (first | apply Kd.R_alloc | apply Kd.R_drewN | apply Kd.R_drew)); exact Kd.R_mono (Kd.R_far (p := ⟨gb435, 6, none⟩) (Kd.R_far (p := ⟨gb435, 5, none⟩) (Kd.R_far (p := ⟨gb435, 4, none⟩) (Kd.R_far (p := ⟨gb435, 3, none⟩) (Kd.R_far (p := ⟨gb435, 2, none⟩) (Kd.R_far (p := ⟨gb435, 1, none⟩) (Kd.R_far (p := ⟨gb435, 0, none⟩) (Kd.R_far (p := ⟨gb445, 6, none⟩) (Kd.R_types (Kd.R_types HO_446003.out BK445.out (by decide)) BK435.out (by decide)) (fun _ hk => hk.1.2) (.int .i64 (wrap64 ((wrap64 (1 + t474)) + t477)))) (fun _ hk => hk.2) (.bool (!t436))) (fun _ hk => hk.2) (.bool t439)) (fun _ hk => hk.2) (.bool t442)) (fun _ hk => hk.2) (.slice Ao63 x446003_5.length co63)) (fun _ hk => hk.2) (.slice Ao64 x446004_2.length co64)) (fun _ hk => hk.2) (.int .i64 (wrap64 (1 + t474)))) (fun _ hk => hk.2) (.int .i64 (wrap64 ((wrap64 (1 + t474)) + t477)))) (fun _ hk => trivial), zxR (Kd.R_mono (Kd.R_far (p := ⟨gb435, 6, none⟩) (Kd.R_far (p := ⟨gb435, 5, none⟩) (Kd.R_far (p := ⟨gb435, 4, none⟩) (Kd.R_far (p := ⟨gb435, 3, none⟩) (Kd.R_far (p := ⟨gb435, 2, none⟩) (Kd.R_far (p := ⟨gb435, 1, none⟩) (Kd.R_far (p := ⟨gb435, 0, none⟩) (Kd.R_far (p := ⟨gb445, 6, none⟩) (Kd.R_types (Kd.R_types HO_446004.out BK445.out (by decide)) BK435.out (by decide)) (fun _ hk => hk.1.2) (.int .i64 (wrap64 ((wrap64 (1 + t474)) + t477)))) (fun _ hk => hk.2) (.bool (!t436))) (fun _ hk => hk.2) (.bool t439)) (fun _ hk => hk.2) (.bool t442)) (fun _ hk => hk.2) (.slice Ao63 x446003_5.length co63)) (fun _ hk => hk.2) (.slice Ao64 x446004_2.length co64)) (fun _ hk => hk.2) (.int .i64 (wrap64 (1 + t474)))) (fun _ hk => hk.2) (.int .i64 (wrap64 ((wrap64 (1 + t474)) + t477)))) (fun _ hk => trivial)), zi106 HI0, zj106 HB, zk HK⟩
     rw [if_pos c31] at H
     have c31b0 := decide_eq_true c31
     clear c31
     obtain ⟨y461, hy461⟩ : ∃ y_ : List (S129), y_ = (([(⟨(⟨#[99, 97, 116]⟩ : ByteArray), (⟨#[102, 101, 108, 105, 110, 101]⟩ : ByteArray)⟩ : S129), (⟨(⟨#[114, 117, 110]⟩ : ByteArray), (⟨#[114, 117, 110, 110, 105, 110, 103]⟩ : ByteArray)⟩ : S129), (⟨(⟨#[104, 111, 117, 115, 101]⟩ : ByteArray), (⟨#[104, 111, 109, 101]⟩ : ByteArray)⟩ : S129), (⟨(⟨#[113, 117, 105, 99, 107]⟩ : ByteArray), (⟨#[102, 97, 115, 116]⟩ : ByteArray)⟩ : S129), (⟨(⟨#[114, 117, 110, 110, 105, 110, 103]⟩ : ByteArray), (⟨#[106, 111, 103]⟩ : ByteArray)⟩ : S129)] : List (S129))) := ⟨_, rfl⟩
     replace H : ((F1.f s0_0 x1001_2 x1002_2 5).bind fun bt464 => (if 0 ≤ bt464.1 then (if bt464.1 < (y461.length : Int) then (if x446004_2.length < 4398046511104 then (F5.l0 k2 (wrap64 (x4_2 - 1)) s0_0 bt464.2.1 bt464.2.2 (!t436) t439 t442 x446003_5 (x446004_2 ++ [(⟨(rd_T129 y461 bt464.1).f0, (rd_T129 y461 bt464.1).f1⟩ : S129)]) 0 0) else (none)) else (none)) else (none))) = some (r1, r2, r3, r4, r5, r6, r7, r8, r9) := zby hy461 H
     have Ny461 := zm hy461
     clear hy461
     replace H := zbi H
     obtain ⟨⟨t464, t465, t466⟩, A32, H⟩ := H
     try dsimp only at H
     replace H := zif H
     obtain ⟨c33, H⟩ := H
     have c33b0 := decide_eq_true c33
     clear c33
     replace H := zif H
     obtain ⟨c34, H⟩ := H
     have c34b0 := decide_eq_true c34
     clear c34
     replace H := zif H
     obtain ⟨c35, H⟩ := H
     have LMc35 := zm c35
     clear c35
     obtain ⟨y468, hy468⟩ : ∃ y_ : List (S129), y_ = (x446004_2 ++ [(⟨(rd_T129 y461 t464).f0, (rd_T129 y461 t464).f1⟩ : S129)]) := ⟨_, rfl⟩
     replace H : (F5.l0 k2 (wrap64 (x4_2 - 1)) s0_0 t465 t466 (!t436) t439 t442 x446003_5 y468 0 0) = some (r1, r2, r3, r4, r5, r6, r7, r8, r9) := zby hy468 H
     have Ny468 := zm hy468
     clear hy468
     have H' := zm H
     clear H
     obtain ⟨Ao36, co36, eo36⟩ := Kd.R_slice HO_446004.out
     subst eo36
     try go_wp2
     have pi467 : (0 ≤ (t464 : Int)) = True := eq_true (of_decide_eq_true zas)
     have qi467 : (t464 < (y461.length : Int)) = True := eq_true (of_decide_eq_true zas)
     replace HO_446003 := zm (Kd.R_drew HO_446003.out)
     replace HO_446004 := zm (Kd.R_drew HO_446004.out)
     replace BK435 := zm (blk_drew BK435.out)
     replace BK445 := zm (blk_drew BK445.out)
     replace HI0 := zm (IsS106.drew HI0.out)
     replace HK := zm (keep_drew HK.out)
     replace HB := zm (below_drew1 HB.out)
     refine start_ (n := 16) (S := fun w' => w'.cell? ⟨gb445, 0, none⟩ = some (.bool (!t436)) ∧ w'.cell? ⟨gb445, 1, none⟩ = some (.bool t439) ∧ w'.cell? ⟨gb445, 2, none⟩ = some (.bool t442) ∧ w'.cell? ⟨gb445, 3, none⟩ = some (u446003) ∧ w'.cell? ⟨gb445, 4, none⟩ = some (.slice Ao36 x446004_2.length co36) ∧ w'.cell? ⟨gb445, 5, none⟩ = some (.int .i64 0) ∧ w'.cell? ⟨gb445, 6, none⟩ = some (.int .i64 0)) (ds := [15]) (fl11_ 16 0) (by kernel_rfl) rfl rfl ⟨zd BK445 0, zd BK445 1, zd BK445 2, zd BK445 3, zd BK445 4, zd BK445 5, zd BK445 6⟩ (fun hHeld => ?_); refine with_tabW F5.tab7 F5.bits7 (fun HT_ HW_ => ?_)
     generalize wr.drew = w37 at HO_446003 HO_446004 BK435 BK445 HI0 HK HB hHeld ⊢
     refine zpu HT_ 0 27 (fl11_ 16 1) ?_
     refine zpu HT_ 2 29 (fl11_ 16 5) ?_
     refine zpu HT_ 3 30 (fl11_ 16 13) ?_
     refine zpu HT_ 4 31 (fl11_ 16 29) ?_
     refine zpu HT_ 5 32 (fl11_ 16 61) ?_
     refine zpu HT_ 6 33 (fl11_ 16 125) ?_
     refine zpu HT_ 8 35 (fl11_ 16 381) ?_
     refine ztk HT_ HW_ 1 28 (fl11_ 16 383) hHeld ?_
     refine join_ (σ := Value × Addr) 6 (fl11_ 16 1023) (fun s_ => [(34, s_.1), (36, .int .i64 t464)]) (fun s_ w' => (w'.cell? ⟨gb445, 0, none⟩ = some (.bool (!t436)) ∧ w'.cell? ⟨gb445, 1, none⟩ = some (.bool t439) ∧ w'.cell? ⟨gb445, 2, none⟩ = some (.bool t442) ∧ w'.cell? ⟨gb445, 3, none⟩ = some (u446003) ∧ w'.cell? ⟨gb445, 4, none⟩ = some (.slice Ao36 x446004_2.length co36) ∧ w'.cell? ⟨gb445, 5, none⟩ = some (.int .i64 0) ∧ w'.cell? ⟨gb445, 6, none⟩ = some (.int .i64 0)) ∧ (Kd.R k129 129 w' w.heap.size (fun k_ => some k_ ≠ (.slice Ao36 x446004_2.length co36 : Value).ownBlock) s_.1 y461) ∧ (Kd.R Kd.string 9 w' w.heap.size (fun _ => True) u446003 x446003_5) ∧ (Kd.R k129 129 w' w.heap.size (fun k_ => some k_ ≠ (s_.1 : Value).ownBlock) (.slice Ao36 x446004_2.length co36) x446004_2) ∧ (∃ c_, (s_.1 : Value) = .slice (some s_.2) y461.length c_) ∧ (w'.heap[gb435]? = some (.cells #[.bool false, .bool false, .bool false, .slice none 0 0, .slice none 0 0, .int .i64 0, .int .i64 0] 124 (0, 0))) ∧ (w'.heap[gb445]? = some (.cells #[.bool (!t436), .bool t439, .bool t442, u446003, .slice Ao36 x446004_2.length co36, .int .i64 0, .int .i64 0] 124 (0, 0))) ∧ (IsS106 w0 w' g s0_0 t465 t466) ∧ (KeepBut w w' g none) ∧ (Below w0.heap.size w0 w')) ?_ ?_
     rotate_left
     ·intro hCont
      refine two_ (i := 7) (j := 9) (Ni := some 34) (Nj := some 36) (fl11_ 16 511) (fl11_ 16 895) rfl rfl rfl rfl (two_of HT_.out (by kernel_rfl)) (by decide) (by decide) (fun K hK => ?_) (fun K hK => ?_)
      ·skip
       refine Kd.R_lit_step k129 _ 129 ?hg (N := 34) ?hd (xs := ([(⟨(⟨#[99, 97, 116]⟩ : ByteArray), (⟨#[102, 101, 108, 105, 110, 101]⟩ : ByteArray)⟩ : S129), (⟨(⟨#[114, 117, 110]⟩ : ByteArray), (⟨#[114, 117, 110, 110, 105, 110, 103]⟩ : ByteArray)⟩ : S129), (⟨(⟨#[104, 111, 117, 115, 101]⟩ : ByteArray), (⟨#[104, 111, 109, 101]⟩ : ByteArray)⟩ : S129), (⟨(⟨#[113, 117, 105, 99, 107]⟩ : ByteArray), (⟨#[102, 97, 115, 116]⟩ : ByteArray)⟩ : S129), (⟨(⟨#[114, 117, 110, 110, 105, 110, 103]⟩ : ByteArray), (⟨#[106, 111, 103]⟩ : ByteArray)⟩ : S129)] : List (S129))) (inner := [.string (⟨#[99, 97, 116]⟩ : ByteArray), .string (⟨#[102, 101, 108, 105, 110, 101]⟩ : ByteArray), .string (⟨#[114, 117, 110]⟩ : ByteArray), .string (⟨#[114, 117, 110, 110, 105, 110, 103]⟩ : ByteArray), .string (⟨#[104, 111, 117, 115, 101]⟩ : ByteArray), .string (⟨#[104, 111, 109, 101]⟩ : ByteArray), .string (⟨#[113, 117, 105, 99, 107]⟩ : ByteArray), .string (⟨#[102, 97, 115, 116]⟩ : ByteArray), .string (⟨#[114, 117, 110, 110, 105, 110, 103]⟩ : ByteArray), .string (⟨#[106, 111, 103]⟩ : ByteArray)]) (ok := fun _ => True) (okp := fun _ => True) ?hr ?hp (fun _ hk => hk) trivial (Below.refl _ _) (Nat.le_refl _) (by simp) ?_; (case hd => rfl); (case hg => rfl); (case hr => first | (go_simp; done) | (go_simp; rfl)); (case hp => exact (Reps.c2 (show Kd.M k129 _ _ _ (⟨(⟨#[99, 97, 116]⟩ : ByteArray), (⟨#[102, 101, 108, 105, 110, 101]⟩ : ByteArray)⟩ : S129) [.string (⟨#[99, 97, 116]⟩ : ByteArray), .string (⟨#[102, 101, 108, 105, 110, 101]⟩ : ByteArray)] from (k129_mkM _ _ _ (⟨(⟨#[99, 97, 116]⟩ : ByteArray), (⟨#[102, 101, 108, 105, 110, 101]⟩ : ByteArray)⟩ : S129) )) (Reps.c2 (show Kd.M k129 _ _ _ (⟨(⟨#[114, 117, 110]⟩ : ByteArray), (⟨#[114, 117, 110, 110, 105, 110, 103]⟩ : ByteArray)⟩ : S129) [.string (⟨#[114, 117, 110]⟩ : ByteArray), .string (⟨#[114, 117, 110, 110, 105, 110, 103]⟩ : ByteArray)] from (k129_mkM _ _ _ (⟨(⟨#[114, 117, 110]⟩ : ByteArray), (⟨#[114, 117, 110, 110, 105, 110, 103]⟩ : ByteArray)⟩ : S129) )) (Reps.c2 (show Kd.M k129 _ _ _ (⟨(⟨#[104, 111, 117, 115, 101]⟩ : ByteArray), (⟨#[104, 111, 109, 101]⟩ : ByteArray)⟩ : S129) [.string (⟨#[104, 111, 117, 115, 101]⟩ : ByteArray), .string (⟨#[104, 111, 109, 101]⟩ : ByteArray)] from (k129_mkM _ _ _ (⟨(⟨#[104, 111, 117, 115, 101]⟩ : ByteArray), (⟨#[104, 111, 109, 101]⟩ : ByteArray)⟩ : S129) )) (Reps.c2 (show Kd.M k129 _ _ _ (⟨(⟨#[113, 117, 105, 99, 107]⟩ : ByteArray), (⟨#[102, 97, 115, 116]⟩ : ByteArray)⟩ : S129) [.string (⟨#[113, 117, 105, 99, 107]⟩ : ByteArray), .string (⟨#[102, 97, 115, 116]⟩ : ByteArray)] from (k129_mkM _ _ _ (⟨(⟨#[113, 117, 105, 99, 107]⟩ : ByteArray), (⟨#[102, 97, 115, 116]⟩ : ByteArray)⟩ : S129) )) (Reps.c2 (show Kd.M k129 _ _ _ (⟨(⟨#[114, 117, 110, 110, 105, 110, 103]⟩ : ByteArray), (⟨#[106, 111, 103]⟩ : ByteArray)⟩ : S129) [.string (⟨#[114, 117, 110, 110, 105, 110, 103]⟩ : ByteArray), .string (⟨#[106, 111, 103]⟩ : ByteArray)] from (k129_mkM _ _ _ (⟨(⟨#[114, 117, 110, 110, 105, 110, 103]⟩ : ByteArray), (⟨#[106, 111, 103]⟩ : ByteArray)⟩ : S129) )) (Reps.none _ _)))))))
       intro v462 w38 ho39 hb hg_ hnew_
       clear hg_ hnew_
       (first | rw [← Ny461.out] at ho39 | (simp only [Int.reduceToNat] at ho39; rw [← Ny461.out] at ho39))
       replace HO_446003 := zm (Kd.R_below (zr HO_446003) hb)
       have HO463 := zm (Kd.R_lower (Kd.R_new' ho39 (Kd.R_lt (zr HO_446004))) (keep_size (w := w) (g := g) (row := none) (zk HK)))
       replace HO_446004 := zm (Kd.R_elder' (zr HO_446004) (Kd.R_base ho39) hb)
       replace BK435 := zbb BK435 hb
       replace BK445 := zbb BK445 hb
       replace HI0 := zm (IsS106.below (zi106 HI0) hb)
       replace HK := zkB HK hb
       replace HB := zm (below_step (zj106 HB) hb)
       clear hb ho39
       obtain ⟨Ao40, co40, eo40⟩ := Kd.R_slice HO463.out
       subst eo40
       obtain ⟨ado40, fo40, _⟩ := at_T129 (Kd.R_reads' HO463.out).2.2 0 (by decide) (by rw [Ny461.out]; simp)
       cases fo40
       refine hK.out _ _ ⟨zd BK445 0, zd BK445 1, zd BK445 2, zd BK445 3, zd BK445 4, zd BK445 5, zd BK445 6⟩ (fun hHeld => ?_)
       clear hK K
       refine norm_ zac ?_
       refine zon HT_ 9 36 (fl11_ 16 1023) (fun K hK => ?_)
       refine goes_ Try.func55 (by kernel_rfl) rfl #[.pointer (some ⟨g, 0, none⟩), .int .i64 5] (by rfl) rfl rfl zar ?_
       refine (F1.calls g s0_0 x1001_2 x1002_2 5 t464 t465 t466 w0 _ (zi106 HI0) (zj106 HB) A32.out).mono ?_
       rintro e w41 ⟨rfl, hi, hb, hk⟩
       refine ⟨_, rfl, ?_⟩
       replace HO_446003 := zKR106 HI0 HO_446003 hk
       replace HO_446004 := zKR106 HI0 HO_446004 hk
       replace BK435 := zkb BK435 NB435_0 hk
       replace BK445 := zkb BK445 NB445_0 hk
       replace HO463 := zKR106 HI0 HO463 hk
       replace HK := zkt HK hk
       replace HB := zm (hb)
       replace HI0 := zm (hi)
       (try clear hb hk hi)
       refine hK.out _ _ ⟨zd BK445 0, zd BK445 1, zd BK445 2, zd BK445 3, zd BK445 4, zd BK445 5, zd BK445 6⟩ (fun hHeld => ?_)
       clear hK K
       refine norm_ zac ?_
       exact norm_ zpa (hCont (.slice (some ado40) y461.length co40, ado40) _ ⟨hHeld, (Kd.R_mono (zr HO463) (fun _ hk => hk.2)), (zr HO_446003), (Kd.R_mono (zr HO_446004) (fun _ hk => hk.2)), ⟨_, rfl⟩, (zb BK435), (zb BK445), (zi106 HI0), (zk HK), (zj106 HB)⟩)
      ·skip
       refine goes_ Try.func55 (by kernel_rfl) rfl #[.pointer (some ⟨g, 0, none⟩), .int .i64 5] (by rfl) rfl rfl zar ?_
       refine (F1.calls g s0_0 x1001_2 x1002_2 5 t464 t465 t466 w0 _ (zi106 HI0) (zj106 HB) A32.out).mono ?_
       rintro e w38 ⟨rfl, hi, hb, hk⟩
       refine ⟨_, rfl, ?_⟩
       replace HO_446003 := zKR106 HI0 HO_446003 hk
       replace HO_446004 := zKR106 HI0 HO_446004 hk
       replace BK435 := zkb BK435 NB435_0 hk
       replace BK445 := zkb BK445 NB445_0 hk
       replace HK := zkt HK hk
       replace HB := zm (hb)
       replace HI0 := zm (hi)
       (try clear hb hk hi)
       refine hK.out _ _ ⟨zd BK445 0, zd BK445 1, zd BK445 2, zd BK445 3, zd BK445 4, zd BK445 5, zd BK445 6⟩ (fun hHeld => ?_)
       clear hK K
       refine norm_ zac ?_
       refine zon HT_ 7 34 (fl11_ 16 1023) (fun K hK => ?_)
       refine Kd.R_lit_step k129 _ 129 ?hg (N := 34) ?hd (xs := ([(⟨(⟨#[99, 97, 116]⟩ : ByteArray), (⟨#[102, 101, 108, 105, 110, 101]⟩ : ByteArray)⟩ : S129), (⟨(⟨#[114, 117, 110]⟩ : ByteArray), (⟨#[114, 117, 110, 110, 105, 110, 103]⟩ : ByteArray)⟩ : S129), (⟨(⟨#[104, 111, 117, 115, 101]⟩ : ByteArray), (⟨#[104, 111, 109, 101]⟩ : ByteArray)⟩ : S129), (⟨(⟨#[113, 117, 105, 99, 107]⟩ : ByteArray), (⟨#[102, 97, 115, 116]⟩ : ByteArray)⟩ : S129), (⟨(⟨#[114, 117, 110, 110, 105, 110, 103]⟩ : ByteArray), (⟨#[106, 111, 103]⟩ : ByteArray)⟩ : S129)] : List (S129))) (inner := [.string (⟨#[99, 97, 116]⟩ : ByteArray), .string (⟨#[102, 101, 108, 105, 110, 101]⟩ : ByteArray), .string (⟨#[114, 117, 110]⟩ : ByteArray), .string (⟨#[114, 117, 110, 110, 105, 110, 103]⟩ : ByteArray), .string (⟨#[104, 111, 117, 115, 101]⟩ : ByteArray), .string (⟨#[104, 111, 109, 101]⟩ : ByteArray), .string (⟨#[113, 117, 105, 99, 107]⟩ : ByteArray), .string (⟨#[102, 97, 115, 116]⟩ : ByteArray), .string (⟨#[114, 117, 110, 110, 105, 110, 103]⟩ : ByteArray), .string (⟨#[106, 111, 103]⟩ : ByteArray)]) (ok := fun _ => True) (okp := fun _ => True) ?hr ?hp (fun _ hk => hk) trivial (Below.refl _ _) (Nat.le_refl _) (by simp) ?_; (case hd => rfl); (case hg => rfl); (case hr => first | (go_simp; done) | (go_simp; rfl)); (case hp => exact (Reps.c2 (show Kd.M k129 _ _ _ (⟨(⟨#[99, 97, 116]⟩ : ByteArray), (⟨#[102, 101, 108, 105, 110, 101]⟩ : ByteArray)⟩ : S129) [.string (⟨#[99, 97, 116]⟩ : ByteArray), .string (⟨#[102, 101, 108, 105, 110, 101]⟩ : ByteArray)] from (k129_mkM _ _ _ (⟨(⟨#[99, 97, 116]⟩ : ByteArray), (⟨#[102, 101, 108, 105, 110, 101]⟩ : ByteArray)⟩ : S129) )) (Reps.c2 (show Kd.M k129 _ _ _ (⟨(⟨#[114, 117, 110]⟩ : ByteArray), (⟨#[114, 117, 110, 110, 105, 110, 103]⟩ : ByteArray)⟩ : S129) [.string (⟨#[114, 117, 110]⟩ : ByteArray), .string (⟨#[114, 117, 110, 110, 105, 110, 103]⟩ : ByteArray)] from (k129_mkM _ _ _ (⟨(⟨#[114, 117, 110]⟩ : ByteArray), (⟨#[114, 117, 110, 110, 105, 110, 103]⟩ : ByteArray)⟩ : S129) )) (Reps.c2 (show Kd.M k129 _ _ _ (⟨(⟨#[104, 111, 117, 115, 101]⟩ : ByteArray), (⟨#[104, 111, 109, 101]⟩ : ByteArray)⟩ : S129) [.string (⟨#[104, 111, 117, 115, 101]⟩ : ByteArray), .string (⟨#[104, 111, 109, 101]⟩ : ByteArray)] from (k129_mkM _ _ _ (⟨(⟨#[104, 111, 117, 115, 101]⟩ : ByteArray), (⟨#[104, 111, 109, 101]⟩ : ByteArray)⟩ : S129) )) (Reps.c2 (show Kd.M k129 _ _ _ (⟨(⟨#[113, 117, 105, 99, 107]⟩ : ByteArray), (⟨#[102, 97, 115, 116]⟩ : ByteArray)⟩ : S129) [.string (⟨#[113, 117, 105, 99, 107]⟩ : ByteArray), .string (⟨#[102, 97, 115, 116]⟩ : ByteArray)] from (k129_mkM _ _ _ (⟨(⟨#[113, 117, 105, 99, 107]⟩ : ByteArray), (⟨#[102, 97, 115, 116]⟩ : ByteArray)⟩ : S129) )) (Reps.c2 (show Kd.M k129 _ _ _ (⟨(⟨#[114, 117, 110, 110, 105, 110, 103]⟩ : ByteArray), (⟨#[106, 111, 103]⟩ : ByteArray)⟩ : S129) [.string (⟨#[114, 117, 110, 110, 105, 110, 103]⟩ : ByteArray), .string (⟨#[106, 111, 103]⟩ : ByteArray)] from (k129_mkM _ _ _ (⟨(⟨#[114, 117, 110, 110, 105, 110, 103]⟩ : ByteArray), (⟨#[106, 111, 103]⟩ : ByteArray)⟩ : S129) )) (Reps.none _ _)))))))
       intro v462 w39 ho40 hb hg_ hnew_
       clear hg_ hnew_
       (first | rw [← Ny461.out] at ho40 | (simp only [Int.reduceToNat] at ho40; rw [← Ny461.out] at ho40))
       replace HO_446003 := zm (Kd.R_below (zr HO_446003) hb)
       have HO463 := zm (Kd.R_lower (Kd.R_new' ho40 (Kd.R_lt (zr HO_446004))) (keep_size (w := w) (g := g) (row := none) (zk HK)))
       replace HO_446004 := zm (Kd.R_elder' (zr HO_446004) (Kd.R_base ho40) hb)
       replace BK435 := zbb BK435 hb
       replace BK445 := zbb BK445 hb
       replace HI0 := zm (IsS106.below (zi106 HI0) hb)
       replace HK := zkB HK hb
       replace HB := zm (below_step (zj106 HB) hb)
       clear hb ho40
       obtain ⟨Ao41, co41, eo41⟩ := Kd.R_slice HO463.out
       subst eo41
       obtain ⟨ado41, fo41, _⟩ := at_T129 (Kd.R_reads' HO463.out).2.2 0 (by decide) (by rw [Ny461.out]; simp)
       cases fo41
       refine hK.out _ _ ⟨zd BK445 0, zd BK445 1, zd BK445 2, zd BK445 3, zd BK445 4, zd BK445 5, zd BK445 6⟩ (fun hHeld => ?_)
       clear hK K
       refine norm_ zac ?_
       exact norm_ zpa (hCont (.slice (some ado41) y461.length co41, ado41) _ ⟨hHeld, (Kd.R_mono (zr HO463) (fun _ hk => hk.2)), (zr HO_446003), (Kd.R_mono (zr HO_446004) (fun _ hk => hk.2)), ⟨_, rfl⟩, (zb BK435), (zb BK445), (zi106 HI0), (zk HK), (zj106 HB)⟩)
     rintro ⟨v462, adz_v462⟩ w42 ⟨hS_, h0_, h1_, h2_, h3_, h4_, h5_, h6_, h7_, h8_⟩
     have n0_ : Aside0 (Kd.R k129 129 w42 w.heap.size (fun k_ => some k_ ≠ (.slice Ao36 x446004_2.length co36 : Value).ownBlock) v462 y461) := ⟨h0_⟩
     have n1_ : Aside0 (Kd.R Kd.string 9 w42 w.heap.size (fun _ => True) u446003 x446003_5) := ⟨h1_⟩
     have n2_ : Aside0 (Kd.R k129 129 w42 w.heap.size (fun k_ => some k_ ≠ (v462 : Value).ownBlock) (.slice Ao36 x446004_2.length co36) x446004_2) := ⟨h2_⟩
     have n3_ : Aside0 (∃ c_, (v462 : Value) = .slice (some adz_v462) y461.length c_) := ⟨h3_⟩
     have n4_ : Aside0 (w42.heap[gb435]? = some (.cells #[.bool false, .bool false, .bool false, .slice none 0 0, .slice none 0 0, .int .i64 0, .int .i64 0] 124 (0, 0))) := ⟨h4_⟩
     have n5_ : Aside0 (w42.heap[gb445]? = some (.cells #[.bool (!t436), .bool t439, .bool t442, u446003, .slice Ao36 x446004_2.length co36, .int .i64 0, .int .i64 0] 124 (0, 0))) := ⟨h5_⟩
     have n6_ : Aside0 (IsS106 w0 w42 g s0_0 t465 t466) := ⟨h6_⟩
     have n7_ : Aside0 (KeepBut w w42 g none) := ⟨h7_⟩
     have n8_ : Aside0 (Below w0.heap.size w0 w42) := ⟨h8_⟩
     clear HO_446003
     clear HO_446004
     clear BK435
     clear BK445
     clear HI0
     clear HK
     clear HB
     clear h0_ h1_ h2_ h3_ h4_ h5_ h6_ h7_ h8_
     have HO463 := n0_
     have HO_446003 := n1_
     have HO_446004 := n2_
     have HA_HO463 := n3_
     have BK435 := n4_
     have BK445 := n5_
     have HI0 := n6_
     have HK := n7_
     have HB := n8_
     clear n0_ n1_ n2_ n3_ n4_ n5_ n6_ n7_ n8_
     have hHeld : w42.cell? ⟨gb445, 0, none⟩ = some (.bool (!t436)) ∧ w42.cell? ⟨gb445, 1, none⟩ = some (.bool t439) ∧ w42.cell? ⟨gb445, 2, none⟩ = some (.bool t442) ∧ w42.cell? ⟨gb445, 3, none⟩ = some (u446003) ∧ w42.cell? ⟨gb445, 4, none⟩ = some (.slice Ao36 x446004_2.length co36) ∧ w42.cell? ⟨gb445, 5, none⟩ = some (.int .i64 0) ∧ w42.cell? ⟨gb445, 6, none⟩ = some (.int .i64 0) := hS_
     obtain ⟨co43, eo43⟩ := HA_HO463.out
     clear HA_HO463
     subst eo43
     refine norm_ (a' := ?_) ?_ ?_
     rotate_left
     ·simp only [putAll, Act.put, List.setIfInBounds_toArray, List.set_cons_zero, List.set_cons_succ]
      rfl
     refine zpu HT_ 10 37 (fl11_ 16 2047) ?_
     refine zon HT_ 11 38 (fl11_ 16 4095) (fun K hK => ?_)
     (have p467 : 0 ≤ (t464 : Int) := of_decide_eq_true zas; have q467 : t464 < (y461.length : Int) := of_decide_eq_true zas; obtain ⟨ad467, e467, hx467_0, hx467_1⟩ := at_T129 (Kd.R_reads' HO463.out).2.2 t464 p467 q467; obtain rfl : adz_v462 = ad467 := (by injection e467))
     refine value_ (w1 := ?_) (v := ?_) (by rfl) rfl ?_ ?_
     rotate_left 2
     ·go_simp
      constructor
      ·rfl
      ·rfl
     clear hx467_0
     refine hK.out _ _ ⟨zd BK445 0, zd BK445 1, zd BK445 2, zd BK445 3, zd BK445 4, zd BK445 5, zd BK445 6⟩ (fun hHeld => ?_)
     clear hK K
     refine norm_ zac ?_
     refine zon HT_ 12 39 (fl11_ 16 8191) (fun K hK => ?_)
     refine value_ (w1 := ?_) (v := ?_) (by rfl) rfl ?_ ?_
     rotate_left 2
     ·go_simp
      constructor
      ·rfl
      ·rfl
     refine hK.out _ _ ⟨(blk_cell (blk_alloc BK445.out _) 0).trans rfl, (blk_cell (blk_alloc BK445.out _) 1).trans rfl, (blk_cell (blk_alloc BK445.out _) 2).trans rfl, (blk_cell (blk_alloc BK445.out _) 3).trans rfl, (blk_cell (blk_alloc BK445.out _) 4).trans rfl, (blk_cell (blk_alloc BK445.out _) 5).trans rfl, (blk_cell (blk_alloc BK445.out _) 6).trans rfl⟩ (fun hHeld => ?_)
     clear hK K
     refine norm_ zac ?_
     refine zon HT_ 13 40 (fl11_ 16 16383) (fun K hK => ?_)
     refine Kd.R_append_step k129 w.heap.size (by rfl) (.tmp 28) (.tmp 39) 122 129 (.agg #[(.string ⟨#[]⟩), (.string ⟨#[]⟩)]) 32 rfl Try.underlying122 info129 rfl (by decide) (by omega) (.slice Ao36 x446004_2.length co36) x446004_2 (⟨(rd_T129 y461 t464).f0, (rd_T129 y461 t464).f1⟩ : S129) [.string ((rd_T129 y461 t464).f0), .string ((rd_T129 y461 t464).f1)] (fun k_ => some k_ ≠ (.slice (some adz_v462) y461.length co43 : Value).ownBlock) (fun _ => False) rfl rfl ?aP (fun _ hk => hk.elim) ?aF ?aO (Below.refl _ _) ?aS ?aL ?_
     (case aP => exact k129_mkM _ _ _ (⟨(rd_T129 y461 t464).f0, (rd_T129 y461 t464).f1⟩ : S129))
     (case aF => exact (fun k_ hk => Kd.fresh' (Kd.R_lt (zr HO463)) k_ hk))
     (case aO => exact (zr HO_446004))
     (case aS => exact (keep_size (w := w) (g := g) (row := none) (zk HK)))
     (case aL => have := LMc35.out; omega)
     intro v469 w44 ho hb hg hat
     rw [← Ny468.out] at ho
     replace HO_446003 := zm (Kd.R_over' (zr HO_446003) (Kd.R_typed (zr HO_446004)) (by decide) hg)
     replace BK435 := zm (blk_grown (zb BK435) hg (Kd.R_ne HO_446004.out BK435.out (by decide)))
     replace BK445 := zm (blk_grown (zb BK445) hg (Kd.R_ne HO_446004.out BK445.out (by decide)))
     replace HI0 := zm (IsS106.grown (zi106 HI0) hg (IsS106.own_ne HI0.out HO_446004.out (by decide)))
     replace HO463 := zm (Kd.R_after (ok := (fun _ => True)) (Kd.R_mono (zr HO463) (fun _ hk => ⟨trivial, hk⟩)) hg hat)
     replace HB := zm (below_weaken (zj106 HB) HL.out hb)
     replace HK := zm (KeepBut.trans (zk HK) (KeepBut.of_grown hg g) (Kd.R_base2 HO_446004.out))
     have HO470 := zm (ho)
     clear HO_446004
     clear ho hb hg hat
     obtain ⟨Ao45, co45, eo45⟩ := Kd.R_slice HO470.out
     (first | subst eo45 | (injection eo45 with f1_ f2_ f3_; have f4_ := f1_.symm; have f5_ := f3_.symm; clear f1_ f2_ f3_; subst f4_; subst f5_))
     refine hK.out _ _ ⟨zd BK445 0, zd BK445 1, zd BK445 2, zd BK445 3, zd BK445 4, zd BK445 5, zd BK445 6⟩ (fun hHeld => ?_)
     clear hK K
     refine norm_ zac ?_
     refine zpu HT_ 14 41 (fl11_ 16 32767) ?_
     refine last_ (i := 15) (N := none) (fl11_ 16 65535) rfl rfl (one_of HT_.out (by kernel_rfl)) (by decide) (fun K hK => ?_)
     have hs46 : w44.cell? ⟨gb445, 4, none⟩ = some (.slice Ao36 x446004_2.length co36) := zd BK445 4
     have hfs46 := blk_frozen BK445.out 4
     have hns46_0 := NB435_445.out
     have hms46_0 := NB445_435.out
     refine skip_ (w1 := ?_) (by rfl) rfl ?_ ?_
     rotate_left
     ·go_simp
      rfl
     refine hK.out _ _ ?_
     clear hK K
     refine done_ (done_of HT_.out (by kernel_rfl)) ?_
     try go_wp2
     go_roundg k2
     case measure => have := HJ5.out; have := HK2.out; omega
     case rel => exact ⟨(wrap64 (x4_2 - 1)), (t465), (t466), (y468), (.slice Ao45 y468.length co45), zrs, H', ⟨by have := HJ5.out; have := HK2.out; omega⟩, ⟨by (with_reducible repeat (first | apply Kd.R_alloc | apply Kd.R_drewN | apply Kd.R_drew)); exact Kd.R_mono (Kd.R_far (p := ⟨gb445, 4, none⟩) (Kd.R_types HO_446003.out BK445.out (by decide)) (fun _ hk => hk.2) (.slice Ao45 y468.length co45)) (fun _ hk => trivial)⟩, ⟨by (with_reducible repeat (first | apply Kd.R_alloc | apply Kd.R_drewN | apply Kd.R_drew)); exact Kd.R_mono (Kd.R_far (p := ⟨gb445, 4, none⟩) (Kd.R_types HO470.out BK445.out (by decide)) (fun _ hk => hk.2) (.slice Ao45 y468.length co45)) (fun _ hk => trivial)⟩, ⟨zp BK435⟩, ⟨zp BK445⟩, ⟨zi106 HI0⟩, ⟨zk HK⟩, ⟨zj106 HB⟩⟩
/-! ### F36: function 83 -/
def F36.f (k : Nat) (s0_0 : List Int) (s0_1 : Int) (s0_2 : Int) : Option ((List (S126)) × Int × Int) := (F5.f k s0_0 s0_1 s0_2).bind fun bt481 => ((some (([(⟨(⟨#[98, 111, 100, 121]⟩ : ByteArray), 1, (⟨bt481.1, bt481.2.1, bt481.2.2.1, bt481.2.2.2.1, bt481.2.2.2.2.1, bt481.2.2.2.2.2.1, bt481.2.2.2.2.2.2.1⟩ : S124)⟩ : S126), (⟨(⟨#[112, 114, 105, 99, 101]⟩ : ByteArray), 3, (⟨false, false, false, ([] : List ByteArray), ([] : List (S129)), 0, 0⟩ : S124)⟩ : S126), (⟨(⟨#[116, 97, 103]⟩ : ByteArray), 2, (⟨false, false, false, ([] : List ByteArray), ([] : List (S129)), 0, 0⟩ : S124)⟩ : S126), (⟨(⟨#[116, 105, 116, 108, 101]⟩ : ByteArray), 1, (⟨true, false, false, ([] : List ByteArray), ([] : List (S129)), 0, 0⟩ : S124)⟩ : S126), (⟨(⟨#[121, 101, 97, 114]⟩ : ByteArray), 3, (⟨false, false, false, ([] : List ByteArray), ([] : List (S129)), 0, 0⟩ : S124)⟩ : S126)] : List (S126)) : List (S126))).bind fun y494 => ((F15.f s0_0 bt481.2.2.2.2.2.2.2.1 bt481.2.2.2.2.2.2.2.2 6).bind fun bt497 => (if bt497.1 = true then ((F1.f s0_0 bt497.2.1 bt497.2.2 5).bind fun bt500 => (if 0 ≤ (wrap64 (1 + bt500.1)) then (if (wrap64 (1 + bt500.1)) ≤ (y494.length : Int) then (some ((y494.take ((wrap64 (1 + bt500.1)) : Int).toNat), bt500.2.1, bt500.2.2)) else (none)) else (none))) else (some (y494, bt497.2.1, bt497.2.2)))))
theorem F36.mono : ∀ a0 a1 a2 k, LeO (F36.f k a0 a1 a2) (F36.f (k + 1) a0 a1 a2) := by
 intro a0 a1 a2 k
 unfold F36.f
 repeat' with_reducible first | exact F5.mono _ _ _ _ | exact LeO.refl _ | exact LeO.none _ | refine LeO.ite ?_ ?_ | refine LeO.bind ?_ (fun _ => ?_)
set_option maxHeartbeats 8000000 in
set_option maxRecDepth 100000 in
theorem F36.calls (k : Nat) (g : Nat) (s0_0 : List Int) (s0_1 : Int) (s0_2 : Int) (r1 : List (S126)) (r2 : Int) (r3 : Int) (w0 w : World) (hI : IsS106 w0 w g s0_0 s0_1 s0_2) (hB : Below w0.heap.size w0 w) (h : F36.f k s0_0 s0_1 s0_2 = some (r1, r2, r3)) :
 Calls Try.prog 83 #[.pointer (some ⟨g, 0, none⟩)] w fun e w' => ∃ v0_ : Value, e = .returned (.agg #[v0_]) ∧ Kd.N k126 126 w' w.heap.size (fun k_ => (w.heap.size ≤ k_)) v0_ r1 ∧ IsS106 w0 w' g s0_0 r2 r3 ∧ Below w0.heap.size w0 w' ∧ KeepBut w w' g none := by
 have hu111 := Try.underlying111
 have hu126 := Try.underlying126
 have hu124 := Try.underlying124
 have HI0 := zm hI
 have HK := zm (KeepBut.refl w g none)
 have HL := zm hB.size
 clear hI
 have HW0 := zm hB.size
 have HB := zm hB
 clear hB
 have H := h
 unfold F36.f at H
 clear h
 replace H := zbi H
 obtain ⟨⟨t481, t482, t483, t484, t487, t490, t491, t492, t493⟩, A2, H⟩ := H
 try dsimp only at H
 obtain ⟨y494, hy494⟩ : ∃ y_ : List (S126), y_ = (([(⟨(⟨#[98, 111, 100, 121]⟩ : ByteArray), 1, (⟨t481, t482, t483, t484, t487, t490, t491⟩ : S124)⟩ : S126), (⟨(⟨#[112, 114, 105, 99, 101]⟩ : ByteArray), 3, (⟨false, false, false, ([] : List ByteArray), ([] : List (S129)), 0, 0⟩ : S124)⟩ : S126), (⟨(⟨#[116, 97, 103]⟩ : ByteArray), 2, (⟨false, false, false, ([] : List ByteArray), ([] : List (S129)), 0, 0⟩ : S124)⟩ : S126), (⟨(⟨#[116, 105, 116, 108, 101]⟩ : ByteArray), 1, (⟨true, false, false, ([] : List ByteArray), ([] : List (S129)), 0, 0⟩ : S124)⟩ : S126), (⟨(⟨#[121, 101, 97, 114]⟩ : ByteArray), 3, (⟨false, false, false, ([] : List ByteArray), ([] : List (S129)), 0, 0⟩ : S124)⟩ : S126)] : List (S126))) := ⟨_, rfl⟩
 replace H : ((F15.f s0_0 t492 t493 6).bind fun bt497 => (if bt497.1 = true then ((F1.f s0_0 bt497.2.1 bt497.2.2 5).bind fun bt500 => (if 0 ≤ (wrap64 (1 + bt500.1)) then (if (wrap64 (1 + bt500.1)) ≤ (y494.length : Int) then (some ((y494.take ((wrap64 (1 + bt500.1)) : Int).toNat), bt500.2.1, bt500.2.2)) else (none)) else (none))) else (some (y494, bt497.2.1, bt497.2.2)))) = some (r1, r2, r3) := zby hy494 H
 have Ny494 := zm hy494
 clear hy494
 replace H := zbi H
 obtain ⟨⟨t497, t498, t499⟩, A3, H⟩ := H
 try dsimp only at H
 by_cases c4 : t497 = true
 rotate_left
 ·replace c4 := Bool.eq_false_iff.mpr c4
  subst c4
  rw [if_neg (show ¬ (false = true) by decide)] at H
  simp only [Option.some.injEq, Prod.mk.injEq] at H
  obtain ⟨rfl, rfl, rfl⟩ := H
  go_enter Try.func83, Try.ntmps83
  go_wp2_with (first | ((with_reducible refine gate_dst (N := 2) rfl ?_); refine box_event (by rfl) (N := 2) (by rfl) (cs := #[.slice none 0 0]) (t := 111) zgs ?_; intro gb480 hg w21 hbox hb; replace HB := zm (below_step (zj106 HB) hb); have BK480 := zm (hbox); have GW480 := zge hg (keep_size (w := w) (g := g) (row := none) (zk HK)); have GE480 := zm ((Nat.le_trans HW0.out (by rw [hg]; exact (keep_size (w := w) (g := g) (row := none) (zk HK)) : w.heap.size ≤ gb480) : w0.heap.size ≤ gb480)); replace HK := zkB HK hb; obtain ⟨NB0_480, NB480_0⟩ := znn hg (IsS106.lt (show IsS106 w0 _ g s0_0 s0_1 s0_2 from zi106 HI0)); replace HI0 := zm (IsS106.below (zi106 HI0) hb); clear hb hbox hg) | ((with_reducible refine gate_callee (f := 98) rfl ?_); refine zgl 5 Try.func98 #[.pointer (some ⟨g, 0, none⟩)] ?_; refine (F5.calls k g s0_0 s0_1 s0_2 t481 t482 t483 t484 t487 t490 t491 t492 t493 w0 _ (zi106 HI0) (zj106 HB) A2.out).mono ?_; rintro e w22 ⟨v485, v488, rfl, ho0, ho1, hi, hb, hk⟩; refine ⟨_, rfl, ?_⟩; replace BK480 := zkb BK480 NB480_0 hk; have HO486 := zm (Kd.R_lower (Kd.R_newM (M := fun k_ => (w.heap.size ≤ k_)) ho0 (keep_size (w := w) (g := g) (row := none) (zk HK)) (fun k_ h_ => h_)) (keep_size (w := w) (g := g) (row := none) (zk HK))); have HO489 := zm (Kd.R_lower (Kd.R_newM (M := fun k_ => (w.heap.size ≤ k_)) ho1 (keep_size (w := w) (g := g) (row := none) (zk HK)) (fun k_ h_ => h_)) (keep_size (w := w) (g := g) (row := none) (zk HK))); replace HK := zkt HK hk; replace HB := zm (hb); replace HI0 := zm (hi); (try clear hb ho0 hk hi ho1); obtain ⟨Ao23, co23, eo23⟩ := Kd.R_slice HO489.out; subst eo23; obtain ⟨Ao24, co24, eo24⟩ := Kd.R_slice HO486.out; subst eo24) | ((with_reducible refine gate_dst (N := 12) rfl ?_); refine Kd.N_lit k126 _ 126 ?hg (N' := 12) ?hd (xs := ([(⟨(⟨#[98, 111, 100, 121]⟩ : ByteArray), 1, (⟨t481, t482, t483, t484, t487, t490, t491⟩ : S124)⟩ : S126), (⟨(⟨#[112, 114, 105, 99, 101]⟩ : ByteArray), 3, (⟨false, false, false, ([] : List ByteArray), ([] : List (S129)), 0, 0⟩ : S124)⟩ : S126), (⟨(⟨#[116, 97, 103]⟩ : ByteArray), 2, (⟨false, false, false, ([] : List ByteArray), ([] : List (S129)), 0, 0⟩ : S124)⟩ : S126), (⟨(⟨#[116, 105, 116, 108, 101]⟩ : ByteArray), 1, (⟨true, false, false, ([] : List ByteArray), ([] : List (S129)), 0, 0⟩ : S124)⟩ : S126), (⟨(⟨#[121, 101, 97, 114]⟩ : ByteArray), 3, (⟨false, false, false, ([] : List ByteArray), ([] : List (S129)), 0, 0⟩ : S124)⟩ : S126)] : List (S126))) (inner := [.string (⟨#[98, 111, 100, 121]⟩ : ByteArray), .int .i64 1, .bool t481, .bool t482, .bool t483, .slice Ao24 t484.length co24, .slice Ao23 t487.length co23, .int .i64 t490, .int .i64 t491, .string (⟨#[112, 114, 105, 99, 101]⟩ : ByteArray), .int .i64 3, .bool false, .bool false, .bool false, .slice none 0 0, .slice none 0 0, .int .i64 0, .int .i64 0, .string (⟨#[116, 97, 103]⟩ : ByteArray), .int .i64 2, .bool false, .bool false, .bool false, .slice none 0 0, .slice none 0 0, .int .i64 0, .int .i64 0, .string (⟨#[116, 105, 116, 108, 101]⟩ : ByteArray), .int .i64 1, .bool true, .bool false, .bool false, .slice none 0 0, .slice none 0 0, .int .i64 0, .int .i64 0, .string (⟨#[121, 101, 97, 114]⟩ : ByteArray), .int .i64 3, .bool false, .bool false, .bool false, .slice none 0 0, .slice none 0 0, .int .i64 0, .int .i64 0]) (ok := (fun k_ => (w.heap.size ≤ k_) ∧ k_ ≠ gb480 ∧ k_ ≠ g)) (okp := (fun k_ => (w.heap.size ≤ k_) ∧ k_ ≠ gb480 ∧ k_ ≠ g)) ?hr ?hp (fun _ hk => hk) ((show ∀ k_, w22.heap.size ≤ k_ → (fun k_ => (w.heap.size ≤ k_) ∧ k_ ≠ gb480 ∧ k_ ≠ g) k_ from fun k_ hk => ⟨(Nat.le_trans (keep_size (w := w) (g := g) (row := none) (zk HK)) hk), Kd.freshB (zb BK480) k_ hk, IsS106.fresh (zi106 HI0) k_ hk⟩) _ (Nat.le_refl _)) (Below.refl _ _) (Nat.le_refl _) (by simp) ?_; (case hd => rfl); (case hg => rfl); (case hr => first | (go_simp; done) | (go_simp; rfl)); (case hp => exact (Reps.c9 (show Kd.FK k126 _ _ (⟨(⟨#[98, 111, 100, 121]⟩ : ByteArray), 1, (⟨t481, t482, t483, t484, t487, t490, t491⟩ : S124)⟩ : S126) [.string (⟨#[98, 111, 100, 121]⟩ : ByteArray), .int .i64 1, .bool t481, .bool t482, .bool t483, .slice Ao24 t484.length co24, .slice Ao23 t487.length co23, .int .i64 t490, .int .i64 t491] from (k126_mkF _ _ (⟨(⟨#[98, 111, 100, 121]⟩ : ByteArray), 1, (⟨t481, t482, t483, t484, t487, t490, t491⟩ : S124)⟩ : S126) (Kd.R_reads' (Kd.R_mono (ok' := (fun k_ => (w.heap.size ≤ k_) ∧ k_ ≠ gb480 ∧ k_ ≠ g)) (IsS106.apart HI0.out (Kd.R_types (HO486.out) BK480.out (by decide)) (by decide)) (fun k_ hk => ⟨hk.1.1.1, ⟨hk.1.2, hk.2⟩⟩))).2.1 (Kd.R_F (Kd.R_mono (ok' := (fun k_ => (w.heap.size ≤ k_) ∧ k_ ≠ gb480 ∧ k_ ≠ g)) (IsS106.apart HI0.out (Kd.R_types (HO486.out) BK480.out (by decide)) (by decide)) (fun k_ hk => ⟨hk.1.1.1, ⟨hk.1.2, hk.2⟩⟩))) (Kd.R_reads' (Kd.R_mono (ok' := (fun k_ => (w.heap.size ≤ k_) ∧ k_ ≠ gb480 ∧ k_ ≠ g)) (IsS106.apart HI0.out (Kd.R_types (HO489.out) BK480.out (by decide)) (by decide)) (fun k_ hk => ⟨hk.1.1.1, ⟨hk.1.2, hk.2⟩⟩))).2.1 (Kd.R_F (Kd.R_mono (ok' := (fun k_ => (w.heap.size ≤ k_) ∧ k_ ≠ gb480 ∧ k_ ≠ g)) (IsS106.apart HI0.out (Kd.R_types (HO489.out) BK480.out (by decide)) (by decide)) (fun k_ hk => ⟨hk.1.1.1, ⟨hk.1.2, hk.2⟩⟩))))) (Reps.c9 (show Kd.FK k126 _ _ (⟨(⟨#[112, 114, 105, 99, 101]⟩ : ByteArray), 3, (⟨false, false, false, ([] : List ByteArray), ([] : List (S129)), 0, 0⟩ : S124)⟩ : S126) [.string (⟨#[112, 114, 105, 99, 101]⟩ : ByteArray), .int .i64 3, .bool false, .bool false, .bool false, .slice none 0 0, .slice none 0 0, .int .i64 0, .int .i64 0] from (k126_mkF _ _ (⟨(⟨#[112, 114, 105, 99, 101]⟩ : ByteArray), 3, (⟨false, false, false, ([] : List ByteArray), ([] : List (S129)), 0, 0⟩ : S124)⟩ : S126) (Nat.le_refl _) (Kd.F_nil _ _ _) (Nat.le_refl _) (Kd.F_nil _ _ _))) (Reps.c9 (show Kd.FK k126 _ _ (⟨(⟨#[116, 97, 103]⟩ : ByteArray), 2, (⟨false, false, false, ([] : List ByteArray), ([] : List (S129)), 0, 0⟩ : S124)⟩ : S126) [.string (⟨#[116, 97, 103]⟩ : ByteArray), .int .i64 2, .bool false, .bool false, .bool false, .slice none 0 0, .slice none 0 0, .int .i64 0, .int .i64 0] from (k126_mkF _ _ (⟨(⟨#[116, 97, 103]⟩ : ByteArray), 2, (⟨false, false, false, ([] : List ByteArray), ([] : List (S129)), 0, 0⟩ : S124)⟩ : S126) (Nat.le_refl _) (Kd.F_nil _ _ _) (Nat.le_refl _) (Kd.F_nil _ _ _))) (Reps.c9 (show Kd.FK k126 _ _ (⟨(⟨#[116, 105, 116, 108, 101]⟩ : ByteArray), 1, (⟨true, false, false, ([] : List ByteArray), ([] : List (S129)), 0, 0⟩ : S124)⟩ : S126) [.string (⟨#[116, 105, 116, 108, 101]⟩ : ByteArray), .int .i64 1, .bool true, .bool false, .bool false, .slice none 0 0, .slice none 0 0, .int .i64 0, .int .i64 0] from (k126_mkF _ _ (⟨(⟨#[116, 105, 116, 108, 101]⟩ : ByteArray), 1, (⟨true, false, false, ([] : List ByteArray), ([] : List (S129)), 0, 0⟩ : S124)⟩ : S126) (Nat.le_refl _) (Kd.F_nil _ _ _) (Nat.le_refl _) (Kd.F_nil _ _ _))) (Reps.c9 (show Kd.FK k126 _ _ (⟨(⟨#[121, 101, 97, 114]⟩ : ByteArray), 3, (⟨false, false, false, ([] : List ByteArray), ([] : List (S129)), 0, 0⟩ : S124)⟩ : S126) [.string (⟨#[121, 101, 97, 114]⟩ : ByteArray), .int .i64 3, .bool false, .bool false, .bool false, .slice none 0 0, .slice none 0 0, .int .i64 0, .int .i64 0] from (k126_mkF _ _ (⟨(⟨#[121, 101, 97, 114]⟩ : ByteArray), 3, (⟨false, false, false, ([] : List ByteArray), ([] : List (S129)), 0, 0⟩ : S124)⟩ : S126) (Nat.le_refl _) (Kd.F_nil _ _ _) (Nat.le_refl _) (Kd.F_nil _ _ _))) (Reps.none _ _))))))); intro v495 w25 ho26 hb hg_ hnew_; clear hg_ hnew_; (first | rw [← Ny494.out] at ho26 | (simp only [Int.reduceToNat] at ho26; rw [← Ny494.out] at ho26)); have HO496 := zm (Kd.N_lower ho26 (keep_size (w := w) (g := g) (row := none) (zk HK))); replace HI0 := zm (IsS106.below (zi106 HI0) hb); replace BK480 := zbb BK480 hb; replace HK := zkB HK hb; replace HB := zm (below_step (zj106 HB) hb); clear HO486 HO489; clear hb ho26) | ((with_reducible refine gate_callee (f := 80) rfl ?_); refine zgl 14 Try.func80 #[.pointer (some ⟨g, 0, none⟩), .int .i64 6] ?_; refine (F15.calls g s0_0 t492 t493 6 false t498 t499 w0 _ (zi106 HI0) (zj106 HB) A3.out).mono ?_; rintro e w27 ⟨rfl, hi, hb, hk⟩; refine ⟨_, rfl, ?_⟩; replace BK480 := zkb BK480 NB480_0 hk; replace HO496 := zm (Kd.N_mono (Kd.N_keep (Kd.N_mono (ok := fun k_ => (((w.heap.size ≤ k_)) ∧ (k_ ≠ gb480 ∧ k_ ≠ g))) (zn HO496) (fun k_ hk_ => (⟨hk_, hk_.2.2⟩ : _ ∧ k_ ≠ g))) hk (fun _ h => h.2)) (fun _ h => h.1)); replace HK := zkt HK hk; replace HB := zm (hb); replace HI0 := zm (hi); (try clear hb hk hi); obtain ⟨Ao28, co28, eo28⟩ := Kd.N_slice HO496.out; subst eo28; obtain ⟨_, _⟩ := zne NB480_0; obtain ⟨_, _⟩ := zc1 BK480))
  refine bodyPost_ret (results_cell_row rfl _ _ gb480 111 #[.slice Ao28 y494.length co28] (0, 0) _ rfl (zp BK480) Try.underlying111 rfl (by kernel_rfl)) rfl ?_
  exact ⟨_, zre, zxN (Kd.N_mono (zfN gb480 0 (Kd.N_mono HO496.out (fun k_ hk => (⟨hk, hk.2.1⟩ : _ ∧ k_ ≠ gb480))) (.slice Ao28 y494.length co28)) (fun _ hk => hk.1.1)), zi106 HI0, zj106 HB, zk HK⟩

 subst c4
 rw [if_pos rfl] at H
 replace H := zbi H
 obtain ⟨⟨t500, t501, t502⟩, A5, H⟩ := H
 try dsimp only at H
 obtain ⟨ji6, hji6⟩ : ∃ j_ : Int, (wrap64 (1 + t500)) = j_ := ⟨_, rfl⟩
 replace H : (if 0 ≤ (ji6) then (if (ji6) ≤ (y494.length : Int) then (some ((y494.take ((ji6) : Int).toNat), t501, t502)) else (none)) else (none)) = some (r1, r2, r3) := by first | (rw [hji6] at H; exact H) | (simp only [hji6] at H ⊢; exact H)
 (try rw [hji6] at A2)
 (try rw [hji6] at A3)
 (try rw [hji6] at A5)
 have hji6w : (IntKind.i64.wrap (1 + t500)) = ji6 := (i64_w _).trans hji6
 replace H := zif H
 obtain ⟨c7, H⟩ := H
 have c7b0 := eq_true c7
 have c7b1 := decide_eq_true c7
 clear c7
 replace H := zif H
 obtain ⟨c8, H⟩ := H
 have c8b0 := eq_true c8
 have c8b1 := decide_eq_true c8
 clear c8
 obtain ⟨y503, hy503⟩ : ∃ y_ : List (S126), y_ = (y494.take ((ji6) : Int).toNat) := ⟨_, rfl⟩
 replace H : (some (y503, t501, t502)) = some (r1, r2, r3) := zby hy503 H
 have Ny503 := zm hy503
 clear hy503
 simp only [Option.some.injEq, Prod.mk.injEq] at H
 obtain ⟨rfl, rfl, rfl⟩ := H
 go_enter Try.func83, Try.ntmps83
 go_wp2_with (first | ((with_reducible refine gate_dst (N := 2) rfl ?_); refine box_event (by rfl) (N := 2) (by rfl) (cs := #[.slice none 0 0]) (t := 111) zgs ?_; intro gb480 hg w9 hbox hb; replace HB := zm (below_step (zj106 HB) hb); have BK480 := zm (hbox); have GW480 := zge hg (keep_size (w := w) (g := g) (row := none) (zk HK)); have GE480 := zm ((Nat.le_trans HW0.out (by rw [hg]; exact (keep_size (w := w) (g := g) (row := none) (zk HK)) : w.heap.size ≤ gb480) : w0.heap.size ≤ gb480)); replace HK := zkB HK hb; obtain ⟨NB0_480, NB480_0⟩ := znn hg (IsS106.lt (show IsS106 w0 _ g s0_0 s0_1 s0_2 from zi106 HI0)); replace HI0 := zm (IsS106.below (zi106 HI0) hb); clear hb hbox hg) | ((with_reducible refine gate_callee (f := 98) rfl ?_); refine zgl 5 Try.func98 #[.pointer (some ⟨g, 0, none⟩)] ?_; refine (F5.calls k g s0_0 s0_1 s0_2 t481 t482 t483 t484 t487 t490 t491 t492 t493 w0 _ (zi106 HI0) (zj106 HB) A2.out).mono ?_; rintro e w10 ⟨v485, v488, rfl, ho0, ho1, hi, hb, hk⟩; refine ⟨_, rfl, ?_⟩; replace BK480 := zkb BK480 NB480_0 hk; have HO486 := zm (Kd.R_lower (Kd.R_newM (M := fun k_ => (w.heap.size ≤ k_)) ho0 (keep_size (w := w) (g := g) (row := none) (zk HK)) (fun k_ h_ => h_)) (keep_size (w := w) (g := g) (row := none) (zk HK))); have HO489 := zm (Kd.R_lower (Kd.R_newM (M := fun k_ => (w.heap.size ≤ k_)) ho1 (keep_size (w := w) (g := g) (row := none) (zk HK)) (fun k_ h_ => h_)) (keep_size (w := w) (g := g) (row := none) (zk HK))); replace HK := zkt HK hk; replace HB := zm (hb); replace HI0 := zm (hi); (try clear hb ho0 hk hi ho1); obtain ⟨Ao11, co11, eo11⟩ := Kd.R_slice HO489.out; subst eo11; obtain ⟨Ao12, co12, eo12⟩ := Kd.R_slice HO486.out; subst eo12) | ((with_reducible refine gate_dst (N := 12) rfl ?_); refine Kd.N_lit k126 _ 126 ?hg (N' := 12) ?hd (xs := ([(⟨(⟨#[98, 111, 100, 121]⟩ : ByteArray), 1, (⟨t481, t482, t483, t484, t487, t490, t491⟩ : S124)⟩ : S126), (⟨(⟨#[112, 114, 105, 99, 101]⟩ : ByteArray), 3, (⟨false, false, false, ([] : List ByteArray), ([] : List (S129)), 0, 0⟩ : S124)⟩ : S126), (⟨(⟨#[116, 97, 103]⟩ : ByteArray), 2, (⟨false, false, false, ([] : List ByteArray), ([] : List (S129)), 0, 0⟩ : S124)⟩ : S126), (⟨(⟨#[116, 105, 116, 108, 101]⟩ : ByteArray), 1, (⟨true, false, false, ([] : List ByteArray), ([] : List (S129)), 0, 0⟩ : S124)⟩ : S126), (⟨(⟨#[121, 101, 97, 114]⟩ : ByteArray), 3, (⟨false, false, false, ([] : List ByteArray), ([] : List (S129)), 0, 0⟩ : S124)⟩ : S126)] : List (S126))) (inner := [.string (⟨#[98, 111, 100, 121]⟩ : ByteArray), .int .i64 1, .bool t481, .bool t482, .bool t483, .slice Ao12 t484.length co12, .slice Ao11 t487.length co11, .int .i64 t490, .int .i64 t491, .string (⟨#[112, 114, 105, 99, 101]⟩ : ByteArray), .int .i64 3, .bool false, .bool false, .bool false, .slice none 0 0, .slice none 0 0, .int .i64 0, .int .i64 0, .string (⟨#[116, 97, 103]⟩ : ByteArray), .int .i64 2, .bool false, .bool false, .bool false, .slice none 0 0, .slice none 0 0, .int .i64 0, .int .i64 0, .string (⟨#[116, 105, 116, 108, 101]⟩ : ByteArray), .int .i64 1, .bool true, .bool false, .bool false, .slice none 0 0, .slice none 0 0, .int .i64 0, .int .i64 0, .string (⟨#[121, 101, 97, 114]⟩ : ByteArray), .int .i64 3, .bool false, .bool false, .bool false, .slice none 0 0, .slice none 0 0, .int .i64 0, .int .i64 0]) (ok := (fun k_ => (w.heap.size ≤ k_) ∧ k_ ≠ gb480 ∧ k_ ≠ g)) (okp := (fun k_ => (w.heap.size ≤ k_) ∧ k_ ≠ gb480 ∧ k_ ≠ g)) ?hr ?hp (fun _ hk => hk) ((show ∀ k_, w10.heap.size ≤ k_ → (fun k_ => (w.heap.size ≤ k_) ∧ k_ ≠ gb480 ∧ k_ ≠ g) k_ from fun k_ hk => ⟨(Nat.le_trans (keep_size (w := w) (g := g) (row := none) (zk HK)) hk), Kd.freshB (zb BK480) k_ hk, IsS106.fresh (zi106 HI0) k_ hk⟩) _ (Nat.le_refl _)) (Below.refl _ _) (Nat.le_refl _) (by simp) ?_; (case hd => rfl); (case hg => rfl); (case hr => first | (go_simp; done) | (go_simp; rfl)); (case hp => exact (Reps.c9 (show Kd.FK k126 _ _ (⟨(⟨#[98, 111, 100, 121]⟩ : ByteArray), 1, (⟨t481, t482, t483, t484, t487, t490, t491⟩ : S124)⟩ : S126) [.string (⟨#[98, 111, 100, 121]⟩ : ByteArray), .int .i64 1, .bool t481, .bool t482, .bool t483, .slice Ao12 t484.length co12, .slice Ao11 t487.length co11, .int .i64 t490, .int .i64 t491] from (k126_mkF _ _ (⟨(⟨#[98, 111, 100, 121]⟩ : ByteArray), 1, (⟨t481, t482, t483, t484, t487, t490, t491⟩ : S124)⟩ : S126) (Kd.R_reads' (Kd.R_mono (ok' := (fun k_ => (w.heap.size ≤ k_) ∧ k_ ≠ gb480 ∧ k_ ≠ g)) (IsS106.apart HI0.out (Kd.R_types (HO486.out) BK480.out (by decide)) (by decide)) (fun k_ hk => ⟨hk.1.1.1, ⟨hk.1.2, hk.2⟩⟩))).2.1 (Kd.R_F (Kd.R_mono (ok' := (fun k_ => (w.heap.size ≤ k_) ∧ k_ ≠ gb480 ∧ k_ ≠ g)) (IsS106.apart HI0.out (Kd.R_types (HO486.out) BK480.out (by decide)) (by decide)) (fun k_ hk => ⟨hk.1.1.1, ⟨hk.1.2, hk.2⟩⟩))) (Kd.R_reads' (Kd.R_mono (ok' := (fun k_ => (w.heap.size ≤ k_) ∧ k_ ≠ gb480 ∧ k_ ≠ g)) (IsS106.apart HI0.out (Kd.R_types (HO489.out) BK480.out (by decide)) (by decide)) (fun k_ hk => ⟨hk.1.1.1, ⟨hk.1.2, hk.2⟩⟩))).2.1 (Kd.R_F (Kd.R_mono (ok' := (fun k_ => (w.heap.size ≤ k_) ∧ k_ ≠ gb480 ∧ k_ ≠ g)) (IsS106.apart HI0.out (Kd.R_types (HO489.out) BK480.out (by decide)) (by decide)) (fun k_ hk => ⟨hk.1.1.1, ⟨hk.1.2, hk.2⟩⟩))))) (Reps.c9 (show Kd.FK k126 _ _ (⟨(⟨#[112, 114, 105, 99, 101]⟩ : ByteArray), 3, (⟨false, false, false, ([] : List ByteArray), ([] : List (S129)), 0, 0⟩ : S124)⟩ : S126) [.string (⟨#[112, 114, 105, 99, 101]⟩ : ByteArray), .int .i64 3, .bool false, .bool false, .bool false, .slice none 0 0, .slice none 0 0, .int .i64 0, .int .i64 0] from (k126_mkF _ _ (⟨(⟨#[112, 114, 105, 99, 101]⟩ : ByteArray), 3, (⟨false, false, false, ([] : List ByteArray), ([] : List (S129)), 0, 0⟩ : S124)⟩ : S126) (Nat.le_refl _) (Kd.F_nil _ _ _) (Nat.le_refl _) (Kd.F_nil _ _ _))) (Reps.c9 (show Kd.FK k126 _ _ (⟨(⟨#[116, 97, 103]⟩ : ByteArray), 2, (⟨false, false, false, ([] : List ByteArray), ([] : List (S129)), 0, 0⟩ : S124)⟩ : S126) [.string (⟨#[116, 97, 103]⟩ : ByteArray), .int .i64 2, .bool false, .bool false, .bool false, .slice none 0 0, .slice none 0 0, .int .i64 0, .int .i64 0] from (k126_mkF _ _ (⟨(⟨#[116, 97, 103]⟩ : ByteArray), 2, (⟨false, false, false, ([] : List ByteArray), ([] : List (S129)), 0, 0⟩ : S124)⟩ : S126) (Nat.le_refl _) (Kd.F_nil _ _ _) (Nat.le_refl _) (Kd.F_nil _ _ _))) (Reps.c9 (show Kd.FK k126 _ _ (⟨(⟨#[116, 105, 116, 108, 101]⟩ : ByteArray), 1, (⟨true, false, false, ([] : List ByteArray), ([] : List (S129)), 0, 0⟩ : S124)⟩ : S126) [.string (⟨#[116, 105, 116, 108, 101]⟩ : ByteArray), .int .i64 1, .bool true, .bool false, .bool false, .slice none 0 0, .slice none 0 0, .int .i64 0, .int .i64 0] from (k126_mkF _ _ (⟨(⟨#[116, 105, 116, 108, 101]⟩ : ByteArray), 1, (⟨true, false, false, ([] : List ByteArray), ([] : List (S129)), 0, 0⟩ : S124)⟩ : S126) (Nat.le_refl _) (Kd.F_nil _ _ _) (Nat.le_refl _) (Kd.F_nil _ _ _))) (Reps.c9 (show Kd.FK k126 _ _ (⟨(⟨#[121, 101, 97, 114]⟩ : ByteArray), 3, (⟨false, false, false, ([] : List ByteArray), ([] : List (S129)), 0, 0⟩ : S124)⟩ : S126) [.string (⟨#[121, 101, 97, 114]⟩ : ByteArray), .int .i64 3, .bool false, .bool false, .bool false, .slice none 0 0, .slice none 0 0, .int .i64 0, .int .i64 0] from (k126_mkF _ _ (⟨(⟨#[121, 101, 97, 114]⟩ : ByteArray), 3, (⟨false, false, false, ([] : List ByteArray), ([] : List (S129)), 0, 0⟩ : S124)⟩ : S126) (Nat.le_refl _) (Kd.F_nil _ _ _) (Nat.le_refl _) (Kd.F_nil _ _ _))) (Reps.none _ _))))))); intro v495 w13 ho14 hb hg_ hnew_; clear hg_ hnew_; (first | rw [← Ny494.out] at ho14 | (simp only [Int.reduceToNat] at ho14; rw [← Ny494.out] at ho14)); have HO496 := zm (Kd.N_lower ho14 (keep_size (w := w) (g := g) (row := none) (zk HK))); replace HI0 := zm (IsS106.below (zi106 HI0) hb); replace BK480 := zbb BK480 hb; replace HK := zkB HK hb; replace HB := zm (below_step (zj106 HB) hb); clear HO486 HO489; clear hb ho14) | ((with_reducible refine gate_callee (f := 80) rfl ?_); refine zgl 14 Try.func80 #[.pointer (some ⟨g, 0, none⟩), .int .i64 6] ?_; refine (F15.calls g s0_0 t492 t493 6 true t498 t499 w0 _ (zi106 HI0) (zj106 HB) A3.out).mono ?_; rintro e w15 ⟨rfl, hi, hb, hk⟩; refine ⟨_, rfl, ?_⟩; replace BK480 := zkb BK480 NB480_0 hk; replace HO496 := zm (Kd.N_mono (Kd.N_keep (Kd.N_mono (ok := fun k_ => (((w.heap.size ≤ k_)) ∧ (k_ ≠ gb480 ∧ k_ ≠ g))) (zn HO496) (fun k_ hk_ => (⟨hk_, hk_.2.2⟩ : _ ∧ k_ ≠ g))) hk (fun _ h => h.2)) (fun _ h => h.1)); replace HK := zkt HK hk; replace HB := zm (hb); replace HI0 := zm (hi); (try clear hb hk hi)) | ((with_reducible refine gate_callee (f := 55) rfl ?_); refine zgl 17 Try.func55 #[.pointer (some ⟨g, 0, none⟩), .int .i64 5] ?_; refine (F1.calls g s0_0 t498 t499 5 t500 t501 t502 w0 _ (zi106 HI0) (zj106 HB) A5.out).mono ?_; rintro e w16 ⟨rfl, hi, hb, hk⟩; refine ⟨_, rfl, ?_⟩; replace BK480 := zkb BK480 NB480_0 hk; replace HO496 := zm (Kd.N_mono (Kd.N_keep (Kd.N_mono (ok := fun k_ => (((w.heap.size ≤ k_)) ∧ (k_ ≠ gb480 ∧ k_ ≠ g))) (zn HO496) (fun k_ hk_ => (⟨hk_, hk_.2.2⟩ : _ ∧ k_ ≠ g))) hk (fun _ h => h.2)) (fun _ h => h.1)); replace HK := zkt HK hk; replace HB := zm (hb); replace HI0 := zm (hi); (try clear hb hk hi); obtain ⟨Ao17, co17, eo17⟩ := Kd.N_slice HO496.out; subst eo17; have q18 : ((ji6) : Int) ≤ ((y494.length : Int) : Int) := of_decide_eq_true zas; obtain ⟨i018, hi018, _, hsz18, _⟩ := info_parts info126; have hcut18 := cut_to (P := Try.prog) 109 126 .i64 Try.underlying109 hi018 Ao17 y494.length co17 (ji6) (of_decide_eq_true zas) q18 (Kd.N_reads' HO496.out).2.1; have hr18 := Kd.N_take (m := ((ji6) : Int).toNat) HO496.out (by omega); have hy18 : y503.length = ((ji6) : Int).toNat := (by rw [Ny503.out, List.length_take]; omega); rw [← Ny503.out] at hr18; rw [← hy18] at hr18 hcut18; clear hy18 hi018 hsz18 HO496; have HO505 := zm hr18; clear hr18; replace q18 := eq_true q18; obtain ⟨_, _⟩ := zne NB480_0; obtain ⟨_, _⟩ := zc1 BK480))
 refine bodyPost_ret (results_cell_row rfl _ _ gb480 111 #[.slice Ao17 y503.length co17] (0, 0) _ rfl (zp BK480) Try.underlying111 rfl (by kernel_rfl)) rfl ?_
 exact ⟨_, by first | rfl | (simp [errW_none, errW_some] <;> rfl) | (simp only [← hji6]; first | rfl | (simp [errW_none, errW_some] <;> rfl)) | (simp [*, errW_none, errW_some] <;> rfl), zxN (Kd.N_mono (zfN gb480 0 (Kd.N_mono HO505.out (fun k_ hk => (⟨hk, hk.2.1⟩ : _ ∧ k_ ≠ gb480))) (.slice Ao17 y503.length co17)) (fun _ hk => hk.1.1)), zi106 HI0, zj106 HB, zk HK⟩
/-! ### F37: function 54 -/
def F37.f (k : Nat) (s0_0 : List Int) (s0_1 : Int) (s0_2 : Int) (a1 : Int) : Option (Int × Int × ByteArray × ByteArray × (List (S66)) × Int × Int) := (F15.f s0_0 s0_1 s0_2 3).bind fun bt507 => (if bt507.1 = true then ((F1.f s0_0 bt507.2.1 bt507.2.2 10).bind fun bt510 => ((F25.f k bt510.1).bind fun t513 => (if 1 + t513.size ≤ 9223372036854775807 then (some (2, a1, (⟨#[100]⟩ : ByteArray) ++ t513, (⟨#[]⟩ : ByteArray), ([] : List (S66)), bt510.2.1, bt510.2.2)) else (none)))) else ((F36.f k s0_0 bt507.2.1 bt507.2.2).bind fun bt514 => ((F3.f k s0_0 bt514.2.1 bt514.2.2 bt514.1).bind fun bt519 => (some (1, a1, (⟨#[]⟩ : ByteArray), bt519.1, bt519.2.1, bt519.2.2.1, bt519.2.2.2)))))
theorem F37.mono : ∀ a0 a1 a2 a3 k, LeO (F37.f k a0 a1 a2 a3) (F37.f (k + 1) a0 a1 a2 a3) := by
 intro a0 a1 a2 a3 k
 unfold F37.f
 repeat' with_reducible first | exact F3.mono _ _ _ _ _ | exact F36.mono _ _ _ _ | exact F25.mono _ _ | exact LeO.refl _ | exact LeO.none _ | refine LeO.ite ?_ ?_ | refine LeO.bind ?_ (fun _ => ?_)
set_option maxHeartbeats 8000000 in
set_option maxRecDepth 100000 in
theorem F37.calls (k : Nat) (g : Nat) (s0_0 : List Int) (s0_1 : Int) (s0_2 : Int) (a1 : Int) (r1 : Int) (r2 : Int) (r3 : ByteArray) (r4 : ByteArray) (r5 : List (S66)) (r6 : Int) (r7 : Int) (w0 w : World) (hI : IsS106 w0 w g s0_0 s0_1 s0_2) (hB : Below w0.heap.size w0 w) (h : F37.f k s0_0 s0_1 s0_2 a1 = some (r1, r2, r3, r4, r5, r6, r7)) :
 Calls Try.prog 54 #[.pointer (some ⟨g, 0, none⟩), .int .i64 a1] w fun e w' => ∃ v4_ : Value, e = .returned (.agg #[.int .i64 r1, .int .i64 r2, .string r3, .string r4, v4_]) ∧ Kd.S k66 66 w' w.heap.size (fun k_ => (w.heap.size ≤ k_)) v4_ r5 ∧ IsS106 w0 w' g s0_0 r6 r7 ∧ Below w0.heap.size w0 w' ∧ KeepBut w w' g none := by
 have hu47 := Try.underlying47
 have HI0 := zm hI
 have HK := zm (KeepBut.refl w g none)
 have HL := zm hB.size
 clear hI
 have HW0 := zm hB.size
 have HB := zm hB
 clear hB
 have H := h
 unfold F37.f at H
 clear h
 replace H := zbi H
 obtain ⟨⟨t507, t508, t509⟩, A3, H⟩ := H
 try dsimp only at H
 by_cases c4 : t507 = true
 ·subst c4
  rw [if_pos rfl] at H
  replace H := zbi H
  obtain ⟨⟨t510, t511, t512⟩, A5, H⟩ := H
  try dsimp only at H
  replace H := zbi H
  obtain ⟨t513, A6, H⟩ := H
  try dsimp only at H
  replace H := zif H
  obtain ⟨c7, H⟩ := H
  have c7b0 := eq_true c7
  have c7b1 := decide_eq_true c7
  try have c7b2 : (9223372036854775807 < 1 + t513.size) = False := eq_false (Nat.not_lt.2 c7)
  simp only [Option.some.injEq, Prod.mk.injEq] at H
  obtain ⟨rfl, rfl, rfl, rfl, rfl, rfl, rfl⟩ := H
  go_enter Try.func54, Try.ntmps54
  go_wp2_with (first | ((with_reducible refine gate_dst (N := 4) rfl ?_); refine box_event (by rfl) (N := 4) (by rfl) (cs := #[.int .i64 0, .int .i64 0, .string (⟨#[]⟩ : ByteArray), .string (⟨#[]⟩ : ByteArray), .slice none 0 0]) (t := 47) zgs ?_; intro gb506 hg w8 hbox hb; replace HB := zm (below_step (zj106 HB) hb); have BK506 := zm (hbox); have GW506 := zge hg (keep_size (w := w) (g := g) (row := none) (zk HK)); have GE506 := zm ((Nat.le_trans HW0.out (by rw [hg]; exact (keep_size (w := w) (g := g) (row := none) (zk HK)) : w.heap.size ≤ gb506) : w0.heap.size ≤ gb506)); replace HK := zkB HK hb; obtain ⟨NB0_506, NB506_0⟩ := znn hg (IsS106.lt (show IsS106 w0 _ g s0_0 s0_1 s0_2 from zi106 HI0)); replace HI0 := zm (IsS106.below (zi106 HI0) hb); clear hb hbox hg) | ((with_reducible refine gate_callee (f := 80) rfl ?_); refine zgl 6 Try.func80 #[.pointer (some ⟨g, 0, none⟩), .int .i64 3] ?_; refine (F15.calls g s0_0 s0_1 s0_2 3 true t508 t509 w0 _ (zi106 HI0) (zj106 HB) A3.out).mono ?_; rintro e w9 ⟨rfl, hi, hb, hk⟩; refine ⟨_, rfl, ?_⟩; replace BK506 := zkb BK506 NB506_0 hk; replace HK := zkt HK hk; replace HB := zm (hb); replace HI0 := zm (hi); (try clear hb hk hi)) | ((with_reducible refine gate_callee (f := 55) rfl ?_); refine zgl 9 Try.func55 #[.pointer (some ⟨g, 0, none⟩), .int .i64 10] ?_; refine (F1.calls g s0_0 t508 t509 10 t510 t511 t512 w0 _ (zi106 HI0) (zj106 HB) A5.out).mono ?_; rintro e w10 ⟨rfl, hi, hb, hk⟩; refine ⟨_, rfl, ?_⟩; replace BK506 := zkb BK506 NB506_0 hk; replace HK := zkt HK hk; replace HB := zm (hb); replace HI0 := zm (hi); (try clear hb hk hi)) | ((with_reducible refine gate_callee (f := 81) rfl ?_); refine zgl 10 Try.func81 #[.int .i64 t510] ?_; (with_reducible refine (F25.calls k t510 t513 _ A6.out).mono ?_); rintro e w11 ⟨rfl, hb⟩; refine ⟨_, rfl, ?_⟩; replace HI0 := zm (IsS106.below (zi106 HI0) hb); replace BK506 := zbb BK506 hb; replace HK := zkB HK hb; replace HB := zm (below_step (zj106 HB) hb); (try clear hb); obtain ⟨_, _⟩ := zne NB506_0; obtain ⟨⟨_, _, _, _, _⟩, _, _, _, _, _⟩ := zc5 BK506))
  refine bodyPost_ret (results_cell_row rfl _ _ gb506 47 #[.int .i64 2, .int .i64 a1, .string ((⟨#[100]⟩ : ByteArray) ++ t513), .string (⟨#[]⟩ : ByteArray), .slice none 0 0] (0, 0) _ rfl (zp BK506) Try.underlying47 rfl (by kernel_rfl)) rfl ?_
  exact ⟨_, zre, by first | exact Kd.S_nil _ _ _ _ _ | exact Kd.S_nil _ _ _ _ _ | exact Kd.V_nil _ _ _ _ _ | exact Kd.Q_nil _ _ _ _ _ | exact Kd.R_nil _ _ _ _ _, zi106 HI0, zj106 HB, zk HK⟩
 replace c4 := Bool.eq_false_iff.mpr c4
 subst c4
 rw [if_neg (show ¬ (false = true) by decide)] at H
 replace H := zbi H
 obtain ⟨⟨t514, t517, t518⟩, A15, H⟩ := H
 try dsimp only at H
 replace H := zbi H
 obtain ⟨⟨t519, t520, t523, t524⟩, A16, H⟩ := H
 try dsimp only at H
 simp only [Option.some.injEq, Prod.mk.injEq] at H
 obtain ⟨rfl, rfl, rfl, rfl, rfl, rfl, rfl⟩ := H
 go_enter Try.func54, Try.ntmps54
 go_wp2_with (first | ((with_reducible refine gate_dst (N := 4) rfl ?_); refine box_event (by rfl) (N := 4) (by rfl) (cs := #[.int .i64 0, .int .i64 0, .string (⟨#[]⟩ : ByteArray), .string (⟨#[]⟩ : ByteArray), .slice none 0 0]) (t := 47) zgs ?_; intro gb506 hg w17 hbox hb; replace HB := zm (below_step (zj106 HB) hb); have BK506 := zm (hbox); have GW506 := zge hg (keep_size (w := w) (g := g) (row := none) (zk HK)); have GE506 := zm ((Nat.le_trans HW0.out (by rw [hg]; exact (keep_size (w := w) (g := g) (row := none) (zk HK)) : w.heap.size ≤ gb506) : w0.heap.size ≤ gb506)); replace HK := zkB HK hb; obtain ⟨NB0_506, NB506_0⟩ := znn hg (IsS106.lt (show IsS106 w0 _ g s0_0 s0_1 s0_2 from zi106 HI0)); replace HI0 := zm (IsS106.below (zi106 HI0) hb); clear hb hbox hg) | ((with_reducible refine gate_callee (f := 80) rfl ?_); refine zgl 6 Try.func80 #[.pointer (some ⟨g, 0, none⟩), .int .i64 3] ?_; refine (F15.calls g s0_0 s0_1 s0_2 3 false t508 t509 w0 _ (zi106 HI0) (zj106 HB) A3.out).mono ?_; rintro e w18 ⟨rfl, hi, hb, hk⟩; refine ⟨_, rfl, ?_⟩; replace BK506 := zkb BK506 NB506_0 hk; replace HK := zkt HK hk; replace HB := zm (hb); replace HI0 := zm (hi); (try clear hb hk hi)) | ((with_reducible refine gate_callee (f := 83) rfl ?_); refine zgl 16 Try.func83 #[.pointer (some ⟨g, 0, none⟩)] ?_; refine (F36.calls k g s0_0 t508 t509 t514 t517 t518 w0 _ (zi106 HI0) (zj106 HB) A15.out).mono ?_; rintro e w19 ⟨v515, rfl, ho0, hi, hb, hk⟩; refine ⟨_, rfl, ?_⟩; have HO516 := zm (Kd.N_lower (Kd.N_mono (ok' := fun k_ => (w.heap.size ≤ k_) ∧ k_ ≠ gb506 ∧ k_ ≠ g) ho0 (fun k_ hk_ => ⟨(Nat.le_trans (keep_size (w := w) (g := g) (row := none) (zk HK)) hk_), (Kd.freshB (zb BK506) k_ hk_), (IsS106.fresh (zi106 HI0) k_ hk_)⟩)) (keep_size (w := w) (g := g) (row := none) (zk HK))); replace BK506 := zkb BK506 NB506_0 hk; replace HK := zkt HK hk; replace HB := zm (hb); replace HI0 := zm (hi); (try clear hb ho0 hk hi); obtain ⟨Ao20, co20, eo20⟩ := Kd.N_slice HO516.out; subst eo20) | ((with_reducible refine gate_callee (f := 82) rfl ?_); refine zgl 17 Try.func82 #[.pointer (some ⟨g, 0, none⟩), .agg #[.slice Ao20 t514.length co20]] ?_; (with_reducible refine (F3.calls k g s0_0 t517 t518 _ _ t514 t519 t520 t523 t524 w0 _ ?side1 ?side2 ?side3 ?side4 A16.out).mono ?_); (case side1 => exact zi106 HI0); (case side2 => exact zj106 HB); (case side3 => exact Kd.C_foot_ownV (base := 0) (Kd.N_V (Kd.N_mono (ok := fun k_ => (((w.heap.size ≤ k_)) ∧ (k_ ≠ gb506 ∧ k_ ≠ g))) (zn HO516) (fun k_ hk_ => (⟨hk_, hk_.2.2⟩ : _ ∧ k_ ≠ g)))) (fun _ h_ => h_.2)); (case side4 => exact (Kd.N_reads' HO516.out).2.1); rintro e w21 ⟨v521, rfl, ho0, hi, hb, hk⟩; refine ⟨_, rfl, ?_⟩; have HO522 := zm (Kd.S_lower (Kd.S_mono (ok' := fun k_ => (w.heap.size ≤ k_) ∧ some k_ ≠ (.slice Ao20 t514.length co20 : Value).ownBlock ∧ k_ ≠ gb506 ∧ k_ ≠ g) (Kd.S_bound ho0) (fun k_ hk_ => ⟨(Nat.le_trans (keep_size (w := w) (g := g) (row := none) (zk HK)) hk_.2.1), (Kd.fresh' (Kd.N_lt (zn HO516)) k_ hk_.2.1), (Kd.freshB (zb BK506) k_ hk_.2.1), (IsS106.fresh (zi106 HI0) k_ hk_.2.1)⟩)) (keep_size (w := w) (g := g) (row := none) (zk HK))); replace BK506 := zkb BK506 NB506_0 hk; replace HO516 := zm (Kd.N_mono (Kd.N_told (Kd.N_oldK (Kd.N_mono (ok := fun k_ => (((w.heap.size ≤ k_)) ∧ (k_ ≠ gb506 ∧ k_ ≠ g))) (zn HO516) (fun k_ hk_ => (⟨hk_, hk_.2.2⟩ : _ ∧ k_ ≠ g))) hk) (by first | exact Kd.N_base ho0 | exact Kd.S_base ho0)) (fun _ h_ => h_.1)); replace HK := zkt HK hk; replace HB := zm (hb); replace HI0 := zm (hi); (try clear hb ho0 hk hi); obtain ⟨Ao22, co22, eo22⟩ := Kd.S_slice HO522.out; subst eo22; obtain ⟨_, _⟩ := zne NB506_0; obtain ⟨⟨_, _, _, _, _⟩, _, _, _, _, _⟩ := zc5 BK506))
 refine bodyPost_ret (results_cell_row rfl _ _ gb506 47 #[.int .i64 1, .int .i64 a1, .string (⟨#[]⟩ : ByteArray), .string t519, .slice Ao22 t520.length co22] (0, 0) _ rfl (zp BK506) Try.underlying47 rfl (by kernel_rfl)) rfl ?_
 exact ⟨_, zre, zxS (Kd.S_mono (zfS gb506 4 (zfS gb506 3 (zfS gb506 2 (zfS gb506 1 (zfS gb506 0 (Kd.S_mono HO522.out (fun k_ hk => (⟨hk, hk.2.2.1⟩ : _ ∧ k_ ≠ gb506))) (.int .i64 1)) (.int .i64 a1)) (.string (⟨#[]⟩ : ByteArray))) (.string t519)) (.slice Ao22 t520.length co22)) (fun _ hk => hk.1.1)), zi106 HI0, zj106 HB, zk HK⟩

/-! ### F23: function 85 -/
def F23.j0 : Nat → Bool → List Int → Int → Int → Option (Int × Int × Int)
 | 0, _, _, _, _ => none
 | k + 1, x20, x1000, x1001, x1002 => if x20 = true then ((F1.f x1000 x1001 x1002 100000).bind fun bt541 => (some (bt541.1, bt541.2.1, bt541.2.2))) else ((F1.f x1000 x1001 x1002 60).bind fun bt544 => (some (bt544.1, bt544.2.1, bt544.2.2)))
def F23.f (k : Nat) (s0_0 : List Int) (s0_1 : Int) (s0_2 : Int) : Option (Int × Int × Int) := (F1.f s0_0 s0_1 s0_2 12).bind fun bt525 => (if bt525.1 = 0 then ((some (([0, 1, 127, 128, 16383, 16384, 4611686018427387903, 4611686018427387902, 72057594037927935, 72057594037927936] : List Int) : List Int)).bind fun y528 => ((F1.f s0_0 bt525.2.1 bt525.2.2 10).bind fun bt531 => (if 0 ≤ bt531.1 then (if bt531.1 < (y528.length : Int) then (some (rd y528 bt531.1, bt531.2.1, bt531.2.2)) else (none)) else (none)))) else (if bt525.1 = 1 then ((F1.f s0_0 bt525.2.1 bt525.2.2 16777216).bind fun bt535 => ((F1.f s0_0 bt535.2.1 bt535.2.2 65536).bind fun bt538 => (some (wrap64 ((wrap64 (bt535.1 * 65536)) + bt538.1), bt538.2.1, bt538.2.2)))) else (if bt525.1 = 2 then (F23.j0 k (bt525.1 == 2) s0_0 bt525.2.1 bt525.2.2) else (F23.j0 k (bt525.1 == 3) s0_0 bt525.2.1 bt525.2.2))))
theorem F23.mono_l : ∀ k, (∀ y0 y1 y2 y3, LeO (F23.j0 k y0 y1 y2 y3) (F23.j0 (k + 1) y0 y1 y2 y3))
 | 0 => fun _ _ _ _ r h => by simp [F23.j0] at h
 | k + 1 => by
  have ih0 := F23.mono_l k
  ·intro y0 y1 y2 y3
   unfold F23.j0
   repeat' with_reducible first | exact ih0 _ _ _ _ | exact LeO.refl _ | exact LeO.none _ | refine LeO.ite ?_ ?_ | refine LeO.bind ?_ (fun _ => ?_)
theorem F23.mono : ∀ a0 a1 a2 k, LeO (F23.f k a0 a1 a2) (F23.f (k + 1) a0 a1 a2) := by
 intro a0 a1 a2 k
 have ih0 := F23.mono_l k
 unfold F23.f
 repeat' with_reducible first | exact ih0 _ _ _ _ | exact LeO.refl _ | exact LeO.none _ | refine LeO.ite ?_ ?_ | refine LeO.bind ?_ (fun _ => ?_)
set_option maxHeartbeats 8000000 in
set_option maxRecDepth 100000 in
theorem F23.calls (k : Nat) (g : Nat) (s0_0 : List Int) (s0_1 : Int) (s0_2 : Int) (r1 : Int) (r2 : Int) (r3 : Int) (w0 w : World) (hI : IsS106 w0 w g s0_0 s0_1 s0_2) (hB : Below w0.heap.size w0 w) (h : F23.f k s0_0 s0_1 s0_2 = some (r1, r2, r3)) :
 Calls Try.prog 85 #[.pointer (some ⟨g, 0, none⟩)] w fun e w' => e = .returned (.int .i64 r1) ∧ IsS106 w0 w' g s0_0 r2 r3 ∧ Below w0.heap.size w0 w' ∧ KeepBut w w' g none := by
 have HI0 := zm hI
 have HK := zm (KeepBut.refl w g none)
 have HL := zm hB.size
 clear hI
 have HW0 := zm hB.size
 have HB := zm hB
 clear hB
 have H := h
 unfold F23.f at H
 clear h
 replace H := zbi H
 obtain ⟨⟨t525, t526, t527⟩, A2, H⟩ := H
 try dsimp only at H
 by_cases c3 : t525 = 0
 ·rw [if_pos c3] at H
  have c3b0 := z1 c3
  have c3b1 := z3 c3
  clear c3
  obtain ⟨y528, hy528⟩ : ∃ y_ : List Int, y_ = (([0, 1, 127, 128, 16383, 16384, 4611686018427387903, 4611686018427387902, 72057594037927935, 72057594037927936] : List Int)) := ⟨_, rfl⟩
  replace H : ((F1.f s0_0 t526 t527 10).bind fun bt531 => (if 0 ≤ bt531.1 then (if bt531.1 < (y528.length : Int) then (some (rd y528 bt531.1, bt531.2.1, bt531.2.2)) else (none)) else (none))) = some (r1, r2, r3) := zby hy528 H
  have Ny528 := zm hy528
  clear hy528
  replace H := zbi H
  obtain ⟨⟨t531, t532, t533⟩, A4, H⟩ := H
  try dsimp only at H
  replace H := zif H
  obtain ⟨c5, H⟩ := H
  have c5b0 := decide_eq_true c5
  clear c5
  replace H := zif H
  obtain ⟨c6, H⟩ := H
  have c6b0 := decide_eq_true c6
  clear c6
  simp only [Option.some.injEq, Prod.mk.injEq] at H
  obtain ⟨rfl, rfl, rfl⟩ := H
  go_enter Try.func85, Try.ntmps85
  go_wp2_with (first | ((with_reducible refine gate_callee (f := 55) rfl ?_); refine zgl 4 Try.func55 #[.pointer (some ⟨g, 0, none⟩), .int .i64 12] ?_; refine (F1.calls g s0_0 s0_1 s0_2 12 t525 t526 t527 w0 _ (zi106 HI0) (zj106 HB) A2.out).mono ?_; rintro e w7 ⟨rfl, hi, hb, hk⟩; refine ⟨_, rfl, ?_⟩; replace HK := zkt HK hk; replace HB := zm (hb); replace HI0 := zm (hi); (try clear hb hk hi)) | ((with_reducible refine gate_dst (N := 7) rfl ?_); refine Kd.R_lit (Kd.int .i64) _ 3 ?hg (N := 7) ?hd (xs := ([0, 1, 127, 128, 16383, 16384, 4611686018427387903, 4611686018427387902, 72057594037927935, 72057594037927936] : List Int)) (inner := [.int .i64 0, .int .i64 1, .int .i64 127, .int .i64 128, .int .i64 16383, .int .i64 16384, .int .i64 4611686018427387903, .int .i64 4611686018427387902, .int .i64 72057594037927935, .int .i64 72057594037927936]) (ok := fun _ => True) (okp := fun _ => True) ?hr ?hp (fun _ hk => hk) trivial (Below.refl _ _) (Nat.le_refl _) (by simp) ?_; (case hd => rfl); (case hg => rfl); (case hr => first | (go_simp; done) | (go_simp; rfl)); (case hp => exact (Reps.one (show Kd.M (Kd.int .i64) _ _ _ 0 [.int .i64 0] from rfl) (Reps.one (show Kd.M (Kd.int .i64) _ _ _ 1 [.int .i64 1] from rfl) (Reps.one (show Kd.M (Kd.int .i64) _ _ _ 127 [.int .i64 127] from rfl) (Reps.one (show Kd.M (Kd.int .i64) _ _ _ 128 [.int .i64 128] from rfl) (Reps.one (show Kd.M (Kd.int .i64) _ _ _ 16383 [.int .i64 16383] from rfl) (Reps.one (show Kd.M (Kd.int .i64) _ _ _ 16384 [.int .i64 16384] from rfl) (Reps.one (show Kd.M (Kd.int .i64) _ _ _ 4611686018427387903 [.int .i64 4611686018427387903] from rfl) (Reps.one (show Kd.M (Kd.int .i64) _ _ _ 4611686018427387902 [.int .i64 4611686018427387902] from rfl) (Reps.one (show Kd.M (Kd.int .i64) _ _ _ 72057594037927935 [.int .i64 72057594037927935] from rfl) (Reps.one (show Kd.M (Kd.int .i64) _ _ _ 72057594037927936 [.int .i64 72057594037927936] from rfl) (Reps.none _ _)))))))))))); intro v529 w8 ho9 hb hg_ hnew_; clear hg_ hnew_; (first | rw [← Ny528.out] at ho9 | (simp only [Int.reduceToNat] at ho9; rw [← Ny528.out] at ho9)); have HO530 := zm (Kd.R_lower ho9 (keep_size (w := w) (g := g) (row := none) (zk HK))); replace HI0 := zm (IsS106.below (zi106 HI0) hb); replace HK := zkB HK hb; replace HB := zm (below_step (zj106 HB) hb); clear hb ho9) | ((with_reducible refine gate_callee (f := 55) rfl ?_); refine zgl 9 Try.func55 #[.pointer (some ⟨g, 0, none⟩), .int .i64 10] ?_; refine (F1.calls g s0_0 t526 t527 10 t531 t532 t533 w0 _ (zi106 HI0) (zj106 HB) A4.out).mono ?_; rintro e w10 ⟨rfl, hi, hb, hk⟩; refine ⟨_, rfl, ?_⟩; replace HO530 := zKR106 HI0 HO530 hk; replace HK := zkt HK hk; replace HB := zm (hb); replace HI0 := zm (hi); (try clear hb hk hi); obtain ⟨Ao11, co11, eo11⟩ := Kd.R_slice HO530.out; subst eo11; have p534 : 0 ≤ (t531 : Int) := of_decide_eq_true zas; have q534 : t531 < (y528.length : Int) := of_decide_eq_true zas; obtain ⟨ad534, e534, hx534_0⟩ := Kd.at_int (Kd.R_reads' HO530.out).2.2 t531 p534 q534; cases e534; replace p534 := eq_true p534; replace q534 := eq_true q534))
  go_ret
  exact ⟨zre, zi106 HI0, zj106 HB, zk HK⟩
 rw [if_neg c3] at H
 have c3b0 := z2 c3
 have c3b1 := z4 c3
 by_cases c12 : t525 = 1
 ·rw [if_pos c12] at H
  have c12b0 := z1 c12
  have c12b1 := z3 c12
  clear c12
  replace H := zbi H
  obtain ⟨⟨t535, t536, t537⟩, A13, H⟩ := H
  try dsimp only at H
  replace H := zbi H
  obtain ⟨⟨t538, t539, t540⟩, A14, H⟩ := H
  try dsimp only at H
  simp only [Option.some.injEq, Prod.mk.injEq] at H
  obtain ⟨rfl, rfl, rfl⟩ := H
  go_enter Try.func85, Try.ntmps85
  go_wp2_with (first | ((with_reducible refine gate_callee (f := 55) rfl ?_); refine zgl 4 Try.func55 #[.pointer (some ⟨g, 0, none⟩), .int .i64 12] ?_; refine (F1.calls g s0_0 s0_1 s0_2 12 t525 t526 t527 w0 _ (zi106 HI0) (zj106 HB) A2.out).mono ?_; rintro e w15 ⟨rfl, hi, hb, hk⟩; refine ⟨_, rfl, ?_⟩; replace HK := zkt HK hk; replace HB := zm (hb); replace HI0 := zm (hi); (try clear hb hk hi)) | ((with_reducible refine gate_callee (f := 55) rfl ?_); refine zgl 15 Try.func55 #[.pointer (some ⟨g, 0, none⟩), .int .i64 16777216] ?_; refine (F1.calls g s0_0 t526 t527 16777216 t535 t536 t537 w0 _ (zi106 HI0) (zj106 HB) A13.out).mono ?_; rintro e w16 ⟨rfl, hi, hb, hk⟩; refine ⟨_, rfl, ?_⟩; replace HK := zkt HK hk; replace HB := zm (hb); replace HI0 := zm (hi); (try clear hb hk hi)) | ((with_reducible refine gate_callee (f := 55) rfl ?_); refine zgl 18 Try.func55 #[.pointer (some ⟨g, 0, none⟩), .int .i64 65536] ?_; refine (F1.calls g s0_0 t536 t537 65536 t538 t539 t540 w0 _ (zi106 HI0) (zj106 HB) A14.out).mono ?_; rintro e w17 ⟨rfl, hi, hb, hk⟩; refine ⟨_, rfl, ?_⟩; replace HK := zkt HK hk; replace HB := zm (hb); replace HI0 := zm (hi); (try clear hb hk hi)))
  go_ret
  exact ⟨zre, zi106 HI0, zj106 HB, zk HK⟩
 rw [if_neg c12] at H
 have c12b0 := z2 c12
 have c12b1 := z4 c12
 have HC18 := zm H
 clear H
 go_enter Try.func85, Try.ntmps85
 go_upto_if 20 with (first | ((with_reducible refine gate_callee (f := 55) rfl ?_); refine zgl 4 Try.func55 #[.pointer (some ⟨g, 0, none⟩), .int .i64 12] ?_; refine (F1.calls g s0_0 s0_1 s0_2 12 t525 t526 t527 w0 _ (zi106 HI0) (zj106 HB) A2.out).mono ?_; rintro e w19 ⟨rfl, hi, hb, hk⟩; refine ⟨_, rfl, ?_⟩; replace HK := zkt HK hk; replace HB := zm (hb); replace HI0 := zm (hi); (try clear hb hk hi)))
 (try simp only [Act.put, List.setIfInBounds_toArray, List.set_cons_zero, List.set_cons_succ])
 go_cut [20] (fun v20 wc => ∃ (kq : Nat) (x20_17 : Bool), v20 = .bool x20_17 ∧ Aside0 (F23.j0 kq x20_17 s0_0 t526 t527 = some (r1, r2, r3)) ∧ Aside0 (kq ≤ k) ∧ Aside0 (IsS106 w0 wc g s0_0 t526 t527) ∧ Aside0 (KeepBut w wc g none) ∧ Aside0 (Below w0.heap.size w0 wc))
 case first =>
  have H := HC18.out
  clear HC18
  by_cases c20 : t525 = 2
  rotate_left
  ·rw [if_neg c20] at H
   have c20b0 := z2 c20
   have c20b1 := z4 c20
   (first | rw [c20b0] | (simp only [i64_w, i32_w]; rw [c20b0]) | skip)
   have H' := zm H
   clear H
   go_wp2
   go_meet
   case rel => exact ⟨_, ((t525 == 3)), zrs, H', ⟨by first | omega | exact Nat.le_refl _⟩, ⟨zi106 HI0⟩, ⟨zk HK⟩, ⟨zj106 HB⟩⟩
  rw [if_pos c20] at H
  have c20b0 := z1 c20
  have c20b1 := z3 c20
  clear c20
  (first | rw [c20b0] | (simp only [i64_w, i32_w]; rw [c20b0]) | skip)
  have H' := zm H
  clear H
  go_wp2
  go_meet
  case rel => exact ⟨_, ((t525 == 2)), zrs, H', ⟨by first | omega | exact Nat.le_refl _⟩, ⟨zi106 HI0⟩, ⟨zk HK⟩, ⟨zj106 HB⟩⟩
 case rest =>
  clear HC18
  try clear c3
  try clear c3b0
  try clear c3b1
  try clear c12
  try clear c12b0
  try clear c12b1
  obtain ⟨kq, x20_17, rfl, HA, HJ17, HI0, HK, HB⟩ := hcut
  cases kq with
  | zero => exact absurd HA.out (by simp [F23.j0])
  | succ kj17 =>
   have H := HA.out
   clear HA
   simp only [F23.j0] at H
   by_cases c21 : x20_17 = true
   ·subst c21
    rw [if_pos rfl] at H
    replace H := zbi H
    obtain ⟨⟨t541, t542, t543⟩, A22, H⟩ := H
    try dsimp only at H
    simp only [Option.some.injEq, Prod.mk.injEq] at H
    obtain ⟨rfl, rfl, rfl⟩ := H
    go_wp2_with (first | ((with_reducible refine gate_callee (f := 55) rfl ?_); refine zgl 24 Try.func55 #[.pointer (some ⟨g, 0, none⟩), .int .i64 100000] ?_; refine (F1.calls g s0_0 t526 t527 100000 t541 t542 t543 w0 _ (zi106 HI0) (zj106 HB) A22.out).mono ?_; rintro e w23 ⟨rfl, hi, hb, hk⟩; refine ⟨_, rfl, ?_⟩; replace HK := zkt HK hk; replace HB := zm (hb); replace HI0 := zm (hi); (try clear hb hk hi)))
    go_ret
    exact ⟨zre, zi106 HI0, zj106 HB, zk HK⟩
   replace c21 := Bool.eq_false_iff.mpr c21
   subst c21
   rw [if_neg (show ¬ (false = true) by decide)] at H
   replace H := zbi H
   obtain ⟨⟨t544, t545, t546⟩, A24, H⟩ := H
   try dsimp only at H
   simp only [Option.some.injEq, Prod.mk.injEq] at H
   obtain ⟨rfl, rfl, rfl⟩ := H
   go_wp2_with (first | ((with_reducible refine gate_callee (f := 55) rfl ?_); refine zgl 26 Try.func55 #[.pointer (some ⟨g, 0, none⟩), .int .i64 60] ?_; refine (F1.calls g s0_0 t526 t527 60 t544 t545 t546 w0 _ (zi106 HI0) (zj106 HB) A24.out).mono ?_; rintro e w25 ⟨rfl, hi, hb, hk⟩; refine ⟨_, rfl, ?_⟩; replace HK := zkt HK hk; replace HB := zm (hb); replace HI0 := zm (hi); (try clear hb hk hi)))
   go_ret
   exact ⟨zre, zi106 HI0, zj106 HB, zk HK⟩

/-! ### F38: function 56 -/
def F38.f (k : Nat) (s0_0 : List Int) (s0_1 : Int) (s0_2 : Int) : Option (Int × Int × Int) := (F15.f s0_0 s0_1 s0_2 6).bind fun bt547 => (if bt547.1 = true then ((some (([(-1), 4611686018427387904, 9223372036854775807, (-9223372036854775808)] : List Int) : List Int)).bind fun y550 => ((F1.f s0_0 bt547.2.1 bt547.2.2 4).bind fun bt553 => (if 0 ≤ bt553.1 then (if bt553.1 < (y550.length : Int) then (some (rd y550 bt553.1, bt553.2.1, bt553.2.2)) else (none)) else (none)))) else ((F23.f k s0_0 bt547.2.1 bt547.2.2).bind fun bt557 => (some (bt557.1, bt557.2.1, bt557.2.2))))
theorem F38.mono : ∀ a0 a1 a2 k, LeO (F38.f k a0 a1 a2) (F38.f (k + 1) a0 a1 a2) := by
 intro a0 a1 a2 k
 unfold F38.f
 repeat' with_reducible first | exact F23.mono _ _ _ _ | exact LeO.refl _ | exact LeO.none _ | refine LeO.ite ?_ ?_ | refine LeO.bind ?_ (fun _ => ?_)
set_option maxHeartbeats 8000000 in
set_option maxRecDepth 100000 in
theorem F38.calls (k : Nat) (g : Nat) (s0_0 : List Int) (s0_1 : Int) (s0_2 : Int) (r1 : Int) (r2 : Int) (r3 : Int) (w0 w : World) (hI : IsS106 w0 w g s0_0 s0_1 s0_2) (hB : Below w0.heap.size w0 w) (h : F38.f k s0_0 s0_1 s0_2 = some (r1, r2, r3)) :
 Calls Try.prog 56 #[.pointer (some ⟨g, 0, none⟩)] w fun e w' => e = .returned (.int .i64 r1) ∧ IsS106 w0 w' g s0_0 r2 r3 ∧ Below w0.heap.size w0 w' ∧ KeepBut w w' g none := by
 have HI0 := zm hI
 have HK := zm (KeepBut.refl w g none)
 have HL := zm hB.size
 clear hI
 have HW0 := zm hB.size
 have HB := zm hB
 clear hB
 have H := h
 unfold F38.f at H
 clear h
 replace H := zbi H
 obtain ⟨⟨t547, t548, t549⟩, A2, H⟩ := H
 try dsimp only at H
 by_cases c3 : t547 = true
 rotate_left
 ·replace c3 := Bool.eq_false_iff.mpr c3
  subst c3
  rw [if_neg (show ¬ (false = true) by decide)] at H
  replace H := zbi H
  obtain ⟨⟨t557, t558, t559⟩, A12, H⟩ := H
  try dsimp only at H
  simp only [Option.some.injEq, Prod.mk.injEq] at H
  obtain ⟨rfl, rfl, rfl⟩ := H
  go_enter Try.func56, Try.ntmps56
  go_wp2_with (first | ((with_reducible refine gate_callee (f := 80) rfl ?_); refine zgl 4 Try.func80 #[.pointer (some ⟨g, 0, none⟩), .int .i64 6] ?_; refine (F15.calls g s0_0 s0_1 s0_2 6 false t548 t549 w0 _ (zi106 HI0) (zj106 HB) A2.out).mono ?_; rintro e w13 ⟨rfl, hi, hb, hk⟩; refine ⟨_, rfl, ?_⟩; replace HK := zkt HK hk; replace HB := zm (hb); replace HI0 := zm (hi); (try clear hb hk hi)) | ((with_reducible refine gate_callee (f := 85) rfl ?_); refine zgl 11 Try.func85 #[.pointer (some ⟨g, 0, none⟩)] ?_; refine (F23.calls k g s0_0 t548 t549 t557 t558 t559 w0 _ (zi106 HI0) (zj106 HB) A12.out).mono ?_; rintro e w14 ⟨rfl, hi, hb, hk⟩; refine ⟨_, rfl, ?_⟩; replace HK := zkt HK hk; replace HB := zm (hb); replace HI0 := zm (hi); (try clear hb hk hi)))
  go_ret
  exact ⟨zre, zi106 HI0, zj106 HB, zk HK⟩

 subst c3
 rw [if_pos rfl] at H
 obtain ⟨y550, hy550⟩ : ∃ y_ : List Int, y_ = (([(-1), 4611686018427387904, 9223372036854775807, (-9223372036854775808)] : List Int)) := ⟨_, rfl⟩
 replace H : ((F1.f s0_0 t548 t549 4).bind fun bt553 => (if 0 ≤ bt553.1 then (if bt553.1 < (y550.length : Int) then (some (rd y550 bt553.1, bt553.2.1, bt553.2.2)) else (none)) else (none))) = some (r1, r2, r3) := zby hy550 H
 have Ny550 := zm hy550
 clear hy550
 replace H := zbi H
 obtain ⟨⟨t553, t554, t555⟩, A4, H⟩ := H
 try dsimp only at H
 replace H := zif H
 obtain ⟨c5, H⟩ := H
 have c5b0 := decide_eq_true c5
 clear c5
 replace H := zif H
 obtain ⟨c6, H⟩ := H
 have c6b0 := decide_eq_true c6
 clear c6
 simp only [Option.some.injEq, Prod.mk.injEq] at H
 obtain ⟨rfl, rfl, rfl⟩ := H
 go_enter Try.func56, Try.ntmps56
 go_wp2_with (first | ((with_reducible refine gate_callee (f := 80) rfl ?_); refine zgl 4 Try.func80 #[.pointer (some ⟨g, 0, none⟩), .int .i64 6] ?_; refine (F15.calls g s0_0 s0_1 s0_2 6 true t548 t549 w0 _ (zi106 HI0) (zj106 HB) A2.out).mono ?_; rintro e w7 ⟨rfl, hi, hb, hk⟩; refine ⟨_, rfl, ?_⟩; replace HK := zkt HK hk; replace HB := zm (hb); replace HI0 := zm (hi); (try clear hb hk hi)) | ((with_reducible refine gate_dst (N := 5) rfl ?_); refine Kd.R_lit (Kd.int .i64) _ 3 ?hg (N := 5) ?hd (xs := ([(-1), 4611686018427387904, 9223372036854775807, (-9223372036854775808)] : List Int)) (inner := [.int .i64 (-1), .int .i64 4611686018427387904, .int .i64 9223372036854775807, .int .i64 (-9223372036854775808)]) (ok := fun _ => True) (okp := fun _ => True) ?hr ?hp (fun _ hk => hk) trivial (Below.refl _ _) (Nat.le_refl _) (by simp) ?_; (case hd => rfl); (case hg => rfl); (case hr => first | (go_simp; done) | (go_simp; rfl)); (case hp => exact (Reps.one (show Kd.M (Kd.int .i64) _ _ _ (-1) [.int .i64 (-1)] from rfl) (Reps.one (show Kd.M (Kd.int .i64) _ _ _ 4611686018427387904 [.int .i64 4611686018427387904] from rfl) (Reps.one (show Kd.M (Kd.int .i64) _ _ _ 9223372036854775807 [.int .i64 9223372036854775807] from rfl) (Reps.one (show Kd.M (Kd.int .i64) _ _ _ (-9223372036854775808) [.int .i64 (-9223372036854775808)] from rfl) (Reps.none _ _)))))); intro v551 w8 ho9 hb hg_ hnew_; clear hg_ hnew_; (first | rw [← Ny550.out] at ho9 | (simp only [Int.reduceToNat] at ho9; rw [← Ny550.out] at ho9)); have HO552 := zm (Kd.R_lower ho9 (keep_size (w := w) (g := g) (row := none) (zk HK))); replace HI0 := zm (IsS106.below (zi106 HI0) hb); replace HK := zkB HK hb; replace HB := zm (below_step (zj106 HB) hb); clear hb ho9) | ((with_reducible refine gate_callee (f := 55) rfl ?_); refine zgl 7 Try.func55 #[.pointer (some ⟨g, 0, none⟩), .int .i64 4] ?_; refine (F1.calls g s0_0 t548 t549 4 t553 t554 t555 w0 _ (zi106 HI0) (zj106 HB) A4.out).mono ?_; rintro e w10 ⟨rfl, hi, hb, hk⟩; refine ⟨_, rfl, ?_⟩; replace HO552 := zKR106 HI0 HO552 hk; replace HK := zkt HK hk; replace HB := zm (hb); replace HI0 := zm (hi); (try clear hb hk hi); obtain ⟨Ao11, co11, eo11⟩ := Kd.R_slice HO552.out; subst eo11; have p556 : 0 ≤ (t553 : Int) := of_decide_eq_true zas; have q556 : t553 < (y550.length : Int) := of_decide_eq_true zas; obtain ⟨ad556, e556, hx556_0⟩ := Kd.at_int (Kd.R_reads' HO552.out).2.2 t553 p556 q556; cases e556; replace p556 := eq_true p556; replace q556 := eq_true q556))
 go_ret
 exact ⟨zre, zi106 HI0, zj106 HB, zk HK⟩
/-! ### F18: function 86 -/
def F18.l0 : Nat → ByteArray → Int → List Int → Int → Option (ByteArray)
 | 0, _, _, _, _ => none
 | k + 1, x0, x1, x5, x6 => if x6 < x1 then (if x5.length + x0.size < 140737488355328 then (F18.l0 k x0 x1 (x5 ++ bytesOf x0) (wrap64 (x6 + 1))) else (none)) else (some (strOfNums x5))
def F18.f (k : Nat) (a0 : ByteArray) (a1 : Int) : Option (ByteArray) := F18.l0 k a0 a1 (([] : List Int)) 0
theorem F18.mono_l : ∀ k, (∀ y0 y1 y2 y3, LeO (F18.l0 k y0 y1 y2 y3) (F18.l0 (k + 1) y0 y1 y2 y3))
 | 0 => fun _ _ _ _ r h => by simp [F18.l0] at h
 | k + 1 => by
  have ih0 := F18.mono_l k
  ·intro y0 y1 y2 y3
   unfold F18.l0
   repeat' with_reducible first | exact ih0 _ _ _ _ | exact LeO.refl _ | exact LeO.none _ | refine LeO.ite ?_ ?_ | refine LeO.bind ?_ (fun _ => ?_)
theorem F18.mono : ∀ a0 a1 k, LeO (F18.f k a0 a1) (F18.f (k + 1) a0 a1) := by
 intro a0 a1 k
 have ih0 := F18.mono_l k
 unfold F18.f
 repeat' with_reducible first | exact ih0 _ _ _ _ | exact LeO.refl _ | exact LeO.none _ | refine LeO.ite ?_ ?_ | refine LeO.bind ?_ (fun _ => ?_)
set_option maxHeartbeats 8000000 in
set_option maxRecDepth 100000 in
theorem F18.calls (k : Nat) (a0 : ByteArray) (a1 : Int) (r : ByteArray) (w : World) (h : F18.f k a0 a1 = some r) :
 Calls Try.prog 86 #[.string a0, .int .i64 a1] w fun e w' => e = .returned (.string r) ∧ Below w.heap.size w w' := by
 have HB := zm (Below.refl w.heap.size w)
 have H : (F18.l0 k a0 a1 (([] : List Int)) 0) = some r := h
 clear h
 obtain ⟨y560, hy560⟩ : ∃ y_ : List Int, y_ = (([] : List Int)) := ⟨_, rfl⟩
 replace H : (F18.l0 k a0 a1 y560 0) = some r := zby hy560 H
 have Ny560 := zm hy560
 clear hy560
 have H' := zm H
 clear H
 go_enter Try.func86, Try.ntmps86
 go_wp2_with (first | ((with_reducible refine gate_dst (N := 7) rfl ?_); refine Kd.R_lit (Kd.int .u8) _ 5 ?hg (N := 7) ?hd (xs := ([] : List Int)) (inner := []) (ok := fun _ => True) (okp := fun _ => True) ?hr ?hp (fun _ hk => hk) trivial (Below.refl _ _) (Nat.le_refl _) (by simp) ?_; (case hd => rfl); (case hg => rfl); (case hr => first | (go_simp; done) | (go_simp; rfl)); (case hp => exact (Reps.none _ _)); intro v561 w3 ho4 hb hg_ hnew_; clear hg_ hnew_; (first | rw [← Ny560.out] at ho4 | (simp only [Int.reduceToNat] at ho4; rw [← Ny560.out] at ho4)); have HO562 := zm (Kd.R_lower ho4 (below_size (zh HB))); replace HB := zm (below_step (zh HB) hb); clear hb ho4))
 go_loopg [5, 6] k (fun kq v5 v6 w' => ∃ (x5_1 : List Int) (x6_1 : Int), v6 = .int .i64 x6_1 ∧ Aside0 (F18.l0 kq a0 a1 x5_1 x6_1 = some r) ∧ Aside0 (kq ≤ k) ∧ Aside0 (Kd.R (Kd.int .u8) 5 w' w.heap.size (fun _ => True) v5 x5_1) ∧ Aside0 (Below w.heap.size w w'))
 case atStart => exact ⟨(y560), (0), zrs, H', ⟨Nat.le_refl _⟩, ⟨zr HO562⟩, ⟨zh HB⟩⟩
 case round =>
  clear H'
  obtain ⟨x5_1, x6_1, rfl, HA, HK1, HO_5, HB⟩ := hrel
  cases gk with
  | zero => exact absurd HA.out (by simp [F18.l0])
  | succ k1 =>
   have H := HA.out
   clear HA
   simp only [F18.l0] at H
   by_cases c5 : x6_1 < a1
   rotate_left
   ·rw [if_neg c5] at H
    have c5b0 := decide_eq_false c5
    clear c5
    obtain rfl := Option.some.inj H
    have hcv8 := own_string (P := Try.prog) Try.underlying26 Try.underlying5 Try.underlying9 (Kd.own_of_R HO_5.out)
    go_wp2
    go_ret
    exact ⟨zre, zh HB⟩

   rw [if_pos c5] at H
   have c5b0 := decide_eq_true c5
   clear c5
   replace H := zif H
   obtain ⟨c6, H⟩ := H
   have LMc6 := zm c6
   clear c6
   obtain ⟨y563, hy563⟩ : ∃ y_ : List Int, y_ = (x5_1 ++ bytesOf a0) := ⟨_, rfl⟩
   replace H : (F18.l0 k1 a0 a1 y563 (wrap64 (x6_1 + 1))) = some r := zby hy563 H
   have Ny563 := zm hy563
   clear hy563
   have H' := zm H
   clear H
   go_wp2_with (first | (at_builtin; refine Kd.R_append_str (w0 := w) w.heap.size rfl (.tmp 13) _ 26 9 5 rfl Try.underlying26 Try.underlying9 info5 u5 x5_1 a0 (fun _ => True) rfl rfl ?aF ?aO ?aB ?aS ?aL ?_; (case aB => exact (zh HB)); (case aF => exact (fun _ _ => trivial)); (case aO => exact (zr HO_5)); (case aS => exact (below_size (zh HB))); (case aL => have := LMc6.out; omega); intro v564 w7 ho hb hg hat; rw [← Ny563.out] at ho; replace HB := zm (hb); have HO565 := zm (ho); clear HO_5; clear ho hb hg hat))
   go_roundg k1
   case measure => have := HK1.out; omega
   case rel => exact ⟨(y563), (wrap64 (x6_1 + 1)), zrs, H', ⟨by have := HK1.out; omega⟩, ⟨zr HO565⟩, ⟨zh HB⟩⟩
end Go.Proofs.Ytnpdmleglcbobaa.XFnLog
