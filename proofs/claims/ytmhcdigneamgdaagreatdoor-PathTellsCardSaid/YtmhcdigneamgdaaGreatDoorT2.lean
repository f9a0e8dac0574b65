/- Parts of the proof, put together: Qb7, Qb8, Qb, Par. -/
import Derived.Test.YtmhcdigneamgdaaGreatDoorT0
import Derived.Test.YtmhcdigneamgdaaGreatDoorT1
namespace Go.Proofs.YtmhcdigneamgdaaGreatDoor.Qb
open Go.RowKit Go.Proofs.YtmhcdigneamgdaaGreatDoor.G Go.Proofs.YtmhcdigneamgdaaGreatDoor.Qa Go.Proofs.YtmhcdigneamgdaaGreatDoorW.PrintWords Go.Proofs.YtmhcdigneamgdaaGreatDoorW.PrintLast Go.Proofs.YtmhcdigneamgdaaGreatDoorW.PrintMore
attribute [local go_sem] max2_int min2_int max_two min_two max_three min_three max_four min_four   -- for this text's walks alone
set_option linter.unusedVariables false
set_option linter.unusedSimpArgs false

/-! ### postriderref05_May: function 23 -/
def postriderref05_May.f (k : Nat) (a0_0 : ByteArray) (a0_1 : ByteArray) : Option (Bool) := if (a0_0.size : Int) ≥ 1 then (if (a0_0.size : Int) ≤ 64 then ((postriderref04_Plain.f k a0_0).bind fun t165 => (if t165 = true then ((postriderref05_Domain.f k a0_1).bind fun t166 => (some (t166 == 0))) else (some false))) else (some false)) else (some false)
theorem postriderref05_May.mono : ∀ a0 a1 k, LeO (postriderref05_May.f k a0 a1) (postriderref05_May.f (k + 1) a0 a1) := by
  intro a0 a1 k
  unfold postriderref05_May.f
  repeat' first
      | (with_reducible exact postriderref04_Plain.mono _ _)
      | (with_reducible exact postriderref05_Domain.mono _ _)
      | (with_reducible exact LeO.refl _)
      | (with_reducible exact LeO.none _)
      | (with_reducible refine LeO.ite ?_ ?_)
      | (with_reducible refine LeO.bind ?_ (fun _ => ?_))
      | exact postriderref04_Plain.mono _ _
      | exact postriderref05_Domain.mono _ _
      | exact LeO.none _
      | refine LeO.ite ?_ ?_
      | refine LeO.bind ?_ (fun _ => ?_)
set_option maxHeartbeats 8000000 in
set_option maxRecDepth 100000 in
theorem postriderref05_May.calls (k : Nat) (a0_0 : ByteArray) (a0_1 : ByteArray) (r : Bool) (w : World) (h : postriderref05_May.f k a0_0 a0_1 = some r) :
    Calls Tryz.prog 23 #[.agg #[.string a0_0, .string a0_1]] w fun e w' => e = .returned (.bool r) ∧ Below w.heap.size w w' := by
  have hu29 := Tryz.underlying29
  have HB := Aside0.mk (Below.refl w.heap.size w)
  have H : (if (a0_0.size : Int) ≥ 1 then (if (a0_0.size : Int) ≤ 64 then ((postriderref04_Plain.f k a0_0).bind fun t165 => (if t165 = true then ((postriderref05_Domain.f k a0_1).bind fun t166 => (some (t166 == 0))) else (some false))) else (some false)) else (some false)) = some r := h
  clear h
  by_cases c2 : (a0_0.size : Int) ≥ 1
  · rw [if_pos c2] at H
    have c2b0 : decide (1 ≤ (a0_0.size : Int)) = true := decide_eq_true c2
    have c2b1 : decide (1 ≤ a0_0.size) = true := decide_eq_true (by omega)
    clear c2
    by_cases c3 : (a0_0.size : Int) ≤ 64
    · rw [if_pos c3] at H
      have c3b0 : decide ((a0_0.size : Int) ≤ 64) = true := decide_eq_true c3
      have c3b1 : decide (a0_0.size ≤ 64) = true := decide_eq_true (by omega)
      clear c3
      replace H := Option.bind_eq_some_iff.mp H
      obtain ⟨t165, A40, H⟩ := H
      replace H : (if t165 = true then ((postriderref05_Domain.f k a0_1).bind fun t166 => (some (t166 == 0))) else (some false)) = some r := H
      have A4 := Aside0.mk A40
      clear A40
      by_cases c5 : t165 = true
      · subst c5
        have H1 : ((postriderref05_Domain.f k a0_1).bind fun t166 => (some (t166 == 0))) = some r := by rw [if_pos rfl] at H; exact H
        clear H
        have H := H1
        clear H1
        replace H := Option.bind_eq_some_iff.mp H
        obtain ⟨t166, A60, H⟩ := H
        replace H : (some (t166 == 0)) = some r := H
        have A6 := Aside0.mk A60
        clear A60
        obtain rfl := Option.some.inj H
        go_enter Tryz.func23, Tryz.ntmps23
        go_wp2_with (first | ((with_reducible refine gate_dst (N := 1) rfl ?_); (try (refine gate_guard (by rfl) ?_; dsimp only)); refine box_event ?hg (N := 1) ?hd (cs := #[.string a0_0, .string a0_1]) (t := 29) ?hr ?_; (case hd => rfl); (case hg => rfl); (case hr => first | (go_simp; done) | (go_simp; rfl)); intro gb164 hg w7 hbox hb; have n0_ := Aside0.mk (below_step (by repeat (first | (with_reducible first | exact HB.out | apply below_alloc | apply pw_below_drewN | apply below_drew1) | exact HB.out)) hb); have n1_ := Aside0.mk (hbox); have n2_ := Aside0.mk ((by rw [hg]; exact (below_size (by repeat (first | (with_reducible first | exact HB.out | apply below_alloc | apply pw_below_drewN | apply below_drew1) | exact HB.out))) : w.heap.size ≤ gb164)); have n3_ := Aside0.mk ((by rw [hg]; exact (below_size (by repeat (first | (with_reducible first | exact HB.out | apply below_alloc | apply pw_below_drewN | apply below_drew1) | exact HB.out))) : w.heap.size ≤ gb164)); clear HB; have HB := n0_; have BK164 := n1_; have GW164 := n2_; have GE164 := n3_; clear n0_ n1_ n2_ n3_; clear hb hbox hg; have hcz8_0 : w7.cell? ⟨gb164, 0, none⟩ = some (.string a0_0) := (blk_cell BK164.out 0).trans rfl; have hcz8_1 : w7.cell? ⟨gb164, 1, none⟩ = some (.string a0_1) := (blk_cell BK164.out 1).trans rfl; have hfz8_0 := blk_frozen BK164.out 0; have hfz8_1 := blk_frozen BK164.out 1) | (go_at_call 50; (with_reducible refine (postriderref04_Plain.calls k a0_0 true _ A4.out).mono ?_); rintro e w' ⟨rfl, ⟨nd, rfl⟩⟩) | (go_at_call 51; (with_reducible refine (postriderref05_Domain.calls k a0_1 t166 _ A6.out).mono ?_); rintro e w9 ⟨rfl, hb⟩; have n0_ := Aside0.mk (blk_below (g := gb164) (o := .cells #[.string a0_0, .string a0_1] 29 (0, 0)) (by (with_reducible repeat (first | refine blk_drewN ?_ _ | refine blk_drew ?_ | refine blk_alloc ?_ _)); exact BK164.out) hb); have n1_ := Aside0.mk (below_step (by repeat (first | (with_reducible first | exact HB.out | apply below_alloc | apply pw_below_drewN | apply below_drew1 | refine below_set ?_ GE164.out) | exact HB.out)) hb); clear BK164; clear HB; have BK164 := n0_; have HB := n1_; clear n0_ n1_; (try clear hb); (try clear hb2); (try clear hk); (try clear hi)))
        go_ret
        exact ⟨by first | rfl | (simp [errW_none, errW_some] <;> rfl) | (simp [*, errW_none, errW_some] <;> rfl) | (simp [ne_nil_b]; done) | (simp [*, ne_nil_b]; done), by repeat (first | (with_reducible first | exact HB.out | apply below_alloc | apply pw_below_drewN | apply below_drew1 | refine below_set ?_ GE164.out) | exact HB.out)⟩
      · replace c5 := Bool.eq_false_iff.mpr c5
        subst c5
        have H1 : (some false) = some r := by rw [if_neg (show ¬ (false = true) by decide)] at H; exact H
        clear H
        have H := H1
        clear H1
        obtain rfl := Option.some.inj H
        go_enter Tryz.func23, Tryz.ntmps23
        go_wp2_with (first | ((with_reducible refine gate_dst (N := 1) rfl ?_); (try (refine gate_guard (by rfl) ?_; dsimp only)); refine box_event ?hg (N := 1) ?hd (cs := #[.string a0_0, .string a0_1]) (t := 29) ?hr ?_; (case hd => rfl); (case hg => rfl); (case hr => first | (go_simp; done) | (go_simp; rfl)); intro gb164 hg w10 hbox hb; have n0_ := Aside0.mk (below_step (by repeat (first | (with_reducible first | exact HB.out | apply below_alloc | apply pw_below_drewN | apply below_drew1) | exact HB.out)) hb); have n1_ := Aside0.mk (hbox); have n2_ := Aside0.mk ((by rw [hg]; exact (below_size (by repeat (first | (with_reducible first | exact HB.out | apply below_alloc | apply pw_below_drewN | apply below_drew1) | exact HB.out))) : w.heap.size ≤ gb164)); have n3_ := Aside0.mk ((by rw [hg]; exact (below_size (by repeat (first | (with_reducible first | exact HB.out | apply below_alloc | apply pw_below_drewN | apply below_drew1) | exact HB.out))) : w.heap.size ≤ gb164)); clear HB; have HB := n0_; have BK164 := n1_; have GW164 := n2_; have GE164 := n3_; clear n0_ n1_ n2_ n3_; clear hb hbox hg; have hcz11_0 : w10.cell? ⟨gb164, 0, none⟩ = some (.string a0_0) := (blk_cell BK164.out 0).trans rfl; have hcz11_1 : w10.cell? ⟨gb164, 1, none⟩ = some (.string a0_1) := (blk_cell BK164.out 1).trans rfl; have hfz11_0 := blk_frozen BK164.out 0; have hfz11_1 := blk_frozen BK164.out 1) | (go_at_call 50; (with_reducible refine (postriderref04_Plain.calls k a0_0 false _ A4.out).mono ?_); rintro e w' ⟨rfl, ⟨nd, rfl⟩⟩))
        go_ret
        exact ⟨by first | rfl | (simp [errW_none, errW_some] <;> rfl) | (simp [*, errW_none, errW_some] <;> rfl) | (simp [ne_nil_b]; done) | (simp [*, ne_nil_b]; done), by repeat (first | (with_reducible first | exact HB.out | apply below_alloc | apply pw_below_drewN | apply below_drew1 | refine below_set ?_ GE164.out) | exact HB.out)⟩
    · rw [if_neg c3] at H
      have c3b0 : decide ((a0_0.size : Int) ≤ 64) = false := decide_eq_false c3
      have c3b1 : decide (a0_0.size ≤ 64) = false := decide_eq_false (by omega)
      clear c3
      obtain rfl := Option.some.inj H
      go_enter Tryz.func23, Tryz.ntmps23
      go_wp2_with (first | ((with_reducible refine gate_dst (N := 1) rfl ?_); (try (refine gate_guard (by rfl) ?_; dsimp only)); refine box_event ?hg (N := 1) ?hd (cs := #[.string a0_0, .string a0_1]) (t := 29) ?hr ?_; (case hd => rfl); (case hg => rfl); (case hr => first | (go_simp; done) | (go_simp; rfl)); intro gb164 hg w12 hbox hb; have n0_ := Aside0.mk (below_step (by repeat (first | (with_reducible first | exact HB.out | apply below_alloc | apply pw_below_drewN | apply below_drew1) | exact HB.out)) hb); have n1_ := Aside0.mk (hbox); have n2_ := Aside0.mk ((by rw [hg]; exact (below_size (by repeat (first | (with_reducible first | exact HB.out | apply below_alloc | apply pw_below_drewN | apply below_drew1) | exact HB.out))) : w.heap.size ≤ gb164)); have n3_ := Aside0.mk ((by rw [hg]; exact (below_size (by repeat (first | (with_reducible first | exact HB.out | apply below_alloc | apply pw_below_drewN | apply below_drew1) | exact HB.out))) : w.heap.size ≤ gb164)); clear HB; have HB := n0_; have BK164 := n1_; have GW164 := n2_; have GE164 := n3_; clear n0_ n1_ n2_ n3_; clear hb hbox hg; have hcz13_0 : w12.cell? ⟨gb164, 0, none⟩ = some (.string a0_0) := (blk_cell BK164.out 0).trans rfl; have hcz13_1 : w12.cell? ⟨gb164, 1, none⟩ = some (.string a0_1) := (blk_cell BK164.out 1).trans rfl; have hfz13_0 := blk_frozen BK164.out 0; have hfz13_1 := blk_frozen BK164.out 1))
      go_ret
      exact ⟨by first | rfl | (simp [errW_none, errW_some] <;> rfl) | (simp [*, errW_none, errW_some] <;> rfl) | (simp [ne_nil_b]; done) | (simp [*, ne_nil_b]; done), by repeat (first | (with_reducible first | exact HB.out | apply below_alloc | apply pw_below_drewN | apply below_drew1 | refine below_set ?_ GE164.out) | exact HB.out)⟩
  · rw [if_neg c2] at H
    have c2b0 : decide (1 ≤ (a0_0.size : Int)) = false := decide_eq_false c2
    have c2b1 : decide (1 ≤ a0_0.size) = false := decide_eq_false (by omega)
    clear c2
    obtain rfl := Option.some.inj H
    go_enter Tryz.func23, Tryz.ntmps23
    go_wp2_with (first | ((with_reducible refine gate_dst (N := 1) rfl ?_); (try (refine gate_guard (by rfl) ?_; dsimp only)); refine box_event ?hg (N := 1) ?hd (cs := #[.string a0_0, .string a0_1]) (t := 29) ?hr ?_; (case hd => rfl); (case hg => rfl); (case hr => first | (go_simp; done) | (go_simp; rfl)); intro gb164 hg w14 hbox hb; have n0_ := Aside0.mk (below_step (by repeat (first | (with_reducible first | exact HB.out | apply below_alloc | apply pw_below_drewN | apply below_drew1) | exact HB.out)) hb); have n1_ := Aside0.mk (hbox); have n2_ := Aside0.mk ((by rw [hg]; exact (below_size (by repeat (first | (with_reducible first | exact HB.out | apply below_alloc | apply pw_below_drewN | apply below_drew1) | exact HB.out))) : w.heap.size ≤ gb164)); have n3_ := Aside0.mk ((by rw [hg]; exact (below_size (by repeat (first | (with_reducible first | exact HB.out | apply below_alloc | apply pw_below_drewN | apply below_drew1) | exact HB.out))) : w.heap.size ≤ gb164)); clear HB; have HB := n0_; have BK164 := n1_; have GW164 := n2_; have GE164 := n3_; clear n0_ n1_ n2_ n3_; clear hb hbox hg; have hcz15_0 : w14.cell? ⟨gb164, 0, none⟩ = some (.string a0_0) := (blk_cell BK164.out 0).trans rfl; have hcz15_1 : w14.cell? ⟨gb164, 1, none⟩ = some (.string a0_1) := (blk_cell BK164.out 1).trans rfl; have hfz15_0 := blk_frozen BK164.out 0; have hfz15_1 := blk_frozen BK164.out 1))
    go_ret
    exact ⟨by first | rfl | (simp [errW_none, errW_some] <;> rfl) | (simp [*, errW_none, errW_some] <;> rfl) | (simp [ne_nil_b]; done) | (simp [*, ne_nil_b]; done), by repeat (first | (with_reducible first | exact HB.out | apply below_alloc | apply pw_below_drewN | apply below_drew1 | refine below_set ?_ GE164.out) | exact HB.out)⟩

/-! ### postriderref04_Letter: function 80 -/
mutual
def postriderref04_Letter.j0 : Nat → Int → Bool → Option (Bool)
  | 0, _, _ => none
  | k + 1, x0, x26 => if x26 = true then (some true) else (postriderref04_Letter.l0 k x0 (⟨#[33, 35, 36, 37, 38, 39, 42, 43, 45, 47, 61, 63, 94, 95, 96, 123, 124, 125, 126]⟩ : ByteArray) 0)
def postriderref04_Letter.l0 : Nat → Int → ByteArray → Int → Option (Bool)
  | 0, _, _, _ => none
  | k + 1, x0, x3, x4 => if x4 < (x3.size : Int) then (if 0 ≤ x4 then (if (bt x3 x4) = x0 then (some true) else (postriderref04_Letter.l0 k x0 x3 (wrap64 (x4 + 1)))) else (none)) else (some false)
end
def postriderref04_Letter.f (k : Nat) (a0 : Int) : Option (Bool) := if a0 ≥ 97 then (if a0 ≤ 122 then (postriderref04_Letter.j0 k a0 true) else (if a0 ≥ 65 then (if a0 ≤ 90 then (postriderref04_Letter.j0 k a0 true) else (if a0 ≥ 48 then (postriderref04_Letter.j0 k a0 (decide (a0 ≤ 57))) else (postriderref04_Letter.j0 k a0 false))) else (if a0 ≥ 48 then (postriderref04_Letter.j0 k a0 (decide (a0 ≤ 57))) else (postriderref04_Letter.j0 k a0 false)))) else (if a0 ≥ 65 then (if a0 ≤ 90 then (postriderref04_Letter.j0 k a0 true) else (if a0 ≥ 48 then (postriderref04_Letter.j0 k a0 (decide (a0 ≤ 57))) else (postriderref04_Letter.j0 k a0 false))) else (if a0 ≥ 48 then (postriderref04_Letter.j0 k a0 (decide (a0 ≤ 57))) else (postriderref04_Letter.j0 k a0 false)))
theorem postriderref04_Letter.mono_l : ∀ k, (∀ y0 y1, LeO (postriderref04_Letter.j0 k y0 y1) (postriderref04_Letter.j0 (k + 1) y0 y1)) ∧ (∀ y0 y1 y2, LeO (postriderref04_Letter.l0 k y0 y1 y2) (postriderref04_Letter.l0 (k + 1) y0 y1 y2))
  | 0 => ⟨fun _ _ r h => by simp [postriderref04_Letter.j0] at h, fun _ _ _ r h => by simp [postriderref04_Letter.l0] at h⟩
  | k + 1 => by
    obtain ⟨ih0, ih1⟩ := postriderref04_Letter.mono_l k
    refine ⟨?_, ?_⟩
    · intro y0 y1
      unfold postriderref04_Letter.j0
      repeat' first
      | (with_reducible exact ih0 _ _)
      | (with_reducible exact ih1 _ _ _)
      | (with_reducible exact LeO.refl _)
      | (with_reducible exact LeO.none _)
      | (with_reducible refine LeO.ite ?_ ?_)
      | (with_reducible refine LeO.bind ?_ (fun _ => ?_))
      | exact ih0 _ _
      | exact ih1 _ _ _
      | exact LeO.none _
      | refine LeO.ite ?_ ?_
      | refine LeO.bind ?_ (fun _ => ?_)
    · intro y0 y1 y2
      unfold postriderref04_Letter.l0
      repeat' first
      | (with_reducible exact ih0 _ _)
      | (with_reducible exact ih1 _ _ _)
      | (with_reducible exact LeO.refl _)
      | (with_reducible exact LeO.none _)
      | (with_reducible refine LeO.ite ?_ ?_)
      | (with_reducible refine LeO.bind ?_ (fun _ => ?_))
      | exact ih0 _ _
      | exact ih1 _ _ _
      | exact LeO.none _
      | refine LeO.ite ?_ ?_
      | refine LeO.bind ?_ (fun _ => ?_)
theorem postriderref04_Letter.mono : ∀ a0 k, LeO (postriderref04_Letter.f k a0) (postriderref04_Letter.f (k + 1) a0) := by
  intro a0 k
  obtain ⟨ih0, ih1⟩ := postriderref04_Letter.mono_l k
  unfold postriderref04_Letter.f
  repeat' first
      | (with_reducible exact ih0 _ _)
      | (with_reducible exact ih1 _ _ _)
      | (with_reducible exact LeO.refl _)
      | (with_reducible exact LeO.none _)
      | (with_reducible refine LeO.ite ?_ ?_)
      | (with_reducible refine LeO.bind ?_ (fun _ => ?_))
      | exact ih0 _ _
      | exact ih1 _ _ _
      | exact LeO.none _
      | refine LeO.ite ?_ ?_
      | refine LeO.bind ?_ (fun _ => ?_)
set_option maxHeartbeats 8000000 in
set_option maxRecDepth 100000 in
theorem postriderref04_Letter.calls (k : Nat) (a0 : Int) (r : Bool) (w : World) (h : postriderref04_Letter.f k a0 = some r) :
    Calls Tryz.prog 80 #[.int .u8 a0] w fun e w' => e = .returned (.bool r) ∧ Drawn0 w w' := by
  have H : (if a0 ≥ 97 then (if a0 ≤ 122 then (postriderref04_Letter.j0 k a0 true) else (if a0 ≥ 65 then (if a0 ≤ 90 then (postriderref04_Letter.j0 k a0 true) else (if a0 ≥ 48 then (postriderref04_Letter.j0 k a0 (decide (a0 ≤ 57))) else (postriderref04_Letter.j0 k a0 false))) else (if a0 ≥ 48 then (postriderref04_Letter.j0 k a0 (decide (a0 ≤ 57))) else (postriderref04_Letter.j0 k a0 false)))) else (if a0 ≥ 65 then (if a0 ≤ 90 then (postriderref04_Letter.j0 k a0 true) else (if a0 ≥ 48 then (postriderref04_Letter.j0 k a0 (decide (a0 ≤ 57))) else (postriderref04_Letter.j0 k a0 false))) else (if a0 ≥ 48 then (postriderref04_Letter.j0 k a0 (decide (a0 ≤ 57))) else (postriderref04_Letter.j0 k a0 false)))) = some r := h
  clear h
  have HC2 := Aside0.mk H
  clear H
  go_enter Tryz.func80, Tryz.ntmps80
  go_upto_region 1 with (fail)
  go_cut [26] (fun v26 wc => ∃ (kq : Nat) (x26_1 : Bool), v26 = .bool x26_1 ∧ Aside0 (postriderref04_Letter.j0 kq a0 x26_1 = some r) ∧ Aside0 (kq ≤ k) ∧ Drawn0 w wc)
  case first =>
    have H := HC2.out
    clear HC2
    by_cases c3 : a0 ≥ 97
    · rw [if_pos c3] at H
      have c3b0 : decide (97 ≤ a0) = true := decide_eq_true c3
      clear c3
      (first | rw [c3b0] | (simp only [i64_w, i32_w]; rw [c3b0]) | skip)
      by_cases c4 : a0 ≤ 122
      · rw [if_pos c4] at H
        have c4b0 : decide (a0 ≤ 122) = true := decide_eq_true c4
        clear c4
        have H' := Aside0.mk H
        clear H
        go_wp2
        go_meet
        case rel => exact ⟨_, (true), (by first | rfl | (simp; done) | (simp [*]; done)), H', ⟨by first | omega | exact Nat.le_refl _⟩, by repeat (first | exact Drawn0.refl _ | apply Drawn0.step)⟩
      · rw [if_neg c4] at H
        have c4b0 : decide (a0 ≤ 122) = false := decide_eq_false c4
        clear c4
        by_cases c5 : a0 ≥ 65
        · rw [if_pos c5] at H
          have c5b0 : decide (65 ≤ a0) = true := decide_eq_true c5
          clear c5
          by_cases c6 : a0 ≤ 90
          · rw [if_pos c6] at H
            have c6b0 : decide (a0 ≤ 90) = true := decide_eq_true c6
            clear c6
            have H' := Aside0.mk H
            clear H
            go_wp2
            go_meet
            case rel => exact ⟨_, (true), (by first | rfl | (simp; done) | (simp [*]; done)), H', ⟨by first | omega | exact Nat.le_refl _⟩, by repeat (first | exact Drawn0.refl _ | apply Drawn0.step)⟩
          · rw [if_neg c6] at H
            have c6b0 : decide (a0 ≤ 90) = false := decide_eq_false c6
            clear c6
            by_cases c7 : a0 ≥ 48
            · rw [if_pos c7] at H
              have c7b0 : decide (48 ≤ a0) = true := decide_eq_true c7
              clear c7
              have H' := Aside0.mk H
              clear H
              go_wp2
              go_meet
              case rel => exact ⟨_, (decide (a0 ≤ 57)), (by first | rfl | (simp; done) | (simp [*]; done)), H', ⟨by first | omega | exact Nat.le_refl _⟩, by repeat (first | exact Drawn0.refl _ | apply Drawn0.step)⟩
            · rw [if_neg c7] at H
              have c7b0 : decide (48 ≤ a0) = false := decide_eq_false c7
              clear c7
              have H' := Aside0.mk H
              clear H
              go_wp2
              go_meet
              case rel => exact ⟨_, (false), (by first | rfl | (simp; done) | (simp [*]; done)), H', ⟨by first | omega | exact Nat.le_refl _⟩, by repeat (first | exact Drawn0.refl _ | apply Drawn0.step)⟩
        · rw [if_neg c5] at H
          have c5b0 : decide (65 ≤ a0) = false := decide_eq_false c5
          clear c5
          by_cases c8 : a0 ≥ 48
          · rw [if_pos c8] at H
            have c8b0 : decide (48 ≤ a0) = true := decide_eq_true c8
            clear c8
            have H' := Aside0.mk H
            clear H
            go_wp2
            go_meet
            case rel => exact ⟨_, (decide (a0 ≤ 57)), (by first | rfl | (simp; done) | (simp [*]; done)), H', ⟨by first | omega | exact Nat.le_refl _⟩, by repeat (first | exact Drawn0.refl _ | apply Drawn0.step)⟩
          · rw [if_neg c8] at H
            have c8b0 : decide (48 ≤ a0) = false := decide_eq_false c8
            clear c8
            have H' := Aside0.mk H
            clear H
            go_wp2
            go_meet
            case rel => exact ⟨_, (false), (by first | rfl | (simp; done) | (simp [*]; done)), H', ⟨by first | omega | exact Nat.le_refl _⟩, by repeat (first | exact Drawn0.refl _ | apply Drawn0.step)⟩
    · rw [if_neg c3] at H
      have c3b0 : decide (97 ≤ a0) = false := decide_eq_false c3
      clear c3
      (first | rw [c3b0] | (simp only [i64_w, i32_w]; rw [c3b0]) | skip)
      by_cases c9 : a0 ≥ 65
      · rw [if_pos c9] at H
        have c9b0 : decide (65 ≤ a0) = true := decide_eq_true c9
        clear c9
        by_cases c10 : a0 ≤ 90
        · rw [if_pos c10] at H
          have c10b0 : decide (a0 ≤ 90) = true := decide_eq_true c10
          clear c10
          have H' := Aside0.mk H
          clear H
          go_wp2
          go_meet
          case rel => exact ⟨_, (true), (by first | rfl | (simp; done) | (simp [*]; done)), H', ⟨by first | omega | exact Nat.le_refl _⟩, by repeat (first | exact Drawn0.refl _ | apply Drawn0.step)⟩
        · rw [if_neg c10] at H
          have c10b0 : decide (a0 ≤ 90) = false := decide_eq_false c10
          clear c10
          by_cases c11 : a0 ≥ 48
          · rw [if_pos c11] at H
            have c11b0 : decide (48 ≤ a0) = true := decide_eq_true c11
            clear c11
            have H' := Aside0.mk H
            clear H
            go_wp2
            go_meet
            case rel => exact ⟨_, (decide (a0 ≤ 57)), (by first | rfl | (simp; done) | (simp [*]; done)), H', ⟨by first | omega | exact Nat.le_refl _⟩, by repeat (first | exact Drawn0.refl _ | apply Drawn0.step)⟩
          · rw [if_neg c11] at H
            have c11b0 : decide (48 ≤ a0) = false := decide_eq_false c11
            clear c11
            have H' := Aside0.mk H
            clear H
            go_wp2
            go_meet
            case rel => exact ⟨_, (false), (by first | rfl | (simp; done) | (simp [*]; done)), H', ⟨by first | omega | exact Nat.le_refl _⟩, by repeat (first | exact Drawn0.refl _ | apply Drawn0.step)⟩
      · rw [if_neg c9] at H
        have c9b0 : decide (65 ≤ a0) = false := decide_eq_false c9
        clear c9
        by_cases c12 : a0 ≥ 48
        · rw [if_pos c12] at H
          have c12b0 : decide (48 ≤ a0) = true := decide_eq_true c12
          clear c12
          have H' := Aside0.mk H
          clear H
          go_wp2
          go_meet
          case rel => exact ⟨_, (decide (a0 ≤ 57)), (by first | rfl | (simp; done) | (simp [*]; done)), H', ⟨by first | omega | exact Nat.le_refl _⟩, by repeat (first | exact Drawn0.refl _ | apply Drawn0.step)⟩
        · rw [if_neg c12] at H
          have c12b0 : decide (48 ≤ a0) = false := decide_eq_false c12
          clear c12
          have H' := Aside0.mk H
          clear H
          go_wp2
          go_meet
          case rel => exact ⟨_, (false), (by first | rfl | (simp; done) | (simp [*]; done)), H', ⟨by first | omega | exact Nat.le_refl _⟩, by repeat (first | exact Drawn0.refl _ | apply Drawn0.step)⟩
  case rest =>
    clear HC2
    try clear c1
    try clear p2
    try clear c3
    try clear c3b0
    try clear c4
    try clear c4b0
    try clear c5
    try clear c5b0
    try clear c6
    try clear c6b0
    try clear c7
    try clear c7b0
    try clear c8
    try clear c8b0
    try clear c9
    try clear c9b0
    try clear c10
    try clear c10b0
    try clear c11
    try clear c11b0
    try clear c12
    try clear c12b0
    obtain ⟨kq, x26_1, rfl, HA, HJ1, ⟨mc1, rfl⟩⟩ := hcut
    cases kq with
    | zero => exact absurd HA.out (by simp [postriderref04_Letter.j0])
    | succ kj1 =>
      have H := HA.out
      clear HA
      simp only [postriderref04_Letter.j0] at H
      by_cases c13 : x26_1 = true
      · subst c13
        have H1 : (some true) = some r := by rw [if_pos rfl] at H; exact H
        clear H
        have H := H1
        clear H1
        obtain rfl := Option.some.inj H
        go_wp2
        go_ret
        exact ⟨by first | rfl | (simp; done) | (simp [*]; done), by repeat (first | exact Drawn0.refl _ | apply Drawn0.step)⟩
      · replace c13 := Bool.eq_false_iff.mpr c13
        subst c13
        have H1 : (postriderref04_Letter.l0 kj1 a0 (⟨#[33, 35, 36, 37, 38, 39, 42, 43, 45, 47, 61, 63, 94, 95, 96, 123, 124, 125, 126]⟩ : ByteArray) 0) = some r := by rw [if_neg (show ¬ (false = true) by decide)] at H; exact H
        clear H
        have H := H1
        clear H1
        have H' := Aside0.mk H
        clear H
        go_wp2
        go_loopg [4] kj1 (fun kq v4 w' => ∃ (x4_2 : Int), v4 = .int .i64 x4_2 ∧ Aside0 (postriderref04_Letter.l0 kq a0 (⟨#[33, 35, 36, 37, 38, 39, 42, 43, 45, 47, 61, 63, 94, 95, 96, 123, 124, 125, 126]⟩ : ByteArray) x4_2 = some r) ∧ Aside0 (kq ≤ kj1) ∧ Drawn0 w w')
        case atStart => exact ⟨(0), (by first | rfl | (simp; done) | (simp [*]; done)), H', ⟨Nat.le_refl _⟩, by repeat (first | exact Drawn0.refl _ | apply Drawn0.step)⟩
        case round =>
          clear H'
          try clear c1
          try clear p2
          try clear c3
          try clear c3b0
          try clear c4
          try clear c4b0
          try clear c5
          try clear c5b0
          try clear c6
          try clear c6b0
          try clear c7
          try clear c7b0
          try clear c8
          try clear c8b0
          try clear c9
          try clear c9b0
          try clear c10
          try clear c10b0
          try clear c11
          try clear c11b0
          try clear c12
          try clear c12b0
          try clear c13
          try clear p2
          obtain ⟨x4_2, rfl, HA, HK2, ⟨m2, rfl⟩⟩ := hrel
          cases gk with
          | zero => exact absurd HA.out (by simp [postriderref04_Letter.l0])
          | succ k2 =>
            have H := HA.out
            clear HA
            simp only [postriderref04_Letter.l0] at H
            by_cases c14 : x4_2 < ((⟨#[33, 35, 36, 37, 38, 39, 42, 43, 45, 47, 61, 63, 94, 95, 96, 123, 124, 125, 126]⟩ : ByteArray).size : Int)
            · rw [if_pos c14] at H
              have c14b0 : decide (x4_2 < ((⟨#[33, 35, 36, 37, 38, 39, 42, 43, 45, 47, 61, 63, 94, 95, 96, 123, 124, 125, 126]⟩ : ByteArray).size : Int)) = true := decide_eq_true c14
              have c14b7 : decide (x4_2 < (19 : Int)) = true := c14b0
              clear c14
              by_cases c15 : 0 ≤ x4_2
              · rw [if_pos c15] at H
                have c15b0 : decide (0 ≤ x4_2) = true := decide_eq_true c15
                clear c15
                by_cases c17 : (bt (⟨#[33, 35, 36, 37, 38, 39, 42, 43, 45, 47, 61, 63, 94, 95, 96, 123, 124, 125, 126]⟩ : ByteArray) x4_2) = a0
                · rw [if_pos c17] at H
                  have c17b0 : ((bt (⟨#[33, 35, 36, 37, 38, 39, 42, 43, 45, 47, 61, 63, 94, 95, 96, 123, 124, 125, 126]⟩ : ByteArray) x4_2) == a0) = true := beq_iff_eq.mpr c17
                  have c17b1 : ((bt (⟨#[33, 35, 36, 37, 38, 39, 42, 43, 45, 47, 61, 63, 94, 95, 96, 123, 124, 125, 126]⟩ : ByteArray) x4_2) != a0) = false := bne_eq_false_iff_eq.mpr c17
                  clear c17
                  obtain rfl := Option.some.inj H
                  have p16 : 0 ≤ (x4_2 : Int) := of_decide_eq_true (by first | (with_reducible assumption) | assumption)
                  have q16 : x4_2 < (19 : Int) := of_decide_eq_true (by first | (with_reducible assumption) | assumption)
                  have hx16 := bt_at (⟨#[33, 35, 36, 37, 38, 39, 42, 43, 45, 47, 61, 63, 94, 95, 96, 123, 124, 125, 126]⟩ : ByteArray) x4_2
                  replace p16 := eq_true p16
                  replace q16 := eq_true q16
                  go_wp2
                  go_ret
                  exact ⟨by first | rfl | (simp; done) | (simp [*]; done), by repeat (first | exact Drawn0.refl _ | apply Drawn0.step)⟩
                · rw [if_neg c17] at H
                  have c17b0 : ((bt (⟨#[33, 35, 36, 37, 38, 39, 42, 43, 45, 47, 61, 63, 94, 95, 96, 123, 124, 125, 126]⟩ : ByteArray) x4_2) == a0) = false := beq_eq_false_iff_ne.mpr c17
                  have c17b1 : ((bt (⟨#[33, 35, 36, 37, 38, 39, 42, 43, 45, 47, 61, 63, 94, 95, 96, 123, 124, 125, 126]⟩ : ByteArray) x4_2) != a0) = true := bne_iff_ne.mpr c17
                  have H' := Aside0.mk H
                  clear H
                  have p16 : 0 ≤ (x4_2 : Int) := of_decide_eq_true (by first | (with_reducible assumption) | assumption)
                  have q16 : x4_2 < (19 : Int) := of_decide_eq_true (by first | (with_reducible assumption) | assumption)
                  have hx16 := bt_at (⟨#[33, 35, 36, 37, 38, 39, 42, 43, 45, 47, 61, 63, 94, 95, 96, 123, 124, 125, 126]⟩ : ByteArray) x4_2
                  replace p16 := eq_true p16
                  replace q16 := eq_true q16
                  go_wp2
                  go_roundg k2
                  case measure => have := HJ1.out; have := HK2.out; omega
                  case rel => exact ⟨(wrap64 (x4_2 + 1)), (by first | rfl | (simp; done) | (simp [*]; done)), H', ⟨by have := HJ1.out; have := HK2.out; omega⟩, by repeat (first | exact Drawn0.refl _ | apply Drawn0.step)⟩
              · rw [if_neg c15] at H
                exact absurd H (by simp)
            · rw [if_neg c14] at H
              have c14b0 : decide (x4_2 < ((⟨#[33, 35, 36, 37, 38, 39, 42, 43, 45, 47, 61, 63, 94, 95, 96, 123, 124, 125, 126]⟩ : ByteArray).size : Int)) = false := decide_eq_false c14
              have c14b7 : decide (x4_2 < (19 : Int)) = false := c14b0
              clear c14
              obtain rfl := Option.some.inj H
              go_wp2
              go_ret
              exact ⟨by first | rfl | (simp; done) | (simp [*]; done), by repeat (first | exact Drawn0.refl _ | apply Drawn0.step)⟩

/-! ### postriderref04_DotAtom: function 52 -/
def postriderref04_DotAtom.l0 : Nat → ByteArray → Bool → Int → Option (Bool)
  | 0, _, _, _ => none
  | k + 1, x0, x3, x4 => if x4 < (x0.size : Int) then (if 0 ≤ x4 then (if (bt x0 x4) = 46 then (if x3 = true then (some false) else (postriderref04_DotAtom.l0 k x0 true (wrap64 (x4 + 1)))) else ((postriderref04_Letter.f k (bt x0 x4)).bind fun t167 => (if t167 = true then (postriderref04_DotAtom.l0 k x0 false (wrap64 (x4 + 1))) else (some false)))) else (none)) else (some (!x3))
def postriderref04_DotAtom.f (k : Nat) (a0 : ByteArray) : Option (Bool) := postriderref04_DotAtom.l0 k a0 true 0
theorem postriderref04_DotAtom.mono_l : ∀ k, (∀ y0 y1 y2, LeO (postriderref04_DotAtom.l0 k y0 y1 y2) (postriderref04_DotAtom.l0 (k + 1) y0 y1 y2))
  | 0 => fun _ _ _ r h => by simp [postriderref04_DotAtom.l0] at h
  | k + 1 => by
    have ih0 := postriderref04_DotAtom.mono_l k
    · intro y0 y1 y2
      unfold postriderref04_DotAtom.l0
      repeat' first
      | (with_reducible exact ih0 _ _ _)
      | (with_reducible exact postriderref04_Letter.mono _ _)
      | (with_reducible exact LeO.refl _)
      | (with_reducible exact LeO.none _)
      | (with_reducible refine LeO.ite ?_ ?_)
      | (with_reducible refine LeO.bind ?_ (fun _ => ?_))
      | exact ih0 _ _ _
      | exact postriderref04_Letter.mono _ _
      | exact LeO.none _
      | refine LeO.ite ?_ ?_
      | refine LeO.bind ?_ (fun _ => ?_)
theorem postriderref04_DotAtom.mono : ∀ a0 k, LeO (postriderref04_DotAtom.f k a0) (postriderref04_DotAtom.f (k + 1) a0) := by
  intro a0 k
  have ih0 := postriderref04_DotAtom.mono_l k
  unfold postriderref04_DotAtom.f
  repeat' first
      | (with_reducible exact ih0 _ _ _)
      | (with_reducible exact postriderref04_Letter.mono _ _)
      | (with_reducible exact LeO.refl _)
      | (with_reducible exact LeO.none _)
      | (with_reducible refine LeO.ite ?_ ?_)
      | (with_reducible refine LeO.bind ?_ (fun _ => ?_))
      | exact ih0 _ _ _
      | exact postriderref04_Letter.mono _ _
      | exact LeO.none _
      | refine LeO.ite ?_ ?_
      | refine LeO.bind ?_ (fun _ => ?_)
set_option maxHeartbeats 8000000 in
set_option maxRecDepth 100000 in
theorem postriderref04_DotAtom.calls (k : Nat) (a0 : ByteArray) (r : Bool) (w : World) (h : postriderref04_DotAtom.f k a0 = some r) :
    Calls Tryz.prog 52 #[.string a0] w fun e w' => e = .returned (.bool r) ∧ Drawn0 w w' := by
  have H : (postriderref04_DotAtom.l0 k a0 true 0) = some r := h
  clear h
  have H' := Aside0.mk H
  clear H
  go_enter Tryz.func52, Tryz.ntmps52
  go_wp2
  go_loopg [3, 4] k (fun kq v3 v4 w' => ∃ (x3_1 : Bool) (x4_1 : Int), v3 = .bool x3_1 ∧ v4 = .int .i64 x4_1 ∧ Aside0 (postriderref04_DotAtom.l0 kq a0 x3_1 x4_1 = some r) ∧ Aside0 (kq ≤ k) ∧ Drawn0 w w')
  case atStart => exact ⟨(true), (0), (by first | rfl | (simp; done) | (simp [*]; done)), (by first | rfl | (simp; done) | (simp [*]; done)), H', ⟨Nat.le_refl _⟩, by repeat (first | exact Drawn0.refl _ | apply Drawn0.step)⟩
  case round =>
    clear H'
    obtain ⟨x3_1, x4_1, rfl, rfl, HA, HK1, ⟨m1, rfl⟩⟩ := hrel
    cases gk with
    | zero => exact absurd HA.out (by simp [postriderref04_DotAtom.l0])
    | succ k1 =>
      have H := HA.out
      clear HA
      simp only [postriderref04_DotAtom.l0] at H
      by_cases c2 : x4_1 < (a0.size : Int)
      · rw [if_pos c2] at H
        have c2b0 : decide (x4_1 < (a0.size : Int)) = true := decide_eq_true c2
        clear c2
        by_cases c3 : 0 ≤ x4_1
        · rw [if_pos c3] at H
          have c3b0 : decide (0 ≤ x4_1) = true := decide_eq_true c3
          clear c3
          by_cases c5 : (bt a0 x4_1) = 46
          · rw [if_pos c5] at H
            have c5b0 : ((bt a0 x4_1) == 46) = true := beq_iff_eq.mpr c5
            have c5b1 : ((bt a0 x4_1) != 46) = false := bne_eq_false_iff_eq.mpr c5
            clear c5
            by_cases c6 : x3_1 = true
            · subst c6
              have H1 : (some false) = some r := by rw [if_pos rfl] at H; exact H
              clear H
              have H := H1
              clear H1
              obtain rfl := Option.some.inj H
              have p4 : 0 ≤ (x4_1 : Int) := of_decide_eq_true (by first | (with_reducible assumption) | assumption)
              have q4 : x4_1 < (a0.size : Int) := of_decide_eq_true (by first | (with_reducible assumption) | assumption)
              have hx4 := bt_at a0 x4_1
              replace p4 := eq_true p4
              replace q4 := eq_true q4
              go_wp2
              go_ret
              exact ⟨by first | rfl | (simp; done) | (simp [*]; done), by repeat (first | exact Drawn0.refl _ | apply Drawn0.step)⟩
            · replace c6 := Bool.eq_false_iff.mpr c6
              subst c6
              have H1 : (postriderref04_DotAtom.l0 k1 a0 true (wrap64 (x4_1 + 1))) = some r := by rw [if_neg (show ¬ (false = true) by decide)] at H; exact H
              clear H
              have H := H1
              clear H1
              have H' := Aside0.mk H
              clear H
              have p4 : 0 ≤ (x4_1 : Int) := of_decide_eq_true (by first | (with_reducible assumption) | assumption)
              have q4 : x4_1 < (a0.size : Int) := of_decide_eq_true (by first | (with_reducible assumption) | assumption)
              have hx4 := bt_at a0 x4_1
              replace p4 := eq_true p4
              replace q4 := eq_true q4
              go_wp2
              go_roundg k1
              case measure => have := HK1.out; omega
              case rel => exact ⟨(true), (wrap64 (x4_1 + 1)), (by first | rfl | (simp; done) | (simp [*]; done)), (by first | rfl | (simp; done) | (simp [*]; done)), H', ⟨by have := HK1.out; omega⟩, by repeat (first | exact Drawn0.refl _ | apply Drawn0.step)⟩
          · rw [if_neg c5] at H
            have c5b0 : ((bt a0 x4_1) == 46) = false := beq_eq_false_iff_ne.mpr c5
            have c5b1 : ((bt a0 x4_1) != 46) = true := bne_iff_ne.mpr c5
            replace H := Option.bind_eq_some_iff.mp H
            obtain ⟨t167, A80, H⟩ := H
            replace H : (if t167 = true then (postriderref04_DotAtom.l0 k1 a0 false (wrap64 (x4_1 + 1))) else (some false)) = some r := H
            have A8 := Aside0.mk A80
            clear A80
            by_cases c9 : t167 = true
            · subst c9
              have H1 : (postriderref04_DotAtom.l0 k1 a0 false (wrap64 (x4_1 + 1))) = some r := by rw [if_pos rfl] at H; exact H
              clear H
              have H := H1
              clear H1
              have H' := Aside0.mk H
              clear H
              have p4 : 0 ≤ (x4_1 : Int) := of_decide_eq_true (by first | (with_reducible assumption) | assumption)
              have q4 : x4_1 < (a0.size : Int) := of_decide_eq_true (by first | (with_reducible assumption) | assumption)
              have hx4 := bt_at a0 x4_1
              replace p4 := eq_true p4
              replace q4 := eq_true q4
              have p7 : 0 ≤ (x4_1 : Int) := of_decide_eq_true (by first | (with_reducible assumption) | assumption)
              have q7 : x4_1 < (a0.size : Int) := of_decide_eq_true (by first | (with_reducible assumption) | assumption)
              have hx7 := bt_at a0 x4_1
              replace p7 := eq_true p7
              replace q7 := eq_true q7
              go_wp2_with (first | ((with_reducible refine gate_callee (f := 80) rfl ?_); refine goesL_ (some 19) rfl rfl Tryz.func80 (by kernel_rfl) rfl #[.int .u8 (bt a0 x4_1)] rfl (by (try simp only [List.map_toArray, List.map_cons, List.map_nil]); first | done | rfl | (simp only [List.length_drop, List.length_take]; rfl)) ?_; (with_reducible refine (postriderref04_Letter.calls k1 (bt a0 x4_1) true _ A8.out).mono ?_); rintro e w' ⟨rfl, ⟨nd, rfl⟩⟩; refine ⟨_, rfl, ?_⟩))
              go_roundg k1
              case measure => have := HK1.out; omega
              case rel => exact ⟨(false), (wrap64 (x4_1 + 1)), (by first | rfl | (simp; done) | (simp [*]; done)), (by first | rfl | (simp; done) | (simp [*]; done)), H', ⟨by have := HK1.out; omega⟩, by repeat (first | exact Drawn0.refl _ | apply Drawn0.step)⟩
            · replace c9 := Bool.eq_false_iff.mpr c9
              subst c9
              have H1 : (some false) = some r := by rw [if_neg (show ¬ (false = true) by decide)] at H; exact H
              clear H
              have H := H1
              clear H1
              obtain rfl := Option.some.inj H
              have p4 : 0 ≤ (x4_1 : Int) := of_decide_eq_true (by first | (with_reducible assumption) | assumption)
              have q4 : x4_1 < (a0.size : Int) := of_decide_eq_true (by first | (with_reducible assumption) | assumption)
              have hx4 := bt_at a0 x4_1
              replace p4 := eq_true p4
              replace q4 := eq_true q4
              have p7 : 0 ≤ (x4_1 : Int) := of_decide_eq_true (by first | (with_reducible assumption) | assumption)
              have q7 : x4_1 < (a0.size : Int) := of_decide_eq_true (by first | (with_reducible assumption) | assumption)
              have hx7 := bt_at a0 x4_1
              replace p7 := eq_true p7
              replace q7 := eq_true q7
              go_wp2_with (first | ((with_reducible refine gate_callee (f := 80) rfl ?_); refine goesL_ (some 19) rfl rfl Tryz.func80 (by kernel_rfl) rfl #[.int .u8 (bt a0 x4_1)] rfl (by (try simp only [List.map_toArray, List.map_cons, List.map_nil]); first | done | rfl | (simp only [List.length_drop, List.length_take]; rfl)) ?_; (with_reducible refine (postriderref04_Letter.calls k1 (bt a0 x4_1) false _ A8.out).mono ?_); rintro e w' ⟨rfl, ⟨nd, rfl⟩⟩; refine ⟨_, rfl, ?_⟩))
              go_ret
              exact ⟨by first | rfl | (simp; done) | (simp [*]; done), by repeat (first | exact Drawn0.refl _ | apply Drawn0.step)⟩
        · rw [if_neg c3] at H
          exact absurd H (by simp)
      · rw [if_neg c2] at H
        have c2b0 : decide (x4_1 < (a0.size : Int)) = false := decide_eq_false c2
        clear c2
        obtain rfl := Option.some.inj H
        go_wp2
        go_ret
        exact ⟨by first | rfl | (simp; done) | (simp [*]; done), by repeat (first | exact Drawn0.refl _ | apply Drawn0.step)⟩

end Go.Proofs.YtmhcdigneamgdaaGreatDoor.Qb

namespace Go.Proofs.YtmhcdigneamgdaaGreatDoor.Qb
open Go.RowKit Go.Proofs.YtmhcdigneamgdaaGreatDoor.G Go.Proofs.YtmhcdigneamgdaaGreatDoor.Qa Go.Proofs.YtmhcdigneamgdaaGreatDoorW.PrintWords Go.Proofs.YtmhcdigneamgdaaGreatDoorW.PrintLast Go.Proofs.YtmhcdigneamgdaaGreatDoorW.PrintMore
attribute [local go_sem] max2_int min2_int max_two min_two max_three min_three max_four min_four   -- for this text's walks alone
set_option linter.unusedVariables false
set_option linter.unusedSimpArgs false

/-! ### postriderref04_Quote: function 53 -/
def postriderref04_Quote.l0 : Nat → ByteArray → ByteArray → Int → Option (ByteArray × Int)
  | 0, _, _, _ => none
  | k + 1, x0, x4, x5 => if x5 < (x0.size : Int) then (if 0 ≤ x5 then (if (bt x0 x5) = 34 then (if x4.size + 1 ≤ 9223372036854775807 then (if x5 ≤ (wrap64 (x5 + 1)) then (if (wrap64 (x5 + 1)) ≤ (x0.size : Int) then (if (x4 ++ (⟨#[92]⟩ : ByteArray)).size + (x0.extract (x5 : Int).toNat ((wrap64 (x5 + 1)) : Int).toNat).size ≤ 9223372036854775807 then (postriderref04_Quote.l0 k x0 ((x4 ++ (⟨#[92]⟩ : ByteArray)) ++ (x0.extract (x5 : Int).toNat ((wrap64 (x5 + 1)) : Int).toNat)) (wrap64 (x5 + 1))) else (none)) else (none)) else (none)) else (none)) else (if (bt x0 x5) = 92 then (if x4.size + 1 ≤ 9223372036854775807 then (if x5 ≤ (wrap64 (x5 + 1)) then (if (wrap64 (x5 + 1)) ≤ (x0.size : Int) then (if (x4 ++ (⟨#[92]⟩ : ByteArray)).size + (x0.extract (x5 : Int).toNat ((wrap64 (x5 + 1)) : Int).toNat).size ≤ 9223372036854775807 then (postriderref04_Quote.l0 k x0 ((x4 ++ (⟨#[92]⟩ : ByteArray)) ++ (x0.extract (x5 : Int).toNat ((wrap64 (x5 + 1)) : Int).toNat)) (wrap64 (x5 + 1))) else (none)) else (none)) else (none)) else (none)) else (if x5 ≤ (wrap64 (x5 + 1)) then (if (wrap64 (x5 + 1)) ≤ (x0.size : Int) then (if x4.size + (x0.extract (x5 : Int).toNat ((wrap64 (x5 + 1)) : Int).toNat).size ≤ 9223372036854775807 then (postriderref04_Quote.l0 k x0 (x4 ++ (x0.extract (x5 : Int).toNat ((wrap64 (x5 + 1)) : Int).toNat)) (wrap64 (x5 + 1))) else (none)) else (none)) else (none)))) else (none)) else (if x4.size + 1 ≤ 9223372036854775807 then (some (x4 ++ (⟨#[34]⟩ : ByteArray), 0)) else (none))
def postriderref04_Quote.f (k : Nat) (a0 : ByteArray) : Option (ByteArray × Int) := (postriderref04_Plain.f k a0).bind fun t168 => (if t168 = true then (postriderref04_Quote.l0 k a0 (⟨#[34]⟩ : ByteArray) 0) else (some ((⟨#[]⟩ : ByteArray), 5)))
theorem postriderref04_Quote.mono_l : ∀ k, (∀ y0 y1 y2, LeO (postriderref04_Quote.l0 k y0 y1 y2) (postriderref04_Quote.l0 (k + 1) y0 y1 y2))
  | 0 => fun _ _ _ r h => by simp [postriderref04_Quote.l0] at h
  | k + 1 => by
    have ih0 := postriderref04_Quote.mono_l k
    · intro y0 y1 y2
      unfold postriderref04_Quote.l0
      repeat' first
      | (with_reducible exact ih0 _ _ _)
      | (with_reducible exact postriderref04_Plain.mono _ _)
      | (with_reducible exact LeO.refl _)
      | (with_reducible exact LeO.none _)
      | (with_reducible refine LeO.ite ?_ ?_)
      | (with_reducible refine LeO.bind ?_ (fun _ => ?_))
      | exact ih0 _ _ _
      | exact postriderref04_Plain.mono _ _
      | exact LeO.none _
      | refine LeO.ite ?_ ?_
      | refine LeO.bind ?_ (fun _ => ?_)
theorem postriderref04_Quote.mono : ∀ a0 k, LeO (postriderref04_Quote.f k a0) (postriderref04_Quote.f (k + 1) a0) := by
  intro a0 k
  have ih0 := postriderref04_Quote.mono_l k
  unfold postriderref04_Quote.f
  repeat' first
      | (with_reducible exact ih0 _ _ _)
      | (with_reducible exact postriderref04_Plain.mono _ _)
      | (with_reducible exact LeO.refl _)
      | (with_reducible exact LeO.none _)
      | (with_reducible refine LeO.ite ?_ ?_)
      | (with_reducible refine LeO.bind ?_ (fun _ => ?_))
      | exact ih0 _ _ _
      | exact postriderref04_Plain.mono _ _
      | exact LeO.none _
      | refine LeO.ite ?_ ?_
      | refine LeO.bind ?_ (fun _ => ?_)
set_option maxHeartbeats 8000000 in
set_option maxRecDepth 100000 in
theorem postriderref04_Quote.calls (k : Nat) (a0 : ByteArray) (r1 : ByteArray) (r2 : Int) (w : World) (h : postriderref04_Quote.f k a0 = some (r1, r2)) :
    Calls Tryz.prog 53 #[.string a0] w fun e w' => e = .returned (.tuple #[.string r1, .int .i64 r2]) ∧ Drawn0 w w' := by
  have H : ((postriderref04_Plain.f k a0).bind fun t168 => (if t168 = true then (postriderref04_Quote.l0 k a0 (⟨#[34]⟩ : ByteArray) 0) else (some ((⟨#[]⟩ : ByteArray), 5)))) = some (r1, r2) := h
  clear h
  replace H := Option.bind_eq_some_iff.mp H
  obtain ⟨t168, A20, H⟩ := H
  replace H : (if t168 = true then (postriderref04_Quote.l0 k a0 (⟨#[34]⟩ : ByteArray) 0) else (some ((⟨#[]⟩ : ByteArray), 5))) = some (r1, r2) := H
  have A2 := Aside0.mk A20
  clear A20
  by_cases c3 : t168 = true
  · subst c3
    have H1 : (postriderref04_Quote.l0 k a0 (⟨#[34]⟩ : ByteArray) 0) = some (r1, r2) := by rw [if_pos rfl] at H; exact H
    clear H
    have H := H1
    clear H1
    have H' := Aside0.mk H
    clear H
    go_enter Tryz.func53, Tryz.ntmps53
    go_wp2_with (first | ((with_reducible refine gate_callee (f := 50) rfl ?_); refine goesL_ (some 7) rfl rfl Tryz.func50 (by kernel_rfl) rfl #[.string a0] rfl (by (try simp only [List.map_toArray, List.map_cons, List.map_nil]); first | done | rfl | (simp only [List.length_drop, List.length_take]; rfl)) ?_; (with_reducible refine (postriderref04_Plain.calls k a0 true _ A2.out).mono ?_); rintro e w' ⟨rfl, ⟨nd, rfl⟩⟩; refine ⟨_, rfl, ?_⟩))
    go_loopg [4, 5] k (fun kq v4 v5 w' => ∃ (x4_1 : ByteArray) (x5_1 : Int), v4 = .string x4_1 ∧ v5 = .int .i64 x5_1 ∧ Aside0 (postriderref04_Quote.l0 kq a0 x4_1 x5_1 = some (r1, r2)) ∧ Aside0 (kq ≤ k) ∧ Drawn0 w w')
    case atStart => exact ⟨((⟨#[34]⟩ : ByteArray)), (0), (by first | rfl | (simp; done) | (simp [*]; done)), (by first | rfl | (simp; done) | (simp [*]; done)), H', ⟨Nat.le_refl _⟩, by repeat (first | exact Drawn0.refl _ | apply Drawn0.step)⟩
    case round =>
      clear H'
      try clear p2
      try clear c3
      obtain ⟨x4_1, x5_1, rfl, rfl, HA, HK1, ⟨m1, rfl⟩⟩ := hrel
      cases gk with
      | zero => exact absurd HA.out (by simp [postriderref04_Quote.l0])
      | succ k1 =>
        have H := HA.out
        clear HA
        simp only [postriderref04_Quote.l0] at H
        by_cases c4 : x5_1 < (a0.size : Int)
        · rw [if_pos c4] at H
          have c4b0 : decide (x5_1 < (a0.size : Int)) = true := decide_eq_true c4
          clear c4
          by_cases c5 : 0 ≤ x5_1
          · rw [if_pos c5] at H
            have c5b0 : decide (0 ≤ x5_1) = true := decide_eq_true c5
            clear c5
            by_cases c7 : (bt a0 x5_1) = 34
            · rw [if_pos c7] at H
              have c7b0 : ((bt a0 x5_1) == 34) = true := beq_iff_eq.mpr c7
              have c7b1 : ((bt a0 x5_1) != 34) = false := bne_eq_false_iff_eq.mpr c7
              clear c7
              by_cases c8 : x4_1.size + 1 ≤ 9223372036854775807
              · rw [if_pos c8] at H
                have c8b0 := eq_true c8
                have c8b1 : decide (x4_1.size + 1 ≤ 9223372036854775807) = true := decide_eq_true c8
                try have c8b2 : (9223372036854775807 < x4_1.size + 1) = False := eq_false (Nat.not_lt.2 c8)
                have c9b0 := eq_true (of_decide_eq_true (by first | (with_reducible assumption) | assumption) : 0 ≤ x5_1)
                by_cases c10 : x5_1 ≤ (wrap64 (x5_1 + 1))
                · rw [if_pos c10] at H
                  have c10b0 := eq_true c10
                  have c10b1 : decide (x5_1 ≤ (wrap64 (x5_1 + 1))) = true := decide_eq_true c10
                  by_cases c11 : (wrap64 (x5_1 + 1)) ≤ (a0.size : Int)
                  · rw [if_pos c11] at H
                    have c11b0 := eq_true c11
                    have c11b1 : decide ((wrap64 (x5_1 + 1)) ≤ (a0.size : Int)) = true := decide_eq_true c11
                    by_cases c12 : (x4_1 ++ (⟨#[92]⟩ : ByteArray)).size + (a0.extract (x5_1 : Int).toNat ((wrap64 (x5_1 + 1)) : Int).toNat).size ≤ 9223372036854775807
                    · rw [if_pos c12] at H
                      have c12b0 := eq_true c12
                      have c12b1 : decide ((x4_1 ++ (⟨#[92]⟩ : ByteArray)).size + (a0.extract (x5_1 : Int).toNat ((wrap64 (x5_1 + 1)) : Int).toNat).size ≤ 9223372036854775807) = true := decide_eq_true c12
                      have c12b9 := c12
                      (try simp only [ByteArray.size_append, lit_size, List.size_toArray, List.length_cons, List.length_nil, Nat.zero_add, Nat.reduceAdd] at c12b9)
                      try have c12b2 : (9223372036854775807 < (x4_1 ++ (⟨#[92]⟩ : ByteArray)).size + (a0.extract (x5_1 : Int).toNat ((wrap64 (x5_1 + 1)) : Int).toNat).size) = False := eq_false (Nat.not_lt.2 c12)
                      have H' := Aside0.mk H
                      clear H
                      have p6 : 0 ≤ (x5_1 : Int) := of_decide_eq_true (by first | (with_reducible assumption) | assumption)
                      have q6 : x5_1 < (a0.size : Int) := of_decide_eq_true (by first | (with_reducible assumption) | assumption)
                      have hx6 := bt_at a0 x5_1
                      replace p6 := eq_true p6
                      replace q6 := eq_true q6
                      go_wp2
                      go_roundg k1
                      case measure => have := HK1.out; omega
                      case rel => exact ⟨((x4_1 ++ (⟨#[92]⟩ : ByteArray)) ++ (a0.extract (x5_1 : Int).toNat ((wrap64 (x5_1 + 1)) : Int).toNat)), (wrap64 (x5_1 + 1)), (by first | rfl | (simp; done) | (simp [*]; done)), (by first | rfl | (simp; done) | (simp [*]; done)), H', ⟨by have := HK1.out; omega⟩, by repeat (first | exact Drawn0.refl _ | apply Drawn0.step)⟩
                    · rw [if_neg c12] at H
                      exact absurd H (by simp)
                  · rw [if_neg c11] at H
                    exact absurd H (by simp)
                · rw [if_neg c10] at H
                  exact absurd H (by simp)
              · rw [if_neg c8] at H
                exact absurd H (by simp)
            · rw [if_neg c7] at H
              have c7b0 : ((bt a0 x5_1) == 34) = false := beq_eq_false_iff_ne.mpr c7
              have c7b1 : ((bt a0 x5_1) != 34) = true := bne_iff_ne.mpr c7
              by_cases c14 : (bt a0 x5_1) = 92
              · rw [if_pos c14] at H
                have c14b0 : ((bt a0 x5_1) == 92) = true := beq_iff_eq.mpr c14
                have c14b1 : ((bt a0 x5_1) != 92) = false := bne_eq_false_iff_eq.mpr c14
                clear c14
                by_cases c15 : x4_1.size + 1 ≤ 9223372036854775807
                · rw [if_pos c15] at H
                  have c15b0 := eq_true c15
                  have c15b1 : decide (x4_1.size + 1 ≤ 9223372036854775807) = true := decide_eq_true c15
                  try have c15b2 : (9223372036854775807 < x4_1.size + 1) = False := eq_false (Nat.not_lt.2 c15)
                  have c16b0 := eq_true (of_decide_eq_true (by first | (with_reducible assumption) | assumption) : 0 ≤ x5_1)
                  by_cases c17 : x5_1 ≤ (wrap64 (x5_1 + 1))
                  · rw [if_pos c17] at H
                    have c17b0 := eq_true c17
                    have c17b1 : decide (x5_1 ≤ (wrap64 (x5_1 + 1))) = true := decide_eq_true c17
                    by_cases c18 : (wrap64 (x5_1 + 1)) ≤ (a0.size : Int)
                    · rw [if_pos c18] at H
                      have c18b0 := eq_true c18
                      have c18b1 : decide ((wrap64 (x5_1 + 1)) ≤ (a0.size : Int)) = true := decide_eq_true c18
                      by_cases c19 : (x4_1 ++ (⟨#[92]⟩ : ByteArray)).size + (a0.extract (x5_1 : Int).toNat ((wrap64 (x5_1 + 1)) : Int).toNat).size ≤ 9223372036854775807
                      · rw [if_pos c19] at H
                        have c19b0 := eq_true c19
                        have c19b1 : decide ((x4_1 ++ (⟨#[92]⟩ : ByteArray)).size + (a0.extract (x5_1 : Int).toNat ((wrap64 (x5_1 + 1)) : Int).toNat).size ≤ 9223372036854775807) = true := decide_eq_true c19
                        have c19b9 := c19
                        (try simp only [ByteArray.size_append, lit_size, List.size_toArray, List.length_cons, List.length_nil, Nat.zero_add, Nat.reduceAdd] at c19b9)
                        try have c19b2 : (9223372036854775807 < (x4_1 ++ (⟨#[92]⟩ : ByteArray)).size + (a0.extract (x5_1 : Int).toNat ((wrap64 (x5_1 + 1)) : Int).toNat).size) = False := eq_false (Nat.not_lt.2 c19)
                        have H' := Aside0.mk H
                        clear H
                        have p6 : 0 ≤ (x5_1 : Int) := of_decide_eq_true (by first | (with_reducible assumption) | assumption)
                        have q6 : x5_1 < (a0.size : Int) := of_decide_eq_true (by first | (with_reducible assumption) | assumption)
                        have hx6 := bt_at a0 x5_1
                        replace p6 := eq_true p6
                        replace q6 := eq_true q6
                        have p13 : 0 ≤ (x5_1 : Int) := of_decide_eq_true (by first | (with_reducible assumption) | assumption)
                        have q13 : x5_1 < (a0.size : Int) := of_decide_eq_true (by first | (with_reducible assumption) | assumption)
                        have hx13 := bt_at a0 x5_1
                        replace p13 := eq_true p13
                        replace q13 := eq_true q13
                        go_wp2
                        go_roundg k1
                        case measure => have := HK1.out; omega
                        case rel => exact ⟨((x4_1 ++ (⟨#[92]⟩ : ByteArray)) ++ (a0.extract (x5_1 : Int).toNat ((wrap64 (x5_1 + 1)) : Int).toNat)), (wrap64 (x5_1 + 1)), (by first | rfl | (simp; done) | (simp [*]; done)), (by first | rfl | (simp; done) | (simp [*]; done)), H', ⟨by have := HK1.out; omega⟩, by repeat (first | exact Drawn0.refl _ | apply Drawn0.step)⟩
                      · rw [if_neg c19] at H
                        exact absurd H (by simp)
                    · rw [if_neg c18] at H
                      exact absurd H (by simp)
                  · rw [if_neg c17] at H
                    exact absurd H (by simp)
                · rw [if_neg c15] at H
                  exact absurd H (by simp)
              · rw [if_neg c14] at H
                have c14b0 : ((bt a0 x5_1) == 92) = false := beq_eq_false_iff_ne.mpr c14
                have c14b1 : ((bt a0 x5_1) != 92) = true := bne_iff_ne.mpr c14
                have c20b0 := eq_true (of_decide_eq_true (by first | (with_reducible assumption) | assumption) : 0 ≤ x5_1)
                by_cases c21 : x5_1 ≤ (wrap64 (x5_1 + 1))
                · rw [if_pos c21] at H
                  have c21b0 := eq_true c21
                  have c21b1 : decide (x5_1 ≤ (wrap64 (x5_1 + 1))) = true := decide_eq_true c21
                  by_cases c22 : (wrap64 (x5_1 + 1)) ≤ (a0.size : Int)
                  · rw [if_pos c22] at H
                    have c22b0 := eq_true c22
                    have c22b1 : decide ((wrap64 (x5_1 + 1)) ≤ (a0.size : Int)) = true := decide_eq_true c22
                    by_cases c23 : x4_1.size + (a0.extract (x5_1 : Int).toNat ((wrap64 (x5_1 + 1)) : Int).toNat).size ≤ 9223372036854775807
                    · rw [if_pos c23] at H
                      have c23b0 := eq_true c23
                      have c23b1 : decide (x4_1.size + (a0.extract (x5_1 : Int).toNat ((wrap64 (x5_1 + 1)) : Int).toNat).size ≤ 9223372036854775807) = true := decide_eq_true c23
                      try have c23b2 : (9223372036854775807 < x4_1.size + (a0.extract (x5_1 : Int).toNat ((wrap64 (x5_1 + 1)) : Int).toNat).size) = False := eq_false (Nat.not_lt.2 c23)
                      have H' := Aside0.mk H
                      clear H
                      have p6 : 0 ≤ (x5_1 : Int) := of_decide_eq_true (by first | (with_reducible assumption) | assumption)
                      have q6 : x5_1 < (a0.size : Int) := of_decide_eq_true (by first | (with_reducible assumption) | assumption)
                      have hx6 := bt_at a0 x5_1
                      replace p6 := eq_true p6
                      replace q6 := eq_true q6
                      have p13 : 0 ≤ (x5_1 : Int) := of_decide_eq_true (by first | (with_reducible assumption) | assumption)
                      have q13 : x5_1 < (a0.size : Int) := of_decide_eq_true (by first | (with_reducible assumption) | assumption)
                      have hx13 := bt_at a0 x5_1
                      replace p13 := eq_true p13
                      replace q13 := eq_true q13
                      go_wp2
                      go_roundg k1
                      case measure => have := HK1.out; omega
                      case rel => exact ⟨(x4_1 ++ (a0.extract (x5_1 : Int).toNat ((wrap64 (x5_1 + 1)) : Int).toNat)), (wrap64 (x5_1 + 1)), (by first | rfl | (simp; done) | (simp [*]; done)), (by first | rfl | (simp; done) | (simp [*]; done)), H', ⟨by have := HK1.out; omega⟩, by repeat (first | exact Drawn0.refl _ | apply Drawn0.step)⟩
                    · rw [if_neg c23] at H
                      exact absurd H (by simp)
                  · rw [if_neg c22] at H
                    exact absurd H (by simp)
                · rw [if_neg c21] at H
                  exact absurd H (by simp)
          · rw [if_neg c5] at H
            exact absurd H (by simp)
        · rw [if_neg c4] at H
          have c4b0 : decide (x5_1 < (a0.size : Int)) = false := decide_eq_false c4
          clear c4
          by_cases c24 : x4_1.size + 1 ≤ 9223372036854775807
          · rw [if_pos c24] at H
            have c24b0 := eq_true c24
            have c24b1 : decide (x4_1.size + 1 ≤ 9223372036854775807) = true := decide_eq_true c24
            try have c24b2 : (9223372036854775807 < x4_1.size + 1) = False := eq_false (Nat.not_lt.2 c24)
            simp only [Option.some.injEq, Prod.mk.injEq] at H
            obtain ⟨rfl, rfl⟩ := H
            go_wp2
            go_ret2
            exact ⟨by first | rfl | (simp; done) | (simp [*]; done), by repeat (first | exact Drawn0.refl _ | apply Drawn0.step)⟩
          · rw [if_neg c24] at H
            exact absurd H (by simp)
  · replace c3 := Bool.eq_false_iff.mpr c3
    subst c3
    have H1 : (some ((⟨#[]⟩ : ByteArray), 5)) = some (r1, r2) := by rw [if_neg (show ¬ (false = true) by decide)] at H; exact H
    clear H
    have H := H1
    clear H1
    simp only [Option.some.injEq, Prod.mk.injEq] at H
    obtain ⟨rfl, rfl⟩ := H
    go_enter Tryz.func53, Tryz.ntmps53
    go_wp2_with (first | ((with_reducible refine gate_callee (f := 50) rfl ?_); refine goesL_ (some 7) rfl rfl Tryz.func50 (by kernel_rfl) rfl #[.string a0] rfl (by (try simp only [List.map_toArray, List.map_cons, List.map_nil]); first | done | rfl | (simp only [List.length_drop, List.length_take]; rfl)) ?_; (with_reducible refine (postriderref04_Plain.calls k a0 false _ A2.out).mono ?_); rintro e w' ⟨rfl, ⟨nd, rfl⟩⟩; refine ⟨_, rfl, ?_⟩))
    go_ret2
    exact ⟨by first | rfl | (simp; done) | (simp [*]; done), by repeat (first | exact Drawn0.refl _ | apply Drawn0.step)⟩

/-! ### postriderref05_Text: function 24 -/
def postriderref05_Text.f (k : Nat) (a0_0 : ByteArray) (a0_1 : ByteArray) : Option (ByteArray) := (postriderref05_May.f k a0_0 a0_1).bind fun t170 => (if t170 = true then ((postriderref04_DotAtom.f k a0_0).bind fun t171 => (if t171 = true then (if a0_0.size + 1 ≤ 9223372036854775807 then (if (a0_0 ++ (⟨#[64]⟩ : ByteArray)).size + a0_1.size ≤ 9223372036854775807 then (some ((a0_0 ++ (⟨#[64]⟩ : ByteArray)) ++ a0_1)) else (none)) else (none)) else ((postriderref04_Quote.f k a0_0).bind fun bt172 => (if bt172.1.size + 1 ≤ 9223372036854775807 then (if (bt172.1 ++ (⟨#[64]⟩ : ByteArray)).size + a0_1.size ≤ 9223372036854775807 then (some ((bt172.1 ++ (⟨#[64]⟩ : ByteArray)) ++ a0_1)) else (none)) else (none))))) else (some (⟨#[]⟩ : ByteArray)))
theorem postriderref05_Text.mono : ∀ a0 a1 k, LeO (postriderref05_Text.f k a0 a1) (postriderref05_Text.f (k + 1) a0 a1) := by
  intro a0 a1 k
  unfold postriderref05_Text.f
  repeat' first
      | (with_reducible exact postriderref04_DotAtom.mono _ _)
      | (with_reducible exact postriderref04_Quote.mono _ _)
      | (with_reducible exact postriderref05_May.mono _ _ _)
      | (with_reducible exact LeO.refl _)
      | (with_reducible exact LeO.none _)
      | (with_reducible refine LeO.ite ?_ ?_)
      | (with_reducible refine LeO.bind ?_ (fun _ => ?_))
      | exact postriderref04_DotAtom.mono _ _
      | exact postriderref04_Quote.mono _ _
      | exact postriderref05_May.mono _ _ _
      | exact LeO.none _
      | refine LeO.ite ?_ ?_
      | refine LeO.bind ?_ (fun _ => ?_)
set_option maxHeartbeats 8000000 in
set_option maxRecDepth 100000 in
theorem postriderref05_Text.calls (k : Nat) (a0_0 : ByteArray) (a0_1 : ByteArray) (r : ByteArray) (w : World) (h : postriderref05_Text.f k a0_0 a0_1 = some r) :
    Calls Tryz.prog 24 #[.agg #[.string a0_0, .string a0_1]] w fun e w' => e = .returned (.string r) ∧ Below w.heap.size w w' := by
  have hu29 := Tryz.underlying29
  have HB := Aside0.mk (Below.refl w.heap.size w)
  have H : ((postriderref05_May.f k a0_0 a0_1).bind fun t170 => (if t170 = true then ((postriderref04_DotAtom.f k a0_0).bind fun t171 => (if t171 = true then (if a0_0.size + 1 ≤ 9223372036854775807 then (if (a0_0 ++ (⟨#[64]⟩ : ByteArray)).size + a0_1.size ≤ 9223372036854775807 then (some ((a0_0 ++ (⟨#[64]⟩ : ByteArray)) ++ a0_1)) else (none)) else (none)) else ((postriderref04_Quote.f k a0_0).bind fun bt172 => (if bt172.1.size + 1 ≤ 9223372036854775807 then (if (bt172.1 ++ (⟨#[64]⟩ : ByteArray)).size + a0_1.size ≤ 9223372036854775807 then (some ((bt172.1 ++ (⟨#[64]⟩ : ByteArray)) ++ a0_1)) else (none)) else (none))))) else (some (⟨#[]⟩ : ByteArray)))) = some r := h
  clear h
  replace H := Option.bind_eq_some_iff.mp H
  obtain ⟨t170, A20, H⟩ := H
  replace H : (if t170 = true then ((postriderref04_DotAtom.f k a0_0).bind fun t171 => (if t171 = true then (if a0_0.size + 1 ≤ 9223372036854775807 then (if (a0_0 ++ (⟨#[64]⟩ : ByteArray)).size + a0_1.size ≤ 9223372036854775807 then (some ((a0_0 ++ (⟨#[64]⟩ : ByteArray)) ++ a0_1)) else (none)) else (none)) else ((postriderref04_Quote.f k a0_0).bind fun bt172 => (if bt172.1.size + 1 ≤ 9223372036854775807 then (if (bt172.1 ++ (⟨#[64]⟩ : ByteArray)).size + a0_1.size ≤ 9223372036854775807 then (some ((bt172.1 ++ (⟨#[64]⟩ : ByteArray)) ++ a0_1)) else (none)) else (none))))) else (some (⟨#[]⟩ : ByteArray))) = some r := H
  have A2 := Aside0.mk A20
  clear A20
  by_cases c3 : t170 = true
  · subst c3
    have H1 : ((postriderref04_DotAtom.f k a0_0).bind fun t171 => (if t171 = true then (if a0_0.size + 1 ≤ 9223372036854775807 then (if (a0_0 ++ (⟨#[64]⟩ : ByteArray)).size + a0_1.size ≤ 9223372036854775807 then (some ((a0_0 ++ (⟨#[64]⟩ : ByteArray)) ++ a0_1)) else (none)) else (none)) else ((postriderref04_Quote.f k a0_0).bind fun bt172 => (if bt172.1.size + 1 ≤ 9223372036854775807 then (if (bt172.1 ++ (⟨#[64]⟩ : ByteArray)).size + a0_1.size ≤ 9223372036854775807 then (some ((bt172.1 ++ (⟨#[64]⟩ : ByteArray)) ++ a0_1)) else (none)) else (none))))) = some r := by rw [if_pos rfl] at H; exact H
    clear H
    have H := H1
    clear H1
    replace H := Option.bind_eq_some_iff.mp H
    obtain ⟨t171, A40, H⟩ := H
    replace H : (if t171 = true then (if a0_0.size + 1 ≤ 9223372036854775807 then (if (a0_0 ++ (⟨#[64]⟩ : ByteArray)).size + a0_1.size ≤ 9223372036854775807 then (some ((a0_0 ++ (⟨#[64]⟩ : ByteArray)) ++ a0_1)) else (none)) else (none)) else ((postriderref04_Quote.f k a0_0).bind fun bt172 => (if bt172.1.size + 1 ≤ 9223372036854775807 then (if (bt172.1 ++ (⟨#[64]⟩ : ByteArray)).size + a0_1.size ≤ 9223372036854775807 then (some ((bt172.1 ++ (⟨#[64]⟩ : ByteArray)) ++ a0_1)) else (none)) else (none)))) = some r := H
    have A4 := Aside0.mk A40
    clear A40
    by_cases c5 : t171 = true
    · subst c5
      have H1 : (if a0_0.size + 1 ≤ 9223372036854775807 then (if (a0_0 ++ (⟨#[64]⟩ : ByteArray)).size + a0_1.size ≤ 9223372036854775807 then (some ((a0_0 ++ (⟨#[64]⟩ : ByteArray)) ++ a0_1)) else (none)) else (none)) = some r := by rw [if_pos rfl] at H; exact H
      clear H
      have H := H1
      clear H1
      by_cases c6 : a0_0.size + 1 ≤ 9223372036854775807
      · rw [if_pos c6] at H
        have c6b0 := eq_true c6
        have c6b1 : decide (a0_0.size + 1 ≤ 9223372036854775807) = true := decide_eq_true c6
        try have c6b2 : (9223372036854775807 < a0_0.size + 1) = False := eq_false (Nat.not_lt.2 c6)
        by_cases c7 : (a0_0 ++ (⟨#[64]⟩ : ByteArray)).size + a0_1.size ≤ 9223372036854775807
        · rw [if_pos c7] at H
          have c7b0 := eq_true c7
          have c7b1 : decide ((a0_0 ++ (⟨#[64]⟩ : ByteArray)).size + a0_1.size ≤ 9223372036854775807) = true := decide_eq_true c7
          have c7b9 := c7
          (try simp only [ByteArray.size_append, lit_size, List.size_toArray, List.length_cons, List.length_nil, Nat.zero_add, Nat.reduceAdd] at c7b9)
          try have c7b2 : (9223372036854775807 < (a0_0 ++ (⟨#[64]⟩ : ByteArray)).size + a0_1.size) = False := eq_false (Nat.not_lt.2 c7)
          obtain rfl := Option.some.inj H
          go_enter Tryz.func24, Tryz.ntmps24
          go_wp2_with (first | ((with_reducible refine gate_dst (N := 1) rfl ?_); refine box_event ?hg (N := 1) ?hd (cs := #[.string a0_0, .string a0_1]) (t := 29) ?hr ?_; (case hd => rfl); (case hg => rfl); (case hr => first | (go_simp; done) | (go_simp; rfl)); intro gb169 hg w8 hbox hb; have n0_ := Aside0.mk (below_step (by repeat (first | (with_reducible first | exact HB.out | apply below_alloc | apply pw_below_drewN | apply below_drew1) | exact HB.out)) hb); have n1_ := Aside0.mk (hbox); have n2_ := Aside0.mk ((by rw [hg]; exact (below_size (by repeat (first | (with_reducible first | exact HB.out | apply below_alloc | apply pw_below_drewN | apply below_drew1) | exact HB.out))) : w.heap.size ≤ gb169)); have n3_ := Aside0.mk ((by rw [hg]; exact (below_size (by repeat (first | (with_reducible first | exact HB.out | apply below_alloc | apply pw_below_drewN | apply below_drew1) | exact HB.out))) : w.heap.size ≤ gb169)); clear HB; have HB := n0_; have BK169 := n1_; have GW169 := n2_; have GE169 := n3_; clear n0_ n1_ n2_ n3_; clear hb hbox hg; have hcz9_0 : w8.cell? ⟨gb169, 0, none⟩ = some (.string a0_0) := (blk_cell BK169.out 0).trans rfl; have hcz9_1 : w8.cell? ⟨gb169, 1, none⟩ = some (.string a0_1) := (blk_cell BK169.out 1).trans rfl; have hfz9_0 := blk_frozen BK169.out 0; have hfz9_1 := blk_frozen BK169.out 1) | ((with_reducible refine gate_callee (f := 23) rfl ?_); refine goesL_ (some 5) rfl rfl Tryz.func23 (by kernel_rfl) rfl #[.agg #[.string a0_0, .string a0_1]] rfl (by (try simp only [List.map_toArray, List.map_cons, List.map_nil]); first | done | rfl | (simp only [List.length_drop, List.length_take]; rfl)) ?_; (with_reducible refine (postriderref05_May.calls k a0_0 a0_1 true _ A2.out).mono ?_); rintro e w10 ⟨rfl, hb⟩; refine ⟨_, rfl, ?_⟩; have n0_ := Aside0.mk (blk_below (g := gb169) (o := .cells #[.string a0_0, .string a0_1] 29 (0, 0)) (by (with_reducible repeat (first | refine blk_drewN ?_ _ | refine blk_drew ?_ | refine blk_alloc ?_ _)); exact BK169.out) hb); have n1_ := Aside0.mk (below_step (by repeat (first | (with_reducible first | exact HB.out | apply below_alloc | apply pw_below_drewN | apply below_drew1 | refine below_set ?_ GE169.out) | exact HB.out)) hb); clear BK169; clear HB; have BK169 := n0_; have HB := n1_; clear n0_ n1_; (try clear hb); (try clear hb2); (try clear hk); (try clear hi); have hcz11_0 : w10.cell? ⟨gb169, 0, none⟩ = some (.string a0_0) := (blk_cell BK169.out 0).trans rfl; have hcz11_1 : w10.cell? ⟨gb169, 1, none⟩ = some (.string a0_1) := (blk_cell BK169.out 1).trans rfl; have hfz11_0 := blk_frozen BK169.out 0; have hfz11_1 := blk_frozen BK169.out 1) | ((with_reducible refine gate_callee (f := 52) rfl ?_); refine goesL_ (some 10) rfl rfl Tryz.func52 (by kernel_rfl) rfl #[.string a0_0] rfl (by (try simp only [List.map_toArray, List.map_cons, List.map_nil]); first | done | rfl | (simp only [List.length_drop, List.length_take]; rfl)) ?_; (with_reducible refine (postriderref04_DotAtom.calls k a0_0 true _ A4.out).mono ?_); rintro e w' ⟨rfl, ⟨nd, rfl⟩⟩; refine ⟨_, rfl, ?_⟩))
          go_ret
          exact ⟨by first | rfl | (simp [errW_none, errW_some] <;> rfl) | (simp [*, errW_none, errW_some] <;> rfl) | (simp [ne_nil_b]; done) | (simp [*, ne_nil_b]; done), by repeat (first | (with_reducible first | exact HB.out | apply below_alloc | apply pw_below_drewN | apply below_drew1 | refine below_set ?_ GE169.out) | exact HB.out)⟩
        · rw [if_neg c7] at H
          exact absurd H (by simp)
      · rw [if_neg c6] at H
        exact absurd H (by simp)
    · replace c5 := Bool.eq_false_iff.mpr c5
      subst c5
      have H1 : ((postriderref04_Quote.f k a0_0).bind fun bt172 => (if bt172.1.size + 1 ≤ 9223372036854775807 then (if (bt172.1 ++ (⟨#[64]⟩ : ByteArray)).size + a0_1.size ≤ 9223372036854775807 then (some ((bt172.1 ++ (⟨#[64]⟩ : ByteArray)) ++ a0_1)) else (none)) else (none))) = some r := by rw [if_neg (show ¬ (false = true) by decide)] at H; exact H
      clear H
      have H := H1
      clear H1
      replace H := Option.bind_eq_some_iff.mp H
      obtain ⟨⟨t172, t173⟩, A120, H⟩ := H
      replace H : (if t172.size + 1 ≤ 9223372036854775807 then (if (t172 ++ (⟨#[64]⟩ : ByteArray)).size + a0_1.size ≤ 9223372036854775807 then (some ((t172 ++ (⟨#[64]⟩ : ByteArray)) ++ a0_1)) else (none)) else (none)) = some r := H
      have A12 := Aside0.mk A120
      clear A120
      by_cases c13 : t172.size + 1 ≤ 9223372036854775807
      · rw [if_pos c13] at H
        have c13b0 := eq_true c13
        have c13b1 : decide (t172.size + 1 ≤ 9223372036854775807) = true := decide_eq_true c13
        try have c13b2 : (9223372036854775807 < t172.size + 1) = False := eq_false (Nat.not_lt.2 c13)
        by_cases c14 : (t172 ++ (⟨#[64]⟩ : ByteArray)).size + a0_1.size ≤ 9223372036854775807
        · rw [if_pos c14] at H
          have c14b0 := eq_true c14
          have c14b1 : decide ((t172 ++ (⟨#[64]⟩ : ByteArray)).size + a0_1.size ≤ 9223372036854775807) = true := decide_eq_true c14
          have c14b9 := c14
          (try simp only [ByteArray.size_append, lit_size, List.size_toArray, List.length_cons, List.length_nil, Nat.zero_add, Nat.reduceAdd] at c14b9)
          try have c14b2 : (9223372036854775807 < (t172 ++ (⟨#[64]⟩ : ByteArray)).size + a0_1.size) = False := eq_false (Nat.not_lt.2 c14)
          obtain rfl := Option.some.inj H
          go_enter Tryz.func24, Tryz.ntmps24
          go_wp2_with (first | ((with_reducible refine gate_dst (N := 1) rfl ?_); refine box_event ?hg (N := 1) ?hd (cs := #[.string a0_0, .string a0_1]) (t := 29) ?hr ?_; (case hd => rfl); (case hg => rfl); (case hr => first | (go_simp; done) | (go_simp; rfl)); intro gb169 hg w15 hbox hb; have n0_ := Aside0.mk (below_step (by repeat (first | (with_reducible first | exact HB.out | apply below_alloc | apply pw_below_drewN | apply below_drew1) | exact HB.out)) hb); have n1_ := Aside0.mk (hbox); have n2_ := Aside0.mk ((by rw [hg]; exact (below_size (by repeat (first | (with_reducible first | exact HB.out | apply below_alloc | apply pw_below_drewN | apply below_drew1) | exact HB.out))) : w.heap.size ≤ gb169)); have n3_ := Aside0.mk ((by rw [hg]; exact (below_size (by repeat (first | (with_reducible first | exact HB.out | apply below_alloc | apply pw_below_drewN | apply below_drew1) | exact HB.out))) : w.heap.size ≤ gb169)); clear HB; have HB := n0_; have BK169 := n1_; have GW169 := n2_; have GE169 := n3_; clear n0_ n1_ n2_ n3_; clear hb hbox hg; have hcz16_0 : w15.cell? ⟨gb169, 0, none⟩ = some (.string a0_0) := (blk_cell BK169.out 0).trans rfl; have hcz16_1 : w15.cell? ⟨gb169, 1, none⟩ = some (.string a0_1) := (blk_cell BK169.out 1).trans rfl; have hfz16_0 := blk_frozen BK169.out 0; have hfz16_1 := blk_frozen BK169.out 1) | ((with_reducible refine gate_callee (f := 23) rfl ?_); refine goesL_ (some 5) rfl rfl Tryz.func23 (by kernel_rfl) rfl #[.agg #[.string a0_0, .string a0_1]] rfl (by (try simp only [List.map_toArray, List.map_cons, List.map_nil]); first | done | rfl | (simp only [List.length_drop, List.length_take]; rfl)) ?_; (with_reducible refine (postriderref05_May.calls k a0_0 a0_1 true _ A2.out).mono ?_); rintro e w17 ⟨rfl, hb⟩; refine ⟨_, rfl, ?_⟩; have n0_ := Aside0.mk (blk_below (g := gb169) (o := .cells #[.string a0_0, .string a0_1] 29 (0, 0)) (by (with_reducible repeat (first | refine blk_drewN ?_ _ | refine blk_drew ?_ | refine blk_alloc ?_ _)); exact BK169.out) hb); have n1_ := Aside0.mk (below_step (by repeat (first | (with_reducible first | exact HB.out | apply below_alloc | apply pw_below_drewN | apply below_drew1 | refine below_set ?_ GE169.out) | exact HB.out)) hb); clear BK169; clear HB; have BK169 := n0_; have HB := n1_; clear n0_ n1_; (try clear hb); (try clear hb2); (try clear hk); (try clear hi); have hcz18_0 : w17.cell? ⟨gb169, 0, none⟩ = some (.string a0_0) := (blk_cell BK169.out 0).trans rfl; have hcz18_1 : w17.cell? ⟨gb169, 1, none⟩ = some (.string a0_1) := (blk_cell BK169.out 1).trans rfl; have hfz18_0 := blk_frozen BK169.out 0; have hfz18_1 := blk_frozen BK169.out 1) | ((with_reducible refine gate_callee (f := 52) rfl ?_); refine goesL_ (some 10) rfl rfl Tryz.func52 (by kernel_rfl) rfl #[.string a0_0] rfl (by (try simp only [List.map_toArray, List.map_cons, List.map_nil]); first | done | rfl | (simp only [List.length_drop, List.length_take]; rfl)) ?_; (with_reducible refine (postriderref04_DotAtom.calls k a0_0 false _ A4.out).mono ?_); rintro e w' ⟨rfl, ⟨nd, rfl⟩⟩; refine ⟨_, rfl, ?_⟩) | ((with_reducible refine gate_callee (f := 53) rfl ?_); refine goesL_ (some 14) rfl rfl Tryz.func53 (by kernel_rfl) rfl #[.string a0_0] rfl (by (try simp only [List.map_toArray, List.map_cons, List.map_nil]); first | done | rfl | (simp only [List.length_drop, List.length_take]; rfl)) ?_; (with_reducible refine (postriderref04_Quote.calls k a0_0 t172 t173 _ A12.out).mono ?_); rintro e w' ⟨rfl, ⟨nd, rfl⟩⟩; refine ⟨_, rfl, ?_⟩))
          go_ret
          exact ⟨by first | rfl | (simp [errW_none, errW_some] <;> rfl) | (simp [*, errW_none, errW_some] <;> rfl) | (simp [ne_nil_b]; done) | (simp [*, ne_nil_b]; done), by repeat (first | (with_reducible first | exact HB.out | apply below_alloc | apply pw_below_drewN | apply below_drew1 | refine below_set ?_ GE169.out) | exact HB.out)⟩
        · rw [if_neg c14] at H
          exact absurd H (by simp)
      · rw [if_neg c13] at H
        exact absurd H (by simp)
  · replace c3 := Bool.eq_false_iff.mpr c3
    subst c3
    have H1 : (some (⟨#[]⟩ : ByteArray)) = some r := by rw [if_neg (show ¬ (false = true) by decide)] at H; exact H
    clear H
    have H := H1
    clear H1
    obtain rfl := Option.some.inj H
    go_enter Tryz.func24, Tryz.ntmps24
    go_wp2_with (first | ((with_reducible refine gate_dst (N := 1) rfl ?_); refine box_event ?hg (N := 1) ?hd (cs := #[.string a0_0, .string a0_1]) (t := 29) ?hr ?_; (case hd => rfl); (case hg => rfl); (case hr => first | (go_simp; done) | (go_simp; rfl)); intro gb169 hg w19 hbox hb; have n0_ := Aside0.mk (below_step (by repeat (first | (with_reducible first | exact HB.out | apply below_alloc | apply pw_below_drewN | apply below_drew1) | exact HB.out)) hb); have n1_ := Aside0.mk (hbox); have n2_ := Aside0.mk ((by rw [hg]; exact (below_size (by repeat (first | (with_reducible first | exact HB.out | apply below_alloc | apply pw_below_drewN | apply below_drew1) | exact HB.out))) : w.heap.size ≤ gb169)); have n3_ := Aside0.mk ((by rw [hg]; exact (below_size (by repeat (first | (with_reducible first | exact HB.out | apply below_alloc | apply pw_below_drewN | apply below_drew1) | exact HB.out))) : w.heap.size ≤ gb169)); clear HB; have HB := n0_; have BK169 := n1_; have GW169 := n2_; have GE169 := n3_; clear n0_ n1_ n2_ n3_; clear hb hbox hg; have hcz20_0 : w19.cell? ⟨gb169, 0, none⟩ = some (.string a0_0) := (blk_cell BK169.out 0).trans rfl; have hcz20_1 : w19.cell? ⟨gb169, 1, none⟩ = some (.string a0_1) := (blk_cell BK169.out 1).trans rfl; have hfz20_0 := blk_frozen BK169.out 0; have hfz20_1 := blk_frozen BK169.out 1) | ((with_reducible refine gate_callee (f := 23) rfl ?_); refine goesL_ (some 5) rfl rfl Tryz.func23 (by kernel_rfl) rfl #[.agg #[.string a0_0, .string a0_1]] rfl (by (try simp only [List.map_toArray, List.map_cons, List.map_nil]); first | done | rfl | (simp only [List.length_drop, List.length_take]; rfl)) ?_; (with_reducible refine (postriderref05_May.calls k a0_0 a0_1 false _ A2.out).mono ?_); rintro e w21 ⟨rfl, hb⟩; refine ⟨_, rfl, ?_⟩; have n0_ := Aside0.mk (blk_below (g := gb169) (o := .cells #[.string a0_0, .string a0_1] 29 (0, 0)) (by (with_reducible repeat (first | refine blk_drewN ?_ _ | refine blk_drew ?_ | refine blk_alloc ?_ _)); exact BK169.out) hb); have n1_ := Aside0.mk (below_step (by repeat (first | (with_reducible first | exact HB.out | apply below_alloc | apply pw_below_drewN | apply below_drew1 | refine below_set ?_ GE169.out) | exact HB.out)) hb); clear BK169; clear HB; have BK169 := n0_; have HB := n1_; clear n0_ n1_; (try clear hb); (try clear hb2); (try clear hk); (try clear hi)))
    go_ret
    exact ⟨by first | rfl | (simp [errW_none, errW_some] <;> rfl) | (simp [*, errW_none, errW_some] <;> rfl) | (simp [ne_nil_b]; done) | (simp [*, ne_nil_b]; done), by repeat (first | (with_reducible first | exact HB.out | apply below_alloc | apply pw_below_drewN | apply below_drew1 | refine below_set ?_ GE169.out) | exact HB.out)⟩

/-! ### postriderref06_Text: function 8 -/
def postriderref06_Text.f (k : Nat) (a0_0 : Bool) (a0_1 : Bool) (l0_2 : List ByteArray) (a0_3 : ByteArray) (a0_4 : ByteArray) : Option (ByteArray) := if a0_0 = true then (some (⟨#[60, 62]⟩ : ByteArray)) else (if a0_1 = true then (some (⟨#[60, 80, 111, 115, 116, 109, 97, 115, 116, 101, 114, 62]⟩ : ByteArray)) else ((postriderref05_May.f k a0_3 a0_4).bind fun t175 => (if t175 = true then ((postriderref05_Text.f k a0_3 a0_4).bind fun t176 => (if 1 + t176.size ≤ 9223372036854775807 then (if ((⟨#[60]⟩ : ByteArray) ++ t176).size + 1 ≤ 9223372036854775807 then (some (((⟨#[60]⟩ : ByteArray) ++ t176) ++ (⟨#[62]⟩ : ByteArray))) else (none)) else (none))) else (some (⟨#[]⟩ : ByteArray)))))
theorem postriderref06_Text.mono : ∀ a0 a1 a2 a3 a4 k, LeO (postriderref06_Text.f k a0 a1 a2 a3 a4) (postriderref06_Text.f (k + 1) a0 a1 a2 a3 a4) := by
  intro a0 a1 a2 a3 a4 k
  unfold postriderref06_Text.f
  repeat' first
      | (with_reducible exact postriderref05_May.mono _ _ _)
      | (with_reducible exact postriderref05_Text.mono _ _ _)
      | (with_reducible exact LeO.refl _)
      | (with_reducible exact LeO.none _)
      | (with_reducible refine LeO.ite ?_ ?_)
      | (with_reducible refine LeO.bind ?_ (fun _ => ?_))
      | exact postriderref05_May.mono _ _ _
      | exact postriderref05_Text.mono _ _ _
      | exact LeO.none _
      | refine LeO.ite ?_ ?_
      | refine LeO.bind ?_ (fun _ => ?_)
set_option maxHeartbeats 8000000 in
set_option maxRecDepth 100000 in
theorem postriderref06_Text.calls (k : Nat) (a0_0 : Bool) (a0_1 : Bool) (A0_2 : Option Addr) (c0_2 : Nat) (l0_2 : List ByteArray) (a0_3 : ByteArray) (a0_4 : ByteArray) (r : ByteArray) (w : World) (hr0_2 : Kd.C Kd.string w A0_2 l0_2.length l0_2) (hc0_2 : l0_2.length ≤ c0_2) (h : postriderref06_Text.f k a0_0 a0_1 l0_2 a0_3 a0_4 = some r) :
    Calls Tryz.prog 8 #[.agg #[.bool a0_0, .bool a0_1, .slice A0_2 l0_2.length c0_2, .string a0_3, .string a0_4]] w fun e w' => e = .returned (.string r) ∧ Below w.heap.size w w' := by
  have hu31 := Tryz.underlying31
  have hu29 := Tryz.underlying29
  have HR0_2 := Aside0.mk hr0_2
  have HC0_2 := Aside0.mk hc0_2
  clear hr0_2 hc0_2
  have HB := Aside0.mk (Below.refl w.heap.size w)
  have H : (if a0_0 = true then (some (⟨#[60, 62]⟩ : ByteArray)) else (if a0_1 = true then (some (⟨#[60, 80, 111, 115, 116, 109, 97, 115, 116, 101, 114, 62]⟩ : ByteArray)) else ((postriderref05_May.f k a0_3 a0_4).bind fun t175 => (if t175 = true then ((postriderref05_Text.f k a0_3 a0_4).bind fun t176 => (if 1 + t176.size ≤ 9223372036854775807 then (if ((⟨#[60]⟩ : ByteArray) ++ t176).size + 1 ≤ 9223372036854775807 then (some (((⟨#[60]⟩ : ByteArray) ++ t176) ++ (⟨#[62]⟩ : ByteArray))) else (none)) else (none))) else (some (⟨#[]⟩ : ByteArray)))))) = some r := h
  clear h
  by_cases c2 : a0_0 = true
  · subst c2
    have H1 : (some (⟨#[60, 62]⟩ : ByteArray)) = some r := by rw [if_pos rfl] at H; exact H
    clear H
    have H := H1
    clear H1
    obtain rfl := Option.some.inj H
    go_enter Tryz.func8, Tryz.ntmps8
    go_wp2_with (first | ((with_reducible refine gate_dst (N := 1) rfl ?_); refine box_event ?hg (N := 1) ?hd (cs := #[.bool true, .bool a0_1, .slice A0_2 l0_2.length c0_2, .string a0_3, .string a0_4]) (t := 31) ?hr ?_; (case hd => rfl); (case hg => rfl); (case hr => first | (go_simp; done) | (go_simp; rfl)); intro gb174 hg w3 hbox hb; have n0_ := Aside0.mk (below_step (by repeat (first | (with_reducible first | exact HB.out | apply below_alloc | apply pw_below_drewN | apply below_drew1) | exact HB.out)) hb); have n1_ := Aside0.mk (hbox); have n2_ := Aside0.mk ((by rw [hg]; exact (below_size (by repeat (first | (with_reducible first | exact HB.out | apply below_alloc | apply pw_below_drewN | apply below_drew1) | exact HB.out))) : w.heap.size ≤ gb174)); have n3_ := Aside0.mk ((by rw [hg]; exact (below_size (by repeat (first | (with_reducible first | exact HB.out | apply below_alloc | apply pw_below_drewN | apply below_drew1) | exact HB.out))) : w.heap.size ≤ gb174)); clear HB; have HB := n0_; have BK174 := n1_; have GW174 := n2_; have GE174 := n3_; clear n0_ n1_ n2_ n3_; clear hb hbox hg; have hcz4_0 : w3.cell? ⟨gb174, 0, none⟩ = some (.bool true) := (blk_cell BK174.out 0).trans rfl; have hcz4_1 : w3.cell? ⟨gb174, 1, none⟩ = some (.bool a0_1) := (blk_cell BK174.out 1).trans rfl; have hcz4_2 : w3.cell? ⟨gb174, 2, none⟩ = some (.slice A0_2 l0_2.length c0_2) := (blk_cell BK174.out 2).trans rfl; have hcz4_3 : w3.cell? ⟨gb174, 3, none⟩ = some (.string a0_3) := (blk_cell BK174.out 3).trans rfl; have hcz4_4 : w3.cell? ⟨gb174, 4, none⟩ = some (.string a0_4) := (blk_cell BK174.out 4).trans rfl; have hfz4_0 := blk_frozen BK174.out 0; have hfz4_1 := blk_frozen BK174.out 1; have hfz4_2 := blk_frozen BK174.out 2; have hfz4_3 := blk_frozen BK174.out 3; have hfz4_4 := blk_frozen BK174.out 4))
    go_ret
    exact ⟨by first | rfl | (simp [errW_none, errW_some] <;> rfl) | (simp [*, errW_none, errW_some] <;> rfl) | (simp [ne_nil_b]; done) | (simp [*, ne_nil_b]; done), by repeat (first | (with_reducible first | exact HB.out | apply below_alloc | apply pw_below_drewN | apply below_drew1 | refine below_set ?_ GE174.out) | exact HB.out)⟩
  · replace c2 := Bool.eq_false_iff.mpr c2
    subst c2
    have H1 : (if a0_1 = true then (some (⟨#[60, 80, 111, 115, 116, 109, 97, 115, 116, 101, 114, 62]⟩ : ByteArray)) else ((postriderref05_May.f k a0_3 a0_4).bind fun t175 => (if t175 = true then ((postriderref05_Text.f k a0_3 a0_4).bind fun t176 => (if 1 + t176.size ≤ 9223372036854775807 then (if ((⟨#[60]⟩ : ByteArray) ++ t176).size + 1 ≤ 9223372036854775807 then (some (((⟨#[60]⟩ : ByteArray) ++ t176) ++ (⟨#[62]⟩ : ByteArray))) else (none)) else (none))) else (some (⟨#[]⟩ : ByteArray))))) = some r := by rw [if_neg (show ¬ (false = true) by decide)] at H; exact H
    clear H
    have H := H1
    clear H1
    by_cases c5 : a0_1 = true
    · subst c5
      have H1 : (some (⟨#[60, 80, 111, 115, 116, 109, 97, 115, 116, 101, 114, 62]⟩ : ByteArray)) = some r := by rw [if_pos rfl] at H; exact H
      clear H
      have H := H1
      clear H1
      obtain rfl := Option.some.inj H
      go_enter Tryz.func8, Tryz.ntmps8
      go_wp2_with (first | ((with_reducible refine gate_dst (N := 1) rfl ?_); refine box_event ?hg (N := 1) ?hd (cs := #[.bool false, .bool true, .slice A0_2 l0_2.length c0_2, .string a0_3, .string a0_4]) (t := 31) ?hr ?_; (case hd => rfl); (case hg => rfl); (case hr => first | (go_simp; done) | (go_simp; rfl)); intro gb174 hg w6 hbox hb; have n0_ := Aside0.mk (below_step (by repeat (first | (with_reducible first | exact HB.out | apply below_alloc | apply pw_below_drewN | apply below_drew1) | exact HB.out)) hb); have n1_ := Aside0.mk (hbox); have n2_ := Aside0.mk ((by rw [hg]; exact (below_size (by repeat (first | (with_reducible first | exact HB.out | apply below_alloc | apply pw_below_drewN | apply below_drew1) | exact HB.out))) : w.heap.size ≤ gb174)); have n3_ := Aside0.mk ((by rw [hg]; exact (below_size (by repeat (first | (with_reducible first | exact HB.out | apply below_alloc | apply pw_below_drewN | apply below_drew1) | exact HB.out))) : w.heap.size ≤ gb174)); clear HB; have HB := n0_; have BK174 := n1_; have GW174 := n2_; have GE174 := n3_; clear n0_ n1_ n2_ n3_; clear hb hbox hg; have hcz7_0 : w6.cell? ⟨gb174, 0, none⟩ = some (.bool false) := (blk_cell BK174.out 0).trans rfl; have hcz7_1 : w6.cell? ⟨gb174, 1, none⟩ = some (.bool true) := (blk_cell BK174.out 1).trans rfl; have hcz7_2 : w6.cell? ⟨gb174, 2, none⟩ = some (.slice A0_2 l0_2.length c0_2) := (blk_cell BK174.out 2).trans rfl; have hcz7_3 : w6.cell? ⟨gb174, 3, none⟩ = some (.string a0_3) := (blk_cell BK174.out 3).trans rfl; have hcz7_4 : w6.cell? ⟨gb174, 4, none⟩ = some (.string a0_4) := (blk_cell BK174.out 4).trans rfl; have hfz7_0 := blk_frozen BK174.out 0; have hfz7_1 := blk_frozen BK174.out 1; have hfz7_2 := blk_frozen BK174.out 2; have hfz7_3 := blk_frozen BK174.out 3; have hfz7_4 := blk_frozen BK174.out 4))
      go_ret
      exact ⟨by first | rfl | (simp [errW_none, errW_some] <;> rfl) | (simp [*, errW_none, errW_some] <;> rfl) | (simp [ne_nil_b]; done) | (simp [*, ne_nil_b]; done), by repeat (first | (with_reducible first | exact HB.out | apply below_alloc | apply pw_below_drewN | apply below_drew1 | refine below_set ?_ GE174.out) | exact HB.out)⟩
    · replace c5 := Bool.eq_false_iff.mpr c5
      subst c5
      have H1 : ((postriderref05_May.f k a0_3 a0_4).bind fun t175 => (if t175 = true then ((postriderref05_Text.f k a0_3 a0_4).bind fun t176 => (if 1 + t176.size ≤ 9223372036854775807 then (if ((⟨#[60]⟩ : ByteArray) ++ t176).size + 1 ≤ 9223372036854775807 then (some (((⟨#[60]⟩ : ByteArray) ++ t176) ++ (⟨#[62]⟩ : ByteArray))) else (none)) else (none))) else (some (⟨#[]⟩ : ByteArray)))) = some r := by rw [if_neg (show ¬ (false = true) by decide)] at H; exact H
      clear H
      have H := H1
      clear H1
      replace H := Option.bind_eq_some_iff.mp H
      obtain ⟨t175, A80, H⟩ := H
      replace H : (if t175 = true then ((postriderref05_Text.f k a0_3 a0_4).bind fun t176 => (if 1 + t176.size ≤ 9223372036854775807 then (if ((⟨#[60]⟩ : ByteArray) ++ t176).size + 1 ≤ 9223372036854775807 then (some (((⟨#[60]⟩ : ByteArray) ++ t176) ++ (⟨#[62]⟩ : ByteArray))) else (none)) else (none))) else (some (⟨#[]⟩ : ByteArray))) = some r := H
      have A8 := Aside0.mk A80
      clear A80
      by_cases c9 : t175 = true
      · subst c9
        have H1 : ((postriderref05_Text.f k a0_3 a0_4).bind fun t176 => (if 1 + t176.size ≤ 9223372036854775807 then (if ((⟨#[60]⟩ : ByteArray) ++ t176).size + 1 ≤ 9223372036854775807 then (some (((⟨#[60]⟩ : ByteArray) ++ t176) ++ (⟨#[62]⟩ : ByteArray))) else (none)) else (none))) = some r := by rw [if_pos rfl] at H; exact H
        clear H
        have H := H1
        clear H1
        replace H := Option.bind_eq_some_iff.mp H
        obtain ⟨t176, A100, H⟩ := H
        replace H : (if 1 + t176.size ≤ 9223372036854775807 then (if ((⟨#[60]⟩ : ByteArray) ++ t176).size + 1 ≤ 9223372036854775807 then (some (((⟨#[60]⟩ : ByteArray) ++ t176) ++ (⟨#[62]⟩ : ByteArray))) else (none)) else (none)) = some r := H
        have A10 := Aside0.mk A100
        clear A100
        by_cases c11 : 1 + t176.size ≤ 9223372036854775807
        · rw [if_pos c11] at H
          have c11b0 := eq_true c11
          have c11b1 : decide (1 + t176.size ≤ 9223372036854775807) = true := decide_eq_true c11
          try have c11b2 : (9223372036854775807 < 1 + t176.size) = False := eq_false (Nat.not_lt.2 c11)
          by_cases c12 : ((⟨#[60]⟩ : ByteArray) ++ t176).size + 1 ≤ 9223372036854775807
          · rw [if_pos c12] at H
            have c12b0 := eq_true c12
            have c12b1 : decide (((⟨#[60]⟩ : ByteArray) ++ t176).size + 1 ≤ 9223372036854775807) = true := decide_eq_true c12
            have c12b9 := c12
            (try simp only [ByteArray.size_append, lit_size, List.size_toArray, List.length_cons, List.length_nil, Nat.zero_add, Nat.reduceAdd] at c12b9)
            try have c12b2 : (9223372036854775807 < ((⟨#[60]⟩ : ByteArray) ++ t176).size + 1) = False := eq_false (Nat.not_lt.2 c12)
            obtain rfl := Option.some.inj H
            go_enter Tryz.func8, Tryz.ntmps8
            go_wp2_with (first | ((with_reducible refine gate_dst (N := 1) rfl ?_); refine box_event ?hg (N := 1) ?hd (cs := #[.bool false, .bool false, .slice A0_2 l0_2.length c0_2, .string a0_3, .string a0_4]) (t := 31) ?hr ?_; (case hd => rfl); (case hg => rfl); (case hr => first | (go_simp; done) | (go_simp; rfl)); intro gb174 hg w13 hbox hb; have n0_ := Aside0.mk (below_step (by repeat (first | (with_reducible first | exact HB.out | apply below_alloc | apply pw_below_drewN | apply below_drew1) | exact HB.out)) hb); have n1_ := Aside0.mk (hbox); have n2_ := Aside0.mk ((by rw [hg]; exact (below_size (by repeat (first | (with_reducible first | exact HB.out | apply below_alloc | apply pw_below_drewN | apply below_drew1) | exact HB.out))) : w.heap.size ≤ gb174)); have n3_ := Aside0.mk ((by rw [hg]; exact (below_size (by repeat (first | (with_reducible first | exact HB.out | apply below_alloc | apply pw_below_drewN | apply below_drew1) | exact HB.out))) : w.heap.size ≤ gb174)); clear HB; have HB := n0_; have BK174 := n1_; have GW174 := n2_; have GE174 := n3_; clear n0_ n1_ n2_ n3_; clear hb hbox hg; have hcz14_0 : w13.cell? ⟨gb174, 0, none⟩ = some (.bool false) := (blk_cell BK174.out 0).trans rfl; have hcz14_1 : w13.cell? ⟨gb174, 1, none⟩ = some (.bool false) := (blk_cell BK174.out 1).trans rfl; have hcz14_2 : w13.cell? ⟨gb174, 2, none⟩ = some (.slice A0_2 l0_2.length c0_2) := (blk_cell BK174.out 2).trans rfl; have hcz14_3 : w13.cell? ⟨gb174, 3, none⟩ = some (.string a0_3) := (blk_cell BK174.out 3).trans rfl; have hcz14_4 : w13.cell? ⟨gb174, 4, none⟩ = some (.string a0_4) := (blk_cell BK174.out 4).trans rfl; have hfz14_0 := blk_frozen BK174.out 0; have hfz14_1 := blk_frozen BK174.out 1; have hfz14_2 := blk_frozen BK174.out 2; have hfz14_3 := blk_frozen BK174.out 3; have hfz14_4 := blk_frozen BK174.out 4) | ((with_reducible refine gate_callee (f := 23) rfl ?_); refine goesL_ (some 9) rfl rfl Tryz.func23 (by kernel_rfl) rfl #[.agg #[.string a0_3, .string a0_4]] rfl (by (try simp only [List.map_toArray, List.map_cons, List.map_nil]); first | done | rfl | (simp only [List.length_drop, List.length_take]; rfl)) ?_; (with_reducible refine (postriderref05_May.calls k a0_3 a0_4 true _ A8.out).mono ?_); rintro e w15 ⟨rfl, hb⟩; refine ⟨_, rfl, ?_⟩; have n0_ := Aside0.mk (blk_below (g := gb174) (o := .cells #[.bool false, .bool false, .slice A0_2 l0_2.length c0_2, .string a0_3, .string a0_4] 31 (0, 0)) (by (with_reducible repeat (first | refine blk_drewN ?_ _ | refine blk_drew ?_ | refine blk_alloc ?_ _)); exact BK174.out) hb); have n1_ := Aside0.mk (below_step (by repeat (first | (with_reducible first | exact HB.out | apply below_alloc | apply pw_below_drewN | apply below_drew1 | refine below_set ?_ GE174.out) | exact HB.out)) hb); clear BK174; clear HB; have BK174 := n0_; have HB := n1_; clear n0_ n1_; (try clear hb); (try clear hb2); (try clear hk); (try clear hi); have hcz16_0 : w15.cell? ⟨gb174, 0, none⟩ = some (.bool false) := (blk_cell BK174.out 0).trans rfl; have hcz16_1 : w15.cell? ⟨gb174, 1, none⟩ = some (.bool false) := (blk_cell BK174.out 1).trans rfl; have hcz16_2 : w15.cell? ⟨gb174, 2, none⟩ = some (.slice A0_2 l0_2.length c0_2) := (blk_cell BK174.out 2).trans rfl; have hcz16_3 : w15.cell? ⟨gb174, 3, none⟩ = some (.string a0_3) := (blk_cell BK174.out 3).trans rfl; have hcz16_4 : w15.cell? ⟨gb174, 4, none⟩ = some (.string a0_4) := (blk_cell BK174.out 4).trans rfl; have hfz16_0 := blk_frozen BK174.out 0; have hfz16_1 := blk_frozen BK174.out 1; have hfz16_2 := blk_frozen BK174.out 2; have hfz16_3 := blk_frozen BK174.out 3; have hfz16_4 := blk_frozen BK174.out 4) | ((with_reducible refine gate_callee (f := 24) rfl ?_); refine goesL_ (some 13) rfl rfl Tryz.func24 (by kernel_rfl) rfl #[.agg #[.string a0_3, .string a0_4]] rfl (by (try simp only [List.map_toArray, List.map_cons, List.map_nil]); first | done | rfl | (simp only [List.length_drop, List.length_take]; rfl)) ?_; (with_reducible refine (postriderref05_Text.calls k a0_3 a0_4 t176 _ A10.out).mono ?_); rintro e w17 ⟨rfl, hb⟩; refine ⟨_, rfl, ?_⟩; have n0_ := Aside0.mk (blk_below (g := gb174) (o := .cells #[.bool false, .bool false, .slice A0_2 l0_2.length c0_2, .string a0_3, .string a0_4] 31 (0, 0)) (by (with_reducible repeat (first | refine blk_drewN ?_ _ | refine blk_drew ?_ | refine blk_alloc ?_ _)); exact BK174.out) hb); have n1_ := Aside0.mk (below_step (by repeat (first | (with_reducible first | exact HB.out | apply below_alloc | apply pw_below_drewN | apply below_drew1 | refine below_set ?_ GE174.out) | exact HB.out)) hb); clear BK174; clear HB; have BK174 := n0_; have HB := n1_; clear n0_ n1_; (try clear hb); (try clear hb2); (try clear hk); (try clear hi)))
            go_ret
            exact ⟨by first | rfl | (simp [errW_none, errW_some] <;> rfl) | (simp [*, errW_none, errW_some] <;> rfl) | (simp [ne_nil_b]; done) | (simp [*, ne_nil_b]; done), by repeat (first | (with_reducible first | exact HB.out | apply below_alloc | apply pw_below_drewN | apply below_drew1 | refine below_set ?_ GE174.out) | exact HB.out)⟩
          · rw [if_neg c12] at H
            exact absurd H (by simp)
        · rw [if_neg c11] at H
          exact absurd H (by simp)
      · replace c9 := Bool.eq_false_iff.mpr c9
        subst c9
        have H1 : (some (⟨#[]⟩ : ByteArray)) = some r := by rw [if_neg (show ¬ (false = true) by decide)] at H; exact H
        clear H
        have H := H1
        clear H1
        obtain rfl := Option.some.inj H
        go_enter Tryz.func8, Tryz.ntmps8
        go_wp2_with (first | ((with_reducible refine gate_dst (N := 1) rfl ?_); refine box_event ?hg (N := 1) ?hd (cs := #[.bool false, .bool false, .slice A0_2 l0_2.length c0_2, .string a0_3, .string a0_4]) (t := 31) ?hr ?_; (case hd => rfl); (case hg => rfl); (case hr => first | (go_simp; done) | (go_simp; rfl)); intro gb174 hg w18 hbox hb; have n0_ := Aside0.mk (below_step (by repeat (first | (with_reducible first | exact HB.out | apply below_alloc | apply pw_below_drewN | apply below_drew1) | exact HB.out)) hb); have n1_ := Aside0.mk (hbox); have n2_ := Aside0.mk ((by rw [hg]; exact (below_size (by repeat (first | (with_reducible first | exact HB.out | apply below_alloc | apply pw_below_drewN | apply below_drew1) | exact HB.out))) : w.heap.size ≤ gb174)); have n3_ := Aside0.mk ((by rw [hg]; exact (below_size (by repeat (first | (with_reducible first | exact HB.out | apply below_alloc | apply pw_below_drewN | apply below_drew1) | exact HB.out))) : w.heap.size ≤ gb174)); clear HB; have HB := n0_; have BK174 := n1_; have GW174 := n2_; have GE174 := n3_; clear n0_ n1_ n2_ n3_; clear hb hbox hg; have hcz19_0 : w18.cell? ⟨gb174, 0, none⟩ = some (.bool false) := (blk_cell BK174.out 0).trans rfl; have hcz19_1 : w18.cell? ⟨gb174, 1, none⟩ = some (.bool false) := (blk_cell BK174.out 1).trans rfl; have hcz19_2 : w18.cell? ⟨gb174, 2, none⟩ = some (.slice A0_2 l0_2.length c0_2) := (blk_cell BK174.out 2).trans rfl; have hcz19_3 : w18.cell? ⟨gb174, 3, none⟩ = some (.string a0_3) := (blk_cell BK174.out 3).trans rfl; have hcz19_4 : w18.cell? ⟨gb174, 4, none⟩ = some (.string a0_4) := (blk_cell BK174.out 4).trans rfl; have hfz19_0 := blk_frozen BK174.out 0; have hfz19_1 := blk_frozen BK174.out 1; have hfz19_2 := blk_frozen BK174.out 2; have hfz19_3 := blk_frozen BK174.out 3; have hfz19_4 := blk_frozen BK174.out 4) | ((with_reducible refine gate_callee (f := 23) rfl ?_); refine goesL_ (some 9) rfl rfl Tryz.func23 (by kernel_rfl) rfl #[.agg #[.string a0_3, .string a0_4]] rfl (by (try simp only [List.map_toArray, List.map_cons, List.map_nil]); first | done | rfl | (simp only [List.length_drop, List.length_take]; rfl)) ?_; (with_reducible refine (postriderref05_May.calls k a0_3 a0_4 false _ A8.out).mono ?_); rintro e w20 ⟨rfl, hb⟩; refine ⟨_, rfl, ?_⟩; have n0_ := Aside0.mk (blk_below (g := gb174) (o := .cells #[.bool false, .bool false, .slice A0_2 l0_2.length c0_2, .string a0_3, .string a0_4] 31 (0, 0)) (by (with_reducible repeat (first | refine blk_drewN ?_ _ | refine blk_drew ?_ | refine blk_alloc ?_ _)); exact BK174.out) hb); have n1_ := Aside0.mk (below_step (by repeat (first | (with_reducible first | exact HB.out | apply below_alloc | apply pw_below_drewN | apply below_drew1 | refine below_set ?_ GE174.out) | exact HB.out)) hb); clear BK174; clear HB; have BK174 := n0_; have HB := n1_; clear n0_ n1_; (try clear hb); (try clear hb2); (try clear hk); (try clear hi)))
        go_ret
        exact ⟨by first | rfl | (simp [errW_none, errW_some] <;> rfl) | (simp [*, errW_none, errW_some] <;> rfl) | (simp [ne_nil_b]; done) | (simp [*, ne_nil_b]; done), by repeat (first | (with_reducible first | exact HB.out | apply below_alloc | apply pw_below_drewN | apply below_drew1 | refine below_set ?_ GE174.out) | exact HB.out)⟩

/-! ### postriderlaw06_Of: function 9 -/
def postriderlaw06_Of.f (a0_0 : Bool) (a0_1 : Bool) (l0_2 : List ByteArray) (a0_3 : ByteArray) (a0_4 : ByteArray) : Option (Bool × Bool × List ByteArray × ByteArray × ByteArray) := some (a0_0, a0_1, l0_2, a0_3, a0_4)
set_option maxHeartbeats 8000000 in
set_option maxRecDepth 100000 in
theorem postriderlaw06_Of.calls (a0_0 : Bool) (a0_1 : Bool) (P0_2_ : Nat → Prop) (u9000_ : Value) (l0_2 : List ByteArray) (a0_3 : ByteArray) (a0_4 : ByteArray) (r1 : Bool) (r2 : Bool) (r3 : List ByteArray) (r4 : ByteArray) (r5 : ByteArray) (w0 w : World) (hB : Below w0.heap.size w0 w) (ho0_2 : Kd.R Kd.string 9 w w0.heap.size P0_2_ u9000_ l0_2) (h : postriderlaw06_Of.f a0_0 a0_1 l0_2 a0_3 a0_4 = some (r1, r2, r3, r4, r5)) :
    Calls Tryz.prog 9 #[.agg #[.bool a0_0, .bool a0_1, u9000_, .string a0_3, .string a0_4]] w fun e w' => ∃ v2_ : Value, e = .returned (.agg #[.bool r1, .bool r2, v2_, .string r4, .string r5]) ∧ Kd.R Kd.string 9 w' w0.heap.size (fun k_ => (P0_2_ k_ ∨ w.heap.size ≤ k_)) v2_ r3 ∧ Below w0.heap.size w0 w' ∧ Kept w w' (fun k_ => P0_2_ k_) := by
  have hu26 := Tryz.underlying26
  have hu31 := Tryz.underlying31
  have hu24 := Tryz.underlying24
  have HO0_2 := Aside0.mk (show Kd.R Kd.string 9 w w0.heap.size (fun k_ => (P0_2_ k_ ∨ w.heap.size ≤ k_)) u9000_ l0_2 from Kd.R_mono ho0_2 (fun k_ hk => (.inl hk)))
  have HK := Aside0.mk (Kept.refl w (fun k_ => P0_2_ k_))
  have HW0 := Aside0.mk hB.size
  have HB := Aside0.mk hB
  clear hB
  have H : (some (a0_0, a0_1, l0_2, a0_3, a0_4)) = some (r1, r2, r3, r4, r5) := h
  clear h
  simp only [Option.some.injEq, Prod.mk.injEq] at H
  obtain ⟨rfl, rfl, rfl, rfl, rfl⟩ := H
  obtain ⟨Ao2, co2, eo2⟩ := Kd.R_slice HO0_2.out
  subst eo2
  go_enter Tryz.func9, Tryz.ntmps9
  go_wp2_with (first | ((with_reducible refine gate_dst (N := 1) rfl ?_); refine box_event ?hg (N := 1) ?hd (cs := #[.bool a0_0, .bool a0_1, .slice Ao2 l0_2.length co2, .string a0_3, .string a0_4]) (t := 26) ?hr ?_; (case hd => rfl); (case hg => rfl); (case hr => first | (go_simp; done) | (go_simp; rfl)); intro gb177 hg w3 hbox hb; have n0_ := Aside0.mk (Kd.R_below (by (with_reducible repeat (first | apply Kd.R_alloc | apply Kd.R_drewN | apply Kd.R_drew)); exact HO0_2.out) hb); have n1_ := Aside0.mk (Kept.below (S := (fun k_ => P0_2_ k_)) (by repeat (first | (with_reducible first | exact HK.out | apply Kept.alloc | apply Kept.drewN | apply Kept.drew) | exact HK.out)) hb); have n2_ := Aside0.mk (below_step (by repeat (first | (with_reducible first | exact HB.out | apply below_alloc | apply pw_below_drewN | apply below_drew1) | exact HB.out)) hb); have n3_ := Aside0.mk (hbox); have n4_ := Aside0.mk ((by rw [hg]; exact (by first | exact HK.out.1 | exact (show Kept w _ (fun k_ => P0_2_ k_) from by repeat (first | (with_reducible first | exact HK.out | apply Kept.alloc | apply Kept.drewN | apply Kept.drew) | exact HK.out)).1) : w.heap.size ≤ gb177)); have n5_ := Aside0.mk ((by rw [hg]; exact (below_size (by repeat (first | (with_reducible first | exact HB.out | apply below_alloc | apply pw_below_drewN | apply below_drew1) | exact HB.out))) : w0.heap.size ≤ gb177)); clear HO0_2; clear HK; clear HB; have HO0_2 := n0_; have HK := n1_; have HB := n2_; have BK177 := n3_; have GW177 := n4_; have GE177 := n5_; clear n0_ n1_ n2_ n3_ n4_ n5_; clear hb hbox hg) | ((with_reducible refine gate_dst (N := 2) rfl ?_); refine box_event ?hg (N := 2) ?hd (cs := #[.bool false, .bool false, .slice none 0 0, .string (⟨#[]⟩ : ByteArray), .string (⟨#[]⟩ : ByteArray)]) (t := 31) ?hr ?_; (case hd => rfl); (case hg => rfl); (case hr => first | (go_simp; done) | (go_simp; rfl)); intro gb178 hg w4 hbox hb; have n0_ := Aside0.mk (Kd.R_below (by (with_reducible repeat (first | apply Kd.R_alloc | apply Kd.R_drewN | apply Kd.R_drew)); exact HO0_2.out) hb); have n1_ := Aside0.mk (blk_below (g := gb177) (o := .cells #[.bool a0_0, .bool a0_1, .slice Ao2 l0_2.length co2, .string a0_3, .string a0_4] 26 (0, 0)) (by (with_reducible repeat (first | refine blk_drewN ?_ _ | refine blk_drew ?_ | refine blk_alloc ?_ _)); exact BK177.out) hb); have n2_ := Aside0.mk (Kept.below (S := (fun k_ => P0_2_ k_)) (by repeat (first | (with_reducible first | exact HK.out | apply Kept.alloc | apply Kept.drewN | apply Kept.drew | refine Kept.setCell ?_ (.inr GW177.out) _) | exact HK.out)) hb); have n3_ := Aside0.mk (below_step (by repeat (first | (with_reducible first | exact HB.out | apply below_alloc | apply pw_below_drewN | apply below_drew1 | refine below_set ?_ GE177.out) | exact HB.out)) hb); have n4_ := Aside0.mk (hbox); have n5_ := Aside0.mk ((by rw [hg]; exact (by first | exact HK.out.1 | exact (show Kept w _ (fun k_ => P0_2_ k_) from by repeat (first | (with_reducible first | exact HK.out | apply Kept.alloc | apply Kept.drewN | apply Kept.drew | refine Kept.setCell ?_ (.inr GW177.out) _) | exact HK.out)).1) : w.heap.size ≤ gb178)); have n6_ := Aside0.mk ((by rw [hg]; exact (below_size (by repeat (first | (with_reducible first | exact HB.out | apply below_alloc | apply pw_below_drewN | apply below_drew1 | refine below_set ?_ GE177.out) | exact HB.out))) : w0.heap.size ≤ gb178)); have n7_ := Aside0.mk ((by rw [hg]; exact Nat.ne_of_lt (blk_lt (g := gb177) (o := .cells #[.bool a0_0, .bool a0_1, .slice Ao2 l0_2.length co2, .string a0_3, .string a0_4] 26 (0, 0)) (by (with_reducible repeat (first | refine blk_drewN ?_ _ | refine blk_drew ?_ | refine blk_alloc ?_ _)); exact BK177.out)) : gb177 ≠ gb178)); have n8_ := Aside0.mk ((by rw [hg]; exact Nat.ne_of_gt (blk_lt (g := gb177) (o := .cells #[.bool a0_0, .bool a0_1, .slice Ao2 l0_2.length co2, .string a0_3, .string a0_4] 26 (0, 0)) (by (with_reducible repeat (first | refine blk_drewN ?_ _ | refine blk_drew ?_ | refine blk_alloc ?_ _)); exact BK177.out)) : gb178 ≠ gb177)); clear HO0_2; clear BK177; clear HK; clear HB; have HO0_2 := n0_; have BK177 := n1_; have HK := n2_; have HB := n3_; have BK178 := n4_; have GW178 := n5_; have GE178 := n6_; have NB177_178 := n7_; have NB178_177 := n8_; clear n0_ n1_ n2_ n3_ n4_ n5_ n6_ n7_ n8_; clear hb hbox hg; have hnb5 := NB177_178.out; have hnc5 := NB178_177.out; have hcz6_0 : w4.cell? ⟨gb177, 0, none⟩ = some (.bool a0_0) := (blk_cell BK177.out 0).trans rfl; have hcz6_1 : w4.cell? ⟨gb177, 1, none⟩ = some (.bool a0_1) := (blk_cell BK177.out 1).trans rfl; have hcz6_2 : w4.cell? ⟨gb177, 2, none⟩ = some (.slice Ao2 l0_2.length co2) := (blk_cell BK177.out 2).trans rfl; have hcz6_3 : w4.cell? ⟨gb177, 3, none⟩ = some (.string a0_3) := (blk_cell BK177.out 3).trans rfl; have hcz6_4 : w4.cell? ⟨gb177, 4, none⟩ = some (.string a0_4) := (blk_cell BK177.out 4).trans rfl; have hfz6_0 := blk_frozen BK177.out 0; have hfz6_1 := blk_frozen BK177.out 1; have hfz6_2 := blk_frozen BK177.out 2; have hfz6_3 := blk_frozen BK177.out 3; have hfz6_4 := blk_frozen BK177.out 4; have hcz7_0 : w4.cell? ⟨gb178, 0, none⟩ = some (.bool false) := (blk_cell BK178.out 0).trans rfl; have hcz7_1 : w4.cell? ⟨gb178, 1, none⟩ = some (.bool false) := (blk_cell BK178.out 1).trans rfl; have hcz7_2 : w4.cell? ⟨gb178, 2, none⟩ = some (.slice none 0 0) := (blk_cell BK178.out 2).trans rfl; have hcz7_3 : w4.cell? ⟨gb178, 3, none⟩ = some (.string (⟨#[]⟩ : ByteArray)) := (blk_cell BK178.out 3).trans rfl; have hcz7_4 : w4.cell? ⟨gb178, 4, none⟩ = some (.string (⟨#[]⟩ : ByteArray)) := (blk_cell BK178.out 4).trans rfl; have hfz7_0 := blk_frozen BK178.out 0; have hfz7_1 := blk_frozen BK178.out 1; have hfz7_2 := blk_frozen BK178.out 2; have hfz7_3 := blk_frozen BK178.out 3; have hfz7_4 := blk_frozen BK178.out 4))
  refine bodyPost_ret (results_cell_row rfl _ _ gb178 31 #[.bool a0_0, .bool a0_1, .slice Ao2 l0_2.length co2, .string a0_3, .string a0_4] (0, 0) _ rfl (by (with_reducible repeat (first | refine blk_drewN ?_ _ | refine blk_drew ?_ | refine blk_alloc ?_ _)); refine blk_put (cs := #[.bool a0_0, .bool a0_1, .slice Ao2 l0_2.length co2, .string a0_3, .string (⟨#[]⟩ : ByteArray)]) ?_ 4 _ rfl; (with_reducible repeat (first | refine blk_drewN ?_ _ | refine blk_drew ?_ | refine blk_alloc ?_ _)); refine blk_put (cs := #[.bool a0_0, .bool a0_1, .slice Ao2 l0_2.length co2, .string (⟨#[]⟩ : ByteArray), .string (⟨#[]⟩ : ByteArray)]) ?_ 3 _ rfl; (with_reducible repeat (first | refine blk_drewN ?_ _ | refine blk_drew ?_ | refine blk_alloc ?_ _)); refine blk_put (cs := #[.bool a0_0, .bool a0_1, .slice none 0 0, .string (⟨#[]⟩ : ByteArray), .string (⟨#[]⟩ : ByteArray)]) ?_ 2 _ rfl; (with_reducible repeat (first | refine blk_drewN ?_ _ | refine blk_drew ?_ | refine blk_alloc ?_ _)); refine blk_put (cs := #[.bool a0_0, .bool false, .slice none 0 0, .string (⟨#[]⟩ : ByteArray), .string (⟨#[]⟩ : ByteArray)]) ?_ 1 _ rfl; (with_reducible repeat (first | refine blk_drewN ?_ _ | refine blk_drew ?_ | refine blk_alloc ?_ _)); refine blk_put (cs := #[.bool false, .bool false, .slice none 0 0, .string (⟨#[]⟩ : ByteArray), .string (⟨#[]⟩ : ByteArray)]) ?_ 0 _ rfl; (with_reducible repeat (first | refine blk_drewN ?_ _ | refine blk_drew ?_ | refine blk_alloc ?_ _)); exact BK178.out) Tryz.underlying31 rfl (by kernel_rfl)) rfl ?_
  exact ⟨_, by first | rfl | (simp [errW_none, errW_some] <;> rfl) | (simp [*, errW_none, errW_some] <;> rfl) | (simp [ne_nil_b]; done) | (simp [*, ne_nil_b]; done), by (with_reducible repeat (first | apply Kd.R_alloc | apply Kd.R_drewN | apply Kd.R_drew)); exact Kd.R_mono (Kd.R_far (p := ⟨gb178, 4, none⟩) (Kd.R_far (p := ⟨gb178, 3, none⟩) (Kd.R_far (p := ⟨gb178, 2, none⟩) (Kd.R_far (p := ⟨gb178, 1, none⟩) (Kd.R_far (p := ⟨gb178, 0, none⟩) (Kd.R_types HO0_2.out BK178.out (by decide)) (fun _ hk => hk.2) (.bool a0_0)) (fun _ hk => hk.2) (.bool a0_1)) (fun _ hk => hk.2) (.slice Ao2 l0_2.length co2)) (fun _ hk => hk.2) (.string a0_3)) (fun _ hk => hk.2) (.string a0_4)) (fun _ hk => hk.1), by repeat (first | (with_reducible first | exact HB.out | apply below_alloc | apply pw_below_drewN | apply below_drew1 | refine below_set ?_ GE177.out | refine below_set ?_ GE178.out) | exact HB.out), by repeat (first | (with_reducible first | exact HK.out | apply Kept.alloc | apply Kept.drewN | apply Kept.drew | refine Kept.setCell ?_ (.inr GW177.out) _ | refine Kept.setCell ?_ (.inr GW178.out) _) | exact HK.out)⟩

end Go.Proofs.YtmhcdigneamgdaaGreatDoor.Qb

namespace Go.Proofs.YtmhcdigneamgdaaGreatDoor.Qb
open Go.RowKit Go.Proofs.YtmhcdigneamgdaaGreatDoor.G Go.Proofs.YtmhcdigneamgdaaGreatDoor.Qa Go.Proofs.YtmhcdigneamgdaaGreatDoorW.PrintWords Go.Proofs.YtmhcdigneamgdaaGreatDoorW.PrintLast Go.Proofs.YtmhcdigneamgdaaGreatDoorW.PrintMore
attribute [local go_sem] max2_int min2_int max_two min_two max_three min_three max_four min_four   -- for this text's walks alone
set_option linter.unusedVariables false
set_option linter.unusedSimpArgs false

end Go.Proofs.YtmhcdigneamgdaaGreatDoor.Qb

/- Walk of path.Parse. -/
namespace Go.Proofs.YtmhcdigneamgdaaGreatDoor.G
open Go.RowKit Go.Proofs.YtmhcdigneamgdaaGreatDoorW.PrintWords Go.Proofs.YtmhcdigneamgdaaGreatDoorW.PrintMore Go.Proofs.YtmhcdigneamgdaaGreatDoor.Qa Go.Proofs.YtmhcdigneamgdaaGreatDoor.Qb
attribute [local go_sem] max2_int max_two
set_option linter.unusedVariables false

abbrev PR := Bool × Bool × List ByteArray × ByteArray × ByteArray × ByteArray × Int
def noPath (e : Int) : PR := (false, false, [], ⟨#[]⟩, ⟨#[]⟩, ⟨#[]⟩, e)
/-- What is left when the path is read: too long, or it. -/
def finPath (a0 behind : ByteArray) (nul post : Bool) (l : List ByteArray) (loc dom : ByteArray) (wrong : Int) : PR :=
  if wrong ≠ 0 ∨ (a0.size : Int) - (behind.size : Int) > 256 then noPath 3 else (nul, post, l, loc, dom, behind, 0)
def master : ByteArray := ⟨#[112, 111, 115, 116, 109, 97, 115, 116, 101, 114]⟩
def onePath (k : Nat) (a0 : ByteArray) (l : List ByteArray) (one behind : ByteArray) : Option PR :=
  (path_domains.f k l).bind fun wrong =>
    if one.toList = [] ∧ l = [] then some (finPath a0 behind true false l ⟨#[]⟩ ⟨#[]⟩ wrong)
    else (text_Same.f one master).bind fun same =>
      if same = true ∧ l = [] then some (finPath a0 behind false true l ⟨#[]⟩ ⟨#[]⟩ wrong)
      else (addr_Parse.f k one).bind fun a =>
        if a.2.2 = 5 ∨ wrong = 5 then some (noPath 5) else if 0 ≤ a.2.2 ∧ 0 ≤ wrong then some (finPath a0 behind false false l a.1 a.2.1 (if wrong < a.2.2 then a.2.2 else wrong)) else none
def path_Parse.f (k : Nat) (a0 : ByteArray) : Option PR :=
  (strings_CutPrefix.f a0 ⟨#[60]⟩).bind fun c =>
    if c.2 = false then some (noPath 5) else
    (path_route.f k c.1).bind fun rt =>
      (path_ends.f k rt.2.1).bind fun n =>
        if rt.2.2 = false ∨ n < 0 then some (noPath 5)
        else if n < (rt.2.1.size : Int) ∧ a0.size ≤ 4294967280 ∧ rt.2.1.size ≤ a0.size then onePath k a0 rt.1 (rt.2.1.extract 0 n.toNat) (rt.2.1.extract (n.toNat + 1) rt.2.1.size)
        else none

theorem five {w : World} {g t : Nat} {v0 v1 v2 v3 v4 : Value} (h : w.heap[g]? = some (.cells #[v0, v1, v2, v3, v4] t (0, 0))) :
    w.cell? ⟨g, 0, none⟩ = some v0 ∧ w.cell? ⟨g, 1, none⟩ = some v1 ∧ w.cell? ⟨g, 2, none⟩ = some v2 ∧ w.cell? ⟨g, 3, none⟩ = some v3 ∧ w.cell? ⟨g, 4, none⟩ = some v4 ∧
    w.frozen? ⟨g, 0, none⟩ = false ∧ w.frozen? ⟨g, 1, none⟩ = false ∧ w.frozen? ⟨g, 2, none⟩ = false ∧ w.frozen? ⟨g, 3, none⟩ = false ∧ w.frozen? ⟨g, 4, none⟩ = false :=
  ⟨(blk_cell h 0).trans rfl, (blk_cell h 1).trans rfl, (blk_cell h 2).trans rfl, (blk_cell h 3).trans rfl, (blk_cell h 4).trans rfl, blk_frozen h 0, blk_frozen h 1, blk_frozen h 2, blk_frozen h 3, blk_frozen h 4⟩
theorem blk5 {w : World} {g t : Nat} {cs : Array Value} (h : w.heap[g]? = some (.cells cs t (0, 0))) (hs : cs.size = 5) (a b c d e : Value) :
    (((((w.setCell ⟨g, 0, none⟩ a).setCell ⟨g, 1, none⟩ b).setCell ⟨g, 2, none⟩ c).setCell ⟨g, 3, none⟩ d).setCell ⟨g, 4, none⟩ e).heap[g]? = some (.cells #[a, b, c, d, e] t (0, 0)) := by
  obtain ⟨l⟩ := cs
  match l, hs with
  | [x0, x1, x2, x3, x4], _ =>
    exact blk_put (blk_put (blk_put (blk_put (blk_put h 0 a rfl) 1 b rfl) 2 c rfl) 3 d rfl) 4 e rfl
theorem below5 {w W : World} {g : Nat} (h : Below w.heap.size w W) (hg : w.heap.size ≤ g) (a b c d e : Value) :
    Below w.heap.size w (((((W.setCell ⟨g, 0, none⟩ a).setCell ⟨g, 1, none⟩ b).setCell ⟨g, 2, none⟩ c).setCell ⟨g, 3, none⟩ d).setCell ⟨g, 4, none⟩ e) :=
  below_set (below_set (below_set (below_set (below_set h hg) hg) hg) hg) hg

set_option maxHeartbeats 8000000 in
set_option maxRecDepth 1000000 in
theorem parse_no (a0 s1 : ByteArray) (w : World) (hcp : strings_CutPrefix.f a0 ⟨#[60]⟩ = some (s1, false)) :
    Calls Tryz.prog 12 #[.string a0] w fun e w' => ∃ v2_ : Value, e = .returned (.tuple #[.agg #[.bool false, .bool false, v2_, .string ⟨#[]⟩, .string ⟨#[]⟩], .string ⟨#[]⟩, .int .i64 5]) ∧ Kd.R Kd.string 9 w' w.heap.size (fun _ => True) v2_ [] ∧ Below w.heap.size w w' := by
  have HCP := Aside0.mk hcp
  clear hcp
  have huP := Tryz.underlying26
  go_enter Tryz.func12, Tryz.ntmps12
  go_wp2_with (first | ((with_reducible refine gate_dst (N := 2) rfl ?_); refine box_event ?hg (N := 2) ?hd (cs := #[.bool false, .bool false, .slice none 0 0, .string ⟨#[]⟩, .string ⟨#[]⟩]) (t := 26) ?hr ?_; (case hd => rfl); (case hg => rfl); (case hr => first | (go_simp; done) | (go_simp; rfl)); intro gb hg w2 hbox hb; have HB0 := Aside0.mk hb; have BK := Aside0.mk hbox; have GE := Aside0.mk (Nat.le_of_eq hg.symm); clear hb hbox hg; obtain ⟨hc0, hc1, hc2, hc3, hc4, hf0, hf1, hf2, hf3, hf4⟩ := five BK.out) | (go_at_call 27; (with_reducible refine (strings_CutPrefix.calls a0 ⟨#[60]⟩ s1 false _ HCP.out).mono ?_); rintro e' w' ⟨rfl, ⟨nd, rfl⟩⟩))
  refine bodyPost_ret (results_ctt rfl _ _ gb 26 #[.bool false, .bool false, .slice none 0 0, .string ⟨#[]⟩, .string ⟨#[]⟩] (0, 0) _ rfl (by exact blk5 (blk_drewN BK.out _) rfl _ _ _ _ _) Tryz.underlying26 rfl (by kernel_rfl)) rfl ⟨_, rfl, Kd.R_nil _ _ _ _ _, by exact below5 (pw_below_drewN HB0.out _) GE.out _ _ _ _ _⟩

set_option maxHeartbeats 8000000 in
set_option maxRecDepth 1000000 in
theorem parse_bad (k : Nat) (a0 s1 s2 : ByteArray) (rt : List ByteArray) (b : Bool) (n : Int) (w : World) (hG : Glob w) (hcp : strings_CutPrefix.f a0 ⟨#[60]⟩ = some (s1, true)) (hrt : path_route.f k s1 = some (rt, s2, b)) (hen : path_ends.f k s2 = some n) (h : b = false ∨ n < 0) :
    Calls Tryz.prog 12 #[.string a0] w fun e w' => ∃ v2_ : Value, e = .returned (.tuple #[.agg #[.bool false, .bool false, v2_, .string ⟨#[]⟩, .string ⟨#[]⟩], .string ⟨#[]⟩, .int .i64 5]) ∧ Kd.R Kd.string 9 w' w.heap.size (fun _ => True) v2_ [] ∧ Below w.heap.size w w' := by
  have HCP := Aside0.mk hcp
  have HRT := Aside0.mk hrt
  have HEN := Aside0.mk hen
  have HG := Aside0.mk hG
  clear hcp hrt hen hG
  have huP := Tryz.underlying26
  cases b with
  | false =>
    clear h
    go_enter Tryz.func12, Tryz.ntmps12
    go_wp2_with (first | ((with_reducible refine gate_dst (N := 2) rfl ?_); refine box_event ?hg (N := 2) ?hd (cs := #[.bool false, .bool false, .slice none 0 0, .string ⟨#[]⟩, .string ⟨#[]⟩]) (t := 26) ?hr ?_; (case hd => rfl); (case hg => rfl); (case hr => first | (go_simp; done) | (go_simp; rfl)); intro gb hg w2 hbox hb; have HB0 := Aside0.mk hb; have BK := Aside0.mk hbox; have GE := Aside0.mk (Nat.le_of_eq hg.symm); clear hb hbox hg; obtain ⟨hc0, hc1, hc2, hc3, hc4, hf0, hf1, hf2, hf3, hf4⟩ := five BK.out) | (go_at_call 27; (with_reducible refine (strings_CutPrefix.calls a0 ⟨#[60]⟩ s1 true _ HCP.out).mono ?_); rintro e' w' ⟨rfl, ⟨nd, rfl⟩⟩) | (go_at_call 28; (with_reducible refine (path_route.calls k s1 rt s2 false _ HRT.out ?hGG).mono ?_); (case hGG => exact HG.out.below (pw_below_drewN HB0.out _)); rintro e' w3 ⟨v0, rfl, hR, hb3⟩; obtain ⟨Ad, cp, rfl, hle, hC⟩ := Kd.R_reads hR; have HR3 := Aside0.mk (Kd.R_lower hR (show w.heap.size ≤ _ from HB0.out.size)); have HC3 := Aside0.mk hC; have HLE := Aside0.mk hle; have BK3 := Aside0.mk (blk_below (blk_drewN BK.out _) hb3); have HB3 := Aside0.mk (then_below (pw_below_drewN HB0.out _) hb3); clear hR hC hle hb3; clear hc0 hf0 hc1 hf1 hc2 hf2 hc3 hf3 hc4 hf4; obtain ⟨hc0, hc1, hc2, hc3, hc4, hf0, hf1, hf2, hf3, hf4⟩ := five BK3.out) | (go_at_call 29; (with_reducible refine (path_ends.calls k s2 n _ HEN.out).mono ?_); rintro e' w4 ⟨rfl, hb4⟩; have BK4 := Aside0.mk (blk_below BK3.out hb4); have HB4 := Aside0.mk (then_below HB3.out hb4); have HR4 := Aside0.mk (Kd.R_below HR3.out hb4); have HC4 := Aside0.mk (Kd.C_below HC3.out hb4); clear hb4; clear hc0 hf0 hc1 hf1 hc2 hf2 hc3 hf3 hc4 hf4; obtain ⟨hc0, hc1, hc2, hc3, hc4, hf0, hf1, hf2, hf3, hf4⟩ := five BK4.out))
    refine bodyPost_ret (results_ctt rfl _ _ gb 26 #[.bool false, .bool false, .slice none 0 0, .string ⟨#[]⟩, .string ⟨#[]⟩] (0, 0) _ rfl (by exact blk5 BK4.out rfl _ _ _ _ _) Tryz.underlying26 rfl (by kernel_rfl)) rfl ⟨_, rfl, Kd.R_nil _ _ _ _ _, by exact below5 HB4.out GE.out _ _ _ _ _⟩
  | true =>
    have hn : n < 0 := by simpa using h
    clear h
    go_enter Tryz.func12, Tryz.ntmps12
    go_wp2_with (first | ((with_reducible refine gate_dst (N := 2) rfl ?_); refine box_event ?hg (N := 2) ?hd (cs := #[.bool false, .bool false, .slice none 0 0, .string ⟨#[]⟩, .string ⟨#[]⟩]) (t := 26) ?hr ?_; (case hd => rfl); (case hg => rfl); (case hr => first | (go_simp; done) | (go_simp; rfl)); intro gb hg w2 hbox hb; have HB0 := Aside0.mk hb; have BK := Aside0.mk hbox; have GE := Aside0.mk (Nat.le_of_eq hg.symm); clear hb hbox hg; obtain ⟨hc0, hc1, hc2, hc3, hc4, hf0, hf1, hf2, hf3, hf4⟩ := five BK.out) | (go_at_call 27; (with_reducible refine (strings_CutPrefix.calls a0 ⟨#[60]⟩ s1 true _ HCP.out).mono ?_); rintro e' w' ⟨rfl, ⟨nd, rfl⟩⟩) | (go_at_call 28; (with_reducible refine (path_route.calls k s1 rt s2 true _ HRT.out ?hGG).mono ?_); (case hGG => exact HG.out.below (pw_below_drewN HB0.out _)); rintro e' w3 ⟨v0, rfl, hR, hb3⟩; obtain ⟨Ad, cp, rfl, hle, hC⟩ := Kd.R_reads hR; have HR3 := Aside0.mk (Kd.R_lower hR (show w.heap.size ≤ _ from HB0.out.size)); have HC3 := Aside0.mk hC; have HLE := Aside0.mk hle; have BK3 := Aside0.mk (blk_below (blk_drewN BK.out _) hb3); have HB3 := Aside0.mk (then_below (pw_below_drewN HB0.out _) hb3); clear hR hC hle hb3; clear hc0 hf0 hc1 hf1 hc2 hf2 hc3 hf3 hc4 hf4; obtain ⟨hc0, hc1, hc2, hc3, hc4, hf0, hf1, hf2, hf3, hf4⟩ := five BK3.out) | (go_at_call 29; (with_reducible refine (path_ends.calls k s2 n _ HEN.out).mono ?_); rintro e' w4 ⟨rfl, hb4⟩; have BK4 := Aside0.mk (blk_below BK3.out hb4); have HB4 := Aside0.mk (then_below HB3.out hb4); have HR4 := Aside0.mk (Kd.R_below HR3.out hb4); have HC4 := Aside0.mk (Kd.C_below HC3.out hb4); clear hb4; clear hc0 hf0 hc1 hf1 hc2 hf2 hc3 hf3 hc4 hf4; obtain ⟨hc0, hc1, hc2, hc3, hc4, hf0, hf1, hf2, hf3, hf4⟩ := five BK4.out))
    refine bodyPost_ret (results_ctt rfl _ _ gb 26 #[.bool false, .bool false, .slice none 0 0, .string ⟨#[]⟩, .string ⟨#[]⟩] (0, 0) _ rfl (by exact blk5 BK4.out rfl _ _ _ _ _) Tryz.underlying26 rfl (by kernel_rfl)) rfl ⟨_, rfl, Kd.R_nil _ _ _ _ _, by exact below5 HB4.out GE.out _ _ _ _ _⟩
theorem R5 {W : World} {base g t : Nat} {cs : Array Value} {v : Value} {xs : List ByteArray} (h : Kd.R Kd.string 9 W base (fun _ => True) v xs) (hb : W.heap[g]? = some (.cells cs t (0, 0))) (ht : 9 ≠ t) (hs : cs.size = 5) (a b c d e : Value) :
    Kd.R Kd.string 9 (((((W.setCell ⟨g, 0, none⟩ a).setCell ⟨g, 1, none⟩ b).setCell ⟨g, 2, none⟩ c).setCell ⟨g, 3, none⟩ d).setCell ⟨g, 4, none⟩ e) base (fun _ => True) v xs := by
  have hq : ∀ q, q ∈ 9 :: Kd.string.E → q ≠ t := fun q hq => by
    have : q = 9 := by simpa [Kd.string, Kd.scalar] using hq
    omega
  exact Kd.R_set (Kd.R_set (Kd.R_set (Kd.R_set (Kd.R_set h hb hq 0 a) (blk_set hb 0 a) hq 1 b) (blk_set (blk_set hb 0 a) 1 b) hq 2 c) (blk_set (blk_set (blk_set hb 0 a) 1 b) 2 c) hq 3 d) (blk_set (blk_set (blk_set (blk_set hb 0 a) 1 b) 2 c) 3 d) hq 4 e
theorem R1 {W : World} {base g t : Nat} {cs : Array Value} {v : Value} {xs : List ByteArray} (h : Kd.R Kd.string 9 W base (fun _ => True) v xs) (hb : W.heap[g]? = some (.cells cs t (0, 0))) (ht : 9 ≠ t) (j : Nat) (a : Value) :
    Kd.R Kd.string 9 (W.setCell ⟨g, j, none⟩ a) base (fun _ => True) v xs :=
  Kd.R_set h hb (fun q hq => by
    have : q = 9 := by simpa [Kd.string, Kd.scalar] using hq
    omega) j a

set_option maxHeartbeats 8000000 in
set_option maxRecDepth 1000000 in
theorem parse_null_ok (k : Nat) (a0 s1 s2 : ByteArray) (rt : List ByteArray) (m : Nat) (wr : Int) (w : World) (hG : Glob w) (hcp : strings_CutPrefix.f a0 ⟨#[60]⟩ = some (s1, true)) (hrt : path_route.f k s1 = some (rt, s2, true)) (hen : path_ends.f k s2 = some (m : Int)) (hm : m < s2.size) (hs : s2.size ≤ 4294967280) (hs0 : a0.size ≤ 4294967280)
    (hdm : path_domains.f k rt = some wr) (hone : (s2.extract 0 m).toList = []) (hrl : ((rt.length : Int) == 0) = true) (hw : wr = 0) (hsz : (a0.size : Int) - ((s2.size - (m + 1) : Nat) : Int) ≤ 256) :
    Calls Tryz.prog 12 #[.string a0] w fun e w' => ∃ v2_ : Value, e = .returned (.tuple #[.agg #[.bool true, .bool false, v2_, .string ⟨#[]⟩, .string ⟨#[]⟩], .string (s2.extract (m + 1) s2.size), .int .i64 0]) ∧ Kd.R Kd.string 9 w' w.heap.size (fun _ => True) v2_ rt ∧ Below w.heap.size w w' := by
  have HCP := Aside0.mk hcp
  have HRT := Aside0.mk hrt
  have HEN := Aside0.mk hen
  have HDM := Aside0.mk hdm
  have HG := Aside0.mk hG
  clear hcp hrt hen hdm hG
  have huP := Tryz.underlying26
  have huA := Tryz.underlying24
  have hm1 : (m : Int) < (s2.size : Int) := by omega
  have hm2 : (m : Int) + 1 ≤ (s2.size : Int) := by omega
  subst hw
  have hoB : (s2.extract 0 m).toList.isEmpty = true := by rw [hone]; rfl
  go_enter Tryz.func12, Tryz.ntmps12
  go_wp2_with (first | ((with_reducible refine gate_dst (N := 2) rfl ?_); refine box_event ?hg (N := 2) ?hd (cs := #[.bool false, .bool false, .slice none 0 0, .string ⟨#[]⟩, .string ⟨#[]⟩]) (t := 26) ?hr ?_; (case hd => rfl); (case hg => rfl); (case hr => first | (go_simp; done) | (go_simp; rfl)); intro gb hg w2 hbox hb; have HB0 := Aside0.mk hb; have BK := Aside0.mk hbox; have GE := Aside0.mk (Nat.le_of_eq hg.symm); clear hb hbox hg; obtain ⟨hc0, hc1, hc2, hc3, hc4, hf0, hf1, hf2, hf3, hf4⟩ := five BK.out) | (go_at_call 27; (with_reducible refine (strings_CutPrefix.calls a0 ⟨#[60]⟩ s1 true _ HCP.out).mono ?_); rintro e' w' ⟨rfl, ⟨nd, rfl⟩⟩) | (go_at_call 28; (with_reducible refine (path_route.calls k s1 rt s2 true _ HRT.out ?hGG).mono ?_); (case hGG => exact HG.out.below (pw_below_drewN HB0.out _)); rintro e' w3 ⟨v0, rfl, hR, hb3⟩; obtain ⟨Ad, cp, rfl, hle, hC⟩ := Kd.R_reads hR; have HR3 := Aside0.mk (Kd.R_lower hR (show w.heap.size ≤ _ from HB0.out.size)); have HC3 := Aside0.mk hC; have HLE := Aside0.mk hle; have BK3 := Aside0.mk (blk_below (blk_drewN BK.out _) hb3); have HB3 := Aside0.mk (then_below (pw_below_drewN HB0.out _) hb3); clear hR hC hle hb3; clear hc0 hf0 hc1 hf1 hc2 hf2 hc3 hf3 hc4 hf4; obtain ⟨hc0, hc1, hc2, hc3, hc4, hf0, hf1, hf2, hf3, hf4⟩ := five BK3.out) | (go_at_call 29; (with_reducible refine (path_ends.calls k s2 (m : Int) _ HEN.out).mono ?_); rintro e' w4 ⟨rfl, hb4⟩; have BK4 := Aside0.mk (blk_below BK3.out hb4); have HB4 := Aside0.mk (then_below HB3.out hb4); have HR4 := Aside0.mk (Kd.R_below HR3.out hb4); have HC4 := Aside0.mk (Kd.C_below HC3.out hb4); clear hb4; clear hc0 hf0 hc1 hf1 hc2 hf2 hc3 hf3 hc4 hf4; obtain ⟨hc0, hc1, hc2, hc3, hc4, hf0, hf1, hf2, hf3, hf4⟩ := five BK4.out))
  go_region
  have hb5 : Below w4.heap.size w4 (w4.alloc (.cells #[.bool false, .bool false, .slice Ad rt.length cp, .string ⟨#[]⟩, .string ⟨#[]⟩] 26)).drew := below_drew (below_alloc (Below.refl _ _) _); have BK5 := Aside0.mk (blk_below BK4.out hb5); have BP5 := Aside0.mk (show (w4.alloc (.cells #[.bool false, .bool false, .slice Ad rt.length cp, .string ⟨#[]⟩, .string ⟨#[]⟩] 26)).drew.heap[w4.heap.size]? = some (.cells #[.bool false, .bool false, .slice Ad rt.length cp, .string ⟨#[]⟩, .string ⟨#[]⟩] 26 (0, 0)) from blk_drew (blk_new _ _)); have HB5 := Aside0.mk (then_below HB4.out hb5); have HR5 := Aside0.mk (Kd.R_below HR4.out hb5); have HC5 := Aside0.mk (Kd.C_below HC4.out hb5); have GP := Aside0.mk HB4.out.size; have hne : gb ≠ w4.heap.size := Nat.ne_of_lt (blk_lt BK4.out); have hne2 : w4.heap.size ≠ gb := fun h => hne h.symm; clear hb5 HR4 HC4 hc0 hf0 hc1 hf1 hc2 hf2 hc3 hf3 hc4 hf4; generalize (w4.alloc (.cells #[.bool false, .bool false, .slice Ad rt.length cp, .string ⟨#[]⟩, .string ⟨#[]⟩] 26)).drew = w5 at BK5 BP5 HB5 HR5 HC5 ⊢; clear BK4 HB4; generalize w4.heap.size = gp at BP5 GP hne hne2 ⊢; obtain ⟨hc0, hc1, hc2, hc3, hc4, hf0, hf1, hf2, hf3, hf4⟩ := five BK5.out; obtain ⟨pc0, pc1, pc2, pc3, pc4, pf0, pf1, pf2, pf3, pf4⟩ := five BP5.out
  go_wp2_with (first | (go_at_call 30; (with_reducible refine (path_domains.calls k Ad cp rt 0 _ HC5.out HLE.out HDM.out ?hGG).mono ?_); (case hGG => exact HG.out.below HB5.out); rintro e' w6 ⟨rfl, hb6⟩; have BK6 := Aside0.mk (blk_below BK5.out hb6); have BP6 := Aside0.mk (blk_below BP5.out hb6); have HB6 := Aside0.mk (then_below HB5.out hb6); have HR6 := Aside0.mk (Kd.R_below HR5.out hb6); have HC6 := Aside0.mk (Kd.C_below HC5.out hb6); clear hb6; clear hc0 hf0 hc1 hf1 hc2 hf2 hc3 hf3 hc4 hf4; clear pc0 pf0 pc1 pf1 pc2 pf2 pc3 pf3 pc4 pf4; obtain ⟨hc0, hc1, hc2, hc3, hc4, hf0, hf1, hf2, hf3, hf4⟩ := five BK6.out; obtain ⟨pc0, pc1, pc2, pc3, pc4, pf0, pf1, pf2, pf3, pf4⟩ := five BP6.out))
  refine bodyPost_ret (results_ctt rfl _ _ gb 26 #[.bool true, .bool false, .slice Ad rt.length cp, .string ⟨#[]⟩, .string ⟨#[]⟩] (0, 0) _ rfl (by exact blk5 (blk_far BK6.out (by exact hne) _) rfl _ _ _ _ _) Tryz.underlying26 rfl (by kernel_rfl)) rfl ⟨_, rfl, by exact R5 (R1 HR6.out BP6.out (by decide) 0 _) (blk_far BK6.out (by exact hne) _) (by decide) rfl _ _ _ _ _, by exact below5 (below_set HB6.out GP.out) GE.out _ _ _ _ _⟩

set_option maxHeartbeats 8000000 in
set_option maxRecDepth 1000000 in
theorem parse_null_lw (k : Nat) (a0 s1 s2 : ByteArray) (rt : List ByteArray) (m : Nat) (wr : Int) (w : World) (hG : Glob w) (hcp : strings_CutPrefix.f a0 ⟨#[60]⟩ = some (s1, true)) (hrt : path_route.f k s1 = some (rt, s2, true)) (hen : path_ends.f k s2 = some (m : Int)) (hm : m < s2.size) (hs : s2.size ≤ 4294967280) (hs0 : a0.size ≤ 4294967280)
    (hdm : path_domains.f k rt = some wr) (hone : (s2.extract 0 m).toList = []) (hrl : ((rt.length : Int) == 0) = true) (hw : (wr != 0) = true) :
    Calls Tryz.prog 12 #[.string a0] w fun e w' => ∃ v2_ : Value, e = .returned (.tuple #[.agg #[.bool false, .bool false, v2_, .string ⟨#[]⟩, .string ⟨#[]⟩], .string ⟨#[]⟩, .int .i64 3]) ∧ Kd.R Kd.string 9 w' w.heap.size (fun _ => True) v2_ [] ∧ Below w.heap.size w w' := by
  have HCP := Aside0.mk hcp
  have HRT := Aside0.mk hrt
  have HEN := Aside0.mk hen
  have HDM := Aside0.mk hdm
  have HG := Aside0.mk hG
  clear hcp hrt hen hdm hG
  have huP := Tryz.underlying26
  have huA := Tryz.underlying24
  have hm1 : (m : Int) < (s2.size : Int) := by omega
  have hm2 : (m : Int) + 1 ≤ (s2.size : Int) := by omega
  have hoB : (s2.extract 0 m).toList.isEmpty = true := by rw [hone]; rfl
  go_enter Tryz.func12, Tryz.ntmps12
  go_wp2_with (first | ((with_reducible refine gate_dst (N := 2) rfl ?_); refine box_event ?hg (N := 2) ?hd (cs := #[.bool false, .bool false, .slice none 0 0, .string ⟨#[]⟩, .string ⟨#[]⟩]) (t := 26) ?hr ?_; (case hd => rfl); (case hg => rfl); (case hr => first | (go_simp; done) | (go_simp; rfl)); intro gb hg w2 hbox hb; have HB0 := Aside0.mk hb; have BK := Aside0.mk hbox; have GE := Aside0.mk (Nat.le_of_eq hg.symm); clear hb hbox hg; obtain ⟨hc0, hc1, hc2, hc3, hc4, hf0, hf1, hf2, hf3, hf4⟩ := five BK.out) | (go_at_call 27; (with_reducible refine (strings_CutPrefix.calls a0 ⟨#[60]⟩ s1 true _ HCP.out).mono ?_); rintro e' w' ⟨rfl, ⟨nd, rfl⟩⟩) | (go_at_call 28; (with_reducible refine (path_route.calls k s1 rt s2 true _ HRT.out ?hGG).mono ?_); (case hGG => exact HG.out.below (pw_below_drewN HB0.out _)); rintro e' w3 ⟨v0, rfl, hR, hb3⟩; obtain ⟨Ad, cp, rfl, hle, hC⟩ := Kd.R_reads hR; have HR3 := Aside0.mk (Kd.R_lower hR (show w.heap.size ≤ _ from HB0.out.size)); have HC3 := Aside0.mk hC; have HLE := Aside0.mk hle; have BK3 := Aside0.mk (blk_below (blk_drewN BK.out _) hb3); have HB3 := Aside0.mk (then_below (pw_below_drewN HB0.out _) hb3); clear hR hC hle hb3; clear hc0 hf0 hc1 hf1 hc2 hf2 hc3 hf3 hc4 hf4; obtain ⟨hc0, hc1, hc2, hc3, hc4, hf0, hf1, hf2, hf3, hf4⟩ := five BK3.out) | (go_at_call 29; (with_reducible refine (path_ends.calls k s2 (m : Int) _ HEN.out).mono ?_); rintro e' w4 ⟨rfl, hb4⟩; have BK4 := Aside0.mk (blk_below BK3.out hb4); have HB4 := Aside0.mk (then_below HB3.out hb4); have HR4 := Aside0.mk (Kd.R_below HR3.out hb4); have HC4 := Aside0.mk (Kd.C_below HC3.out hb4); clear hb4; clear hc0 hf0 hc1 hf1 hc2 hf2 hc3 hf3 hc4 hf4; obtain ⟨hc0, hc1, hc2, hc3, hc4, hf0, hf1, hf2, hf3, hf4⟩ := five BK4.out))
  go_region
  have hb5 : Below w4.heap.size w4 (w4.alloc (.cells #[.bool false, .bool false, .slice Ad rt.length cp, .string ⟨#[]⟩, .string ⟨#[]⟩] 26)).drew := below_drew (below_alloc (Below.refl _ _) _); have BK5 := Aside0.mk (blk_below BK4.out hb5); have BP5 := Aside0.mk (show (w4.alloc (.cells #[.bool false, .bool false, .slice Ad rt.length cp, .string ⟨#[]⟩, .string ⟨#[]⟩] 26)).drew.heap[w4.heap.size]? = some (.cells #[.bool false, .bool false, .slice Ad rt.length cp, .string ⟨#[]⟩, .string ⟨#[]⟩] 26 (0, 0)) from blk_drew (blk_new _ _)); have HB5 := Aside0.mk (then_below HB4.out hb5); have HR5 := Aside0.mk (Kd.R_below HR4.out hb5); have HC5 := Aside0.mk (Kd.C_below HC4.out hb5); have GP := Aside0.mk HB4.out.size; have hne : gb ≠ w4.heap.size := Nat.ne_of_lt (blk_lt BK4.out); have hne2 : w4.heap.size ≠ gb := fun h => hne h.symm; clear hb5 HR4 HC4 hc0 hf0 hc1 hf1 hc2 hf2 hc3 hf3 hc4 hf4; generalize (w4.alloc (.cells #[.bool false, .bool false, .slice Ad rt.length cp, .string ⟨#[]⟩, .string ⟨#[]⟩] 26)).drew = w5 at BK5 BP5 HB5 HR5 HC5 ⊢; clear BK4 HB4; generalize w4.heap.size = gp at BP5 GP hne hne2 ⊢; obtain ⟨hc0, hc1, hc2, hc3, hc4, hf0, hf1, hf2, hf3, hf4⟩ := five BK5.out; obtain ⟨pc0, pc1, pc2, pc3, pc4, pf0, pf1, pf2, pf3, pf4⟩ := five BP5.out
  go_wp2_with (first | (go_at_call 30; (with_reducible refine (path_domains.calls k Ad cp rt wr _ HC5.out HLE.out HDM.out ?hGG).mono ?_); (case hGG => exact HG.out.below HB5.out); rintro e' w6 ⟨rfl, hb6⟩; have BK6 := Aside0.mk (blk_below BK5.out hb6); have BP6 := Aside0.mk (blk_below BP5.out hb6); have HB6 := Aside0.mk (then_below HB5.out hb6); have HR6 := Aside0.mk (Kd.R_below HR5.out hb6); have HC6 := Aside0.mk (Kd.C_below HC5.out hb6); clear hb6; clear hc0 hf0 hc1 hf1 hc2 hf2 hc3 hf3 hc4 hf4; clear pc0 pf0 pc1 pf1 pc2 pf2 pc3 pf3 pc4 pf4; obtain ⟨hc0, hc1, hc2, hc3, hc4, hf0, hf1, hf2, hf3, hf4⟩ := five BK6.out; obtain ⟨pc0, pc1, pc2, pc3, pc4, pf0, pf1, pf2, pf3, pf4⟩ := five BP6.out))
  refine bodyPost_ret (results_ctt rfl _ _ gb 26 #[.bool false, .bool false, .slice none 0 0, .string ⟨#[]⟩, .string ⟨#[]⟩] (0, 0) _ rfl (by exact blk5 (blk_far BK6.out (by exact hne) _) rfl _ _ _ _ _) Tryz.underlying26 rfl (by kernel_rfl)) rfl ⟨_, rfl, Kd.R_nil _ _ _ _ _, by exact below5 (below_set HB6.out GP.out) GE.out _ _ _ _ _⟩

set_option maxHeartbeats 8000000 in
set_option maxRecDepth 1000000 in
theorem parse_null_ls (k : Nat) (a0 s1 s2 : ByteArray) (rt : List ByteArray) (m : Nat) (wr : Int) (w : World) (hG : Glob w) (hcp : strings_CutPrefix.f a0 ⟨#[60]⟩ = some (s1, true)) (hrt : path_route.f k s1 = some (rt, s2, true)) (hen : path_ends.f k s2 = some (m : Int)) (hm : m < s2.size) (hs : s2.size ≤ 4294967280) (hs0 : a0.size ≤ 4294967280)
    (hdm : path_domains.f k rt = some wr) (hone : (s2.extract 0 m).toList = []) (hrl : ((rt.length : Int) == 0) = true) (hw : wr = 0) (hsz : 256 < (a0.size : Int) - ((s2.size - (m + 1) : Nat) : Int)) :
    Calls Tryz.prog 12 #[.string a0] w fun e w' => ∃ v2_ : Value, e = .returned (.tuple #[.agg #[.bool false, .bool false, v2_, .string ⟨#[]⟩, .string ⟨#[]⟩], .string ⟨#[]⟩, .int .i64 3]) ∧ Kd.R Kd.string 9 w' w.heap.size (fun _ => True) v2_ [] ∧ Below w.heap.size w w' := by
  have HCP := Aside0.mk hcp
  have HRT := Aside0.mk hrt
  have HEN := Aside0.mk hen
  have HDM := Aside0.mk hdm
  have HG := Aside0.mk hG
  clear hcp hrt hen hdm hG
  have huP := Tryz.underlying26
  have huA := Tryz.underlying24
  have hm1 : (m : Int) < (s2.size : Int) := by omega
  have hm2 : (m : Int) + 1 ≤ (s2.size : Int) := by omega
  subst hw
  have hoB : (s2.extract 0 m).toList.isEmpty = true := by rw [hone]; rfl
  go_enter Tryz.func12, Tryz.ntmps12
  go_wp2_with (first | ((with_reducible refine gate_dst (N := 2) rfl ?_); refine box_event ?hg (N := 2) ?hd (cs := #[.bool false, .bool false, .slice none 0 0, .string ⟨#[]⟩, .string ⟨#[]⟩]) (t := 26) ?hr ?_; (case hd => rfl); (case hg => rfl); (case hr => first | (go_simp; done) | (go_simp; rfl)); intro gb hg w2 hbox hb; have HB0 := Aside0.mk hb; have BK := Aside0.mk hbox; have GE := Aside0.mk (Nat.le_of_eq hg.symm); clear hb hbox hg; obtain ⟨hc0, hc1, hc2, hc3, hc4, hf0, hf1, hf2, hf3, hf4⟩ := five BK.out) | (go_at_call 27; (with_reducible refine (strings_CutPrefix.calls a0 ⟨#[60]⟩ s1 true _ HCP.out).mono ?_); rintro e' w' ⟨rfl, ⟨nd, rfl⟩⟩) | (go_at_call 28; (with_reducible refine (path_route.calls k s1 rt s2 true _ HRT.out ?hGG).mono ?_); (case hGG => exact HG.out.below (pw_below_drewN HB0.out _)); rintro e' w3 ⟨v0, rfl, hR, hb3⟩; obtain ⟨Ad, cp, rfl, hle, hC⟩ := Kd.R_reads hR; have HR3 := Aside0.mk (Kd.R_lower hR (show w.heap.size ≤ _ from HB0.out.size)); have HC3 := Aside0.mk hC; have HLE := Aside0.mk hle; have BK3 := Aside0.mk (blk_below (blk_drewN BK.out _) hb3); have HB3 := Aside0.mk (then_below (pw_below_drewN HB0.out _) hb3); clear hR hC hle hb3; clear hc0 hf0 hc1 hf1 hc2 hf2 hc3 hf3 hc4 hf4; obtain ⟨hc0, hc1, hc2, hc3, hc4, hf0, hf1, hf2, hf3, hf4⟩ := five BK3.out) | (go_at_call 29; (with_reducible refine (path_ends.calls k s2 (m : Int) _ HEN.out).mono ?_); rintro e' w4 ⟨rfl, hb4⟩; have BK4 := Aside0.mk (blk_below BK3.out hb4); have HB4 := Aside0.mk (then_below HB3.out hb4); have HR4 := Aside0.mk (Kd.R_below HR3.out hb4); have HC4 := Aside0.mk (Kd.C_below HC3.out hb4); clear hb4; clear hc0 hf0 hc1 hf1 hc2 hf2 hc3 hf3 hc4 hf4; obtain ⟨hc0, hc1, hc2, hc3, hc4, hf0, hf1, hf2, hf3, hf4⟩ := five BK4.out))
  go_region
  have hb5 : Below w4.heap.size w4 (w4.alloc (.cells #[.bool false, .bool false, .slice Ad rt.length cp, .string ⟨#[]⟩, .string ⟨#[]⟩] 26)).drew := below_drew (below_alloc (Below.refl _ _) _); have BK5 := Aside0.mk (blk_below BK4.out hb5); have BP5 := Aside0.mk (show (w4.alloc (.cells #[.bool false, .bool false, .slice Ad rt.length cp, .string ⟨#[]⟩, .string ⟨#[]⟩] 26)).drew.heap[w4.heap.size]? = some (.cells #[.bool false, .bool false, .slice Ad rt.length cp, .string ⟨#[]⟩, .string ⟨#[]⟩] 26 (0, 0)) from blk_drew (blk_new _ _)); have HB5 := Aside0.mk (then_below HB4.out hb5); have HR5 := Aside0.mk (Kd.R_below HR4.out hb5); have HC5 := Aside0.mk (Kd.C_below HC4.out hb5); have GP := Aside0.mk HB4.out.size; have hne : gb ≠ w4.heap.size := Nat.ne_of_lt (blk_lt BK4.out); have hne2 : w4.heap.size ≠ gb := fun h => hne h.symm; clear hb5 HR4 HC4 hc0 hf0 hc1 hf1 hc2 hf2 hc3 hf3 hc4 hf4; generalize (w4.alloc (.cells #[.bool false, .bool false, .slice Ad rt.length cp, .string ⟨#[]⟩, .string ⟨#[]⟩] 26)).drew = w5 at BK5 BP5 HB5 HR5 HC5 ⊢; clear BK4 HB4; generalize w4.heap.size = gp at BP5 GP hne hne2 ⊢; obtain ⟨hc0, hc1, hc2, hc3, hc4, hf0, hf1, hf2, hf3, hf4⟩ := five BK5.out; obtain ⟨pc0, pc1, pc2, pc3, pc4, pf0, pf1, pf2, pf3, pf4⟩ := five BP5.out
  go_wp2_with (first | (go_at_call 30; (with_reducible refine (path_domains.calls k Ad cp rt 0 _ HC5.out HLE.out HDM.out ?hGG).mono ?_); (case hGG => exact HG.out.below HB5.out); rintro e' w6 ⟨rfl, hb6⟩; have BK6 := Aside0.mk (blk_below BK5.out hb6); have BP6 := Aside0.mk (blk_below BP5.out hb6); have HB6 := Aside0.mk (then_below HB5.out hb6); have HR6 := Aside0.mk (Kd.R_below HR5.out hb6); have HC6 := Aside0.mk (Kd.C_below HC5.out hb6); clear hb6; clear hc0 hf0 hc1 hf1 hc2 hf2 hc3 hf3 hc4 hf4; clear pc0 pf0 pc1 pf1 pc2 pf2 pc3 pf3 pc4 pf4; obtain ⟨hc0, hc1, hc2, hc3, hc4, hf0, hf1, hf2, hf3, hf4⟩ := five BK6.out; obtain ⟨pc0, pc1, pc2, pc3, pc4, pf0, pf1, pf2, pf3, pf4⟩ := five BP6.out))
  refine bodyPost_ret (results_ctt rfl _ _ gb 26 #[.bool false, .bool false, .slice none 0 0, .string ⟨#[]⟩, .string ⟨#[]⟩] (0, 0) _ rfl (by exact blk5 (blk_far BK6.out (by exact hne) _) rfl _ _ _ _ _) Tryz.underlying26 rfl (by kernel_rfl)) rfl ⟨_, rfl, Kd.R_nil _ _ _ _ _, by exact below5 (below_set HB6.out GP.out) GE.out _ _ _ _ _⟩

set_option maxHeartbeats 8000000 in
set_option maxRecDepth 1000000 in
theorem parse_post_ok (k : Nat) (a0 s1 s2 : ByteArray) (rt : List ByteArray) (m : Nat) (wr : Int) (w : World) (hG : Glob w) (hcp : strings_CutPrefix.f a0 ⟨#[60]⟩ = some (s1, true)) (hrt : path_route.f k s1 = some (rt, s2, true)) (hen : path_ends.f k s2 = some (m : Int)) (hm : m < s2.size) (hs : s2.size ≤ 4294967280) (hs0 : a0.size ≤ 4294967280)
    (hdm : path_domains.f k rt = some wr) (hone : ((s2.extract 0 m).toList.isEmpty && ((rt.length : Int) == 0)) = false) (hrl : ((rt.length : Int) == 0) = true) (hsm : text_Same.f (s2.extract 0 m) master = some true) (hw : wr = 0) (hsz : (a0.size : Int) - ((s2.size - (m + 1) : Nat) : Int) ≤ 256) :
    Calls Tryz.prog 12 #[.string a0] w fun e w' => ∃ v2_ : Value, e = .returned (.tuple #[.agg #[.bool false, .bool true, v2_, .string ⟨#[]⟩, .string ⟨#[]⟩], .string (s2.extract (m + 1) s2.size), .int .i64 0]) ∧ Kd.R Kd.string 9 w' w.heap.size (fun _ => True) v2_ rt ∧ Below w.heap.size w w' := by
  have HCP := Aside0.mk hcp
  have HRT := Aside0.mk hrt
  have HEN := Aside0.mk hen
  have HDM := Aside0.mk hdm
  have HG := Aside0.mk hG
  clear hcp hrt hen hdm hG
  have huP := Tryz.underlying26
  have huA := Tryz.underlying24
  have hm1 : (m : Int) < (s2.size : Int) := by omega
  have hm2 : (m : Int) + 1 ≤ (s2.size : Int) := by omega
  subst hw
  have hoB : (s2.extract 0 m).toList.isEmpty = false := by simpa [hrl] using hone
  have hoC : ¬ (s2.extract 0 m).toList = [] := by simpa using hoB
  have HSM := Aside0.mk hsm
  unfold master at HSM
  clear hsm hone
  go_enter Tryz.func12, Tryz.ntmps12
  go_wp2_with (first | ((with_reducible refine gate_dst (N := 2) rfl ?_); refine box_event ?hg (N := 2) ?hd (cs := #[.bool false, .bool false, .slice none 0 0, .string ⟨#[]⟩, .string ⟨#[]⟩]) (t := 26) ?hr ?_; (case hd => rfl); (case hg => rfl); (case hr => first | (go_simp; done) | (go_simp; rfl)); intro gb hg w2 hbox hb; have HB0 := Aside0.mk hb; have BK := Aside0.mk hbox; have GE := Aside0.mk (Nat.le_of_eq hg.symm); clear hb hbox hg; obtain ⟨hc0, hc1, hc2, hc3, hc4, hf0, hf1, hf2, hf3, hf4⟩ := five BK.out) | (go_at_call 27; (with_reducible refine (strings_CutPrefix.calls a0 ⟨#[60]⟩ s1 true _ HCP.out).mono ?_); rintro e' w' ⟨rfl, ⟨nd, rfl⟩⟩) | (go_at_call 28; (with_reducible refine (path_route.calls k s1 rt s2 true _ HRT.out ?hGG).mono ?_); (case hGG => exact HG.out.below (pw_below_drewN HB0.out _)); rintro e' w3 ⟨v0, rfl, hR, hb3⟩; obtain ⟨Ad, cp, rfl, hle, hC⟩ := Kd.R_reads hR; have HR3 := Aside0.mk (Kd.R_lower hR (show w.heap.size ≤ _ from HB0.out.size)); have HC3 := Aside0.mk hC; have HLE := Aside0.mk hle; have BK3 := Aside0.mk (blk_below (blk_drewN BK.out _) hb3); have HB3 := Aside0.mk (then_below (pw_below_drewN HB0.out _) hb3); clear hR hC hle hb3; clear hc0 hf0 hc1 hf1 hc2 hf2 hc3 hf3 hc4 hf4; obtain ⟨hc0, hc1, hc2, hc3, hc4, hf0, hf1, hf2, hf3, hf4⟩ := five BK3.out) | (go_at_call 29; (with_reducible refine (path_ends.calls k s2 (m : Int) _ HEN.out).mono ?_); rintro e' w4 ⟨rfl, hb4⟩; have BK4 := Aside0.mk (blk_below BK3.out hb4); have HB4 := Aside0.mk (then_below HB3.out hb4); have HR4 := Aside0.mk (Kd.R_below HR3.out hb4); have HC4 := Aside0.mk (Kd.C_below HC3.out hb4); clear hb4; clear hc0 hf0 hc1 hf1 hc2 hf2 hc3 hf3 hc4 hf4; obtain ⟨hc0, hc1, hc2, hc3, hc4, hf0, hf1, hf2, hf3, hf4⟩ := five BK4.out))
  go_region
  have hb5 : Below w4.heap.size w4 (w4.alloc (.cells #[.bool false, .bool false, .slice Ad rt.length cp, .string ⟨#[]⟩, .string ⟨#[]⟩] 26)).drew := below_drew (below_alloc (Below.refl _ _) _); have BK5 := Aside0.mk (blk_below BK4.out hb5); have BP5 := Aside0.mk (show (w4.alloc (.cells #[.bool false, .bool false, .slice Ad rt.length cp, .string ⟨#[]⟩, .string ⟨#[]⟩] 26)).drew.heap[w4.heap.size]? = some (.cells #[.bool false, .bool false, .slice Ad rt.length cp, .string ⟨#[]⟩, .string ⟨#[]⟩] 26 (0, 0)) from blk_drew (blk_new _ _)); have HB5 := Aside0.mk (then_below HB4.out hb5); have HR5 := Aside0.mk (Kd.R_below HR4.out hb5); have HC5 := Aside0.mk (Kd.C_below HC4.out hb5); have GP := Aside0.mk HB4.out.size; have hne : gb ≠ w4.heap.size := Nat.ne_of_lt (blk_lt BK4.out); have hne2 : w4.heap.size ≠ gb := fun h => hne h.symm; clear hb5 HR4 HC4 hc0 hf0 hc1 hf1 hc2 hf2 hc3 hf3 hc4 hf4; generalize (w4.alloc (.cells #[.bool false, .bool false, .slice Ad rt.length cp, .string ⟨#[]⟩, .string ⟨#[]⟩] 26)).drew = w5 at BK5 BP5 HB5 HR5 HC5 ⊢; clear BK4 HB4; generalize w4.heap.size = gp at BP5 GP hne hne2 ⊢; obtain ⟨hc0, hc1, hc2, hc3, hc4, hf0, hf1, hf2, hf3, hf4⟩ := five BK5.out; obtain ⟨pc0, pc1, pc2, pc3, pc4, pf0, pf1, pf2, pf3, pf4⟩ := five BP5.out
  go_wp2_with (first | (go_at_call 30; (with_reducible refine (path_domains.calls k Ad cp rt 0 _ HC5.out HLE.out HDM.out ?hGG).mono ?_); (case hGG => exact HG.out.below HB5.out); rintro e' w6 ⟨rfl, hb6⟩; have BK6 := Aside0.mk (blk_below BK5.out hb6); have BP6 := Aside0.mk (blk_below BP5.out hb6); have HB6 := Aside0.mk (then_below HB5.out hb6); have HR6 := Aside0.mk (Kd.R_below HR5.out hb6); have HC6 := Aside0.mk (Kd.C_below HC5.out hb6); clear hb6; clear hc0 hf0 hc1 hf1 hc2 hf2 hc3 hf3 hc4 hf4; clear pc0 pf0 pc1 pf1 pc2 pf2 pc3 pf3 pc4 pf4; obtain ⟨hc0, hc1, hc2, hc3, hc4, hf0, hf1, hf2, hf3, hf4⟩ := five BK6.out; obtain ⟨pc0, pc1, pc2, pc3, pc4, pf0, pf1, pf2, pf3, pf4⟩ := five BP6.out) | (go_at_call 31; (with_reducible refine (text_Same.calls (s2.extract 0 m) ⟨#[112, 111, 115, 116, 109, 97, 115, 116, 101, 114]⟩ true _ HSM.out).mono ?_); rintro e' w7 ⟨rfl, hb7⟩; have BK7 := Aside0.mk (blk_below BK6.out hb7); have BP7 := Aside0.mk (blk_below BP6.out hb7); have HB7 := Aside0.mk (then_below HB6.out hb7); have HR7 := Aside0.mk (Kd.R_below HR6.out hb7); have HC7 := Aside0.mk (Kd.C_below HC6.out hb7); clear hb7; clear hc0 hf0 hc1 hf1 hc2 hf2 hc3 hf3 hc4 hf4; clear pc0 pf0 pc1 pf1 pc2 pf2 pc3 pf3 pc4 pf4; obtain ⟨hc0, hc1, hc2, hc3, hc4, hf0, hf1, hf2, hf3, hf4⟩ := five BK7.out; obtain ⟨pc0, pc1, pc2, pc3, pc4, pf0, pf1, pf2, pf3, pf4⟩ := five BP7.out))
  refine bodyPost_ret (results_ctt rfl _ _ gb 26 #[.bool false, .bool true, .slice Ad rt.length cp, .string ⟨#[]⟩, .string ⟨#[]⟩] (0, 0) _ rfl (by exact blk5 (blk_far BK7.out (by exact hne) _) rfl _ _ _ _ _) Tryz.underlying26 rfl (by kernel_rfl)) rfl ⟨_, rfl, by exact R5 (R1 HR7.out BP7.out (by decide) 1 _) (blk_far BK7.out (by exact hne) _) (by decide) rfl _ _ _ _ _, by exact below5 (below_set HB7.out GP.out) GE.out _ _ _ _ _⟩

set_option maxHeartbeats 8000000 in
set_option maxRecDepth 1000000 in
theorem parse_post_lw (k : Nat) (a0 s1 s2 : ByteArray) (rt : List ByteArray) (m : Nat) (wr : Int) (w : World) (hG : Glob w) (hcp : strings_CutPrefix.f a0 ⟨#[60]⟩ = some (s1, true)) (hrt : path_route.f k s1 = some (rt, s2, true)) (hen : path_ends.f k s2 = some (m : Int)) (hm : m < s2.size) (hs : s2.size ≤ 4294967280) (hs0 : a0.size ≤ 4294967280)
    (hdm : path_domains.f k rt = some wr) (hone : ((s2.extract 0 m).toList.isEmpty && ((rt.length : Int) == 0)) = false) (hrl : ((rt.length : Int) == 0) = true) (hsm : text_Same.f (s2.extract 0 m) master = some true) (hw : (wr != 0) = true) :
    Calls Tryz.prog 12 #[.string a0] w fun e w' => ∃ v2_ : Value, e = .returned (.tuple #[.agg #[.bool false, .bool false, v2_, .string ⟨#[]⟩, .string ⟨#[]⟩], .string ⟨#[]⟩, .int .i64 3]) ∧ Kd.R Kd.string 9 w' w.heap.size (fun _ => True) v2_ [] ∧ Below w.heap.size w w' := by
  have HCP := Aside0.mk hcp
  have HRT := Aside0.mk hrt
  have HEN := Aside0.mk hen
  have HDM := Aside0.mk hdm
  have HG := Aside0.mk hG
  clear hcp hrt hen hdm hG
  have huP := Tryz.underlying26
  have huA := Tryz.underlying24
  have hm1 : (m : Int) < (s2.size : Int) := by omega
  have hm2 : (m : Int) + 1 ≤ (s2.size : Int) := by omega
  have hoB : (s2.extract 0 m).toList.isEmpty = false := by simpa [hrl] using hone
  have hoC : ¬ (s2.extract 0 m).toList = [] := by simpa using hoB
  have HSM := Aside0.mk hsm
  unfold master at HSM
  clear hsm hone
  go_enter Tryz.func12, Tryz.ntmps12
  go_wp2_with (first | ((with_reducible refine gate_dst (N := 2) rfl ?_); refine box_event ?hg (N := 2) ?hd (cs := #[.bool false, .bool false, .slice none 0 0, .string ⟨#[]⟩, .string ⟨#[]⟩]) (t := 26) ?hr ?_; (case hd => rfl); (case hg => rfl); (case hr => first | (go_simp; done) | (go_simp; rfl)); intro gb hg w2 hbox hb; have HB0 := Aside0.mk hb; have BK := Aside0.mk hbox; have GE := Aside0.mk (Nat.le_of_eq hg.symm); clear hb hbox hg; obtain ⟨hc0, hc1, hc2, hc3, hc4, hf0, hf1, hf2, hf3, hf4⟩ := five BK.out) | (go_at_call 27; (with_reducible refine (strings_CutPrefix.calls a0 ⟨#[60]⟩ s1 true _ HCP.out).mono ?_); rintro e' w' ⟨rfl, ⟨nd, rfl⟩⟩) | (go_at_call 28; (with_reducible refine (path_route.calls k s1 rt s2 true _ HRT.out ?hGG).mono ?_); (case hGG => exact HG.out.below (pw_below_drewN HB0.out _)); rintro e' w3 ⟨v0, rfl, hR, hb3⟩; obtain ⟨Ad, cp, rfl, hle, hC⟩ := Kd.R_reads hR; have HR3 := Aside0.mk (Kd.R_lower hR (show w.heap.size ≤ _ from HB0.out.size)); have HC3 := Aside0.mk hC; have HLE := Aside0.mk hle; have BK3 := Aside0.mk (blk_below (blk_drewN BK.out _) hb3); have HB3 := Aside0.mk (then_below (pw_below_drewN HB0.out _) hb3); clear hR hC hle hb3; clear hc0 hf0 hc1 hf1 hc2 hf2 hc3 hf3 hc4 hf4; obtain ⟨hc0, hc1, hc2, hc3, hc4, hf0, hf1, hf2, hf3, hf4⟩ := five BK3.out) | (go_at_call 29; (with_reducible refine (path_ends.calls k s2 (m : Int) _ HEN.out).mono ?_); rintro e' w4 ⟨rfl, hb4⟩; have BK4 := Aside0.mk (blk_below BK3.out hb4); have HB4 := Aside0.mk (then_below HB3.out hb4); have HR4 := Aside0.mk (Kd.R_below HR3.out hb4); have HC4 := Aside0.mk (Kd.C_below HC3.out hb4); clear hb4; clear hc0 hf0 hc1 hf1 hc2 hf2 hc3 hf3 hc4 hf4; obtain ⟨hc0, hc1, hc2, hc3, hc4, hf0, hf1, hf2, hf3, hf4⟩ := five BK4.out))
  go_region
  have hb5 : Below w4.heap.size w4 (w4.alloc (.cells #[.bool false, .bool false, .slice Ad rt.length cp, .string ⟨#[]⟩, .string ⟨#[]⟩] 26)).drew := below_drew (below_alloc (Below.refl _ _) _); have BK5 := Aside0.mk (blk_below BK4.out hb5); have BP5 := Aside0.mk (show (w4.alloc (.cells #[.bool false, .bool false, .slice Ad rt.length cp, .string ⟨#[]⟩, .string ⟨#[]⟩] 26)).drew.heap[w4.heap.size]? = some (.cells #[.bool false, .bool false, .slice Ad rt.length cp, .string ⟨#[]⟩, .string ⟨#[]⟩] 26 (0, 0)) from blk_drew (blk_new _ _)); have HB5 := Aside0.mk (then_below HB4.out hb5); have HR5 := Aside0.mk (Kd.R_below HR4.out hb5); have HC5 := Aside0.mk (Kd.C_below HC4.out hb5); have GP := Aside0.mk HB4.out.size; have hne : gb ≠ w4.heap.size := Nat.ne_of_lt (blk_lt BK4.out); have hne2 : w4.heap.size ≠ gb := fun h => hne h.symm; clear hb5 HR4 HC4 hc0 hf0 hc1 hf1 hc2 hf2 hc3 hf3 hc4 hf4; generalize (w4.alloc (.cells #[.bool false, .bool false, .slice Ad rt.length cp, .string ⟨#[]⟩, .string ⟨#[]⟩] 26)).drew = w5 at BK5 BP5 HB5 HR5 HC5 ⊢; clear BK4 HB4; generalize w4.heap.size = gp at BP5 GP hne hne2 ⊢; obtain ⟨hc0, hc1, hc2, hc3, hc4, hf0, hf1, hf2, hf3, hf4⟩ := five BK5.out; obtain ⟨pc0, pc1, pc2, pc3, pc4, pf0, pf1, pf2, pf3, pf4⟩ := five BP5.out
  go_wp2_with (first | (go_at_call 30; (with_reducible refine (path_domains.calls k Ad cp rt wr _ HC5.out HLE.out HDM.out ?hGG).mono ?_); (case hGG => exact HG.out.below HB5.out); rintro e' w6 ⟨rfl, hb6⟩; have BK6 := Aside0.mk (blk_below BK5.out hb6); have BP6 := Aside0.mk (blk_below BP5.out hb6); have HB6 := Aside0.mk (then_below HB5.out hb6); have HR6 := Aside0.mk (Kd.R_below HR5.out hb6); have HC6 := Aside0.mk (Kd.C_below HC5.out hb6); clear hb6; clear hc0 hf0 hc1 hf1 hc2 hf2 hc3 hf3 hc4 hf4; clear pc0 pf0 pc1 pf1 pc2 pf2 pc3 pf3 pc4 pf4; obtain ⟨hc0, hc1, hc2, hc3, hc4, hf0, hf1, hf2, hf3, hf4⟩ := five BK6.out; obtain ⟨pc0, pc1, pc2, pc3, pc4, pf0, pf1, pf2, pf3, pf4⟩ := five BP6.out) | (go_at_call 31; (with_reducible refine (text_Same.calls (s2.extract 0 m) ⟨#[112, 111, 115, 116, 109, 97, 115, 116, 101, 114]⟩ true _ HSM.out).mono ?_); rintro e' w7 ⟨rfl, hb7⟩; have BK7 := Aside0.mk (blk_below BK6.out hb7); have BP7 := Aside0.mk (blk_below BP6.out hb7); have HB7 := Aside0.mk (then_below HB6.out hb7); have HR7 := Aside0.mk (Kd.R_below HR6.out hb7); have HC7 := Aside0.mk (Kd.C_below HC6.out hb7); clear hb7; clear hc0 hf0 hc1 hf1 hc2 hf2 hc3 hf3 hc4 hf4; clear pc0 pf0 pc1 pf1 pc2 pf2 pc3 pf3 pc4 pf4; obtain ⟨hc0, hc1, hc2, hc3, hc4, hf0, hf1, hf2, hf3, hf4⟩ := five BK7.out; obtain ⟨pc0, pc1, pc2, pc3, pc4, pf0, pf1, pf2, pf3, pf4⟩ := five BP7.out))
  refine bodyPost_ret (results_ctt rfl _ _ gb 26 #[.bool false, .bool false, .slice none 0 0, .string ⟨#[]⟩, .string ⟨#[]⟩] (0, 0) _ rfl (by exact blk5 (blk_far BK7.out (by exact hne) _) rfl _ _ _ _ _) Tryz.underlying26 rfl (by kernel_rfl)) rfl ⟨_, rfl, Kd.R_nil _ _ _ _ _, by exact below5 (below_set HB7.out GP.out) GE.out _ _ _ _ _⟩

set_option maxHeartbeats 8000000 in
set_option maxRecDepth 1000000 in
theorem parse_post_ls (k : Nat) (a0 s1 s2 : ByteArray) (rt : List ByteArray) (m : Nat) (wr : Int) (w : World) (hG : Glob w) (hcp : strings_CutPrefix.f a0 ⟨#[60]⟩ = some (s1, true)) (hrt : path_route.f k s1 = some (rt, s2, true)) (hen : path_ends.f k s2 = some (m : Int)) (hm : m < s2.size) (hs : s2.size ≤ 4294967280) (hs0 : a0.size ≤ 4294967280)
    (hdm : path_domains.f k rt = some wr) (hone : ((s2.extract 0 m).toList.isEmpty && ((rt.length : Int) == 0)) = false) (hrl : ((rt.length : Int) == 0) = true) (hsm : text_Same.f (s2.extract 0 m) master = some true) (hw : wr = 0) (hsz : 256 < (a0.size : Int) - ((s2.size - (m + 1) : Nat) : Int)) :
    Calls Tryz.prog 12 #[.string a0] w fun e w' => ∃ v2_ : Value, e = .returned (.tuple #[.agg #[.bool false, .bool false, v2_, .string ⟨#[]⟩, .string ⟨#[]⟩], .string ⟨#[]⟩, .int .i64 3]) ∧ Kd.R Kd.string 9 w' w.heap.size (fun _ => True) v2_ [] ∧ Below w.heap.size w w' := by
  have HCP := Aside0.mk hcp
  have HRT := Aside0.mk hrt
  have HEN := Aside0.mk hen
  have HDM := Aside0.mk hdm
  have HG := Aside0.mk hG
  clear hcp hrt hen hdm hG
  have huP := Tryz.underlying26
  have huA := Tryz.underlying24
  have hm1 : (m : Int) < (s2.size : Int) := by omega
  have hm2 : (m : Int) + 1 ≤ (s2.size : Int) := by omega
  subst hw
  have hoB : (s2.extract 0 m).toList.isEmpty = false := by simpa [hrl] using hone
  have hoC : ¬ (s2.extract 0 m).toList = [] := by simpa using hoB
  have HSM := Aside0.mk hsm
  unfold master at HSM
  clear hsm hone
  go_enter Tryz.func12, Tryz.ntmps12
  go_wp2_with (first | ((with_reducible refine gate_dst (N := 2) rfl ?_); refine box_event ?hg (N := 2) ?hd (cs := #[.bool false, .bool false, .slice none 0 0, .string ⟨#[]⟩, .string ⟨#[]⟩]) (t := 26) ?hr ?_; (case hd => rfl); (case hg => rfl); (case hr => first | (go_simp; done) | (go_simp; rfl)); intro gb hg w2 hbox hb; have HB0 := Aside0.mk hb; have BK := Aside0.mk hbox; have GE := Aside0.mk (Nat.le_of_eq hg.symm); clear hb hbox hg; obtain ⟨hc0, hc1, hc2, hc3, hc4, hf0, hf1, hf2, hf3, hf4⟩ := five BK.out) | (go_at_call 27; (with_reducible refine (strings_CutPrefix.calls a0 ⟨#[60]⟩ s1 true _ HCP.out).mono ?_); rintro e' w' ⟨rfl, ⟨nd, rfl⟩⟩) | (go_at_call 28; (with_reducible refine (path_route.calls k s1 rt s2 true _ HRT.out ?hGG).mono ?_); (case hGG => exact HG.out.below (pw_below_drewN HB0.out _)); rintro e' w3 ⟨v0, rfl, hR, hb3⟩; obtain ⟨Ad, cp, rfl, hle, hC⟩ := Kd.R_reads hR; have HR3 := Aside0.mk (Kd.R_lower hR (show w.heap.size ≤ _ from HB0.out.size)); have HC3 := Aside0.mk hC; have HLE := Aside0.mk hle; have BK3 := Aside0.mk (blk_below (blk_drewN BK.out _) hb3); have HB3 := Aside0.mk (then_below (pw_below_drewN HB0.out _) hb3); clear hR hC hle hb3; clear hc0 hf0 hc1 hf1 hc2 hf2 hc3 hf3 hc4 hf4; obtain ⟨hc0, hc1, hc2, hc3, hc4, hf0, hf1, hf2, hf3, hf4⟩ := five BK3.out) | (go_at_call 29; (with_reducible refine (path_ends.calls k s2 (m : Int) _ HEN.out).mono ?_); rintro e' w4 ⟨rfl, hb4⟩; have BK4 := Aside0.mk (blk_below BK3.out hb4); have HB4 := Aside0.mk (then_below HB3.out hb4); have HR4 := Aside0.mk (Kd.R_below HR3.out hb4); have HC4 := Aside0.mk (Kd.C_below HC3.out hb4); clear hb4; clear hc0 hf0 hc1 hf1 hc2 hf2 hc3 hf3 hc4 hf4; obtain ⟨hc0, hc1, hc2, hc3, hc4, hf0, hf1, hf2, hf3, hf4⟩ := five BK4.out))
  go_region
  have hb5 : Below w4.heap.size w4 (w4.alloc (.cells #[.bool false, .bool false, .slice Ad rt.length cp, .string ⟨#[]⟩, .string ⟨#[]⟩] 26)).drew := below_drew (below_alloc (Below.refl _ _) _); have BK5 := Aside0.mk (blk_below BK4.out hb5); have BP5 := Aside0.mk (show (w4.alloc (.cells #[.bool false, .bool false, .slice Ad rt.length cp, .string ⟨#[]⟩, .string ⟨#[]⟩] 26)).drew.heap[w4.heap.size]? = some (.cells #[.bool false, .bool false, .slice Ad rt.length cp, .string ⟨#[]⟩, .string ⟨#[]⟩] 26 (0, 0)) from blk_drew (blk_new _ _)); have HB5 := Aside0.mk (then_below HB4.out hb5); have HR5 := Aside0.mk (Kd.R_below HR4.out hb5); have HC5 := Aside0.mk (Kd.C_below HC4.out hb5); have GP := Aside0.mk HB4.out.size; have hne : gb ≠ w4.heap.size := Nat.ne_of_lt (blk_lt BK4.out); have hne2 : w4.heap.size ≠ gb := fun h => hne h.symm; clear hb5 HR4 HC4 hc0 hf0 hc1 hf1 hc2 hf2 hc3 hf3 hc4 hf4; generalize (w4.alloc (.cells #[.bool false, .bool false, .slice Ad rt.length cp, .string ⟨#[]⟩, .string ⟨#[]⟩] 26)).drew = w5 at BK5 BP5 HB5 HR5 HC5 ⊢; clear BK4 HB4; generalize w4.heap.size = gp at BP5 GP hne hne2 ⊢; obtain ⟨hc0, hc1, hc2, hc3, hc4, hf0, hf1, hf2, hf3, hf4⟩ := five BK5.out; obtain ⟨pc0, pc1, pc2, pc3, pc4, pf0, pf1, pf2, pf3, pf4⟩ := five BP5.out
  go_wp2_with (first | (go_at_call 30; (with_reducible refine (path_domains.calls k Ad cp rt 0 _ HC5.out HLE.out HDM.out ?hGG).mono ?_); (case hGG => exact HG.out.below HB5.out); rintro e' w6 ⟨rfl, hb6⟩; have BK6 := Aside0.mk (blk_below BK5.out hb6); have BP6 := Aside0.mk (blk_below BP5.out hb6); have HB6 := Aside0.mk (then_below HB5.out hb6); have HR6 := Aside0.mk (Kd.R_below HR5.out hb6); have HC6 := Aside0.mk (Kd.C_below HC5.out hb6); clear hb6; clear hc0 hf0 hc1 hf1 hc2 hf2 hc3 hf3 hc4 hf4; clear pc0 pf0 pc1 pf1 pc2 pf2 pc3 pf3 pc4 pf4; obtain ⟨hc0, hc1, hc2, hc3, hc4, hf0, hf1, hf2, hf3, hf4⟩ := five BK6.out; obtain ⟨pc0, pc1, pc2, pc3, pc4, pf0, pf1, pf2, pf3, pf4⟩ := five BP6.out) | (go_at_call 31; (with_reducible refine (text_Same.calls (s2.extract 0 m) ⟨#[112, 111, 115, 116, 109, 97, 115, 116, 101, 114]⟩ true _ HSM.out).mono ?_); rintro e' w7 ⟨rfl, hb7⟩; have BK7 := Aside0.mk (blk_below BK6.out hb7); have BP7 := Aside0.mk (blk_below BP6.out hb7); have HB7 := Aside0.mk (then_below HB6.out hb7); have HR7 := Aside0.mk (Kd.R_below HR6.out hb7); have HC7 := Aside0.mk (Kd.C_below HC6.out hb7); clear hb7; clear hc0 hf0 hc1 hf1 hc2 hf2 hc3 hf3 hc4 hf4; clear pc0 pf0 pc1 pf1 pc2 pf2 pc3 pf3 pc4 pf4; obtain ⟨hc0, hc1, hc2, hc3, hc4, hf0, hf1, hf2, hf3, hf4⟩ := five BK7.out; obtain ⟨pc0, pc1, pc2, pc3, pc4, pf0, pf1, pf2, pf3, pf4⟩ := five BP7.out))
  refine bodyPost_ret (results_ctt rfl _ _ gb 26 #[.bool false, .bool false, .slice none 0 0, .string ⟨#[]⟩, .string ⟨#[]⟩] (0, 0) _ rfl (by exact blk5 (blk_far BK7.out (by exact hne) _) rfl _ _ _ _ _) Tryz.underlying26 rfl (by kernel_rfl)) rfl ⟨_, rfl, Kd.R_nil _ _ _ _ _, by exact below5 (below_set HB7.out GP.out) GE.out _ _ _ _ _⟩

end Go.Proofs.YtmhcdigneamgdaaGreatDoor.G
