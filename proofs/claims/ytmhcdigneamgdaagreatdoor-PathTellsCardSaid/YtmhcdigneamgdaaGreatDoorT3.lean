/- Parts of the proof, put together: Qa2, Qa, PSplit, Atm, PDom, Dom, PCut. -/
import Derived.Test.YtmhcdigneamgdaaGreatDoorT1
import Derived.Test.YtmhcdigneamgdaaGreatDoorT2
import Derived.Test.YtmhcdigneamgdaaGreatDoorT0
import Derived.Test.YtmhcdigneamgdaaGreatDoorWLast
import Derived.Laws.BitsLemmas
namespace Go.Proofs.YtmhcdigneamgdaaGreatDoor.Qa
open Go.RowKit Go.Proofs.YtmhcdigneamgdaaGreatDoor.G Go.Proofs.YtmhcdigneamgdaaGreatDoorW.PrintWords Go.Proofs.YtmhcdigneamgdaaGreatDoorW.PrintLast Go.Proofs.YtmhcdigneamgdaaGreatDoorW.PrintMore
attribute [local go_sem] max2_int min2_int max_two min_two max_three min_three max_four min_four   -- for this text's walks alone
set_option linter.unusedVariables false
set_option linter.unusedSimpArgs false

/-! ### text_pair: function 90 -/
def text_pair.f (a0 : ByteArray) (a1 : Int) : Option (Int × Int) := if (wrap64 (a1 + 1)) ≥ (a0.size : Int) then (some (0, 4)) else (if 0 ≤ (wrap64 (a1 + 1)) then (if (wrap64 (a1 + 1)) < (a0.size : Int) then ((text_plain.f (bt a0 (wrap64 (a1 + 1)))).bind fun t119 => (if t119 = true then (some (bt a0 (wrap64 (a1 + 1)), 0)) else (some (0, 5)))) else (none)) else (none))
set_option maxHeartbeats 8000000 in
set_option maxRecDepth 100000 in
theorem text_pair.calls (a0 : ByteArray) (a1 : Int) (r1 : Int) (r2 : Int) (w : World) (h : text_pair.f a0 a1 = some (r1, r2)) :
    Calls Tryz.prog 90 #[.string a0, .int .i64 a1] w fun e w' => e = .returned (.tuple #[.int .u8 r1, .int .i64 r2]) ∧ Drawn0 w w' := by
  have H : (if (wrap64 (a1 + 1)) ≥ (a0.size : Int) then (some (0, 4)) else (if 0 ≤ (wrap64 (a1 + 1)) then (if (wrap64 (a1 + 1)) < (a0.size : Int) then ((text_plain.f (bt a0 (wrap64 (a1 + 1)))).bind fun t119 => (if t119 = true then (some (bt a0 (wrap64 (a1 + 1)), 0)) else (some (0, 5)))) else (none)) else (none))) = some (r1, r2) := h
  clear h
  by_cases c3 : (wrap64 (a1 + 1)) ≥ (a0.size : Int)
  · rw [if_pos c3] at H
    have c3b0 : decide ((a0.size : Int) ≤ (wrap64 (a1 + 1))) = true := decide_eq_true c3
    clear c3
    simp only [Option.some.injEq, Prod.mk.injEq] at H
    obtain ⟨rfl, rfl⟩ := H
    go_enter Tryz.func90, Tryz.ntmps90
    go_wp2
    go_ret2
    exact ⟨by first | rfl | (simp; done) | (simp [*]; done), by repeat (first | exact Drawn0.refl _ | apply Drawn0.step)⟩
  · rw [if_neg c3] at H
    have c3b0 : decide ((a0.size : Int) ≤ (wrap64 (a1 + 1))) = false := decide_eq_false c3
    clear c3
    obtain ⟨ji4, hji4⟩ : ∃ j_ : Int, (wrap64 (a1 + 1)) = j_ := ⟨_, rfl⟩
    replace H : (if 0 ≤ (ji4) then (if (ji4) < (a0.size : Int) then ((text_plain.f (bt a0 (ji4))).bind fun t119 => (if t119 = true then (some (bt a0 (ji4), 0)) else (some (0, 5)))) else (none)) else (none)) = some (r1, r2) := by first | (rw [hji4] at H; exact H) | (simp only [hji4] at H ⊢; exact H)
    (try rw [hji4] at c3b0)
    have hji4w : (IntKind.i64.wrap (a1 + 1)) = ji4 := (i64_w _).trans hji4
    by_cases c5 : 0 ≤ (ji4)
    · rw [if_pos c5] at H
      have c5b0 : decide (0 ≤ (ji4)) = true := decide_eq_true c5
      clear c5
      by_cases c6 : (ji4) < (a0.size : Int)
      · rw [if_pos c6] at H
        have c6b0 : decide ((ji4) < (a0.size : Int)) = true := decide_eq_true c6
        clear c6
        replace H := Option.bind_eq_some_iff.mp H
        obtain ⟨t119, A80, H⟩ := H
        replace H : (if t119 = true then (some (bt a0 (ji4), 0)) else (some (0, 5))) = some (r1, r2) := H
        have A8 := Aside0.mk A80
        clear A80
        by_cases c9 : t119 = true
        · subst c9
          have H1 : (some (bt a0 (ji4), 0)) = some (r1, r2) := by rw [if_pos rfl] at H; exact H
          clear H
          have H := H1
          clear H1
          simp only [Option.some.injEq, Prod.mk.injEq] at H
          obtain ⟨rfl, rfl⟩ := H
          have p7 : 0 ≤ ((ji4) : Int) := of_decide_eq_true (by first | (with_reducible assumption) | assumption)
          have q7 : (ji4) < (a0.size : Int) := of_decide_eq_true (by first | (with_reducible assumption) | assumption)
          have hx7 := bt_at a0 (ji4)
          replace p7 := eq_true p7
          replace q7 := eq_true q7
          go_enter Tryz.func90, Tryz.ntmps90
          go_wp2_with (first | ((with_reducible refine gate_callee (f := 54) rfl ?_); refine goesL_ (some 17) rfl rfl Tryz.func54 (by kernel_rfl) rfl #[.int .u8 (bt a0 (ji4))] rfl (by (try simp only [List.map_toArray, List.map_cons, List.map_nil]); first | done | (simp only [hji4]; rfl) | rfl | (simp only [List.length_drop, List.length_take]; rfl)) ?_; (with_reducible refine (text_plain.calls (bt a0 (ji4)) true _ A8.out).mono ?_); rintro e w' ⟨rfl, ⟨nd, rfl⟩⟩; refine ⟨_, rfl, ?_⟩; have p10 : 0 ≤ ((ji4) : Int) := of_decide_eq_true (by first | (with_reducible assumption) | assumption); have q10 : (ji4) < (a0.size : Int) := of_decide_eq_true (by first | (with_reducible assumption) | assumption); have hx10 := bt_at a0 (ji4); replace p10 := eq_true p10; replace q10 := eq_true q10))
          go_ret2
          exact ⟨by first | rfl | (simp; done) | (simp only [← hji4] <;> (first | rfl | simp)) | (simp [*]; done), by repeat (first | exact Drawn0.refl _ | apply Drawn0.step)⟩
        · replace c9 := Bool.eq_false_iff.mpr c9
          subst c9
          have H1 : (some (0, 5)) = some (r1, r2) := by rw [if_neg (show ¬ (false = true) by decide)] at H; exact H
          clear H
          have H := H1
          clear H1
          simp only [Option.some.injEq, Prod.mk.injEq] at H
          obtain ⟨rfl, rfl⟩ := H
          have p7 : 0 ≤ ((ji4) : Int) := of_decide_eq_true (by first | (with_reducible assumption) | assumption)
          have q7 : (ji4) < (a0.size : Int) := of_decide_eq_true (by first | (with_reducible assumption) | assumption)
          have hx7 := bt_at a0 (ji4)
          replace p7 := eq_true p7
          replace q7 := eq_true q7
          go_enter Tryz.func90, Tryz.ntmps90
          go_wp2_with (first | ((with_reducible refine gate_callee (f := 54) rfl ?_); refine goesL_ (some 17) rfl rfl Tryz.func54 (by kernel_rfl) rfl #[.int .u8 (bt a0 (ji4))] rfl (by (try simp only [List.map_toArray, List.map_cons, List.map_nil]); first | done | (simp only [hji4]; rfl) | rfl | (simp only [List.length_drop, List.length_take]; rfl)) ?_; (with_reducible refine (text_plain.calls (bt a0 (ji4)) false _ A8.out).mono ?_); rintro e w' ⟨rfl, ⟨nd, rfl⟩⟩; refine ⟨_, rfl, ?_⟩))
          go_ret2
          exact ⟨by first | rfl | (simp; done) | (simp only [← hji4] <;> (first | rfl | simp)) | (simp [*]; done), by repeat (first | exact Drawn0.refl _ | apply Drawn0.step)⟩
      · rw [if_neg c6] at H
        exact absurd H (by simp)
    · rw [if_neg c5] at H
      exact absurd H (by simp)

/-! ### text_Quoted: function 58 -/
mutual
def text_Quoted.j0 : Nat → ByteArray → Bool → Option (ByteArray × Int × Int)
  | 0, _, _ => none
  | k + 1, x0, x14 => if x14 = true then (some ((⟨#[]⟩ : ByteArray), 0, 5)) else (text_Quoted.l0 k x0 ([] : List Int) 1)
def text_Quoted.l0 : Nat → ByteArray → List Int → Int → Option (ByteArray × Int × Int)
  | 0, _, _, _ => none
  | k + 1, x0, x5, x6 => if x6 < (x0.size : Int) then (if 0 ≤ x6 then (if (bt x0 x6) = 34 then (some (strOfNums x5, wrap64 (x6 + 1), 0)) else (if (bt x0 x6) = 92 then ((text_pair.f x0 x6).bind fun bt120 => (if bt120.2 = 0 then (if x5.length < 140737488355328 then (text_Quoted.l0 k x0 (x5 ++ [bt120.1]) (wrap64 ((wrap64 (x6 + 1)) + 1))) else (none)) else (some ((⟨#[]⟩ : ByteArray), 0, bt120.2)))) else ((text_plain.f (bt x0 x6)).bind fun t125 => (if t125 = true then (if x5.length < 140737488355328 then (text_Quoted.l0 k x0 (x5 ++ [bt x0 x6]) (wrap64 (x6 + 1))) else (none)) else (some ((⟨#[]⟩ : ByteArray), 0, 5)))))) else (none)) else (some ((⟨#[]⟩ : ByteArray), 0, 4))
end
def text_Quoted.f (k : Nat) (a0 : ByteArray) : Option (ByteArray × Int × Int) := if a0.toList = ([] : List UInt8) then (text_Quoted.j0 k a0 true) else (if 0 < (a0.size : Int) then (text_Quoted.j0 k a0 ((bt a0 0) != 34)) else (none))
theorem text_Quoted.mono_l : ∀ k, (∀ y0 y1, LeO (text_Quoted.j0 k y0 y1) (text_Quoted.j0 (k + 1) y0 y1)) ∧ (∀ y0 y1 y2, LeO (text_Quoted.l0 k y0 y1 y2) (text_Quoted.l0 (k + 1) y0 y1 y2))
  | 0 => ⟨fun _ _ r h => by simp [text_Quoted.j0] at h, fun _ _ _ r h => by simp [text_Quoted.l0] at h⟩
  | k + 1 => by
    obtain ⟨ih0, ih1⟩ := text_Quoted.mono_l k
    refine ⟨?_, ?_⟩
    · intro y0 y1
      unfold text_Quoted.j0
      repeat' first
      | (with_reducible exact ih0 _ _)
      | (with_reducible exact ih1 _ _ _)
      | (with_reducible exact LeO.refl _)
      | (with_reducible exact LeO.none _)
      | (with_reducible refine LeO.ite ?_ ?_)
      | (with_reducible refine LeO.bind ?_ (fun _ => ?_))
      | exact ih0 _ _
      | exact ih1 _ _ _
      | exact LeO.none _
      | refine LeO.ite ?_ ?_
      | refine LeO.bind ?_ (fun _ => ?_)
    · intro y0 y1 y2
      unfold text_Quoted.l0
      repeat' first
      | (with_reducible exact ih0 _ _)
      | (with_reducible exact ih1 _ _ _)
      | (with_reducible exact LeO.refl _)
      | (with_reducible exact LeO.none _)
      | (with_reducible refine LeO.ite ?_ ?_)
      | (with_reducible refine LeO.bind ?_ (fun _ => ?_))
      | exact ih0 _ _
      | exact ih1 _ _ _
      | exact LeO.none _
      | refine LeO.ite ?_ ?_
      | refine LeO.bind ?_ (fun _ => ?_)
theorem text_Quoted.mono : ∀ a0 k, LeO (text_Quoted.f k a0) (text_Quoted.f (k + 1) a0) := by
  intro a0 k
  obtain ⟨ih0, ih1⟩ := text_Quoted.mono_l k
  unfold text_Quoted.f
  repeat' first
      | (with_reducible exact ih0 _ _)
      | (with_reducible exact ih1 _ _ _)
      | (with_reducible exact LeO.refl _)
      | (with_reducible exact LeO.none _)
      | (with_reducible refine LeO.ite ?_ ?_)
      | (with_reducible refine LeO.bind ?_ (fun _ => ?_))
      | exact ih0 _ _
      | exact ih1 _ _ _
      | exact LeO.none _
      | refine LeO.ite ?_ ?_
      | refine LeO.bind ?_ (fun _ => ?_)
set_option maxHeartbeats 8000000 in
set_option maxRecDepth 100000 in
theorem text_Quoted.calls (k : Nat) (a0 : ByteArray) (r1 : ByteArray) (r2 : Int) (r3 : Int) (w : World) (h : text_Quoted.f k a0 = some (r1, r2, r3)) :
    Calls Tryz.prog 58 #[.string a0] w fun e w' => e = .returned (.tuple #[.string r1, .int .i64 r2, .int .i64 r3]) ∧ Below w.heap.size w w' := by
  have HB := Aside0.mk (Below.refl w.heap.size w)
  have H : (if a0.toList = ([] : List UInt8) then (text_Quoted.j0 k a0 true) else (if 0 < (a0.size : Int) then (text_Quoted.j0 k a0 ((bt a0 0) != 34)) else (none))) = some (r1, r2, r3) := h
  clear h
  have HC2 := Aside0.mk H
  clear H
  go_enter Tryz.func58, Tryz.ntmps58
  go_upto_region 1 with (fail)
  go_cut [14] (fun v14 wc => ∃ (kq : Nat) (x14_1 : Bool), v14 = .bool x14_1 ∧ Aside0 (text_Quoted.j0 kq a0 x14_1 = some (r1, r2, r3)) ∧ Aside0 (kq ≤ k) ∧ Aside0 (Below w.heap.size w wc))
  case first =>
    have H := HC2.out
    clear HC2
    by_cases c3 : a0.toList = ([] : List UInt8)
    · rw [if_pos c3] at H
      have c3b0 : (a0.toList == ([] : List UInt8)) = true := beq_iff_eq.mpr c3
      have c3b1 : (a0.toList != ([] : List UInt8)) = false := bne_eq_false_iff_eq.mpr c3
      clear c3
      (first | rw [c3b0] | (simp only [i64_w, i32_w]; rw [c3b0]) | skip)
      have H' := Aside0.mk H
      clear H
      go_wp2
      go_meet
      case rel => exact ⟨_, (true), (by first | rfl | (simp; done) | (simp [*]; done)), H', ⟨by first | omega | exact Nat.le_refl _⟩, ⟨by repeat (first | (with_reducible first | exact HB.out | apply below_alloc | apply pw_below_drewN | apply below_drew1) | exact HB.out)⟩⟩
    · rw [if_neg c3] at H
      have c3b0 : (a0.toList == ([] : List UInt8)) = false := beq_eq_false_iff_ne.mpr c3
      have c3b1 : (a0.toList != ([] : List UInt8)) = true := bne_iff_ne.mpr c3
      (first | rw [c3b0] | (simp only [i64_w, i32_w]; rw [c3b0]) | skip)
      by_cases c4 : 0 < (a0.size : Int)
      · rw [if_pos c4] at H
        have c4b0 : decide (0 < (a0.size : Int)) = true := decide_eq_true c4
        have c4b1 : decide (0 < a0.size) = true := decide_eq_true (by omega)
        clear c4
        have H' := Aside0.mk H
        clear H
        have p5 : 0 ≤ (0 : Int) := (by omega)
        have q5 : 0 < a0.size := (by have : (0 : Int) < (a0.size : Int) := of_decide_eq_true (by first | (with_reducible assumption) | assumption); omega)
        have hx5 : ∀ h : 0 < a0.size, ((a0[0]'h).toNat : Int) = bt a0 0 := bt_at a0 0
        clear p5
        have qi5 : (0 < (a0.size : Int)) = True := eq_true (of_decide_eq_true (by first | (with_reducible assumption) | assumption))
        replace q5 := eq_true q5
        go_wp2
        go_meet
        case rel => exact ⟨_, (((bt a0 0) != 34)), (by first | rfl | (simp; done) | (simp [*]; done)), H', ⟨by first | omega | exact Nat.le_refl _⟩, ⟨by repeat (first | (with_reducible first | exact HB.out | apply below_alloc | apply pw_below_drewN | apply below_drew1) | exact HB.out)⟩⟩
      · rw [if_neg c4] at H
        exact absurd H (by simp)
  case rest =>
    clear HC2
    try clear p2
    try clear c3
    try clear c3b0
    try clear c3b1
    try clear c4
    try clear c4b0
    try clear c4b1
    try clear c5
    try clear p5
    try clear q5
    try clear hx5
    try clear qi5
    try clear p5
    try clear q5
    obtain ⟨kq, x14_1, rfl, HA, HJ1, HB⟩ := hcut
    cases kq with
    | zero => exact absurd HA.out (by simp [text_Quoted.j0])
    | succ kj1 =>
      have H := HA.out
      clear HA
      simp only [text_Quoted.j0] at H
      by_cases c6 : x14_1 = true
      · subst c6
        have H1 : (some ((⟨#[]⟩ : ByteArray), 0, 5)) = some (r1, r2, r3) := by rw [if_pos rfl] at H; exact H
        clear H
        have H := H1
        clear H1
        simp only [Option.some.injEq, Prod.mk.injEq] at H
        obtain ⟨rfl, rfl, rfl⟩ := H
        go_wp2
        go_ret3
        exact ⟨by first | rfl | (simp [errW_none, errW_some] <;> rfl) | (simp [*, errW_none, errW_some] <;> rfl) | (simp [ne_nil_b]; done) | (simp [*, ne_nil_b]; done), by repeat (first | (with_reducible first | exact HB.out | apply below_alloc | apply pw_below_drewN | apply below_drew1) | exact HB.out)⟩
      · replace c6 := Bool.eq_false_iff.mpr c6
        subst c6
        have H1 : (text_Quoted.l0 kj1 a0 ([] : List Int) 1) = some (r1, r2, r3) := by rw [if_neg (show ¬ (false = true) by decide)] at H; exact H
        clear H
        have H := H1
        clear H1
        have H' := Aside0.mk H
        clear H
        go_wp2
        go_loopg [5, 6] kj1 (fun kq v5 v6 w' => ∃ (x5_2 : List Int) (x6_2 : Int), v6 = .int .i64 x6_2 ∧ Aside0 (text_Quoted.l0 kq a0 x5_2 x6_2 = some (r1, r2, r3)) ∧ Aside0 (kq ≤ kj1) ∧ Aside0 (Kd.R (Kd.int .u8) 5 w' w.heap.size (fun _ => True) v5 x5_2) ∧ Aside0 (Below w.heap.size w w'))
        case atStart => exact ⟨(([] : List Int)), (1), (by first | rfl | (simp; done) | (simp [*]; done)), H', ⟨Nat.le_refl _⟩, ⟨by first | exact Kd.R_nil _ _ _ _ _ | exact Kd.N_nil _ _ _ _ _ | exact Kd.V_nil _ _ _ _ _ | exact Kd.Q_nil _ _ _ _ _ | exact Kd.S_nil _ _ _ _ _⟩, ⟨by repeat (first | (with_reducible first | exact HB.out | apply below_alloc | apply pw_below_drewN | apply below_drew1) | exact HB.out)⟩⟩
        case round =>
          clear H'
          try clear p2
          try clear c3
          try clear c3b0
          try clear c3b1
          try clear c4
          try clear c4b0
          try clear c4b1
          try clear c5
          try clear p5
          try clear q5
          try clear hx5
          try clear qi5
          try clear c6
          try clear p2
          try clear p5
          try clear q5
          obtain ⟨x5_2, x6_2, rfl, HA, HK2, HO_5, HB⟩ := hrel
          cases gk with
          | zero => exact absurd HA.out (by simp [text_Quoted.l0])
          | succ k2 =>
            have H := HA.out
            clear HA
            simp only [text_Quoted.l0] at H
            by_cases c7 : x6_2 < (a0.size : Int)
            · rw [if_pos c7] at H
              have c7b0 : decide (x6_2 < (a0.size : Int)) = true := decide_eq_true c7
              clear c7
              by_cases c8 : 0 ≤ x6_2
              · rw [if_pos c8] at H
                have c8b0 : decide (0 ≤ x6_2) = true := decide_eq_true c8
                clear c8
                by_cases c10 : (bt a0 x6_2) = 34
                · rw [if_pos c10] at H
                  have c10b0 : ((bt a0 x6_2) == 34) = true := beq_iff_eq.mpr c10
                  have c10b1 : ((bt a0 x6_2) != 34) = false := bne_eq_false_iff_eq.mpr c10
                  clear c10
                  simp only [Option.some.injEq, Prod.mk.injEq] at H
                  obtain ⟨rfl, rfl, rfl⟩ := H
                  have p9 : 0 ≤ (x6_2 : Int) := of_decide_eq_true (by first | (with_reducible assumption) | assumption)
                  have q9 : x6_2 < (a0.size : Int) := of_decide_eq_true (by first | (with_reducible assumption) | assumption)
                  have hx9 := bt_at a0 x6_2
                  replace p9 := eq_true p9
                  replace q9 := eq_true q9
                  have hcv11 := own_string (P := Tryz.prog) Tryz.underlying55 Tryz.underlying5 Tryz.underlying9 (Kd.own_of_R HO_5.out)
                  go_wp2
                  go_ret3
                  exact ⟨by first | rfl | (simp [errW_none, errW_some] <;> rfl) | (simp [*, errW_none, errW_some] <;> rfl) | (simp [ne_nil_b]; done) | (simp [*, ne_nil_b]; done), by repeat (first | (with_reducible first | exact HB.out | apply below_alloc | apply pw_below_drewN | apply below_drew1) | exact HB.out)⟩
                · rw [if_neg c10] at H
                  have c10b0 : ((bt a0 x6_2) == 34) = false := beq_eq_false_iff_ne.mpr c10
                  have c10b1 : ((bt a0 x6_2) != 34) = true := bne_iff_ne.mpr c10
                  by_cases c12 : (bt a0 x6_2) = 92
                  · rw [if_pos c12] at H
                    have c12b0 : ((bt a0 x6_2) == 92) = true := beq_iff_eq.mpr c12
                    have c12b1 : ((bt a0 x6_2) != 92) = false := bne_eq_false_iff_eq.mpr c12
                    clear c12
                    replace H := Option.bind_eq_some_iff.mp H
                    obtain ⟨⟨t120, t121⟩, A130, H⟩ := H
                    replace H : (if t121 = 0 then (if x5_2.length < 140737488355328 then (text_Quoted.l0 k2 a0 (x5_2 ++ [t120]) (wrap64 ((wrap64 (x6_2 + 1)) + 1))) else (none)) else (some ((⟨#[]⟩ : ByteArray), 0, t121))) = some (r1, r2, r3) := H
                    have A13 := Aside0.mk A130
                    clear A130
                    by_cases c14 : t121 = 0
                    · rw [if_pos c14] at H
                      have c14b0 : (t121 == 0) = true := beq_iff_eq.mpr c14
                      have c14b1 : (t121 != 0) = false := bne_eq_false_iff_eq.mpr c14
                      clear c14
                      by_cases c15 : x5_2.length < 140737488355328
                      · rw [if_pos c15] at H
                        have LMc15 := Aside0.mk c15
                        clear c15
                        obtain ⟨y122, hy122⟩ : ∃ y_ : List Int, y_ = (x5_2 ++ [t120]) := ⟨_, rfl⟩
                        replace H : (text_Quoted.l0 k2 a0 y122 (wrap64 ((wrap64 (x6_2 + 1)) + 1))) = some (r1, r2, r3) := by first | (rw [hy122]; with_reducible exact H) | (have H2_ := (Option.bind_some _ _).symm.trans H; rw [hy122]; with_reducible exact H2_) | (have H2_ := (Option.bind_some _ _).symm.trans H; with_reducible exact H2_) | with_reducible exact H | (rw [hy122]; exact H) | exact H
                        have Ny122 := Aside0.mk hy122
                        clear hy122
                        have H' := Aside0.mk H
                        clear H
                        have p9 : 0 ≤ (x6_2 : Int) := of_decide_eq_true (by first | (with_reducible assumption) | assumption)
                        have q9 : x6_2 < (a0.size : Int) := of_decide_eq_true (by first | (with_reducible assumption) | assumption)
                        have hx9 := bt_at a0 x6_2
                        replace p9 := eq_true p9
                        replace q9 := eq_true q9
                        go_wp2_with (first | ((with_reducible refine gate_callee (f := 90) rfl ?_); refine goesL_ (some 37) rfl rfl Tryz.func90 (by kernel_rfl) rfl #[.string a0, .int .i64 x6_2] rfl (by (try simp only [List.map_toArray, List.map_cons, List.map_nil]); first | done | rfl | (simp only [List.length_drop, List.length_take]; rfl)) ?_; (with_reducible refine (text_pair.calls a0 x6_2 t120 t121 _ A13.out).mono ?_); rintro e w' ⟨rfl, ⟨nd, rfl⟩⟩; refine ⟨_, rfl, ?_⟩) | ((with_reducible refine gate_builtin (b := .append) (xs := #[.tmp 49, .tmp 51]) rfl ?_); at_builtin; refine Kd.R_append (Kd.int .u8) (w0 := w) w.heap.size rfl (.tmp 49) (.tmp 51) 55 5 (.int .u8 0) 1 rfl Tryz.underlying55 info5 rfl (by decide) (by omega) u5 x5_2 t120 [.int .u8 t120] (fun _ => True) (fun _ => False) rfl rfl ?aP (fun _ hk => hk.elim) ?aF ?aO ?aB ?aS ?aL ?_; (case aP => exact rfl); (case aB => exact (by repeat (first | (with_reducible first | exact HB.out | apply below_alloc | apply pw_below_drewN | apply below_drew1) | exact HB.out))); (case aF => exact (fun _ _ => trivial)); (case aO => exact (by (with_reducible repeat (first | apply Kd.R_alloc | apply Kd.R_drewN | apply Kd.R_drew)); exact HO_5.out)); (case aS => exact (below_size (by repeat (first | (with_reducible first | exact HB.out | apply below_alloc | apply pw_below_drewN | apply below_drew1) | exact HB.out)))); (case aL => have := LMc15.out; omega); intro v123 w16 ho hb hg hat; rw [← Ny122.out] at ho; have n0_ := Aside0.mk (hb); have n1_ := Aside0.mk (ho); clear HB; clear HO_5; have HB := n0_; have HO124 := n1_; clear n0_ n1_; clear ho hb hg hat))
                        go_roundg k2
                        case measure => have := HJ1.out; have := HK2.out; omega
                        case rel => exact ⟨(y122), (wrap64 ((wrap64 (x6_2 + 1)) + 1)), (by first | rfl | (simp; done) | (simp [*]; done)), H', ⟨by have := HJ1.out; have := HK2.out; omega⟩, ⟨by (with_reducible repeat (first | apply Kd.R_alloc | apply Kd.R_drewN | apply Kd.R_drew)); exact HO124.out⟩, ⟨by repeat (first | (with_reducible first | exact HB.out | apply below_alloc | apply pw_below_drewN | apply below_drew1) | exact HB.out)⟩⟩
                      · rw [if_neg c15] at H
                        exact absurd H (by simp)
                    · rw [if_neg c14] at H
                      have c14b0 : (t121 == 0) = false := beq_eq_false_iff_ne.mpr c14
                      have c14b1 : (t121 != 0) = true := bne_iff_ne.mpr c14
                      simp only [Option.some.injEq, Prod.mk.injEq] at H
                      obtain ⟨rfl, rfl, rfl⟩ := H
                      have p9 : 0 ≤ (x6_2 : Int) := of_decide_eq_true (by first | (with_reducible assumption) | assumption)
                      have q9 : x6_2 < (a0.size : Int) := of_decide_eq_true (by first | (with_reducible assumption) | assumption)
                      have hx9 := bt_at a0 x6_2
                      replace p9 := eq_true p9
                      replace q9 := eq_true q9
                      go_wp2_with (first | ((with_reducible refine gate_callee (f := 90) rfl ?_); refine goesL_ (some 37) rfl rfl Tryz.func90 (by kernel_rfl) rfl #[.string a0, .int .i64 x6_2] rfl (by (try simp only [List.map_toArray, List.map_cons, List.map_nil]); first | done | rfl | (simp only [List.length_drop, List.length_take]; rfl)) ?_; (with_reducible refine (text_pair.calls a0 x6_2 t120 t121 _ A13.out).mono ?_); rintro e w' ⟨rfl, ⟨nd, rfl⟩⟩; refine ⟨_, rfl, ?_⟩))
                      go_ret3
                      exact ⟨by first | rfl | (simp [errW_none, errW_some] <;> rfl) | (simp [*, errW_none, errW_some] <;> rfl) | (simp [ne_nil_b]; done) | (simp [*, ne_nil_b]; done), by repeat (first | (with_reducible first | exact HB.out | apply below_alloc | apply pw_below_drewN | apply below_drew1) | exact HB.out)⟩
                  · rw [if_neg c12] at H
                    have c12b0 : ((bt a0 x6_2) == 92) = false := beq_eq_false_iff_ne.mpr c12
                    have c12b1 : ((bt a0 x6_2) != 92) = true := bne_iff_ne.mpr c12
                    replace H := Option.bind_eq_some_iff.mp H
                    obtain ⟨t125, A170, H⟩ := H
                    replace H : (if t125 = true then (if x5_2.length < 140737488355328 then (text_Quoted.l0 k2 a0 (x5_2 ++ [bt a0 x6_2]) (wrap64 (x6_2 + 1))) else (none)) else (some ((⟨#[]⟩ : ByteArray), 0, 5))) = some (r1, r2, r3) := H
                    have A17 := Aside0.mk A170
                    clear A170
                    by_cases c18 : t125 = true
                    · subst c18
                      have H1 : (if x5_2.length < 140737488355328 then (text_Quoted.l0 k2 a0 (x5_2 ++ [bt a0 x6_2]) (wrap64 (x6_2 + 1))) else (none)) = some (r1, r2, r3) := by rw [if_pos rfl] at H; exact H
                      clear H
                      have H := H1
                      clear H1
                      by_cases c19 : x5_2.length < 140737488355328
                      · rw [if_pos c19] at H
                        have LMc19 := Aside0.mk c19
                        clear c19
                        obtain ⟨y126, hy126⟩ : ∃ y_ : List Int, y_ = (x5_2 ++ [bt a0 x6_2]) := ⟨_, rfl⟩
                        replace H : (text_Quoted.l0 k2 a0 y126 (wrap64 (x6_2 + 1))) = some (r1, r2, r3) := by first | (rw [hy126]; with_reducible exact H) | (have H2_ := (Option.bind_some _ _).symm.trans H; rw [hy126]; with_reducible exact H2_) | (have H2_ := (Option.bind_some _ _).symm.trans H; with_reducible exact H2_) | with_reducible exact H | (rw [hy126]; exact H) | exact H
                        have Ny126 := Aside0.mk hy126
                        clear hy126
                        have H' := Aside0.mk H
                        clear H
                        have p9 : 0 ≤ (x6_2 : Int) := of_decide_eq_true (by first | (with_reducible assumption) | assumption)
                        have q9 : x6_2 < (a0.size : Int) := of_decide_eq_true (by first | (with_reducible assumption) | assumption)
                        have hx9 := bt_at a0 x6_2
                        replace p9 := eq_true p9
                        replace q9 := eq_true q9
                        go_wp2_with (first | ((with_reducible refine gate_callee (f := 54) rfl ?_); refine goesL_ (some 47) rfl rfl Tryz.func54 (by kernel_rfl) rfl #[.int .u8 (bt a0 x6_2)] rfl (by (try simp only [List.map_toArray, List.map_cons, List.map_nil]); first | done | rfl | (simp only [List.length_drop, List.length_take]; rfl)) ?_; (with_reducible refine (text_plain.calls (bt a0 x6_2) true _ A17.out).mono ?_); rintro e w' ⟨rfl, ⟨nd, rfl⟩⟩; refine ⟨_, rfl, ?_⟩) | ((with_reducible refine gate_builtin (b := .append) (xs := #[.tmp 49, .tmp 51]) rfl ?_); at_builtin; refine Kd.R_append (Kd.int .u8) (w0 := w) w.heap.size rfl (.tmp 49) (.tmp 51) 55 5 (.int .u8 0) 1 rfl Tryz.underlying55 info5 rfl (by decide) (by omega) u5 x5_2 (bt a0 x6_2) [.int .u8 (bt a0 x6_2)] (fun _ => True) (fun _ => False) rfl rfl ?aP (fun _ hk => hk.elim) ?aF ?aO ?aB ?aS ?aL ?_; (case aP => exact rfl); (case aB => exact (by repeat (first | (with_reducible first | exact HB.out | apply below_alloc | apply pw_below_drewN | apply below_drew1) | exact HB.out))); (case aF => exact (fun _ _ => trivial)); (case aO => exact (by (with_reducible repeat (first | apply Kd.R_alloc | apply Kd.R_drewN | apply Kd.R_drew)); exact HO_5.out)); (case aS => exact (below_size (by repeat (first | (with_reducible first | exact HB.out | apply below_alloc | apply pw_below_drewN | apply below_drew1) | exact HB.out)))); (case aL => have := LMc19.out; omega); intro v127 w20 ho hb hg hat; rw [← Ny126.out] at ho; have n0_ := Aside0.mk (hb); have n1_ := Aside0.mk (ho); clear HB; clear HO_5; have HB := n0_; have HO128 := n1_; clear n0_ n1_; clear ho hb hg hat))
                        go_roundg k2
                        case measure => have := HJ1.out; have := HK2.out; omega
                        case rel => exact ⟨(y126), (wrap64 (x6_2 + 1)), (by first | rfl | (simp; done) | (simp [*]; done)), H', ⟨by have := HJ1.out; have := HK2.out; omega⟩, ⟨by (with_reducible repeat (first | apply Kd.R_alloc | apply Kd.R_drewN | apply Kd.R_drew)); exact HO128.out⟩, ⟨by repeat (first | (with_reducible first | exact HB.out | apply below_alloc | apply pw_below_drewN | apply below_drew1) | exact HB.out)⟩⟩
                      · rw [if_neg c19] at H
                        exact absurd H (by simp)
                    · replace c18 := Bool.eq_false_iff.mpr c18
                      subst c18
                      have H1 : (some ((⟨#[]⟩ : ByteArray), 0, 5)) = some (r1, r2, r3) := by rw [if_neg (show ¬ (false = true) by decide)] at H; exact H
                      clear H
                      have H := H1
                      clear H1
                      simp only [Option.some.injEq, Prod.mk.injEq] at H
                      obtain ⟨rfl, rfl, rfl⟩ := H
                      have p9 : 0 ≤ (x6_2 : Int) := of_decide_eq_true (by first | (with_reducible assumption) | assumption)
                      have q9 : x6_2 < (a0.size : Int) := of_decide_eq_true (by first | (with_reducible assumption) | assumption)
                      have hx9 := bt_at a0 x6_2
                      replace p9 := eq_true p9
                      replace q9 := eq_true q9
                      go_wp2_with (first | ((with_reducible refine gate_callee (f := 54) rfl ?_); refine goesL_ (some 47) rfl rfl Tryz.func54 (by kernel_rfl) rfl #[.int .u8 (bt a0 x6_2)] rfl (by (try simp only [List.map_toArray, List.map_cons, List.map_nil]); first | done | rfl | (simp only [List.length_drop, List.length_take]; rfl)) ?_; (with_reducible refine (text_plain.calls (bt a0 x6_2) false _ A17.out).mono ?_); rintro e w' ⟨rfl, ⟨nd, rfl⟩⟩; refine ⟨_, rfl, ?_⟩))
                      go_ret3
                      exact ⟨by first | rfl | (simp [errW_none, errW_some] <;> rfl) | (simp [*, errW_none, errW_some] <;> rfl) | (simp [ne_nil_b]; done) | (simp [*, ne_nil_b]; done), by repeat (first | (with_reducible first | exact HB.out | apply below_alloc | apply pw_below_drewN | apply below_drew1) | exact HB.out)⟩
              · rw [if_neg c8] at H
                exact absurd H (by simp)
            · rw [if_neg c7] at H
              have c7b0 : decide (x6_2 < (a0.size : Int)) = false := decide_eq_false c7
              clear c7
              simp only [Option.some.injEq, Prod.mk.injEq] at H
              obtain ⟨rfl, rfl, rfl⟩ := H
              go_wp2
              go_ret3
              exact ⟨by first | rfl | (simp [errW_none, errW_some] <;> rfl) | (simp [*, errW_none, errW_some] <;> rfl) | (simp [ne_nil_b]; done) | (simp [*, ne_nil_b]; done), by repeat (first | (with_reducible first | exact HB.out | apply below_alloc | apply pw_below_drewN | apply below_drew1) | exact HB.out)⟩

end Go.Proofs.YtmhcdigneamgdaaGreatDoor.Qa

namespace Go.Proofs.YtmhcdigneamgdaaGreatDoor.Qa
open Go.RowKit Go.Proofs.YtmhcdigneamgdaaGreatDoor.G Go.Proofs.YtmhcdigneamgdaaGreatDoorW.PrintWords Go.Proofs.YtmhcdigneamgdaaGreatDoorW.PrintLast Go.Proofs.YtmhcdigneamgdaaGreatDoorW.PrintMore
attribute [local go_sem] max2_int min2_int max_two min_two max_three min_three max_four min_four   -- for this text's walks alone
set_option linter.unusedVariables false
set_option linter.unusedSimpArgs false

end Go.Proofs.YtmhcdigneamgdaaGreatDoor.Qa

/- Plain law: text.Split, as printed, gives the parts between bytes c. -/
namespace Go.Proofs.YtmhcdigneamgdaaGreatDoor.G
open Go.RowKit Go.Proofs.YtmhcdigneamgdaaGreatDoorW.PrintWords Go.Proofs.YtmhcdigneamgdaaGreatDoor.Qa
set_option linter.unusedVariables false
set_option linter.unusedSimpArgs false

theorem mkB_data (l : List UInt8) : (⟨l.toArray⟩ : ByteArray).data.toList = l := rfl
theorem mkB_size (l : List UInt8) : (⟨l.toArray⟩ : ByteArray).size = l.length := by rw [Lib.size_eq]
theorem eq_mkB (s : ByteArray) : s = ⟨s.data.toList.toArray⟩ := (Lib.mk_data s).symm
/-- Where a byte stands first. -/
theorem indexByte_cases (c : UInt8) : ∀ l : List UInt8, (Lib.indexByte l c = -1 ∧ Sp.splitL c l = [l]) ∨
    ∃ k : Nat, k < l.length ∧ Lib.indexByte l c = k ∧ Sp.splitL c l = l.take k :: Sp.splitL c (l.drop (k + 1))
  | [] => .inl ⟨rfl, rfl⟩
  | b :: l => by
    simp only [Lib.indexByte, Sp.splitL]
    by_cases h : b = c
    · subst h
      exact .inr ⟨0, by simp, by simp, by simp⟩
    · have hb : (b == c) = false := by simpa using h
      rw [if_neg h, hb]
      rcases indexByte_cases c l with ⟨h1, h2⟩ | ⟨k, hk, h1, h2⟩
      · left
        rw [h1, h2]
        simp
      · right
        refine ⟨k + 1, by simp; omega, ?_, ?_⟩
        · rw [h1]
          have : ((k : Int) == -1) = false := by rw [beq_eq_false_iff_ne]; omega
          simp [this]
        · rw [h2]
          simp
theorem take_ext (l : List UInt8) (k : Nat) : (⟨l.toArray⟩ : ByteArray).extract 0 k = ⟨(l.take k).toArray⟩ := by rw [Lib.extract_eq]; simp
theorem drop_ext (l : List UInt8) (k : Nat) : (⟨l.toArray⟩ : ByteArray).extract k l.length = ⟨(l.drop k).toArray⟩ := by
  rw [Lib.extract_eq]
  congr 1
  rw [mkB_data, List.take_of_length_le (by simp)]
theorem byte_id (c : UInt8) : ((c.toNat : Int)).toNat.toUInt8 = c := by simp

theorem split_l0 (c : UInt8) (n : Nat) : ∀ (l : List UInt8) (acc : List ByteArray) (k : Nat), l.length ≤ n → n < k → acc.length + l.length < 8796093022208 → l.length ≤ 4294967280 →
    text_Split.l0 k ⟨l.toArray⟩ (c.toNat : Int) acc = some (acc ++ (Sp.splitL c l).map fun p => ⟨p.toArray⟩) := by
  induction n with
  | zero =>
    intro l acc k hl hk ha hs
    obtain ⟨k, rfl⟩ : ∃ m, k = m + 1 := ⟨k - 1, by omega⟩
    have : l = [] := List.eq_nil_of_length_eq_zero (by omega)
    subst this
    simp only [text_Split.l0, strings_IndexByte.f, byte_id, mkB_data, Option.bind_some, Lib.indexByte]
    rw [if_pos (by decide), if_pos (by simpa using ha)]
    rfl
  | succ n ih =>
    intro l acc k hl hk ha hs
    obtain ⟨k, rfl⟩ : ∃ m, k = m + 1 := ⟨k - 1, by omega⟩
    simp only [text_Split.l0, strings_IndexByte.f, byte_id, mkB_data, Option.bind_some]
    rcases indexByte_cases c l with ⟨h1, h2⟩ | ⟨i, hi, h1, h2⟩
    · rw [h1, if_pos (by decide), if_pos (by omega), h2]
      rfl
    · have hw : wrap64 ((i : Int) + 1) = ((i + 1 : Nat) : Int) := by unfold wrap64; omega
      rw [h1, if_neg (by omega), if_pos (by omega), if_pos (by rw [mkB_size]; omega), if_pos (by omega), hw, if_pos (by omega), if_pos (by rw [mkB_size]; omega), mkB_size]
      simp only [Int.toNat_natCast]
      rw [take_ext, drop_ext, ih _ _ k (by simp; omega) (by omega) (by simp; omega) (by simp; omega), h2]
      simp

theorem text_Split_eq (s : ByteArray) (c : UInt8) (hs : s.size ≤ 4294967280) : text_Split.f (s.size + 1) s (c.toNat : Int) = some ((Sp.splitL c s.data.toList).map fun p => ⟨p.toArray⟩) := by
  unfold text_Split.f
  have h := split_l0 c s.data.toList.length s.data.toList [] (s.size + 1) (Nat.le_refl _) (by rw [← Lib.size_eq]; omega) (by rw [← Lib.size_eq]; simp; omega) (by rw [← Lib.size_eq]; exact hs)
  rw [Lib.mk_data] at h
  simpa using h
end Go.Proofs.YtmhcdigneamgdaaGreatDoor.G

/- Walks of text.Atom and text.DotAtom, with their closures. -/
namespace Go.Proofs.YtmhcdigneamgdaaGreatDoor.G
open Go.RowKit Go.Proofs.YtmhcdigneamgdaaGreatDoorW.PrintWords Go.Proofs.YtmhcdigneamgdaaGreatDoor.Qa
set_option linter.unusedVariables false
set_option linter.unusedSimpArgs false

def ints0 (l : List UInt8) : List Int := l.map fun b => (b.toNat : Int)
theorem atom_bits : ∀ c : Fin 128, (bits .and .u32 (([0, 2751442170, 3355443198, 2147483647] : List Int).getD (c.val / 32) 0 / 2 ^ (c.val % 32)) 1 == 1) = Sp.atomB (UInt8.ofNat c.val) := by decide +kernel

set_option maxHeartbeats 4000000 in
set_option maxRecDepth 100000 in
theorem atomic_calls (b : UInt8) (w : World) (hG : Glob w) :
    Calls Tryz.prog 98 #[.int .u8 b.toNat] w fun e w' => e = .returned (.bool (Sp.atomB b)) ∧ Below w.heap.size w w' := by
  have hb := b.toNat_lt
  by_cases h : b.toNat < 128
  · have hc := hG.atext (b.toNat / 32) (by omega)
    have HX := Aside0.mk (show (bits .and .u32 (([0, 2751442170, 3355443198, 2147483647] : List Int).getD (b.toNat / 32) 0 / 2 ^ (b.toNat % 32)) 1 == 1) = Sp.atomB b by
      have := atom_bits ⟨b.toNat, h⟩
      simpa using this)
    generalize hr : Sp.atomB b = r at HX
    generalize b.toNat = c at hc h hb HX
    generalize hi : ([0, 2751442170, 3355443198, 2147483647] : List Int).getD (c / 32) 0 = X at hc HX
    clear hG hi hr
    go_enter Tryz.func98, Tryz.ntmps98
    go_wp2
    go_ret
    exact ⟨by rw [← HX.out]; rfl, Below.refl _ _⟩
  · have hr : Sp.atomB b = false := by unfold Sp.atomB; simp [h]
    rw [hr]
    generalize b.toNat = c at h hb
    clear hr hG
    have h2 : 128 ≤ c := by omega
    clear h
    go_enter Tryz.func98, Tryz.ntmps98
    go_wp2
    go_ret
    exact ⟨rfl, Below.refl _ _⟩

theorem notAtomic_calls (x : Int) (w : World) (hx : ∃ b : UInt8, x = (b.toNat : Int)) (hG : Glob w) :
    Calls Tryz.prog 97 #[.int .u8 x] w fun e w' => e = .returned (.bool (!Sp.atomB x.toNat.toUInt8)) ∧ Below w.heap.size w w' := by
  obtain ⟨b, rfl⟩ := hx
  rw [byte_id]
  have hcon := atomic_calls b w hG
  generalize Sp.atomB b = r at hcon
  generalize (b.toNat : Int) = c at hcon
  clear hG
  go_enter Tryz.func97, Tryz.ntmps97
  go_wp2_with (go_at_call 98; refine hcon.mono ?_; rintro e w' ⟨rfl, hb'⟩)
  go_ret
  exact ⟨rfl, hb'⟩

theorem any_not_all (l : List UInt8) : ((ints0 l).any fun x => !Sp.atomB x.toNat.toUInt8) = !(l.all Sp.atomB) := by
  induction l with
  | nil => rfl
  | cons a l ih =>
    simp only [ints0, List.map_cons, List.any_cons, List.all_cons, Bool.not_and] at ih ⊢
    rw [ih, byte_id]

set_option maxHeartbeats 4000000 in
set_option maxRecDepth 100000 in
theorem text_Atom_calls (a0 : ByteArray) (w : World) (hs : a0.size ≤ 9223372036854775807) (hG : Glob w) :
    Calls Tryz.prog 76 #[.string a0] w fun e w' => e = .returned (.bool (Sp.atomL a0.data.toList)) ∧ Below w.heap.size w w' := by
  by_cases h0 : a0.toList = []
  · have hr : Sp.atomL a0.data.toList = false := by rw [Lib.toList_data] at h0; rw [h0]; rfl
    have h0b : (!a0.toList.isEmpty) = false := by rw [h0]; rfl
    rw [hr]
    clear hr hG
    go_enter Tryz.func76, Tryz.ntmps76
    go_wp2
    go_ret
    exact ⟨rfl, Below.refl _ _⟩
  · have h0b : (!a0.toList.isEmpty) = true := by simpa using h0
    have hr : Sp.atomL a0.data.toList = !(!(a0.data.toList.all Sp.atomB)) := by
      rw [Lib.toList_data] at h0
      unfold Sp.atomL
      generalize a0.data.toList = l at h0
      rw [Bool.not_not]
      have : l.isEmpty = false := by simpa using h0
      rw [this]
      rfl
    rw [hr, ← any_not_all]
    have kb := fun W => print_bytes (P := Tryz.prog) 9 55 5 Tryz.underlying9 Tryz.underlying55 Tryz.underlying5 a0 W
    have hC := Kd.C_of_reads (d := (0 : Int)) (h1 := fun _ => rfl) (bytes_reads w 5 a0 hs)
    have hB := bytes_below (Below.refl w.heap.size w) (Nat.le_refl _) 5 a0
    have hlen := bytesOf_length a0
    rw [← hlen] at hC
    have hcon := conFunc_byte (fun x => !Sp.atomB x.toNat.toUInt8) 97 #[] (enters_of Tryz.func97 (by kernel_rfl) rfl) _ (grownCap w a0.size 0 5) (bytesOf a0) _ hC (fun W x hx hb => by
      obtain ⟨b, _, rfl⟩ := List.mem_map.1 hx
      exact (notAtomic_calls _ W ⟨b, rfl⟩ ((hG.below hB).below hb)).mono fun e w' ⟨he, hb2⟩ => ⟨he, hb.trans (hb2.mono hb.size)⟩)
    rw [hlen] at hcon
    have hx : bytesOf a0 = ints0 a0.data.toList := rfl
    rw [hx] at hcon
    generalize ((ints0 a0.data.toList).any fun x => !Sp.atomB x.toNat.toUInt8) = r at hcon
    have HB := Aside0.mk hB
    have kb' := kb w
    have HCON := Aside0.mk hcon
    clear hcon hC hx hlen kb hG hr hB h0
    generalize Lib.bytesWorld w 5 a0 = W at kb' HCON HB
    generalize grownCap w a0.size 0 5 = C at kb' HCON
    go_enter Tryz.func76, Tryz.ntmps76
    go_wp2_with (go_at_call 70; refine HCON.out.mono ?_; rintro e w' ⟨rfl, hb'⟩)
    go_ret
    exact ⟨rfl, HB.out.trans (hb'.mono HB.out.size)⟩

theorem notAtom_calls (x : ByteArray) (w : World) (hs : x.size ≤ 9223372036854775807) (hG : Glob w) :
    Calls Tryz.prog 75 #[.string x] w fun e w' => e = .returned (.bool (!Sp.atomL x.data.toList)) ∧ Below w.heap.size w w' := by
  have hcon := text_Atom_calls x w hs hG
  generalize Sp.atomL x.data.toList = r at hcon
  clear hG hs
  go_enter Tryz.func75, Tryz.ntmps75
  go_wp2_with (go_at_call 76; refine hcon.mono ?_; rintro e w' ⟨rfl, hb'⟩)
  go_ret
  exact ⟨rfl, hb'⟩

theorem any_not_all_atoms (l : List (List UInt8)) : ((l.map fun p => (⟨p.toArray⟩ : ByteArray)).any fun x => !Sp.atomL x.data.toList) = !(l.all Sp.atomL) := by
  induction l with
  | nil => rfl
  | cons a l ih =>
    simp only [List.map_cons, List.any_cons, List.all_cons, Bool.not_and, ih]

def text_DotAtom.f (a0 : ByteArray) : Option Bool := if a0.size ≤ 4294967280 then some (Sp.dotAtomL a0.data.toList) else none
theorem splitL_len (c : UInt8) : ∀ l : List UInt8, ∀ p ∈ Sp.splitL c l, p.length ≤ l.length
  | [], p, h => by simp [Sp.splitL] at h; simp [h]
  | b :: l, p, h => by
    have ih := splitL_len c l
    simp only [Sp.splitL] at h
    split at h
    · rcases List.mem_cons.1 h with rfl | h
      · simp
      · have := ih p h
        simp
        omega
    · split at h
      · simp at h
        simp [h]
      · rename_i q ps hq
        rw [hq] at ih
        rcases List.mem_cons.1 h with rfl | h
        · have := ih q (by simp)
          simp
          omega
        · have := ih p (by simp [h])
          simp
          omega

set_option maxHeartbeats 4000000 in
set_option maxRecDepth 100000 in
theorem text_DotAtom.calls (a0 : ByteArray) (r : Bool) (w : World) (h : text_DotAtom.f a0 = some r) (hG : Glob w) :
    Calls Tryz.prog 48 #[.string a0] w fun e w' => e = .returned (.bool r) ∧ Below w.heap.size w w' := by
  unfold text_DotAtom.f at h
  split at h
  · rename_i hs
    obtain rfl := Option.some.inj h
    clear h
    have hr : Sp.dotAtomL a0.data.toList = !(!((Sp.splitL 46 a0.data.toList).all Sp.atomL)) := by unfold Sp.dotAtomL; simp
    rw [hr, ← any_not_all_atoms]
    have hsp := text_Split_eq a0 46 hs
    have hlen : ∀ x ∈ ((Sp.splitL 46 a0.data.toList).map fun p => (⟨p.toArray⟩ : ByteArray)), x.size ≤ 9223372036854775807 := fun x hx => by
      obtain ⟨p, hp, rfl⟩ := List.mem_map.1 hx
      rw [mkB_size]
      have := splitL_len 46 _ p hp
      rw [← Lib.size_eq] at this
      omega
    generalize ((Sp.splitL 46 a0.data.toList).map fun p => (⟨p.toArray⟩ : ByteArray)) = xs at hsp hlen
    have hsp' : text_Split.f (a0.size + 1) a0 46 = some xs := hsp
    have HSP := Aside0.mk hsp'
    clear hsp hsp' hr
    have HCON := Aside0.mk (fun (W : World) (Ad : Option Addr) (c : Nat) (hW : Below w.heap.size w W) (hC : Kd.string.C W Ad xs.length xs) =>
      conFunc_str (fun x => !Sp.atomL x.data.toList) 75 #[] (enters_of Tryz.func75 (by kernel_rfl) rfl) Ad c xs W hC (fun W2 x hx hb =>
        (notAtom_calls x W2 (hlen x hx) ((hG.below hW).below hb)).mono fun e w' ⟨he, hb2⟩ => ⟨he, hb.trans (hb2.mono hb.size)⟩))
    clear hlen hG
    generalize (xs.any fun x => !Sp.atomL x.data.toList) = r at HCON
    go_enter Tryz.func48, Tryz.ntmps48
    go_wp2_with (first | (go_at_call 40; (with_reducible refine (text_Split.calls (a0.size + 1) a0 46 xs _ HSP.out).mono ?_); rintro e w1 ⟨v0, rfl, hR, hb1⟩; obtain ⟨Ad, c, rfl, _, hC⟩ := Kd.R_reads hR; have HC := Aside0.mk hC; have HB1 := Aside0.mk hb1; clear hR hC hb1) | (go_at_call 74; refine (HCON.out _ _ _ HB1.out HC.out).mono ?_; rintro e w2 ⟨rfl, hb2⟩; have HB2 := Aside0.mk hb2; clear hb2))
    go_ret
    exact ⟨rfl, HB1.out.trans (HB2.out.mono HB1.out.size)⟩
  · cases h
end Go.Proofs.YtmhcdigneamgdaaGreatDoor.G

/- Plain laws: strings.Split at one byte; addr.octet and addr.label as printed. -/
namespace Go.Proofs.YtmhcdigneamgdaaGreatDoor.G
open Go.RowKit Go.Proofs.YtmhcdigneamgdaaGreatDoorW.PrintWords Go.Proofs.YtmhcdigneamgdaaGreatDoor.Qa
set_option linter.unusedVariables false
set_option linter.unusedSimpArgs false

theorem splitB_one (c : UInt8) : ∀ (k : Nat) (l : List UInt8), k = Lib.count l [c] → Lib.splitB ⟨#[c]⟩ 0 k ⟨l.toArray⟩ = (Sp.splitL c l).map fun p => ⟨p.toArray⟩
  | k, l, hk => by
    have hidx : Lib.indexB ⟨l.toArray⟩ ⟨#[c]⟩ = Lib.indexByte l c := by
      show Lib.index l [c] = _
      exact Lib.index_one l c
    rcases indexByte_cases c l with ⟨h1, h2⟩ | ⟨i, hi, h1, h2⟩
    · rw [Lib.splitB_miss _ _ _ _ (by rw [hidx, h1]), h2]
      rfl
    · have hc : Lib.count l [c] = 1 + Lib.count (l.drop (i + 1)) [c] := by
        have := Lib.count_hit (s := l) (sub := [c]) (i := i) (by simp) (by rw [Lib.index_one, h1])
        simpa using this
      obtain ⟨m, rfl⟩ : ∃ m, k = m + 1 := ⟨k - 1, by omega⟩
      rw [Lib.splitB_hit _ _ _ _ i (by rw [hidx, h1]), h2]
      have h3 : (⟨l.toArray⟩ : ByteArray).extract (i + (⟨#[c]⟩ : ByteArray).size) (⟨l.toArray⟩ : ByteArray).size = ⟨(l.drop (i + 1)).toArray⟩ := by
        rw [mkB_size]
        exact drop_ext l (i + 1)
      rw [Nat.add_zero, take_ext, h3, splitB_one c m (l.drop (i + 1)) (by omega)]
      rfl
  termination_by _ l => l.length
theorem strings_Split_one (s : ByteArray) (c : UInt8) (hs : s.size ≤ 4294967280) : strings_Split.f s ⟨#[c]⟩ = some ((Sp.splitL c s.data.toList).map fun p => ⟨p.toArray⟩) := by
  unfold strings_Split.f
  rw [if_pos ⟨by omega, by simp [ByteArray.size]⟩]
  congr 1
  have := splitB_one c _ s.data.toList rfl
  rw [Lib.mk_data] at this
  exact this

theorem addr_octet_eq (s : ByteArray) (hs : s.size ≤ 4294967280) : addr_octet.f s = some (Sp.octetL s.data.toList) := by
  unfold addr_octet.f text_Number.f Sp.octetL
  rw [if_pos ⟨hs, by decide, by decide⟩]
  simp only [Option.bind_some]
  cases hn : Sp.numOk s.data.toList 3
  · simp
  · simp only [if_true]
    by_cases hl : Sp.numL s.data.toList < 256
    · rw [if_pos (by omega)]
      unfold strconv_Itoa.f
      rw [if_pos (by omega)]
      simp only [Option.bind_some, decide_eq_true hl, Bool.and_true, Bool.true_and]
      congr 1
      rw [Lib.toList_data, Lib.toList_data]
    · rw [if_neg (by omega)]
      simp [hl]
theorem trim_nil_iff (l cs : List UInt8) : (Lib.trimS l cs = []) = (l.all (cs.contains ·) = true) := by
  rw [List.all_eq_true]
  exact propext (trimS_nil l cs)
theorem bt_mk (l : List UInt8) (i : Nat) (h : i < l.length) : bt ⟨l.toArray⟩ (i : Int) = ((l[i]).toNat : Int) := by
  unfold bt
  rw [dif_pos (by rw [mkB_size]; simpa using h)]
  rfl
theorem addr_label_eq (s : ByteArray) (hs : s.size ≤ 4294967280) : addr_label.f s = some (Sp.labelL s.data.toList) := by
  rw [eq_mkB s]
  have hs' : s.data.toList.length ≤ 4294967280 := by rw [← Lib.size_eq]; exact hs
  generalize s.data.toList = l at hs' ⊢
  unfold addr_label.f
  rw [Lib.toList_data, mkB_data, mkB_size]
  cases l with
  | nil => rfl
  | cons b m =>
    rw [if_neg (by simp)]
    unfold strings_Trim.f
    rw [if_pos ⟨by rw [mkB_size]; omega, by decide, by decide +kernel⟩]
    simp only [Option.bind_some]
    have he : ((⟨(Lib.trimS (⟨(b :: m).toArray⟩ : ByteArray).data.toList (⟨#[97, 98, 99, 100, 101, 102, 103, 104, 105, 106, 107, 108, 109, 110, 111, 112, 113, 114, 115, 116, 117, 118, 119, 120, 121, 122, 65, 66, 67, 68, 69, 70, 71, 72, 73, 74, 75, 76, 77, 78, 79, 80, 81, 82, 83, 84, 85, 86, 87, 88, 89, 90, 48, 49, 50, 51, 52, 53, 54, 55, 56, 57, 45]⟩ : ByteArray).data.toList).toArray⟩ : ByteArray).toList = []) = ((b :: m).all (Sp.hosts.contains ·) = true) := by
      rw [Lib.toList_data]
      exact trim_nil_iff (b :: m) Sp.hosts
    simp only [he]
    have hb0 : bt ⟨(b :: m).toArray⟩ 0 = (b.toNat : Int) := bt_mk (b :: m) 0 (by simp)
    have hw : wrap64 (((b :: m).length : Int) - 1) = ((m.length : Nat) : Int) := by unfold wrap64; simp at hs' ⊢; omega
    have hbl : bt ⟨(b :: m).toArray⟩ ((m.length : Nat) : Int) = (((b :: m)[m.length]'(by simp)).toNat : Int) := bt_mk (b :: m) m.length (by simp)
    have hlast : (b :: m).getLastD 0 = (b :: m)[m.length]'(by simp) := by
      rw [List.getLastD_eq_getLast?, List.getLast?_eq_getElem?]
      simp
    rw [hw, hb0, hbl]
    unfold Sp.labelL
    rw [hlast]
    generalize (b :: m)[m.length]'(by simp) = z
    have e45 : ∀ x : UInt8, ((x.toNat : Int) = 45) = (x = 45) := fun x => by
      rw [eq_iff_iff]
      constructor
      · intro h
        exact UInt8.toNat_inj.1 (by simpa using (by omega : x.toNat = 45))
      · rintro rfl
        rfl
    cases ha : (b :: m).all (Sp.hosts.contains ·)
    · simp
    · simp only [if_true]
      by_cases hb : b = 45
      · rw [if_pos (by simp), if_pos (by rw [hb]; rfl)]
        simp [hb]
      · have hzz : ((z.toNat : Int) != 45) = !(z == 45) := by
          rw [bne]
          congr 1
          rw [Bool.eq_iff_iff, beq_iff_eq, beq_iff_eq, e45]
        rw [if_pos (by simp), if_neg (by rw [e45]; exact hb), if_pos (by omega), if_pos (by simp; omega), hzz]
        simp [hb]
end Go.Proofs.YtmhcdigneamgdaaGreatDoor.G

/- Walk of addr.domain, with its closures. -/
namespace Go.Proofs.YtmhcdigneamgdaaGreatDoor.G
open Go.RowKit Go.Proofs.YtmhcdigneamgdaaGreatDoorW.PrintWords Go.Proofs.YtmhcdigneamgdaaGreatDoor.Qa
set_option linter.unusedVariables false
set_option linter.unusedSimpArgs false

set_option maxHeartbeats 4000000 in
/-- The closure that says no to a part: it calls the function value that it captured. -/
theorem notIs_calls (g : Nat) (eg : ∀ args w, (callFunc g args).run Tryz.prog w = .ok (.enter g args) w) (b : Bool) (x : ByteArray) (B : Nat) (w : World) (hc : w.cell? ⟨B, 0, none⟩ = some (.func (.func g) #[] #[]))
    (hcon : Calls Tryz.prog g #[.string x] w fun e w' => e = .returned (.bool b) ∧ Below w.heap.size w w') :
    Calls Tryz.prog 83 #[.string x, .pointer (some ⟨B, 0, none⟩)] w fun e w' => e = .returned (.bool (!b)) ∧ Below w.heap.size w w' := by
  go_enter Tryz.func83, Tryz.ntmps83
  go_wp2_with (go_at_fn g; refine hcon.mono ?_; rintro e w' ⟨rfl, hb'⟩)
  go_ret
  exact ⟨rfl, hb'⟩

theorem any_not {α : Type} (p : α → Bool) (l : List α) : (l.any fun x => !p x) = !(l.all p) := by
  induction l with
  | nil => rfl
  | cons a l ih => simp only [List.any_cons, List.all_cons, Bool.not_and, ih]
theorem all_mk (p : List UInt8 → Bool) (l : List (List UInt8)) : ((l.map fun q => (⟨q.toArray⟩ : ByteArray)).all fun x => p x.data.toList) = l.all p := by
  induction l with
  | nil => rfl
  | cons a l ih => simp only [List.map_cons, List.all_cons, ih]

set_option maxHeartbeats 8000000 in
set_option maxRecDepth 100000 in
/-- all(s, is): whether each part of s is so. -/
theorem allParts_calls (p : List UInt8 → Bool) (g : Nat) (eg : ∀ args w, (callFunc g args).run Tryz.prog w = .ok (.enter g args) w) (s : ByteArray) (w : World) (hs : s.size ≤ 4294967280) (hG : Glob w)
    (hp : ∀ (W : World) (x : ByteArray), x.size ≤ s.size → Below w.heap.size w W → Calls Tryz.prog g #[.string x] W fun e w' => e = .returned (.bool (p x.data.toList)) ∧ Below W.heap.size W w') :
    Calls Tryz.prog 81 #[.string s, .func (.func g) #[] #[]] w fun e w' => e = .returned (.bool ((Sp.splitL 46 s.data.toList).all p)) ∧ Below w.heap.size w w' := by
  rw [← all_mk]
  have hsp := strings_Split_one s 46 hs
  have hlen : ∀ x ∈ ((Sp.splitL 46 s.data.toList).map fun p => (⟨p.toArray⟩ : ByteArray)), x.size ≤ s.size := fun x hx => by
    obtain ⟨p, hp, rfl⟩ := List.mem_map.1 hx
    rw [mkB_size]
    have := splitL_len 46 _ p hp
    rw [← Lib.size_eq] at this
    exact this
  generalize ((Sp.splitL 46 s.data.toList).map fun p => (⟨p.toArray⟩ : ByteArray)) = xs at hsp hlen
  have hr : (xs.all fun x => p x.data.toList) = !(xs.any fun x => !p x.data.toList) := by rw [any_not (fun x => p x.data.toList) xs, Bool.not_not]
  rw [hr]
  have HSP := Aside0.mk hsp
  have hB0 : Below w.heap.size w (w.alloc (.cells #[.func (.func g) #[] #[]] 61)) := below_alloc (Below.refl _ _) _
  have HG := Aside0.mk (hG.below hB0)
  have HCON := Aside0.mk (fun (W : World) (Ad : Option Addr) (c : Nat) (hW : Below w.heap.size w W) (hlt : w.heap.size < W.heap.size) (hcell : W.cell? ⟨w.heap.size, 0, none⟩ = some (.func (.func g) #[] #[])) (hC : Kd.string.C W Ad xs.length xs) =>
    conFunc_str (fun x => !p x.data.toList) 83 #[.pointer (some ⟨w.heap.size, 0, none⟩)] (enters_of Tryz.func83 (by kernel_rfl) rfl) Ad c xs W hC (fun W2 x hx hb =>
      (notIs_calls g eg (p x.data.toList) x w.heap.size W2 ((hb.cell (p := ⟨w.heap.size, 0, none⟩) hlt).trans hcell) (hp W2 x (hlen x hx) (hW.trans (hb.mono hW.size)))).mono fun e w' ⟨he, hb2⟩ => ⟨he, hb.trans (hb2.mono hb.size)⟩))
  clear hlen hG hp hr hsp hB0
  generalize (xs.any fun x => !p x.data.toList) = r at HCON
  go_enter Tryz.func81, Tryz.ntmps81
  go_wp2_with (first | (go_at_call 82; (with_reducible refine (strings_Split.calls s ⟨#[46]⟩ xs _ HSP.out HG.out).mono ?_); rintro e w1 ⟨v0, rfl, hR, hb1⟩; obtain ⟨Ad, c, rfl, _, hC⟩ := Kd.R_reads hR; have HC := Aside0.mk hC; have hcl := (hb1.cell (p := ⟨w.heap.size, 0, none⟩) (by simp)).trans (show (w.alloc (.cells #[.func (.func g) #[] #[]] 61)).cell? ⟨w.heap.size, 0, none⟩ = some (.func (.func g) #[] #[]) by simp); have HCL := Aside0.mk hcl; have HB1 := Aside0.mk ((below_alloc (Below.refl w.heap.size w) (.cells #[.func (.func g) #[] #[]] 61)).trans (hb1.mono (by simp))); have HLT := Aside0.mk (show w.heap.size < w1.heap.size by have := hb1.size; simp at this; omega); clear hR hC hb1 hcl) | (go_at_call 74; refine (HCON.out _ _ _ HB1.out HLT.out HCL.out HC.out).mono ?_; rintro e w2 ⟨rfl, hb2⟩; have HB2 := Aside0.mk hb2; clear hb2))
  go_ret
  exact ⟨rfl, HB1.out.trans (HB2.out.mono HB1.out.size)⟩

/-- The three that it is asked with. -/
theorem octet_is (s : ByteArray) (w : World) (hs : s.size ≤ 4294967280) (hG : Glob w) (W : World) (x : ByteArray) (hx : x.size ≤ s.size) (hb : Below w.heap.size w W) :
    Calls Tryz.prog 86 #[.string x] W fun e w' => e = .returned (.bool (Sp.octetL x.data.toList)) ∧ Below W.heap.size W w' :=
  addr_octet.calls x _ W (addr_octet_eq x (by omega)) (hG.below hb)
theorem label_is (s : ByteArray) (w : World) (hs : s.size ≤ 4294967280) (W : World) (x : ByteArray) (hx : x.size ≤ s.size) :
    Calls Tryz.prog 87 #[.string x] W fun e w' => e = .returned (.bool (Sp.labelL x.data.toList)) ∧ Below W.heap.size W w' :=
  addr_label.calls x _ W (addr_label_eq x (by omega))
theorem short_is (s : ByteArray) (hs : s.size ≤ 4294967280) (W : World) (x : ByteArray) (hx : x.size ≤ s.size) :
    Calls Tryz.prog 88 #[.string x] W fun e w' => e = .returned (.bool (decide (x.data.toList.length ≤ 63))) ∧ Below W.heap.size W w' := by
  have hr : decide (x.data.toList.length ≤ 63) = decide ((x.size : Int) ≤ 63) := by
    rw [← Lib.size_eq, decide_eq_decide]
    omega
  rw [hr]
  go_enter Tryz.func88, Tryz.ntmps88
  go_wp2
  go_ret
  exact ⟨rfl, Below.refl _ _⟩
end Go.Proofs.YtmhcdigneamgdaaGreatDoor.G

/- Plain laws: HasPrefix, HasSuffix, CutPrefix, CutSuffix as printed. -/
namespace Go.Proofs.YtmhcdigneamgdaaGreatDoor.G
open Go.RowKit Go.Proofs.YtmhcdigneamgdaaGreatDoorW.PrintWords Go.Proofs.YtmhcdigneamgdaaGreatDoor.Qa
set_option linter.unusedVariables false
set_option linter.unusedSimpArgs false

theorem HasPrefix_eq (s p : ByteArray) : stringslite_HasPrefix.f s p = some (Lib.hasPrefix s.data.toList p.data.toList) := by
  unfold stringslite_HasPrefix.f
  rw [← Lib.hasPrefix_raw]
  by_cases h : p.size ≤ s.size
  · rw [if_pos (by omega), if_pos (by omega), if_pos (by omega), decide_eq_true h, Int.toNat_natCast]
    rfl
  · rw [if_neg (by omega), decide_eq_false h]
    rfl
theorem HasSuffix_eq (s p : ByteArray) (hs : s.size ≤ 9223372036854775807) : stringslite_HasSuffix.f s p = some (Lib.hasSuffix s.data.toList p.data.toList) := by
  unfold stringslite_HasSuffix.f
  rw [← Lib.hasSuffix_raw]
  by_cases h : p.size ≤ s.size
  · have hw : wrap64 ((s.size : Int) - (p.size : Int)) = ((s.size - p.size : Nat) : Int) := by unfold wrap64; omega
    rw [if_pos (by omega), hw, if_pos (by omega), if_pos (by omega), decide_eq_true h, Int.toNat_natCast]
    rfl
  · rw [if_neg (by omega), decide_eq_false h]
    rfl
theorem CutPrefix_eq (s p : ByteArray) : strings_CutPrefix.f s p = some (if Lib.hasPrefix s.data.toList p.data.toList then (⟨(s.data.toList.drop p.size).toArray⟩, true) else (s, false)) := by
  unfold strings_CutPrefix.f stringslite_CutPrefix.f
  rw [HasPrefix_eq]
  simp only [Option.bind_some]
  cases h : Lib.hasPrefix s.data.toList p.data.toList
  · rfl
  · have hle : p.size ≤ s.size := by
      rw [← Lib.hasPrefix_raw] at h
      simp at h
      exact h.1
    simp only [if_true]
    rw [if_pos (by omega), if_pos (by omega), Int.toNat_natCast]
    simp only [Option.bind_some]
    congr 2
    have := drop_ext s.data.toList p.size
    rw [Lib.mk_data, ← Lib.size_eq] at this
    exact this
theorem CutSuffix_eq (s p : ByteArray) (hs : s.size ≤ 9223372036854775807) : strings_CutSuffix.f s p = some (if Lib.hasSuffix s.data.toList p.data.toList then (⟨(s.data.toList.take (s.size - p.size)).toArray⟩, true) else (s, false)) := by
  unfold strings_CutSuffix.f stringslite_CutSuffix.f
  rw [HasSuffix_eq s p hs]
  simp only [Option.bind_some]
  cases h : Lib.hasSuffix s.data.toList p.data.toList
  · rfl
  · have hle : p.size ≤ s.size := by
      rw [← Lib.hasSuffix_raw] at h
      simp at h
      exact h.1
    have hw : wrap64 ((s.size : Int) - (p.size : Int)) = ((s.size - p.size : Nat) : Int) := by unfold wrap64; omega
    simp only [if_true]
    rw [hw, if_pos (by omega), if_pos (by omega), Int.toNat_natCast]
    simp only [Option.bind_some]
    congr 2
    have := take_ext s.data.toList (s.size - p.size)
    rw [Lib.mk_data] at this
    exact this
theorem hasPrefix_one (c : UInt8) (l : List UInt8) : Lib.hasPrefix l [c] = (l.head? == some c) := by
  cases l with
  | nil => rfl
  | cons a l =>
    simp only [Lib.hasPrefix, List.isPrefixOf, List.head?_cons]
    rw [Bool.and_true, Bool.eq_iff_iff]
    simp
    exact eq_comm
theorem hasSuffix_one (c : UInt8) (l : List UInt8) : Lib.hasSuffix l [c] = (l.getLast? == some c) := by
  simp only [Lib.hasSuffix, List.isSuffixOf, List.reverse_singleton]
  have := hasPrefix_one c l.reverse
  simp only [Lib.hasPrefix] at this
  rw [this, List.head?_reverse]
end Go.Proofs.YtmhcdigneamgdaaGreatDoor.G
