/- XmlParses: part 6 of what its proof leans on. -/
import Derived.Lib.IndexMore
import Derived.Test.YtkhjpobhdpcglaaDoorBXmlParses1
import Derived.Test.YtkhjpobhdpcglaaDoorBXmlParses2
import Derived.Test.YtkhjpobhdpcglaaDoorBXmlParses3
import Derived.Test.YtkhjpobhdpcglaaDoorBXmlParses4
import Derived.Test.YtkhjpobhdpcglaaDoorBXmlParses5
set_option linter.unusedVariables false
set_option linter.unusedSimpArgs false
section
namespace Go.Proofs.YtkhjpobhdpcglaaDoor.X
open Go.RowKit Go.Proofs.YtkhjpobhdpcglaaDoorW.PrintWords Go.Proofs.YtkhjpobhdpcglaaDoorW.PrintLast Go.Proofs.YtkhjpobhdpcglaaDoorW.PrintMore
attribute [local go_sem] max2_int min2_int max_two min_two max_three min_three max_four min_four
mutual
def q38_.j2 : Nat → ByteArray → Int → Int → Int → Option (Int × Int)
  | 0, _, _, _, _ => none
  | k + 1, x0, x5, x6, x7 => if (x0.size : Int) < x5 then (some (0, 0)) else (q38_.l0 k x0 x5 x6 x7 1)
def q38_.l0 : Nat → ByteArray → Int → Int → Int → Int → Option (Int × Int)
  | 0, _, _, _, _, _ => none
  | k + 1, x0, x5, x6, x7, x8 => if x8 < x5 then (if 0 ≤ x8 then (if x8 < (x0.size : Int) then (if (bt x0 x8) < 128 then (some (0, 0)) else (if (bt x0 x8) ≥ 192 then (some (0, 0)) else (q38_.l0 k x0 x5 (wrap64 ((wrap64 ((wrap64 (64 * x6)) + (wrap64 (bt x0 x8)))) - 128)) x7 (wrap64 (x8 + 1))))) else (none)) else (none)) else (if x6 < x7 then (some (0, 0)) else (if x6 > 1114111 then (some (0, 0)) else (if x6 ≥ 55296 then (if x6 < 57344 then (some (0, 0)) else (some (x6, x5))) else (some (x6, x5)))))
def q38_.j0 : Nat → ByteArray → Int → Bool → Option (Int × Int)
  | 0, _, _, _ => none
  | k + 1, x0, x4, x16 => if x16 = true then (q38_.j2 k x0 2 (wrap64 (x4 - 192)) 128) else (if x4 ≥ 224 then (q38_.j1 k x0 x4 (decide (x4 < 240))) else (q38_.j1 k x0 x4 false))
def q38_.j1 : Nat → ByteArray → Int → Bool → Option (Int × Int)
  | 0, _, _, _ => none
  | k + 1, x0, x4, x25 => if x25 = true then (q38_.j2 k x0 3 (wrap64 (x4 - 224)) 2048) else (if x4 ≥ 240 then (if x4 < 248 then (q38_.j2 k x0 4 (wrap64 (x4 - 240)) 65536) else (some (0, 0))) else (some (0, 0)))
end
def q38_.f (k : Nat) (a0 : ByteArray) : Option (Int × Int) := if 0 < (a0.size : Int) then (if (wrap64 (bt a0 0)) < 128 then (some (wrap64 (bt a0 0), 1)) else (if (wrap64 (bt a0 0)) ≥ 192 then (q38_.j0 k a0 (wrap64 (bt a0 0)) (decide ((wrap64 (bt a0 0)) < 224))) else (q38_.j0 k a0 (wrap64 (bt a0 0)) false))) else (none)
theorem q38_.mono_l : ∀ k, (∀ y0 y1 y2 y3, LeO (q38_.j2 k y0 y1 y2 y3) (q38_.j2 (k + 1) y0 y1 y2 y3)) ∧ (∀ y0 y1 y2 y3 y4, LeO (q38_.l0 k y0 y1 y2 y3 y4) (q38_.l0 (k + 1) y0 y1 y2 y3 y4)) ∧ (∀ y0 y1 y2, LeO (q38_.j0 k y0 y1 y2) (q38_.j0 (k + 1) y0 y1 y2)) ∧ (∀ y0 y1 y2, LeO (q38_.j1 k y0 y1 y2) (q38_.j1 (k + 1) y0 y1 y2))
  | 0 => ⟨fun _ _ _ _ r h => by simp [q38_.j2] at h, fun _ _ _ _ _ r h => by simp [q38_.l0] at h, fun _ _ _ r h => by simp [q38_.j0] at h, fun _ _ _ r h => by simp [q38_.j1] at h⟩
  | k + 1 => by
    obtain ⟨ih0, ih1, ih2, ih3⟩ := q38_.mono_l k
    refine ⟨?_, ?_, ?_, ?_⟩
    · intro y0 y1 y2 y3
      unfold q38_.j2
      repeat' first
      | (with_reducible exact ih0 _ _ _ _)
      | (with_reducible exact ih1 _ _ _ _ _)
      | (with_reducible exact ih2 _ _ _)
      | (with_reducible exact ih3 _ _ _)
      | (with_reducible exact LeO.refl _)
      | (with_reducible exact LeO.none _)
      | (with_reducible refine LeO.ite ?_ ?_)
      | (with_reducible refine LeO.bind ?_ (fun _ => ?_))
      | exact ih0 _ _ _ _
      | exact ih1 _ _ _ _ _
      | exact ih2 _ _ _
      | exact ih3 _ _ _
      | exact LeO.none _
      | refine LeO.ite ?_ ?_
      | refine LeO.bind ?_ (fun _ => ?_)
    · intro y0 y1 y2 y3 y4
      unfold q38_.l0
      repeat' first
      | (with_reducible exact ih0 _ _ _ _)
      | (with_reducible exact ih1 _ _ _ _ _)
      | (with_reducible exact ih2 _ _ _)
      | (with_reducible exact ih3 _ _ _)
      | (with_reducible exact LeO.refl _)
      | (with_reducible exact LeO.none _)
      | (with_reducible refine LeO.ite ?_ ?_)
      | (with_reducible refine LeO.bind ?_ (fun _ => ?_))
      | exact ih0 _ _ _ _
      | exact ih1 _ _ _ _ _
      | exact ih2 _ _ _
      | exact ih3 _ _ _
      | exact LeO.none _
      | refine LeO.ite ?_ ?_
      | refine LeO.bind ?_ (fun _ => ?_)
    · intro y0 y1 y2
      unfold q38_.j0
      repeat' first
      | (with_reducible exact ih0 _ _ _ _)
      | (with_reducible exact ih1 _ _ _ _ _)
      | (with_reducible exact ih2 _ _ _)
      | (with_reducible exact ih3 _ _ _)
      | (with_reducible exact LeO.refl _)
      | (with_reducible exact LeO.none _)
      | (with_reducible refine LeO.ite ?_ ?_)
      | (with_reducible refine LeO.bind ?_ (fun _ => ?_))
      | exact ih0 _ _ _ _
      | exact ih1 _ _ _ _ _
      | exact ih2 _ _ _
      | exact ih3 _ _ _
      | exact LeO.none _
      | refine LeO.ite ?_ ?_
      | refine LeO.bind ?_ (fun _ => ?_)
    · intro y0 y1 y2
      unfold q38_.j1
      repeat' first
      | (with_reducible exact ih0 _ _ _ _)
      | (with_reducible exact ih1 _ _ _ _ _)
      | (with_reducible exact ih2 _ _ _)
      | (with_reducible exact ih3 _ _ _)
      | (with_reducible exact LeO.refl _)
      | (with_reducible exact LeO.none _)
      | (with_reducible refine LeO.ite ?_ ?_)
      | (with_reducible refine LeO.bind ?_ (fun _ => ?_))
      | exact ih0 _ _ _ _
      | exact ih1 _ _ _ _ _
      | exact ih2 _ _ _
      | exact ih3 _ _ _
      | exact LeO.none _
      | refine LeO.ite ?_ ?_
      | refine LeO.bind ?_ (fun _ => ?_)
theorem q38_.mono : ∀ a0 k, LeO (q38_.f k a0) (q38_.f (k + 1) a0) := by
  intro a0 k
  obtain ⟨ih0, ih1, ih2, ih3⟩ := q38_.mono_l k
  unfold q38_.f
  repeat' first
      | (with_reducible exact ih0 _ _ _ _)
      | (with_reducible exact ih1 _ _ _ _ _)
      | (with_reducible exact ih2 _ _ _)
      | (with_reducible exact ih3 _ _ _)
      | (with_reducible exact LeO.refl _)
      | (with_reducible exact LeO.none _)
      | (with_reducible refine LeO.ite ?_ ?_)
      | (with_reducible refine LeO.bind ?_ (fun _ => ?_))
      | exact ih0 _ _ _ _
      | exact ih1 _ _ _ _ _
      | exact ih2 _ _ _
      | exact ih3 _ _ _
      | exact LeO.none _
      | refine LeO.ite ?_ ?_
      | refine LeO.bind ?_ (fun _ => ?_)
set_option maxHeartbeats 8000000 in
set_option maxRecDepth 100000 in
theorem q38_.calls (k : Nat) (a0 : ByteArray) (r1 : Int) (r2 : Int) (w : World) (h : q38_.f k a0 = some (r1, r2)) :
    Calls Tryd.prog 96 #[.string a0] w fun e w' => e = .returned (.tuple #[.int .i64 r1, .int .i64 r2]) ∧ Drawn0 w w' := by
  have H : (if 0 < (a0.size : Int) then (if (wrap64 (bt a0 0)) < 128 then (some (wrap64 (bt a0 0), 1)) else (if (wrap64 (bt a0 0)) ≥ 192 then (q38_.j0 k a0 (wrap64 (bt a0 0)) (decide ((wrap64 (bt a0 0)) < 224))) else (q38_.j0 k a0 (wrap64 (bt a0 0)) false))) else (none)) = some (r1, r2) := h
  clear h
  by_cases c2 : 0 < (a0.size : Int)
  · rw [if_pos c2] at H
    have c2b0 : decide (0 < (a0.size : Int)) = true := decide_eq_true c2
    have c2b1 : decide (0 < a0.size) = true := decide_eq_true (by omega)
    clear c2
    have HC4 := Aside0.mk H
    clear H
    have p3 : 0 ≤ (0 : Int) := (by omega)
    have q3 : 0 < a0.size := (by have : (0 : Int) < (a0.size : Int) := of_decide_eq_true (by first | (with_reducible assumption) | assumption); omega)
    have hx3 : ∀ h : 0 < a0.size, ((a0[0]'h).toNat : Int) = bt a0 0 := bt_at a0 0
    clear p3
    have qi3 : (0 < (a0.size : Int)) = True := eq_true (of_decide_eq_true (by first | (with_reducible assumption) | assumption))
    replace q3 := eq_true q3
    go_enter Tryd.func96, Tryd.ntmps96
    go_upto_block 0 with (fail)
    go_cut [5, 6, 7] (fun v5 v6 v7 wc => ∃ (kq : Nat) (x5_3 : Int) (x6_3 : Int) (x7_3 : Int), v5 = .int .i64 x5_3 ∧ v6 = .int .i64 x6_3 ∧ v7 = .int .i64 x7_3 ∧ Aside0 (q38_.j2 kq a0 x5_3 x6_3 x7_3 = some (r1, r2)) ∧ Aside0 (kq ≤ k) ∧ Drawn0 w wc)
    case first =>
      have H := HC4.out
      clear HC4
      by_cases c5 : (wrap64 (bt a0 0)) < 128
      · rw [if_pos c5] at H
        have c5b0 : decide ((wrap64 (bt a0 0)) < 128) = true := decide_eq_true c5
        clear c5
        (first | rw [c5b0] | (simp only [i64_w, i32_w]; rw [c5b0]) | skip)
        simp only [Option.some.injEq, Prod.mk.injEq] at H
        obtain ⟨rfl, rfl⟩ := H
        go_wp2
        go_ret2
        exact ⟨by first | rfl | (simp; done) | (simp [*]; done), by repeat (first | exact Drawn0.refl _ | apply Drawn0.step)⟩
      · rw [if_neg c5] at H
        have c5b0 : decide ((wrap64 (bt a0 0)) < 128) = false := decide_eq_false c5
        clear c5
        (first | rw [c5b0] | (simp only [i64_w, i32_w]; rw [c5b0]) | skip)
        have HC6 := Aside0.mk H
        clear H
        go_upto_region 8 with (fail)
        go_cut [16] (fun v16 wc => ∃ (kq : Nat) (x16_5 : Bool), v16 = .bool x16_5 ∧ Aside0 (q38_.j0 kq a0 (wrap64 (bt a0 0)) x16_5 = some (r1, r2)) ∧ Aside0 (kq ≤ k) ∧ Drawn0 w wc)
        case first =>
          have H := HC6.out
          clear HC6
          by_cases c7 : (wrap64 (bt a0 0)) ≥ 192
          · rw [if_pos c7] at H
            have c7b0 : decide (192 ≤ (wrap64 (bt a0 0))) = true := decide_eq_true c7
            clear c7
            (first | rw [c7b0] | (simp only [i64_w, i32_w]; rw [c7b0]) | skip)
            have H' := Aside0.mk H
            clear H
            go_wp2
            go_meet
            case rel => exact ⟨_, (decide ((wrap64 (bt a0 0)) < 224)), (by first | rfl | (simp; done) | (simp [*]; done)), H', ⟨by first | omega | exact Nat.le_refl _⟩, by repeat (first | exact Drawn0.refl _ | apply Drawn0.step)⟩
          · rw [if_neg c7] at H
            have c7b0 : decide (192 ≤ (wrap64 (bt a0 0))) = false := decide_eq_false c7
            clear c7
            (first | rw [c7b0] | (simp only [i64_w, i32_w]; rw [c7b0]) | skip)
            have H' := Aside0.mk H
            clear H
            go_wp2
            go_meet
            case rel => exact ⟨_, (false), (by first | rfl | (simp; done) | (simp [*]; done)), H', ⟨by first | omega | exact Nat.le_refl _⟩, by repeat (first | exact Drawn0.refl _ | apply Drawn0.step)⟩
        case rest =>
          clear HC6
          try clear c2
          try clear c2b0
          try clear c2b1
          try clear p2
          try clear p3
          try clear q3
          try clear hx3
          try clear qi3
          try clear c5
          try clear c5b0
          try clear p6
          try clear c7
          try clear c7b0
          try clear p3
          try clear q3
          obtain ⟨kq, x16_5, rfl, HA, HJ5, ⟨mc5, rfl⟩⟩ := hcut
          cases kq with
          | zero => exact absurd HA.out (by simp [q38_.j0])
          | succ kj5 =>
            have H := HA.out
            clear HA
            simp only [q38_.j0] at H
            by_cases c8 : x16_5 = true
            · subst c8
              have H1 : (q38_.j2 kj5 a0 2 (wrap64 ((wrap64 (bt a0 0)) - 192)) 128) = some (r1, r2) := by rw [if_pos rfl] at H; exact H
              clear H
              have H := H1
              clear H1
              have H' := Aside0.mk H
              clear H
              go_wp2
              go_meet
              case rel => exact ⟨_, (2), (wrap64 ((wrap64 (bt a0 0)) - 192)), (128), (by first | rfl | (simp; done) | (simp [*]; done)), (by first | rfl | (simp; done) | (simp [*]; done)), (by first | rfl | (simp; done) | (simp [*]; done)), H', ⟨by have := HJ5.out; first | omega | exact Nat.le_refl _⟩, by repeat (first | exact Drawn0.refl _ | apply Drawn0.step)⟩
            · replace c8 := Bool.eq_false_iff.mpr c8
              subst c8
              have H1 : (if (wrap64 (bt a0 0)) ≥ 224 then (q38_.j1 kj5 a0 (wrap64 (bt a0 0)) (decide ((wrap64 (bt a0 0)) < 240))) else (q38_.j1 kj5 a0 (wrap64 (bt a0 0)) false)) = some (r1, r2) := by rw [if_neg (show ¬ (false = true) by decide)] at H; exact H
              clear H
              have H := H1
              clear H1
              have HC9 := Aside0.mk H
              clear H
              go_upto_region 12 with (fail)
              go_cut [25] (fun v25 wc => ∃ (kq : Nat) (x25_8 : Bool), v25 = .bool x25_8 ∧ Aside0 (q38_.j1 kq a0 (wrap64 (bt a0 0)) x25_8 = some (r1, r2)) ∧ Aside0 (kq ≤ kj5) ∧ Drawn0 w wc)
              case first =>
                have H := HC9.out
                clear HC9
                by_cases c10 : (wrap64 (bt a0 0)) ≥ 224
                · rw [if_pos c10] at H
                  have c10b0 : decide (224 ≤ (wrap64 (bt a0 0))) = true := decide_eq_true c10
                  clear c10
                  (first | rw [c10b0] | (simp only [i64_w, i32_w]; rw [c10b0]) | skip)
                  have H' := Aside0.mk H
                  clear H
                  go_wp2
                  go_meet
                  case rel => exact ⟨_, (decide ((wrap64 (bt a0 0)) < 240)), (by first | rfl | (simp; done) | (simp [*]; done)), H', ⟨by have := HJ5.out; first | omega | exact Nat.le_refl _⟩, by repeat (first | exact Drawn0.refl _ | apply Drawn0.step)⟩
                · rw [if_neg c10] at H
                  have c10b0 : decide (224 ≤ (wrap64 (bt a0 0))) = false := decide_eq_false c10
                  clear c10
                  (first | rw [c10b0] | (simp only [i64_w, i32_w]; rw [c10b0]) | skip)
                  have H' := Aside0.mk H
                  clear H
                  go_wp2
                  go_meet
                  case rel => exact ⟨_, (false), (by first | rfl | (simp; done) | (simp [*]; done)), H', ⟨by have := HJ5.out; first | omega | exact Nat.le_refl _⟩, by repeat (first | exact Drawn0.refl _ | apply Drawn0.step)⟩
              case rest =>
                clear HC9
                try clear c1
                try clear c2
                try clear c2b0
                try clear c2b1
                try clear p2
                try clear p3
                try clear q3
                try clear hx3
                try clear qi3
                try clear c5
                try clear c5b0
                try clear p6
                try clear c7
                try clear c7b0
                try clear c8
                try clear c9
                try clear c10
                try clear c10b0
                try clear p2
                try clear p3
                try clear p6
                try clear q3
                obtain ⟨kq, x25_8, rfl, HA, HJ8, ⟨mc8, rfl⟩⟩ := hcut
                cases kq with
                | zero => exact absurd HA.out (by simp [q38_.j1])
                | succ kj8 =>
                  have H := HA.out
                  clear HA
                  simp only [q38_.j1] at H
                  by_cases c11 : x25_8 = true
                  · subst c11
                    have H1 : (q38_.j2 kj8 a0 3 (wrap64 ((wrap64 (bt a0 0)) - 224)) 2048) = some (r1, r2) := by rw [if_pos rfl] at H; exact H
                    clear H
                    have H := H1
                    clear H1
                    have H' := Aside0.mk H
                    clear H
                    go_wp2
                    go_meet
                    case rel => exact ⟨_, (3), (wrap64 ((wrap64 (bt a0 0)) - 224)), (2048), (by first | rfl | (simp; done) | (simp [*]; done)), (by first | rfl | (simp; done) | (simp [*]; done)), (by first | rfl | (simp; done) | (simp [*]; done)), H', ⟨by have := HJ5.out; have := HJ8.out; first | omega | exact Nat.le_refl _⟩, by repeat (first | exact Drawn0.refl _ | apply Drawn0.step)⟩
                  · replace c11 := Bool.eq_false_iff.mpr c11
                    subst c11
                    have H1 : (if (wrap64 (bt a0 0)) ≥ 240 then (if (wrap64 (bt a0 0)) < 248 then (q38_.j2 kj8 a0 4 (wrap64 ((wrap64 (bt a0 0)) - 240)) 65536) else (some (0, 0))) else (some (0, 0))) = some (r1, r2) := by rw [if_neg (show ¬ (false = true) by decide)] at H; exact H
                    clear H
                    have H := H1
                    clear H1
                    by_cases c12 : (wrap64 (bt a0 0)) ≥ 240
                    · rw [if_pos c12] at H
                      have c12b0 : decide (240 ≤ (wrap64 (bt a0 0))) = true := decide_eq_true c12
                      clear c12
                      by_cases c13 : (wrap64 (bt a0 0)) < 248
                      · rw [if_pos c13] at H
                        have c13b0 : decide ((wrap64 (bt a0 0)) < 248) = true := decide_eq_true c13
                        clear c13
                        have H' := Aside0.mk H
                        clear H
                        go_wp2
                        go_meet
                        case rel => exact ⟨_, (4), (wrap64 ((wrap64 (bt a0 0)) - 240)), (65536), (by first | rfl | (simp; done) | (simp [*]; done)), (by first | rfl | (simp; done) | (simp [*]; done)), (by first | rfl | (simp; done) | (simp [*]; done)), H', ⟨by have := HJ5.out; have := HJ8.out; first | omega | exact Nat.le_refl _⟩, by repeat (first | exact Drawn0.refl _ | apply Drawn0.step)⟩
                      · rw [if_neg c13] at H
                        have c13b0 : decide ((wrap64 (bt a0 0)) < 248) = false := decide_eq_false c13
                        clear c13
                        simp only [Option.some.injEq, Prod.mk.injEq] at H
                        obtain ⟨rfl, rfl⟩ := H
                        go_wp2
                        go_ret2
                        exact ⟨by first | rfl | (simp; done) | (simp [*]; done), by repeat (first | exact Drawn0.refl _ | apply Drawn0.step)⟩
                    · rw [if_neg c12] at H
                      have c12b0 : decide (240 ≤ (wrap64 (bt a0 0))) = false := decide_eq_false c12
                      clear c12
                      simp only [Option.some.injEq, Prod.mk.injEq] at H
                      obtain ⟨rfl, rfl⟩ := H
                      go_wp2
                      go_ret2
                      exact ⟨by first | rfl | (simp; done) | (simp [*]; done), by repeat (first | exact Drawn0.refl _ | apply Drawn0.step)⟩
    case rest =>
      clear HC4
      try clear c1
      try clear c2
      try clear c2b0
      try clear c2b1
      try clear p2
      try clear p3
      try clear q3
      try clear hx3
      try clear qi3
      try clear c5
      try clear c5b0
      try clear p6
      try clear c7
      try clear c7b0
      try clear c8
      try clear c9
      try clear c10
      try clear c10b0
      try clear c11
      try clear c12
      try clear c12b0
      try clear c13
      try clear c13b0
      try clear p2
      try clear p3
      try clear p6
      try clear q3
      obtain ⟨kq, x5_3, x6_3, x7_3, rfl, rfl, rfl, HA, HJ3, ⟨mc3, rfl⟩⟩ := hcut
      cases kq with
      | zero => exact absurd HA.out (by simp [q38_.j2])
      | succ kj3 =>
        have H := HA.out
        clear HA
        simp only [q38_.j2] at H
        by_cases c14 : (a0.size : Int) < x5_3
        · rw [if_pos c14] at H
          have c14b0 : decide ((a0.size : Int) < x5_3) = true := decide_eq_true c14
          clear c14
          simp only [Option.some.injEq, Prod.mk.injEq] at H
          obtain ⟨rfl, rfl⟩ := H
          go_wp2
          go_ret2
          exact ⟨by first | rfl | (simp; done) | (simp [*]; done), by repeat (first | exact Drawn0.refl _ | apply Drawn0.step)⟩
        · rw [if_neg c14] at H
          have c14b0 : decide ((a0.size : Int) < x5_3) = false := decide_eq_false c14
          clear c14
          have H' := Aside0.mk H
          clear H
          go_wp2
          go_loopg [6, 8] kj3 (fun kq v6 v8 w' => ∃ (x6_2 : Int) (x8_2 : Int), v6 = .int .i64 x6_2 ∧ v8 = .int .i64 x8_2 ∧ Aside0 (q38_.l0 kq a0 x5_3 x6_2 x7_3 x8_2 = some (r1, r2)) ∧ Aside0 (kq ≤ kj3) ∧ Drawn0 w w')
          case atStart => exact ⟨(x6_3), (1), (by first | rfl | (simp; done) | (simp [*]; done)), (by first | rfl | (simp; done) | (simp [*]; done)), H', ⟨Nat.le_refl _⟩, by repeat (first | exact Drawn0.refl _ | apply Drawn0.step)⟩
          case round =>
            clear H'
            try clear c1
            try clear c2
            try clear c2b0
            try clear c2b1
            try clear p2
            try clear c3
            try clear p3
            try clear q3
            try clear hx3
            try clear qi3
            try clear c5
            try clear c5b0
            try clear p6
            try clear c7
            try clear c7b0
            try clear c8
            try clear c9
            try clear c10
            try clear c10b0
            try clear c11
            try clear c12
            try clear c12b0
            try clear c13
            try clear c13b0
            try clear c14
            try clear c14b0
            try clear p2
            try clear p3
            try clear p6
            try clear q3
            obtain ⟨x6_2, x8_2, rfl, rfl, HA, HK2, ⟨m2, rfl⟩⟩ := hrel
            cases gk with
            | zero => exact absurd HA.out (by simp [q38_.l0])
            | succ k2 =>
              have H := HA.out
              clear HA
              simp only [q38_.l0] at H
              by_cases c15 : x8_2 < x5_3
              · rw [if_pos c15] at H
                have c15b0 : decide (x8_2 < x5_3) = true := decide_eq_true c15
                clear c15
                by_cases c16 : 0 ≤ x8_2
                · rw [if_pos c16] at H
                  have c16b0 : decide (0 ≤ x8_2) = true := decide_eq_true c16
                  clear c16
                  by_cases c17 : x8_2 < (a0.size : Int)
                  · rw [if_pos c17] at H
                    have c17b0 : decide (x8_2 < (a0.size : Int)) = true := decide_eq_true c17
                    clear c17
                    by_cases c19 : (bt a0 x8_2) < 128
                    · rw [if_pos c19] at H
                      have c19b0 : decide ((bt a0 x8_2) < 128) = true := decide_eq_true c19
                      clear c19
                      simp only [Option.some.injEq, Prod.mk.injEq] at H
                      obtain ⟨rfl, rfl⟩ := H
                      have p18 : 0 ≤ (x8_2 : Int) := of_decide_eq_true (by first | (with_reducible assumption) | assumption)
                      have q18 : x8_2 < (a0.size : Int) := of_decide_eq_true (by first | (with_reducible assumption) | assumption)
                      have hx18 := bt_at a0 x8_2
                      replace p18 := eq_true p18
                      replace q18 := eq_true q18
                      go_wp2
                      go_ret2
                      exact ⟨by first | rfl | (simp; done) | (simp [*]; done), by repeat (first | exact Drawn0.refl _ | apply Drawn0.step)⟩
                    · rw [if_neg c19] at H
                      have c19b0 : decide ((bt a0 x8_2) < 128) = false := decide_eq_false c19
                      clear c19
                      by_cases c21 : (bt a0 x8_2) ≥ 192
                      · rw [if_pos c21] at H
                        have c21b0 : decide (192 ≤ (bt a0 x8_2)) = true := decide_eq_true c21
                        clear c21
                        simp only [Option.some.injEq, Prod.mk.injEq] at H
                        obtain ⟨rfl, rfl⟩ := H
                        have p18 : 0 ≤ (x8_2 : Int) := of_decide_eq_true (by first | (with_reducible assumption) | assumption)
                        have q18 : x8_2 < (a0.size : Int) := of_decide_eq_true (by first | (with_reducible assumption) | assumption)
                        have hx18 := bt_at a0 x8_2
                        replace p18 := eq_true p18
                        replace q18 := eq_true q18
                        have p20 : 0 ≤ (x8_2 : Int) := of_decide_eq_true (by first | (with_reducible assumption) | assumption)
                        have q20 : x8_2 < (a0.size : Int) := of_decide_eq_true (by first | (with_reducible assumption) | assumption)
                        have hx20 := bt_at a0 x8_2
                        replace p20 := eq_true p20
                        replace q20 := eq_true q20
                        go_wp2
                        go_ret2
                        exact ⟨by first | rfl | (simp; done) | (simp [*]; done), by repeat (first | exact Drawn0.refl _ | apply Drawn0.step)⟩
                      · rw [if_neg c21] at H
                        have c21b0 : decide (192 ≤ (bt a0 x8_2)) = false := decide_eq_false c21
                        clear c21
                        have H' := Aside0.mk H
                        clear H
                        have p18 : 0 ≤ (x8_2 : Int) := of_decide_eq_true (by first | (with_reducible assumption) | assumption)
                        have q18 : x8_2 < (a0.size : Int) := of_decide_eq_true (by first | (with_reducible assumption) | assumption)
                        have hx18 := bt_at a0 x8_2
                        replace p18 := eq_true p18
                        replace q18 := eq_true q18
                        have p20 : 0 ≤ (x8_2 : Int) := of_decide_eq_true (by first | (with_reducible assumption) | assumption)
                        have q20 : x8_2 < (a0.size : Int) := of_decide_eq_true (by first | (with_reducible assumption) | assumption)
                        have hx20 := bt_at a0 x8_2
                        replace p20 := eq_true p20
                        replace q20 := eq_true q20
                        have p22 : 0 ≤ (x8_2 : Int) := of_decide_eq_true (by first | (with_reducible assumption) | assumption)
                        have q22 : x8_2 < (a0.size : Int) := of_decide_eq_true (by first | (with_reducible assumption) | assumption)
                        have hx22 := bt_at a0 x8_2
                        replace p22 := eq_true p22
                        replace q22 := eq_true q22
                        go_wp2
                        go_roundg k2
                        case measure => have := HJ3.out; have := HK2.out; omega
                        case rel => exact ⟨(wrap64 ((wrap64 ((wrap64 (64 * x6_2)) + (wrap64 (bt a0 x8_2)))) - 128)), (wrap64 (x8_2 + 1)), (by first | rfl | (simp; done) | (simp [*]; done)), (by first | rfl | (simp; done) | (simp [*]; done)), H', ⟨by have := HJ3.out; have := HK2.out; omega⟩, by repeat (first | exact Drawn0.refl _ | apply Drawn0.step)⟩
                  · rw [if_neg c17] at H
                    exact absurd H (by simp)
                · rw [if_neg c16] at H
                  exact absurd H (by simp)
              · rw [if_neg c15] at H
                have c15b0 : decide (x8_2 < x5_3) = false := decide_eq_false c15
                clear c15
                by_cases c23 : x6_2 < x7_3
                · rw [if_pos c23] at H
                  have c23b0 : decide (x6_2 < x7_3) = true := decide_eq_true c23
                  clear c23
                  simp only [Option.some.injEq, Prod.mk.injEq] at H
                  obtain ⟨rfl, rfl⟩ := H
                  go_wp2
                  go_ret2
                  exact ⟨by first | rfl | (simp; done) | (simp [*]; done), by repeat (first | exact Drawn0.refl _ | apply Drawn0.step)⟩
                · rw [if_neg c23] at H
                  have c23b0 : decide (x6_2 < x7_3) = false := decide_eq_false c23
                  clear c23
                  by_cases c24 : x6_2 > 1114111
                  · rw [if_pos c24] at H
                    have c24b0 : decide (1114111 < x6_2) = true := decide_eq_true c24
                    clear c24
                    simp only [Option.some.injEq, Prod.mk.injEq] at H
                    obtain ⟨rfl, rfl⟩ := H
                    go_wp2
                    go_ret2
                    exact ⟨by first | rfl | (simp; done) | (simp [*]; done), by repeat (first | exact Drawn0.refl _ | apply Drawn0.step)⟩
                  · rw [if_neg c24] at H
                    have c24b0 : decide (1114111 < x6_2) = false := decide_eq_false c24
                    clear c24
                    by_cases c25 : x6_2 ≥ 55296
                    · rw [if_pos c25] at H
                      have c25b0 : decide (55296 ≤ x6_2) = true := decide_eq_true c25
                      clear c25
                      by_cases c26 : x6_2 < 57344
                      · rw [if_pos c26] at H
                        have c26b0 : decide (x6_2 < 57344) = true := decide_eq_true c26
                        clear c26
                        simp only [Option.some.injEq, Prod.mk.injEq] at H
                        obtain ⟨rfl, rfl⟩ := H
                        go_wp2
                        go_ret2
                        exact ⟨by first | rfl | (simp; done) | (simp [*]; done), by repeat (first | exact Drawn0.refl _ | apply Drawn0.step)⟩
                      · rw [if_neg c26] at H
                        have c26b0 : decide (x6_2 < 57344) = false := decide_eq_false c26
                        clear c26
                        simp only [Option.some.injEq, Prod.mk.injEq] at H
                        obtain ⟨rfl, rfl⟩ := H
                        go_wp2
                        go_ret2
                        exact ⟨by first | rfl | (simp; done) | (simp [*]; done), by repeat (first | exact Drawn0.refl _ | apply Drawn0.step)⟩
                    · rw [if_neg c25] at H
                      have c25b0 : decide (55296 ≤ x6_2) = false := decide_eq_false c25
                      clear c25
                      simp only [Option.some.injEq, Prod.mk.injEq] at H
                      obtain ⟨rfl, rfl⟩ := H
                      go_wp2
                      go_ret2
                      exact ⟨by first | rfl | (simp; done) | (simp [*]; done), by repeat (first | exact Drawn0.refl _ | apply Drawn0.step)⟩
  · rw [if_neg c2] at H
    exact absurd H (by simp)
def q39_.l0 : Nat → ByteArray → Option (Bool)
  | 0, _ => none
  | k + 1, x0 => if (x0.size : Int) > 0 then ((q38_.f k x0).bind fun bt101 => (if bt101.2 = 0 then (some false) else ((q28_.f bt101.1).bind fun t103 => (if t103 = true then (if 0 ≤ bt101.2 then (if bt101.2 ≤ (x0.size : Int) then (q39_.l0 k (x0.extract (bt101.2 : Int).toNat x0.size)) else (none)) else (none)) else (some false))))) else (some true)
def q39_.f (k : Nat) (a0 : ByteArray) : Option (Bool) := q39_.l0 k a0
theorem q39_.mono_l : ∀ k, (∀ y0, LeO (q39_.l0 k y0) (q39_.l0 (k + 1) y0))
  | 0 => fun _ r h => by simp [q39_.l0] at h
  | k + 1 => by
    have ih0 := q39_.mono_l k
    · intro y0
      unfold q39_.l0
      repeat' first
      | (with_reducible exact ih0 _)
      | (with_reducible exact q38_.mono _ _)
      | (with_reducible exact LeO.refl _)
      | (with_reducible exact LeO.none _)
      | (with_reducible refine LeO.ite ?_ ?_)
      | (with_reducible refine LeO.bind ?_ (fun _ => ?_))
      | exact ih0 _
      | exact q38_.mono _ _
      | exact LeO.none _
      | refine LeO.ite ?_ ?_
      | refine LeO.bind ?_ (fun _ => ?_)
theorem q39_.mono : ∀ a0 k, LeO (q39_.f k a0) (q39_.f (k + 1) a0) := by
  intro a0 k
  have ih0 := q39_.mono_l k
  unfold q39_.f
  repeat' first
      | (with_reducible exact ih0 _)
      | (with_reducible exact q38_.mono _ _)
      | (with_reducible exact LeO.refl _)
      | (with_reducible exact LeO.none _)
      | (with_reducible refine LeO.ite ?_ ?_)
      | (with_reducible refine LeO.bind ?_ (fun _ => ?_))
      | exact ih0 _
      | exact q38_.mono _ _
      | exact LeO.none _
      | refine LeO.ite ?_ ?_
      | refine LeO.bind ?_ (fun _ => ?_)
set_option maxHeartbeats 8000000 in
set_option maxRecDepth 100000 in
theorem q39_.calls (k : Nat) (a0 : ByteArray) (r : Bool) (w : World) (h : q39_.f k a0 = some r) :
    Calls Tryd.prog 50 #[.string a0] w fun e w' => e = .returned (.bool r) ∧ Drawn0 w w' := by
  have H : (q39_.l0 k a0) = some r := h
  clear h
  have H' := Aside0.mk H
  clear H
  go_enter Tryd.func50, Tryd.ntmps50
  go_wp2
  go_loopg [0] k (fun kq v0 w' => ∃ (x0_1 : ByteArray), v0 = .string x0_1 ∧ Aside0 (q39_.l0 kq x0_1 = some r) ∧ Aside0 (kq ≤ k) ∧ Drawn0 w w')
  case atStart => exact ⟨(a0), (by first | rfl | (simp; done) | (simp [*]; done)), H', ⟨Nat.le_refl _⟩, by repeat (first | exact Drawn0.refl _ | apply Drawn0.step)⟩
  case round =>
    clear H'
    obtain ⟨x0_1, rfl, HA, HK1, ⟨m1, rfl⟩⟩ := hrel
    cases gk with
    | zero => exact absurd HA.out (by simp [q39_.l0])
    | succ k1 =>
      have H := HA.out
      clear HA
      simp only [q39_.l0] at H
      by_cases c2 : (x0_1.size : Int) > 0
      · rw [if_pos c2] at H
        have c2b0 : decide (0 < (x0_1.size : Int)) = true := decide_eq_true c2
        have c2b1 : decide (0 < x0_1.size) = true := decide_eq_true (by omega)
        clear c2
        replace H := Option.bind_eq_some_iff.mp H
        obtain ⟨⟨t101, t102⟩, A30, H⟩ := H
        replace H : (if t102 = 0 then (some false) else ((q28_.f t101).bind fun t103 => (if t103 = true then (if 0 ≤ t102 then (if t102 ≤ (x0_1.size : Int) then (q39_.l0 k1 (x0_1.extract (t102 : Int).toNat x0_1.size)) else (none)) else (none)) else (some false)))) = some r := H
        have A3 := Aside0.mk A30
        clear A30
        by_cases c4 : t102 = 0
        · rw [if_pos c4] at H
          have c4b0 : (t102 == 0) = true := beq_iff_eq.mpr c4
          have c4b1 : (t102 != 0) = false := bne_eq_false_iff_eq.mpr c4
          clear c4
          obtain rfl := Option.some.inj H
          go_wp2_with (first | ((with_reducible refine gate_callee (f := 96) rfl ?_); refine goesL_ (some 10) rfl rfl Tryd.func96 (by kernel_rfl) rfl #[.string x0_1] rfl (by (try simp only [List.map_toArray, List.map_cons, List.map_nil]); first | done | rfl | (simp only [List.length_drop, List.length_take]; rfl)) ?_; (with_reducible refine (q38_.calls k1 x0_1 t101 t102 _ A3.out).mono ?_); rintro e w' ⟨rfl, ⟨nd, rfl⟩⟩; refine ⟨_, rfl, ?_⟩))
          go_ret
          exact ⟨by first | rfl | (simp; done) | (simp [*]; done), by repeat (first | exact Drawn0.refl _ | apply Drawn0.step)⟩
        · rw [if_neg c4] at H
          have c4b0 : (t102 == 0) = false := beq_eq_false_iff_ne.mpr c4
          have c4b1 : (t102 != 0) = true := bne_iff_ne.mpr c4
          replace H := Option.bind_eq_some_iff.mp H
          obtain ⟨t103, A50, H⟩ := H
          replace H : (if t103 = true then (if 0 ≤ t102 then (if t102 ≤ (x0_1.size : Int) then (q39_.l0 k1 (x0_1.extract (t102 : Int).toNat x0_1.size)) else (none)) else (none)) else (some false)) = some r := H
          have A5 := Aside0.mk A50
          clear A50
          by_cases c6 : t103 = true
          · subst c6
            have H1 : (if 0 ≤ t102 then (if t102 ≤ (x0_1.size : Int) then (q39_.l0 k1 (x0_1.extract (t102 : Int).toNat x0_1.size)) else (none)) else (none)) = some r := by rw [if_pos rfl] at H; exact H
            clear H
            have H := H1
            clear H1
            by_cases c7 : 0 ≤ t102
            · rw [if_pos c7] at H
              have c7b0 := eq_true c7
              have c7b1 : decide (0 ≤ t102) = true := decide_eq_true c7
              clear c7
              by_cases c8 : t102 ≤ (x0_1.size : Int)
              · rw [if_pos c8] at H
                have c8b0 := eq_true c8
                have c8b1 : decide (t102 ≤ (x0_1.size : Int)) = true := decide_eq_true c8
                clear c8
                have H' := Aside0.mk H
                clear H
                go_wp2_with (first | ((with_reducible refine gate_callee (f := 96) rfl ?_); refine goesL_ (some 10) rfl rfl Tryd.func96 (by kernel_rfl) rfl #[.string x0_1] rfl (by (try simp only [List.map_toArray, List.map_cons, List.map_nil]); first | done | rfl | (simp only [List.length_drop, List.length_take]; rfl)) ?_; (with_reducible refine (q38_.calls k1 x0_1 t101 t102 _ A3.out).mono ?_); rintro e w' ⟨rfl, ⟨nd, rfl⟩⟩; refine ⟨_, rfl, ?_⟩) | (go_at_call 97; (with_reducible refine (q28_.calls t101 true _ A5.out).mono ?_); rintro e w' ⟨rfl, ⟨nd, rfl⟩⟩))
                go_roundg k1
                case measure => have := HK1.out; omega
                case rel => exact ⟨(x0_1.extract (t102 : Int).toNat x0_1.size), (by first | rfl | (simp; done) | (simp [*]; done)), H', ⟨by have := HK1.out; omega⟩, by repeat (first | exact Drawn0.refl _ | apply Drawn0.step)⟩
              · rw [if_neg c8] at H
                exact absurd H (by simp)
            · rw [if_neg c7] at H
              exact absurd H (by simp)
          · replace c6 := Bool.eq_false_iff.mpr c6
            subst c6
            have H1 : (some false) = some r := by rw [if_neg (show ¬ (false = true) by decide)] at H; exact H
            clear H
            have H := H1
            clear H1
            obtain rfl := Option.some.inj H
            go_wp2_with (first | ((with_reducible refine gate_callee (f := 96) rfl ?_); refine goesL_ (some 10) rfl rfl Tryd.func96 (by kernel_rfl) rfl #[.string x0_1] rfl (by (try simp only [List.map_toArray, List.map_cons, List.map_nil]); first | done | rfl | (simp only [List.length_drop, List.length_take]; rfl)) ?_; (with_reducible refine (q38_.calls k1 x0_1 t101 t102 _ A3.out).mono ?_); rintro e w' ⟨rfl, ⟨nd, rfl⟩⟩; refine ⟨_, rfl, ?_⟩) | (go_at_call 97; (with_reducible refine (q28_.calls t101 false _ A5.out).mono ?_); rintro e w' ⟨rfl, ⟨nd, rfl⟩⟩))
            go_ret
            exact ⟨by first | rfl | (simp; done) | (simp [*]; done), by repeat (first | exact Drawn0.refl _ | apply Drawn0.step)⟩
      · rw [if_neg c2] at H
        have c2b0 : decide (0 < (x0_1.size : Int)) = false := decide_eq_false c2
        have c2b1 : decide (0 < x0_1.size) = false := decide_eq_false (by omega)
        clear c2
        obtain rfl := Option.some.inj H
        go_wp2
        go_ret
        exact ⟨by first | rfl | (simp; done) | (simp [*]; done), by repeat (first | exact Drawn0.refl _ | apply Drawn0.step)⟩
end Go.Proofs.YtkhjpobhdpcglaaDoor.X
end
section
namespace Go.Proofs.YtkhjpobhdpcglaaDoor.X
open Go.RowKit Go.Proofs.YtkhjpobhdpcglaaDoorW.PrintWords Go.Proofs.YtkhjpobhdpcglaaDoorW.PrintLast Go.Proofs.YtkhjpobhdpcglaaDoorW.PrintMore
def at0 (s : ByteArray) (i : Nat) : Nat := (s.get! i).toNat
theorem at0_bt (s : ByteArray) (i : Nat) (h : i < s.size) : bt s (i : Int) = (at0 s i : Int) := by
  rw [bt_get s i h]
  unfold at0
  rw [get_list s i h]
theorem at0_lt (s : ByteArray) (i : Nat) : at0 s i < 256 := UInt8.toNat_lt _
theorem decode_cases (s : ByteArray) (i : Nat) : Utf8.decode s i =
    if at0 s i < 128 then (at0 s i, 1)
    else if at0 s i / 32 = 6 ∧ i + 1 < s.size ∧ at0 s (i + 1) / 64 = 2 then (if 128 ≤ (at0 s i % 32) * 64 + at0 s (i + 1) % 64 then ((at0 s i % 32) * 64 + at0 s (i + 1) % 64, 2) else (65533, 1))
    else if at0 s i / 16 = 14 ∧ (i + 1 < s.size ∧ at0 s (i + 1) / 64 = 2) ∧ i + 2 < s.size ∧ at0 s (i + 2) / 64 = 2 then (if 2048 ≤ (at0 s i % 16) * 4096 + (at0 s (i + 1) % 64) * 64 + at0 s (i + 2) % 64 ∧ Utf8.valid ((at0 s i % 16) * 4096 + (at0 s (i + 1) % 64) * 64 + at0 s (i + 2) % 64 : Nat) = true then ((at0 s i % 16) * 4096 + (at0 s (i + 1) % 64) * 64 + at0 s (i + 2) % 64, 3) else (65533, 1))
    else if at0 s i / 8 = 30 ∧ ((i + 1 < s.size ∧ at0 s (i + 1) / 64 = 2) ∧ i + 2 < s.size ∧ at0 s (i + 2) / 64 = 2) ∧ i + 3 < s.size ∧ at0 s (i + 3) / 64 = 2 then (if 65536 ≤ (at0 s i % 8) * 262144 + (at0 s (i + 1) % 64) * 4096 + (at0 s (i + 2) % 64) * 64 + at0 s (i + 3) % 64 ∧ Utf8.valid ((at0 s i % 8) * 262144 + (at0 s (i + 1) % 64) * 4096 + (at0 s (i + 2) % 64) * 64 + at0 s (i + 3) % 64 : Nat) = true then ((at0 s i % 8) * 262144 + (at0 s (i + 1) % 64) * 4096 + (at0 s (i + 2) % 64) * 64 + at0 s (i + 3) % 64, 4) else (65533, 1))
    else (65533, 1) := by
  unfold Utf8.decode at0
  simp only [Nat.add_zero, Bool.and_eq_true, decide_eq_true_eq, beq_iff_eq, ge_iff_le, and_assoc]
  rfl
def finV (n : Nat) (lo acc : Nat) : Int × Int := if acc < lo ∨ 1114111 < acc ∨ (55296 ≤ acc ∧ acc < 57344) then (0, 0) else ((acc : Int), (n : Int))
theorem l0_end (a : ByteArray) (n lo acc k : Nat) : q38_.l0 (k + 1) a (n : Int) (acc : Int) (lo : Int) (n : Int) = some (finV n lo acc) := by
  simp only [q38_.l0]
  rw [if_neg (by omega)]
  unfold finV
  by_cases h1 : acc < lo
  · rw [if_pos (by omega), if_pos (.inl h1)]
  · rw [if_neg (by omega)]
    by_cases h2 : 1114111 < acc
    · rw [if_pos (by omega), if_pos (.inr (.inl h2))]
    · rw [if_neg (by omega)]
      by_cases h3 : 55296 ≤ acc
      · rw [if_pos (by omega)]
        by_cases h4 : acc < 57344
        · rw [if_pos (by omega), if_pos (.inr (.inr ⟨h3, h4⟩))]
        · rw [if_neg (by omega), if_neg (by omega)]
      · rw [if_neg (by omega), if_neg (by omega)]
theorem l0_step (a : ByteArray) (n lo acc i k : Nat) (hi : i < n) (hs : i < a.size) (hn : n ≤ 4) (ha : acc ≤ 1048576) : q38_.l0 (k + 1) a (n : Int) (acc : Int) (lo : Int) (i : Int) = if at0 a i / 64 = 2 then q38_.l0 k a (n : Int) ((64 * acc + at0 a i % 64 : Nat) : Int) (lo : Int) ((i + 1 : Nat) : Int) else some (0, 0) := by
  have hb := at0_bt a i hs
  have hlt := at0_lt a i
  simp only [q38_.l0]
  rw [if_pos (by omega), if_pos (by omega), if_pos (by omega), hb]
  by_cases h : at0 a i / 64 = 2
  · rw [if_neg (by omega), if_neg (by omega), if_pos h]
    have hw : wrap64 (wrap64 (wrap64 (64 * (acc : Int)) + wrap64 (at0 a i : Int)) - 128) = ((64 * acc + at0 a i % 64 : Nat) : Int) := by
      have e1 : wrap64 (64 * (acc : Int)) = 64 * (acc : Int) := by unfold wrap64; omega
      have e2 : wrap64 (at0 a i : Int) = (at0 a i : Int) := by unfold wrap64; omega
      rw [e1, e2]
      have e3 : wrap64 (64 * (acc : Int) + (at0 a i : Int)) = 64 * (acc : Int) + (at0 a i : Int) := by unfold wrap64; omega
      rw [e3]
      unfold wrap64
      omega
    rw [hw, w64 i (by omega)]
  · rw [if_neg h]
    by_cases h2 : at0 a i < 128
    · rw [if_pos (by omega)]
    · rw [if_neg (by omega), if_pos (by omega)]
theorem j2_f (a : ByteArray) (n lo acc k : Nat) : q38_.j2 (k + 1) a (n : Int) (acc : Int) (lo : Int) = if a.size < n then some (0, 0) else q38_.l0 k a (n : Int) (acc : Int) (lo : Int) ((1 : Nat) : Int) := by
  simp only [q38_.j2]
  by_cases h : a.size < n
  · rw [if_pos (by omega), if_pos h]
  · rw [if_neg (by omega), if_neg h]
    rfl
def stepV (p : Nat × Nat) : Int × Int := if p.1 = 65533 ∧ p.2 = 1 then (0, 0) else ((p.1 : Int), (p.2 : Int))
theorem valid_iff (c : Nat) : Utf8.valid (c : Int) = true ↔ c < 55296 ∨ (57344 ≤ c ∧ c ≤ 1114111) := by
  unfold Utf8.valid
  simp
  omega
theorem step_2 (a : ByteArray) (k acc : Nat) (hk : 6 ≤ k) (ha : acc ≤ 31) (h0 : at0 a 0 = 192 + acc) : q38_.j2 k a 2 (acc : Int) 128 = some (stepV (Utf8.decode a 0)) := by
  obtain ⟨k, rfl⟩ : ∃ m, k = m + 1 + 1 + 1 := ⟨k - 3, by omega⟩
  have hj := j2_f a 2 128 acc (k + 1 + 1)
  rw [show ((2 : Nat) : Int) = 2 from rfl, show ((128 : Nat) : Int) = 128 from rfl] at hj
  have hd0 := decode_cases a 0
  rw [if_neg (show ¬ at0 a 0 < 128 by omega)] at hd0
  simp only [Nat.zero_add] at hd0
  rw [hj, hd0]
  by_cases hs : a.size < 2
  · rw [if_pos hs, if_neg (by omega), if_neg (by omega), if_neg (by omega)]
    rfl
  · rw [if_neg hs]
    have h1 := l0_step a 2 128 acc 1 (k + 1) (by omega) (by omega) (by omega) (by omega)
    have h2 := l0_end a 2 128 (64 * acc + at0 a 1 % 64) k
    rw [show ((2 : Nat) : Int) = 2 from rfl, show ((128 : Nat) : Int) = 128 from rfl] at h1 h2
    rw [h1]
    by_cases hc : at0 a 1 / 64 = 2
    · rw [if_pos hc, h2, if_pos (by omega)]
      have he : (at0 a 0 % 32) * 64 + at0 a 1 % 64 = 64 * acc + at0 a 1 % 64 := by omega
      rw [he]
      unfold finV stepV
      by_cases hlo : 128 ≤ 64 * acc + at0 a 1 % 64
      · rw [if_pos hlo, if_neg (by omega), if_neg (by simp)]
      · rw [if_neg hlo, if_pos (by omega), if_pos ⟨rfl, rfl⟩]
    · rw [if_neg hc, if_neg (by omega), if_neg (by omega), if_neg (by omega)]
      rfl
theorem step_3 (a : ByteArray) (k acc : Nat) (hk : 6 ≤ k) (ha : acc ≤ 15) (h0 : at0 a 0 = 224 + acc) : q38_.j2 k a 3 (acc : Int) 2048 = some (stepV (Utf8.decode a 0)) := by
  obtain ⟨k, rfl⟩ : ∃ m, k = m + 1 + 1 + 1 + 1 := ⟨k - 4, by omega⟩
  have hj := j2_f a 3 2048 acc (k + 1 + 1 + 1)
  rw [show ((3 : Nat) : Int) = 3 from rfl, show ((2048 : Nat) : Int) = 2048 from rfl] at hj
  have hd0 := decode_cases a 0
  rw [if_neg (show ¬ at0 a 0 < 128 by omega), if_neg (fun h => by omega)] at hd0
  simp only [Nat.zero_add] at hd0
  rw [hj, hd0]
  by_cases hs : a.size < 3
  · rw [if_pos hs, if_neg (by omega), if_neg (by omega)]
    rfl
  · rw [if_neg hs]
    have h1 := l0_step a 3 2048 acc 1 (k + 1 + 1) (by omega) (by omega) (by omega) (by omega)
    have h2 := l0_step a 3 2048 (64 * acc + at0 a 1 % 64) 2 (k + 1) (by omega) (by omega) (by omega) (by omega)
    have h3 := l0_end a 3 2048 (64 * (64 * acc + at0 a 1 % 64) + at0 a 2 % 64) k
    rw [show ((3 : Nat) : Int) = 3 from rfl, show ((2048 : Nat) : Int) = 2048 from rfl] at h1 h2 h3
    rw [h1]
    by_cases hc : at0 a 1 / 64 = 2
    · rw [if_pos hc, h2]
      by_cases hd : at0 a 2 / 64 = 2
      · rw [if_pos hd, h3, if_pos ⟨by omega, ⟨by omega, hc⟩, by omega, hd⟩]
        have he : (at0 a 0 % 16) * 4096 + (at0 a 1 % 64) * 64 + at0 a 2 % 64 = 64 * (64 * acc + at0 a 1 % 64) + at0 a 2 % 64 := by omega
        rw [he]
        have hv := valid_iff (64 * (64 * acc + at0 a 1 % 64) + at0 a 2 % 64)
        generalize 64 * (64 * acc + at0 a 1 % 64) + at0 a 2 % 64 = c at hv ⊢
        unfold finV stepV
        by_cases hlo : 2048 ≤ c ∧ Utf8.valid (c : Int) = true
        · have hv2 := hv.1 hlo.2
          rw [if_pos hlo, if_neg (by omega), if_neg (by simp)]
        · rw [if_neg hlo, if_pos (by
            by_cases h5 : 2048 ≤ c
            · have : ¬ (c < 55296 ∨ (57344 ≤ c ∧ c ≤ 1114111)) := fun h => hlo ⟨h5, hv.2 h⟩
              omega
            · omega), if_pos ⟨rfl, rfl⟩]
      · rw [if_neg hd, if_neg (by omega), if_neg (by omega)]
        rfl
    · rw [if_neg hc, if_neg (by omega), if_neg (by omega)]
      rfl
theorem step_4 (a : ByteArray) (k acc : Nat) (hk : 6 ≤ k) (ha : acc ≤ 7) (h0 : at0 a 0 = 240 + acc) : q38_.j2 k a 4 (acc : Int) 65536 = some (stepV (Utf8.decode a 0)) := by
  obtain ⟨k, rfl⟩ : ∃ m, k = m + 1 + 1 + 1 + 1 + 1 := ⟨k - 5, by omega⟩
  have hj := j2_f a 4 65536 acc (k + 1 + 1 + 1 + 1)
  rw [show ((4 : Nat) : Int) = 4 from rfl, show ((65536 : Nat) : Int) = 65536 from rfl] at hj
  have hd0 := decode_cases a 0
  rw [if_neg (show ¬ at0 a 0 < 128 by omega), if_neg (fun h => by omega), if_neg (fun h => by omega)] at hd0
  simp only [Nat.zero_add] at hd0
  rw [hj, hd0]
  by_cases hs : a.size < 4
  · rw [if_pos hs, if_neg (by omega)]
    rfl
  · rw [if_neg hs]
    have h1 := l0_step a 4 65536 acc 1 (k + 1 + 1 + 1) (by omega) (by omega) (by omega) (by omega)
    have h2 := l0_step a 4 65536 (64 * acc + at0 a 1 % 64) 2 (k + 1 + 1) (by omega) (by omega) (by omega) (by omega)
    have h3 := l0_step a 4 65536 (64 * (64 * acc + at0 a 1 % 64) + at0 a 2 % 64) 3 (k + 1) (by omega) (by omega) (by omega) (by omega)
    have h4 := l0_end a 4 65536 (64 * (64 * (64 * acc + at0 a 1 % 64) + at0 a 2 % 64) + at0 a 3 % 64) k
    rw [show ((4 : Nat) : Int) = 4 from rfl, show ((65536 : Nat) : Int) = 65536 from rfl] at h1 h2 h3 h4
    rw [h1]
    by_cases hc : at0 a 1 / 64 = 2
    · rw [if_pos hc, h2]
      by_cases hd : at0 a 2 / 64 = 2
      · rw [if_pos hd, h3]
        by_cases hf : at0 a 3 / 64 = 2
        · rw [if_pos hf, h4, if_pos ⟨by omega, ⟨⟨by omega, hc⟩, by omega, hd⟩, by omega, hf⟩]
          have he : (at0 a 0 % 8) * 262144 + (at0 a 1 % 64) * 4096 + (at0 a 2 % 64) * 64 + at0 a 3 % 64 = 64 * (64 * (64 * acc + at0 a 1 % 64) + at0 a 2 % 64) + at0 a 3 % 64 := by omega
          rw [he]
          have hv := valid_iff (64 * (64 * (64 * acc + at0 a 1 % 64) + at0 a 2 % 64) + at0 a 3 % 64)
          generalize 64 * (64 * (64 * acc + at0 a 1 % 64) + at0 a 2 % 64) + at0 a 3 % 64 = c at hv ⊢
          unfold finV stepV
          by_cases hlo : 65536 ≤ c ∧ Utf8.valid (c : Int) = true
          · have hv2 := hv.1 hlo.2
            rw [if_pos hlo, if_neg (by omega), if_neg (by simp)]
          · rw [if_neg hlo, if_pos (by
              by_cases h5 : 65536 ≤ c
              · have : ¬ (c < 55296 ∨ (57344 ≤ c ∧ c ≤ 1114111)) := fun h => hlo ⟨h5, hv.2 h⟩
                omega
              · omega), if_pos ⟨rfl, rfl⟩]
        · rw [if_neg hf, if_neg (by omega)]
          rfl
      · rw [if_neg hd, if_neg (by omega)]
        rfl
    · rw [if_neg hc, if_neg (by omega)]
      rfl
theorem step_f (a : ByteArray) (h0 : 0 < a.size) (k : Nat) (hk : 10 ≤ k) : q38_.f k a = some (stepV (Utf8.decode a 0)) := by
  obtain ⟨k, rfl⟩ : ∃ m, k = m + 1 + 1 := ⟨k - 2, by omega⟩
  have hb : bt a 0 = (at0 a 0 : Int) := at0_bt a 0 h0
  have hlt := at0_lt a 0
  have hw : wrap64 (bt a 0) = (at0 a 0 : Int) := by rw [hb]; unfold wrap64; omega
  have hsub : ∀ x : Nat, x ≤ at0 a 0 → wrap64 ((at0 a 0 : Int) - (x : Int)) = ((at0 a 0 - x : Nat) : Int) := fun x hx => by unfold wrap64; omega
  unfold q38_.f
  rw [if_pos (by omega), hw]
  by_cases h1 : at0 a 0 < 128
  · rw [if_pos (by omega), decode_cases, if_pos h1]
    unfold stepV
    rw [if_neg (by omega)]
    rfl
  · rw [if_neg (by omega)]
    have no : ¬ (at0 a 0 / 32 = 6) → ¬ (at0 a 0 / 16 = 14) → ¬ (at0 a 0 / 8 = 30) → stepV (Utf8.decode a 0) = (0, 0) := fun n1 n2 n3 => by
      rw [decode_cases, if_neg h1, if_neg (fun h => n1 h.1), if_neg (fun h => n2 h.1), if_neg (fun h => n3 h.1)]
      rfl
    have hj1 : ∀ x : Bool, q38_.j1 (k + 1) a (at0 a 0 : Int) x = if x = true then q38_.j2 k a 3 (wrap64 ((at0 a 0 : Int) - 224)) 2048 else (if (at0 a 0 : Int) ≥ 240 then (if (at0 a 0 : Int) < 248 then q38_.j2 k a 4 (wrap64 ((at0 a 0 : Int) - 240)) 65536 else some (0, 0)) else some (0, 0)) := fun x => by simp only [q38_.j1]
    by_cases h2 : at0 a 0 ≥ 192
    · rw [if_pos (by omega)]
      simp only [q38_.j0]
      by_cases h3 : at0 a 0 < 224
      · rw [if_pos (decide_eq_true (by omega)), show ((at0 a 0 : Int) - 192) = (at0 a 0 : Int) - ((192 : Nat) : Int) from rfl, hsub 192 h2]
        exact step_2 a (k + 1) (at0 a 0 - 192) (by omega) (by omega) (by omega)
      · rw [if_neg (by simp; omega), if_pos (by omega), hj1]
        by_cases h4 : at0 a 0 < 240
        · rw [if_pos (decide_eq_true (by omega)), show ((at0 a 0 : Int) - 224) = (at0 a 0 : Int) - ((224 : Nat) : Int) from rfl, hsub 224 (by omega)]
          exact step_3 a k (at0 a 0 - 224) (by omega) (by omega) (by omega)
        · rw [if_neg (by simp; omega), if_pos (by omega)]
          by_cases h5 : at0 a 0 < 248
          · rw [if_pos (by omega), show ((at0 a 0 : Int) - 240) = (at0 a 0 : Int) - ((240 : Nat) : Int) from rfl, hsub 240 (by omega)]
            exact step_4 a k (at0 a 0 - 240) (by omega) (by omega) (by omega)
          · rw [if_neg (by omega), no (by omega) (by omega) (by omega)]
    · rw [if_neg (by omega)]
      simp only [q38_.j0]
      rw [if_neg (by decide), if_neg (by omega), hj1, if_neg (by decide), if_neg (by omega), no (by omega) (by omega) (by omega)]
theorem at0_ext (s : ByteArray) (pos j : Nat) : at0 (s.extract pos s.size) j = at0 s (pos + j) := by
  unfold at0
  have hsz : (s.extract pos s.size).size = s.size - pos := by simp
  by_cases h : pos + j < s.size
  · rw [get_list _ j (by omega), get_list s (pos + j) h]
    have h1 : ∀ (t : ByteArray) (x : Nat) (h : x < t.size), t.data.toList[x]'(by rw [← size_list]; exact h) = t[x] := fun t x h => rfl
    rw [← h1, ← h1]
    simp only [ext_end]
    rw [List.getElem_drop]
  · have g : ∀ (t : ByteArray) (x : Nat), t.size ≤ x → t.get! x = default := fun t x hx => by
      show t.data[x]! = default
      exact getElem!_neg t.data x (by show ¬ x < t.size; omega)
    rw [g _ j (by omega), g s (pos + j) (by omega)]
theorem decode_ext (s : ByteArray) (pos : Nat) (hp : pos < s.size) : Utf8.decode (s.extract pos s.size) 0 = Utf8.decode s pos := by
  have hsz : (s.extract pos s.size).size = s.size - pos := by simp
  rw [decode_cases, decode_cases s pos]
  simp only [at0_ext, hsz, Nat.zero_add, Nat.add_zero]
  have e1 : (1 < s.size - pos) = (pos + 1 < s.size) := by rw [eq_iff_iff]; omega
  have e2 : (2 < s.size - pos) = (pos + 2 < s.size) := by rw [eq_iff_iff]; omega
  have e3 : (3 < s.size - pos) = (pos + 3 < s.size) := by rw [eq_iff_iff]; omega
  simp only [e1, e2, e3]
theorem decode_max (s : ByteArray) (pos : Nat) : (Utf8.decode s pos).1 ≤ 1114111 ∧ 1 ≤ (Utf8.decode s pos).2 := by
  have h0 := at0_lt s pos
  rw [decode_cases]
  repeat' split
  all_goals first | (constructor <;> simp only <;> omega) | skip
  all_goals
    rename_i h
    have := (valid_iff _).1 h.2
    constructor <;> simp only <;> omega
theorem decode_fit (s : ByteArray) (pos : Nat) (hp : pos < s.size) : (Utf8.decode s pos).2 ≤ s.size - pos := by
  rw [decode_cases]
  repeat' split
  all_goals (simp only; omega)
theorem fffd_iff (s : ByteArray) (pos : Nat) : isFffd s pos = true ↔ pos + 2 < s.size ∧ at0 s pos = 239 ∧ at0 s (pos + 1) = 191 ∧ at0 s (pos + 2) = 189 := by
  unfold isFffd
  rw [Bool.and_eq_true, decide_eq_true_eq, beq_iff_eq, ByteArray.toList_eq, ext_list, List.drop_zero, ext_end]
  constructor
  · rintro ⟨h, he⟩
    have g0 := get_list s pos (by omega)
    have g1 := get_list s (pos + 1) (by omega)
    have g2 := get_list s (pos + 2) (by omega)
    rw [drop_get s pos (by omega), drop_get s (pos + 1) (by omega), drop_get s (pos + 2) (by omega)] at he
    simp only [List.take_succ_cons, List.take_zero, List.cons.injEq, and_true] at he
    unfold at0
    rw [g0, g1, g2, he.1, he.2.1, he.2.2]
    exact ⟨by omega, rfl, rfl, rfl⟩
  · rintro ⟨h, h1, h2, h3⟩
    unfold at0 at h1 h2 h3
    rw [get_list s pos (by omega)] at h1
    rw [get_list s (pos + 1) (by omega)] at h2
    rw [get_list s (pos + 2) (by omega)] at h3
    refine ⟨by omega, ?_⟩
    rw [drop_get s pos (by omega), drop_get s (pos + 1) (by omega), drop_get s (pos + 2) (by omega)]
    have i0 : s[pos] = 239 := UInt8.toNat_inj.1 h1
    have i1 : s[pos + 1] = 191 := UInt8.toNat_inj.1 h2
    have i2 : s[pos + 2] = 189 := UInt8.toNat_inj.1 h3
    simp only [List.take_succ_cons, List.take_zero]
    rw [i0, i1, i2]
theorem bad_iff (s : ByteArray) (pos : Nat) : bad s pos = true ↔ (Utf8.decode s pos).1 = 65533 ∧ (Utf8.decode s pos).2 = 1 := by
  unfold bad
  rw [Bool.and_eq_true, beq_iff_eq, Bool.not_eq_true']
  have h0 := at0_lt s pos
  have h1 := at0_lt s (pos + 1)
  have h2 := at0_lt s (pos + 2)
  constructor
  · rintro ⟨h, hn⟩
    have hd : (Utf8.decode s pos).1 = 65533 := by omega
    refine ⟨hd, ?_⟩
    rw [decode_cases] at hd ⊢
    have no : ¬ (pos + 2 < s.size ∧ at0 s pos = 239 ∧ at0 s (pos + 1) = 191 ∧ at0 s (pos + 2) = 189) := fun h => by
      rw [(fffd_iff s pos).2 h] at hn
      cases hn
    by_cases c1 : at0 s pos < 128
    · rw [if_pos c1] at hd
      simp only at hd
      omega
    rw [if_neg c1] at hd ⊢
    by_cases c2 : at0 s pos / 32 = 6 ∧ pos + 1 < s.size ∧ at0 s (pos + 1) / 64 = 2
    · rw [if_pos c2] at hd ⊢
      by_cases d2 : 128 ≤ (at0 s pos % 32) * 64 + at0 s (pos + 1) % 64
      · rw [if_pos d2] at hd
        simp only at hd
        omega
      · rw [if_neg d2]
    rw [if_neg c2] at hd ⊢
    by_cases c3 : at0 s pos / 16 = 14 ∧ (pos + 1 < s.size ∧ at0 s (pos + 1) / 64 = 2) ∧ pos + 2 < s.size ∧ at0 s (pos + 2) / 64 = 2
    · rw [if_pos c3] at hd ⊢
      by_cases d3 : 2048 ≤ (at0 s pos % 16) * 4096 + (at0 s (pos + 1) % 64) * 64 + at0 s (pos + 2) % 64 ∧ Utf8.valid ((at0 s pos % 16) * 4096 + (at0 s (pos + 1) % 64) * 64 + at0 s (pos + 2) % 64 : Nat) = true
      · rw [if_pos d3] at hd
        simp only at hd
        exact absurd ⟨c3.2.2.1, by omega, by omega, by omega⟩ no
      · rw [if_neg d3]
    rw [if_neg c3] at hd ⊢
    by_cases c4 : at0 s pos / 8 = 30 ∧ ((pos + 1 < s.size ∧ at0 s (pos + 1) / 64 = 2) ∧ pos + 2 < s.size ∧ at0 s (pos + 2) / 64 = 2) ∧ pos + 3 < s.size ∧ at0 s (pos + 3) / 64 = 2
    · rw [if_pos c4] at hd ⊢
      by_cases d4 : 65536 ≤ (at0 s pos % 8) * 262144 + (at0 s (pos + 1) % 64) * 4096 + (at0 s (pos + 2) % 64) * 64 + at0 s (pos + 3) % 64 ∧ Utf8.valid ((at0 s pos % 8) * 262144 + (at0 s (pos + 1) % 64) * 4096 + (at0 s (pos + 2) % 64) * 64 + at0 s (pos + 3) % 64 : Nat) = true
      · rw [if_pos d4] at hd
        simp only at hd
        omega
      · rw [if_neg d4]
    rw [if_neg c4]
  · rintro ⟨h, h1w⟩
    refine ⟨by omega, ?_⟩
    cases hf : isFffd s pos with
    | false => rfl
    | true =>
      obtain ⟨f0, f1, f2, f3⟩ := (fffd_iff s pos).1 hf
      exfalso
      rw [decode_cases, f1, f2, f3] at h1w
      rw [if_neg (by omega), if_neg (by omega), if_pos ⟨by omega, ⟨by omega, by omega⟩, by omega, by omega⟩, if_pos ⟨by omega, (valid_iff _).2 (by omega)⟩] at h1w
      simp at h1w
theorem legal_l (s : ByteArray) (hs : s.size ≤ 1073741824) : ∀ (m pos b n k : Nat), s.size - pos ≤ m → s.size - pos ≤ b → m + 12 ≤ k → q39_.l0 k (s.extract pos s.size) = some (legB s b pos && (cntB s b pos n).2) := by
  intro m
  induction m with
  | zero =>
    intro pos b n k hm hb hk
    obtain ⟨k, rfl⟩ : ∃ x, k = x + 1 := ⟨k - 1, by omega⟩
    have hsz : (s.extract pos s.size).size = s.size - pos := by simp
    simp only [q39_.l0]
    rw [if_neg (by omega), legB_end _ _ _ (by omega), cntB_end _ _ _ _ (by omega)]
    rfl
  | succ m ih =>
    intro pos b n k hm hb hk
    obtain ⟨k, rfl⟩ : ∃ x, k = x + 1 := ⟨k - 1, by omega⟩
    have hsz : (s.extract pos s.size).size = s.size - pos := by simp
    by_cases hp : pos < s.size
    · obtain ⟨b, rfl⟩ : ∃ x, b = x + 1 := ⟨b - 1, by omega⟩
      simp only [q39_.l0]
      rw [if_pos (by omega), step_f _ (by omega) k (by omega), decode_ext s pos hp]
      have hmax := decode_max s pos
      have hbi := bad_iff s pos
      have hwid : (Utf8.decode s pos).2 ≤ s.size - pos ∨ bad s pos = true ∨ True := .inr (.inr trivial)
      unfold legB cntB
      rw [if_pos hp, if_pos hp]
      by_cases hbad : bad s pos = true
      · have h2 := hbi.1 hbad
        rw [if_pos hbad]
        unfold stepV
        rw [if_pos h2]
        simp only [Option.bind_some, if_true, Bool.and_false]
      · have h2 : ¬ ((Utf8.decode s pos).1 = 65533 ∧ (Utf8.decode s pos).2 = 1) := fun h => hbad (hbi.2 h)
        rw [if_neg hbad]
        unfold stepV
        rw [if_neg h2]
        simp only [Option.bind_some]
        rw [if_neg (by omega), char_f]
        simp only [Option.bind_some]
        have hch : charV ((Utf8.decode s pos).1 : Int) = legalRune (Utf8.decode s pos).1 := by
          unfold charV legalRune
          rw [Bool.eq_iff_iff]
          simp only [Bool.or_eq_true, Bool.and_eq_true, beq_iff_eq, decide_eq_true_eq]
          omega
        rw [hch]
        cases hl : legalRune (Utf8.decode s pos).1 with
        | false => simp
        | true =>
          simp only [if_true]
          have hfit : (Utf8.decode s pos).2 ≤ s.size - pos := decode_fit s pos hp
          rw [if_pos (by omega), if_pos (by omega), Int.toNat_natCast]
          have hee : (s.extract pos s.size).extract (Utf8.decode s pos).2 (s.extract pos s.size).size = s.extract (pos + (Utf8.decode s pos).2) s.size := by
            apply ba_ext
            rw [ext_end, ext_end, ext_end, List.drop_drop]
          rw [hee]
          exact ih _ b (n + 1) k (by omega) (by omega) (by omega)
    · simp only [q39_.l0]
      rw [if_neg (by omega), legB_end _ _ _ (by omega), cntB_end _ _ _ _ (by omega)]
      rfl
theorem refLegal_calls (s : ByteArray) (hs : s.size ≤ 1073741824) (w : World) : Calls Tryd.prog 50 #[.string s] w fun e w' => e = .returned (.bool (legalV s)) ∧ Drawn0 w w' := by
  refine q39_.calls (s.size + 12) s _ w ?_
  unfold q39_.f legalV
  have := legal_l s hs s.size 0 s.size 0 (s.size + 12) (by omega) (by omega) (by omega)
  rw [show s.extract 0 s.size = s by simp] at this
  exact this
def idx2 : List UInt8 → Option Nat
  | [] => none
  | b :: l => if ([63, 62] : List UInt8).isPrefixOf (b :: l) = true then some 0 else (idx2 l).map fun i => i + 1
theorem index_2 : ∀ l : List UInt8, Lib.index l [63, 62] = match idx2 l with | some i => (i : Int) | none => -1
  | [] => rfl
  | b :: l => by
    have hun : Lib.index (b :: l) [63, 62] = (if ([63, 62] : List UInt8).isPrefixOf (b :: l) then 0 else if Lib.index l [63, 62] == -1 then -1 else Lib.index l [63, 62] + 1) := rfl
    have ih := index_2 l
    rw [hun, idx2]
    cases hp : ([63, 62] : List UInt8).isPrefixOf (b :: l) with
    | true => rfl
    | false =>
      simp only [Bool.false_eq_true, if_false]
      cases hi : idx2 l with
      | none =>
        rw [hi] at ih
        simp only at ih
        rw [ih]
        rfl
      | some i =>
        rw [hi] at ih
        simp only at ih
        rw [ih]
        have : ((i : Int) == -1) = false := by simp
        rw [this]
        simp
theorem prolog_l (s : ByteArray) (hs : s.size ≤ 1073741824) (b : Bool) : ∀ (r p k : Nat), r + p = s.size → r + 1 ≤ k → ∃ (ok : Bool) (m : Nat), q37_.l0 k s (p : Int) b = some (ok, s, (m : Int), b) ∧ m ≤ s.size ∧ (match idx2 (s.data.toList.drop p) with | some i => ok = true ∧ m = p + i + 2 | none => ok = false) := by
  intro r
  induction r with
  | zero =>
    intro p k hp hk
    obtain ⟨k, rfl⟩ : ∃ m, k = m + 1 := ⟨k - 1, by omega⟩
    refine ⟨false, p, ?_, by omega, ?_⟩
    · simp only [q37_.l0]
      rw [w64 p (by omega), if_neg (by omega)]
    · rw [List.drop_of_length_le (by rw [← size_list]; omega)]
      rfl
  | succ r ih =>
    intro p k hp hk
    obtain ⟨k, rfl⟩ : ∃ m, k = m + 1 := ⟨k - 1, by omega⟩
    have hpl : p < s.size := by omega
    simp only [q37_.l0]
    rw [w64 p (by omega)]
    by_cases hq : p + 1 < s.size
    · have hb0 := bt_get s p hpl
      have hb1 := bt_get s (p + 1) hq
      have h63 : bt s (p : Int) = 63 ↔ s[p] = 63 := by
        rw [hb0]
        constructor
        · intro h; exact UInt8.toNat_inj.1 (by show _ = 63; omega)
        · intro h; rw [h]; rfl
      have h62 : bt s ((p + 1 : Nat) : Int) = 62 ↔ s[p + 1] = 62 := by
        rw [hb1]
        constructor
        · intro h; exact UInt8.toNat_inj.1 (by show _ = 62; omega)
        · intro h; rw [h]; rfl
      have hdr : s.data.toList.drop p = s[p] :: s[p + 1] :: s.data.toList.drop (p + 2) := by rw [drop_get s p hpl, drop_get s (p + 1) hq]
      have hpre : ([63, 62] : List UInt8).isPrefixOf (s[p] :: s[p + 1] :: s.data.toList.drop (p + 2)) = ((63 == s[p]) && (62 == s[p + 1])) := by simp [List.isPrefixOf]
      have next : ([63, 62] : List UInt8).isPrefixOf (s[p] :: s[p + 1] :: s.data.toList.drop (p + 2)) = false → ∃ (ok : Bool) (m : Nat), q37_.l0 k s ((p + 1 : Nat) : Int) b = some (ok, s, (m : Int), b) ∧ m ≤ s.size ∧ (match idx2 (s.data.toList.drop p) with | some i => ok = true ∧ m = p + i + 2 | none => ok = false) := fun hno => by
        obtain ⟨ok, m, h1, h2, h3⟩ := ih (p + 1) k (by omega) (by omega)
        refine ⟨ok, m, h1, h2, ?_⟩
        rw [hdr, idx2, if_neg (by rw [hno]; decide), ← drop_get s (p + 1) hq]
        cases hi : idx2 (s.data.toList.drop (p + 1)) with
        | none => rw [hi] at h3; exact h3
        | some i => rw [hi] at h3; simp only [Option.map_some] at h3 ⊢; exact ⟨h3.1, by omega⟩
      rw [if_pos (by omega), if_pos (by omega), if_pos (by omega)]
      by_cases a63 : s[p] = 63
      · rw [if_pos (h63.2 a63), if_pos (by omega)]
        by_cases a62 : s[p + 1] = 62
        · rw [if_pos (h62.2 a62)]
          refine ⟨true, p + 2, ?_, by omega, ?_⟩
          · rw [show ((p : Int) + 2) = (p : Int) + ((2 : Nat) : Int) from rfl, wrap_add (by omega)]
          · rw [hdr, idx2, if_pos (by rw [hpre, a63, a62]; decide)]
            exact ⟨rfl, rfl⟩
        · rw [if_neg (fun h => a62 (h62.1 h))]
          exact next (by rw [hpre]; have : ((62 : UInt8) == s[p + 1]) = false := by simpa using fun h : 62 = s[p + 1] => a62 h.symm
                         rw [this, Bool.and_false])
      · rw [if_neg (fun h => a63 (h63.1 h))]
        exact next (by rw [hpre]; have : ((63 : UInt8) == s[p]) = false := by simpa using fun h : 63 = s[p] => a63 h.symm
                       rw [this, Bool.false_and])
    · rw [if_neg (by omega)]
      refine ⟨false, p, rfl, by omega, ?_⟩
      have hn : s.data.toList.drop (p + 1) = [] := List.drop_of_length_le (by rw [← size_list]; omega)
      rw [drop_get s p hpl, hn]
      simp [idx2, List.isPrefixOf]
theorem decl_bad (s : ByteArray) (h : hasP s 0 ⟨#[60, 63, 120, 109, 108]⟩ = true) : elemV s 16 (skip whiteV s 0) = none := by
  have hl := h
  rw [hasP_list s 0 _ (Nat.zero_le _), List.drop_zero] at hl
  have hsz : 5 ≤ s.size := hasP_le h
  have d0 := drop_get s 0 (by omega)
  have d1 := drop_get s 1 (by omega)
  rw [List.drop_zero] at d0
  rw [d0, d1] at hl
  simp only [List.isPrefixOf, Bool.and_eq_true, beq_iff_eq] at hl
  have b0 : bt s ((0 : Nat) : Int) = 60 := by rw [bt_get s 0 (by omega), ← hl.1]; rfl
  have b1 : bt s ((1 : Nat) : Int) = 63 := by rw [bt_get s 1 (by omega), ← hl.2.1]; rfl
  have hsk : skip whiteV s 0 = 0 := skip_out (fun h => by
    have := h.2
    rw [show (((0 : Nat) : Int)) = ((0 : Nat) : Int) from rfl, b0] at this
    exact absurd this (by decide))
  rw [hsk, elemV]
  by_cases hp : hasP s 0 ⟨#[60]⟩ = true
  · rw [if_pos hp, nameV_at]
    rw [if_neg (by rw [Nat.zero_add, b1]; simp [letterV])]
  · rw [if_neg hp]
def PrologAns (s : ByteArray) (b : Bool) (x : Option (Bool × ByteArray × Int × Bool)) : Prop :=
  ∃ (ok : Bool) (m : Nat), x = some (ok, s, (m : Int), b) ∧ m ≤ s.size ∧ (match beginV s with | some n => ok = true ∧ m = n | none => ok = true → elemV s 16 (skip whiteV s m) = none)
theorem prolog_f (s : ByteArray) (hs : s.size ≤ 1073741824) (b : Bool) (k : Nat) (hk : s.size + 4 ≤ k) : PrologAns s b (q37_.f k s 0 b) := by
  obtain ⟨k, rfl⟩ : ∃ m, k = m + 1 := ⟨k - 1, by omega⟩
  have yes : q37_.j0 (k + 1) true s 0 b = some (true, s, ((0 : Nat) : Int), b) := by
    simp only [q37_.j0, if_true]
    rfl
  have no : q37_.j0 (k + 1) false s 0 b = q37_.l0 k s ((5 : Nat) : Int) b := by
    simp only [q37_.j0]
    rfl
  unfold q37_.f PrologAns
  have hl := hasP_list s 0 ⟨#[60, 63, 120, 109, 108]⟩ (Nat.zero_le _)
  rw [List.drop_zero] at hl
  rw [begins_list, ← hl]
  simp only [Option.bind_some]
  unfold beginV
  cases hp : hasP s 0 ⟨#[60, 63, 120, 109, 108]⟩ with
  | false =>
    simp only [Bool.false_eq_true, if_false]
    exact ⟨true, 0, yes, Nat.zero_le _, rfl, rfl⟩
  | true =>
    simp only [if_true]
    have hbad := decl_bad s hp
    rw [ext_end, index_2]
    by_cases h6 : s.size < 6
    · rw [if_pos (by omega)]
      refine ⟨true, 0, yes, Nat.zero_le _, ?_⟩
      have hn : idx2 (s.data.toList.drop 5) = none := by
        have h0 : s.data.toList.drop 5 = [] := List.drop_of_length_le (by rw [← size_list]; omega)
        rw [h0]
        rfl
      rw [hn]
      exact fun _ => hbad
    · rw [if_neg (by omega), if_pos (by omega), refWhite_f]
      simp only [Option.bind_some]
      obtain ⟨ok, m, h1, h2, h3⟩ := prolog_l s hs b (s.size - 5) 5 k (by omega) (by omega)
      have hb5 := bt_get s 5 (by omega)
      have d5 := drop_get s 5 (by omega)
      by_cases hgo : whiteV (bt s 5) = true ∨ bt s 5 = 63
      · have hrun : (if whiteV (bt s 5) = true then q37_.j0 (k + 1) false s 0 b else q37_.j0 (k + 1) (bt s 5 != 63) s 0 b) = q37_.l0 k s ((5 : Nat) : Int) b := by
          by_cases hw : whiteV (bt s 5) = true
          · rw [if_pos hw, no]
          · have h63 : bt s 5 = 63 := hgo.resolve_left hw
            have : (bt s 5 != 63) = false := by simpa using h63
            rw [if_neg hw, this, no]
        rw [hrun]
        refine ⟨ok, m, h1, h2, ?_⟩
        cases hi : idx2 (s.data.toList.drop 5) with
        | none =>
          rw [hi] at h3
          simp only at h3 ⊢
          intro h
          rw [h] at h3
          cases h3
        | some i =>
          rw [hi] at h3
          simp only at h3 ⊢
          rw [if_neg (by omega), if_neg (by
            rintro ⟨_, h4, h5⟩
            rcases hgo with h | h
            · rw [h] at h4; cases h4
            · exact h5 h), Int.toNat_natCast]
          exact ⟨h3.1, by omega⟩
      · have hw : whiteV (bt s 5) = false := by simpa using fun h => hgo (.inl h)
        have h63 : ¬ bt s 5 = 63 := fun h => hgo (.inr h)
        have hne : (bt s 5 != 63) = true := by simpa using h63
        rw [hw, if_neg (by decide), hne, yes]
        refine ⟨true, 0, rfl, Nat.zero_le _, ?_⟩
        cases hi : idx2 (s.data.toList.drop 5) with
        | none => exact fun _ => hbad
        | some i =>
          simp only
          have hi0 : 0 < i := by
            cases i with
            | zero =>
              exfalso
              rw [d5, idx2] at hi
              split at hi
              · rename_i hpp
                have : (63 : UInt8) = s[5] := by
                  simp only [List.isPrefixOf, Bool.and_eq_true, beq_iff_eq] at hpp
                  exact hpp.1
                apply h63
                refine Eq.trans hb5 ?_
                rw [← this]
                rfl
              · cases hx : idx2 (s.data.toList.drop (5 + 1)) with
                | none => rw [hx] at hi; cases hi
                | some y => rw [hx] at hi; simp at hi
            | succ i => omega
          rw [if_neg (by omega), if_pos (by refine ⟨by omega, ?_, h63⟩; first | trivial | rfl)]
          exact fun _ => hbad
mutual
def toR : S36 → S42
  | ⟨a, t, l⟩ => ⟨a, t, toRs l⟩
def toRs : List S36 → List S42
  | [] => []
  | n :: l => toR n :: toRs l
end
theorem toRs_append : ∀ (l m : List S36), toRs (l ++ m) = toRs l ++ toRs m
  | [], m => rfl
  | n :: l, m => by rw [List.cons_append, toRs, toRs, toRs_append l m]; rfl
theorem toRs_length : ∀ l : List S36, (toRs l).length = l.length
  | [] => rfl
  | n :: l => by rw [toRs, List.length_cons, List.length_cons, toRs_length l]
theorem toR_mk (n : S36) : toR n = ⟨n.f0, n.f1, toRs n.f2⟩ := by cases n; rfl
structure RdF (w0 w : World) (g : Nat) (s : ByteArray) (i : Nat) (b : Bool) : Prop where
  st : IsS94 w0 w g s i b
  below : Below w0.heap.size w0 w
  small : s.size ≤ 1073741824
theorem RdF.cell0 {w0 w : World} {g : Nat} {s : ByteArray} {i : Nat} {b : Bool} (h : RdF w0 w g s i b) : w.cell? ⟨g, 0, none⟩ = some (.string s) := (blk_cell h.st.1 0).trans rfl
theorem RdF.cell1 {w0 w : World} {g : Nat} {s : ByteArray} {i : Nat} {b : Bool} (h : RdF w0 w g s i b) : w.cell? ⟨g, 1, none⟩ = some (.int .i64 i) := (blk_cell h.st.1 1).trans rfl
theorem RdF.cell2 {w0 w : World} {g : Nat} {s : ByteArray} {i : Nat} {b : Bool} (h : RdF w0 w g s i b) : w.cell? ⟨g, 2, none⟩ = some (.bool b) := (blk_cell h.st.1 2).trans rfl
theorem RdF.frozen {w0 w : World} {g : Nat} {s : ByteArray} {i : Nat} {b : Bool} (h : RdF w0 w g s i b) (j : Nat) : w.frozen? ⟨g, j, none⟩ = false := blk_frozen h.st.1 j
theorem RdF.drewN {w0 w : World} {g : Nat} {s : ByteArray} {i : Nat} {b : Bool} (h : RdF w0 w g s i b) (n : Nat) : RdF w0 (w.drewN n) g s i b := ⟨h.st.drewN n, pw_below_drewN h.below n, h.small⟩
theorem RdF.lt {w0 w : World} {g : Nat} {s : ByteArray} {i : Nat} {b : Bool} (h : RdF w0 w g s i b) : g < w.heap.size := h.st.lt
theorem RdF.ge {w0 w : World} {g : Nat} {s : ByteArray} {i : Nat} {b : Bool} (h : RdF w0 w g s i b) : w0.heap.size ≤ g := h.st.ge
theorem RdF.stays {w0 w w' : World} {g : Nat} {s : ByteArray} {i : Nat} {b : Bool} (h : RdF w0 w g s i b) (hb : Below w.heap.size w w') : RdF w0 w' g s i b := ⟨h.st.below hb, below_then h.below h.below.size hb, h.small⟩
theorem RdF.move {w0 w : World} {g : Nat} {s : ByteArray} {i : Nat} {b : Bool} (h : RdF w0 w g s i b) (j : Nat) : RdF w0 (w.setCell ⟨g, 1, none⟩ (.int .i64 j)) g s j b := ⟨h.st.set_1 j, h.below.setCell (p := ⟨g, 1, none⟩) h.ge _, h.small⟩
theorem RdF.mark {w0 w : World} {g : Nat} {s : ByteArray} {i : Nat} {b : Bool} (h : RdF w0 w g s i b) (c : Bool) : RdF w0 (w.setCell ⟨g, 2, none⟩ (.bool c)) g s i c := ⟨h.st.set_2 c, h.below.setCell (p := ⟨g, 2, none⟩) h.ge _, h.small⟩
theorem RdF.far {w0 w : World} {g : Nat} {s : ByteArray} {i : Nat} {b : Bool} (h : RdF w0 w g s i b) {p : Addr} (hp : p.block ≠ g) (hge : w0.heap.size ≤ p.block) (u : Value) : RdF w0 (w.setCell p u) g s i b := ⟨h.st.far (fun e => hp e.symm) u, h.below.setCell hge _, h.small⟩
theorem RdF.upto {w0 w w' : World} {g : Nat} {s : ByteArray} {i B : Nat} {b : Bool} (h : RdF w0 w g s i b) (hb : Below B w w') (hg : g < B) (h0 : w0.heap.size ≤ B) : RdF w0 w' g s i b := ⟨⟨(hb.block g hg).trans h.st.1, h.st.2⟩, below_weaken h.below h0 hb, h.small⟩
theorem rskip_calls {w0 w : World} {g : Nat} {s : ByteArray} {i : Nat} {b : Bool} (h : RdF w0 w g s i b) :
    Calls Tryd.prog 52 #[.pointer (some ⟨g, 0, none⟩)] w fun e w' => e = .returned (.int .i64 ((skip whiteV s i - i : Nat) : Int)) ∧ RdF w0 w' g s (skip whiteV s i) b ∧ KeepBut w w' g none := by
  refine (q33_.calls (s.size + 1) g s i b _ _ _ _ w0 w h.st h.below (rskip_f s h.small i b _ (by omega))).mono ?_
  rintro e w' ⟨rfl, h1, h2, h3⟩
  exact ⟨rfl, ⟨h1, h2, h.small⟩, h3⟩
theorem reat_calls {w0 w : World} {g : Nat} {s : ByteArray} {i : Nat} {b : Bool} (h : RdF w0 w g s i b) (hi : i ≤ s.size) (t : ByteArray) (ht : t.size ≤ 1024) :
    Calls Tryd.prog 99 #[.pointer (some ⟨g, 0, none⟩), .string t] w fun e w' => e = .returned (.bool (hasP s i t)) ∧ RdF w0 w' g s (if hasP s i t = true then i + t.size else i) b ∧ KeepBut w w' g none := by
  refine (q34_.calls g s i b t _ _ _ _ w0 w h.st h.below (reat_f s h.small i hi b t ht)).mono ?_
  rintro e w' ⟨rfl, h1, h2, h3⟩
  exact ⟨rfl, ⟨h1, h2, h.small⟩, h3⟩
theorem rname_calls {w0 w : World} {g : Nat} {s : ByteArray} {i : Nat} {b : Bool} (h : RdF w0 w g s i b) (hi : i ≤ s.size) :
    Calls Tryd.prog 100 #[.pointer (some ⟨g, 0, none⟩)] w fun e w' => e = .returned (.string (rnameV s i).1) ∧ RdF w0 w' g s (rnameV s i).2 b ∧ KeepBut w w' g none := by
  refine (q35_.calls (s.size + 2) g s i b _ _ _ _ w0 w h.st h.below (rname_f s h.small i hi b _ (by omega))).mono ?_
  rintro e w' ⟨rfl, h1, h2, h3⟩
  exact ⟨rfl, ⟨h1, h2, h.small⟩, h3⟩
def RAttrPost (w0 w : World) (g : Nat) (s : ByteArray) (b : Bool) (o : Option Nat) (e : Ending) (w' : World) : Prop :=
  ∃ (ok : Bool) (j : Nat), e = .returned (.bool ok) ∧ RdF w0 w' g s j b ∧ KeepBut w w' g none ∧ (match o with | some k => ok = true ∧ j = k | none => ok = false)
theorem rattr_calls {w0 w : World} {g : Nat} {s : ByteArray} {i : Nat} {b : Bool} (h : RdF w0 w g s i b) (hi : i ≤ s.size) :
    Calls Tryd.prog 101 #[.pointer (some ⟨g, 0, none⟩)] w (RAttrPost w0 w g s b (attrV s i)) := by
  obtain ⟨ok, m, h1, h2, h3⟩ := rattr_f s h.small b i (2 * s.size + 12) hi (by omega)
  refine (q36_.calls _ g s i b _ _ _ _ w0 w h.st h.below h1).mono ?_
  rintro e w' ⟨rfl, h4, h5, h6⟩
  exact ⟨ok, m, rfl, ⟨h4, h5, h.small⟩, h6, h3⟩
theorem rprolog_calls {w0 w : World} {g : Nat} {s : ByteArray} {b : Bool} (h : RdF w0 w g s 0 b) :
    Calls Tryd.prog 51 #[.pointer (some ⟨g, 0, none⟩)] w fun e w' => ∃ (ok : Bool) (m : Nat), e = .returned (.bool ok) ∧ RdF w0 w' g s m b ∧ KeepBut w w' g none ∧ m ≤ s.size ∧ (match beginV s with | some n => ok = true ∧ m = n | none => ok = true → elemV s 16 (skip whiteV s m) = none) := by
  obtain ⟨ok, m, h1, h2, h3⟩ := prolog_f s h.small b (s.size + 4) (by omega)
  refine (q37_.calls _ g s _ b _ _ _ _ w0 w h.st h.below h1).mono ?_
  rintro e w' ⟨rfl, h4, h5, h6⟩
  exact ⟨ok, m, rfl, ⟨h4, h5, h.small⟩, h6, h2, h3⟩
def RElemPost (w0 w : World) (g : Nat) (s : ByteArray) (o : Option (S36 × Nat)) (e : Ending) (w' : World) : Prop :=
  ∃ (x : S42) (A : Option Addr) (c : Nat) (b : Bool) (j : Nat), e = .returned (.agg #[.string x.f0, .string x.f1, .slice A x.f2.length c]) ∧ x.f2.length ≤ c ∧
    Kd.F k42 w' (fun k => w.heap.size ≤ k) A x.f2.length x.f2 ∧ RdF w0 w' g s j b ∧ KeepBut w w' g none ∧ (match o with | some (n, m) => b = false ∧ x = toR n ∧ j = m ∧ m ≤ s.size | none => b = true)
theorem RElemPost.no {w0 w w' : World} {g : Nat} {s : ByteArray} {o : Option (S36 × Nat)} {j : Nat} {nm : ByteArray} (ho : o = none) (h : RdF w0 w' g s j true) (hk : KeepBut w w' g none) : RElemPost w0 w g s o (.returned (.agg #[.string nm, .string ⟨#[]⟩, .slice none 0 0])) w' :=
  ⟨⟨nm, ⟨#[]⟩, []⟩, none, 0, true, j, rfl, Nat.le_refl _, fun W_ _ => Kd.C_nil _ _, h, hk, by rw [ho]⟩
def RContOk (s : ByteArray) (d : Nat) : Prop := ∀ (w0 w : World) (g i : Nat) (nm : ByteArray), nameV nm = true → RdF w0 w g s i false → i ≤ s.size → 0 < w0.heap.size →
      Calls Tryd.prog 102 #[.pointer (some ⟨g, 0, none⟩), .agg #[.string nm, .string ⟨#[]⟩, .slice none 0 0], .int .i64 (16 - (d : Int))] w (RElemPost w0 w g s (match contV (elemV s d) s i with | some (t, kids, m) => endV s nm t kids m | none => none))
def RElemOk (s : ByteArray) (d : Nat) : Prop := ∀ (w0 w : World) (g i : Nat), RdF w0 w g s i false → i ≤ s.size → 0 < w0.heap.size →
      Calls Tryd.prog 53 #[.pointer (some ⟨g, 0, none⟩), .int .i64 (16 - (d : Int) + 1)] w (RElemPost w0 w g s (elemV s d i))
theorem relem_results {T : Array Value} {w : World} {gn : Nat} {x y z : Value} (h4 : T.getD 4 undef = .pointer (some ⟨gn, 0, none⟩)) (hb : w.heap[gn]? = some (.cells #[x, y, z] 42 (0, 0))) :
    (results Tryd.f53 T).run Tryd.prog w = .ok (.agg #[x, y, z]) w := by
  have h := run_loadVar_row (P := Tryd.prog) w gn 42 42 #[x, y, z] (0, 0) _ hb Tryd.underlying42 rfl (by kernel_rfl)
  have h5 : T[4]?.getD undef = .pointer (some ⟨gn, 0, none⟩) := by rw [← h4]; simp
  simp [results, Tryd.f53, h5, asAddr, h, Result.andThen]
def RElFr (g gr gn d : Nat) (a' : Act) : Prop := ∃ u : Nat → Value, a' = { tmps := #[.pointer (some ⟨g, 0, none⟩), .int .i64 (16 - (d : Int)), u 2, u 3, .pointer (some ⟨gr, 0, none⟩), .pointer (some ⟨gn, 0, none⟩), u 6, u 7, u 8, u 9, u 10, u 11, u 12, u 13, u 14, u 15, u 16, u 17, u 18, u 19, u 20, u 21, u 22, u 23, u 24, u 25, u 26, u 27, u 28, u 29, u 30, u 31, u 32, u 33, u 34, u 35, u 36, u 37, u 38, u 39, u 40, u 41, u 42, u 43, u 44, u 45, u 46, u 47, u 48, u 49], defers := [] }
theorem RElFr.mk {g gr gn d : Nat} {u2 u3 u6 u7 u8 u9 u10 u11 u12 u13 u14 u15 u16 u17 u18 u19 u20 u21 u22 u23 u24 u25 u26 u27 u28 u29 u30 u31 u32 u33 u34 u35 u36 u37 u38 u39 u40 u41 u42 u43 u44 u45 u46 u47 u48 u49 : Value} : RElFr g gr gn d { tmps := #[.pointer (some ⟨g, 0, none⟩), .int .i64 (16 - (d : Int)), u2, u3, .pointer (some ⟨gr, 0, none⟩), .pointer (some ⟨gn, 0, none⟩), u6, u7, u8, u9, u10, u11, u12, u13, u14, u15, u16, u17, u18, u19, u20, u21, u22, u23, u24, u25, u26, u27, u28, u29, u30, u31, u32, u33, u34, u35, u36, u37, u38, u39, u40, u41, u42, u43, u44, u45, u46, u47, u48, u49], defers := [] } := ⟨fun k => ([undef, undef, u2, u3, undef, undef, u6, u7, u8, u9, u10, u11, u12, u13, u14, u15, u16, u17, u18, u19, u20, u21, u22, u23, u24, u25, u26, u27, u28, u29, u30, u31, u32, u33, u34, u35, u36, u37, u38, u39, u40, u41, u42, u43, u44, u45, u46, u47, u48, u49] : List Value).getD k undef, rfl⟩
theorem slash_attr {s : ByteArray} {j : Nat} (hj : j ≤ s.size) (h : hasP s j ⟨#[47]⟩ = true) : attrV s j = none := by
  have hle := hasP_le h
  have h1 : (⟨#[47]⟩ : ByteArray).size = 1 := rfl
  have hl := h
  rw [hasP_list s j _ hj, drop_get s j (by omega)] at hl
  simp only [List.isPrefixOf, Bool.and_eq_true, beq_iff_eq] at hl
  have hb : bt s (j : Int) = 47 := by rw [bt_get s j (by omega), ← hl.1]; rfl
  unfold attrV
  rw [nameV_at, hb, if_neg (by simp [letterV])]
theorem slash2 {s : ByteArray} {j : Nat} (hj : j ≤ s.size) (h : hasP s j ⟨#[47, 62]⟩ = true) : hasP s j ⟨#[47]⟩ = true := by
  have hle := hasP_le h
  have h1 : (⟨#[47, 62]⟩ : ByteArray).size = 2 := rfl
  rw [hasP_list s j _ hj, drop_get s j (by omega)] at h ⊢
  simp only [List.isPrefixOf, Bool.and_eq_true, beq_iff_eq] at h ⊢
  exact ⟨h.1, trivial⟩
theorem attrV_le {s : ByteArray} {j m : Nat} (hj : j ≤ s.size) (h : attrV s j = some m) : m ≤ s.size := by
  have h4 : ∀ {j m : Nat}, j ≤ s.size → attr4 s j = some m → m ≤ s.size := fun {j m} hj h => by
    by_cases hjs : j < s.size
    · rw [attr4_cut s j hjs _ rfl] at h
      split at h
      · split at h
        · rename_i a q hc
          split at h
          · cases h
          · injection h with h
            have h1 := congrArg List.length (cutR_some hc).1
            rw [List.length_drop, ← size_list, List.length_append, List.length_cons] at h1
            omega
        · cases h
      · cases h
    · unfold attr4 at h
      rw [if_pos (by omega)] at h
      cases h
  have h3 : ∀ {j m : Nat}, j ≤ s.size → attr3 s j = some m → m ≤ s.size := fun {j m} hj h => by
    unfold attr3 at h
    split at h
    · rename_i hp
      have h1 := hasP_le hp
      have h2 : (⟨#[61]⟩ : ByteArray).size = 1 := rfl
      have h5 := (skip_le whiteV s j hj).2
      exact h4 (skip_le whiteV s _ (by omega)).2 h
    · cases h
  unfold attrV at h
  split at h
  · have h1 := (skip_le innerV s j hj).2
    unfold attr2 at h
    split at h
    · rename_i hp
      have h2 := hasP_le hp
      have h5 : (⟨#[58]⟩ : ByteArray).size = 1 := rfl
      split at h
      · exact h3 (skip_le innerV s _ (by omega)).2 h
      · cases h
    · exact h3 h1 h
  · cases h
def REndK (w0 w : World) (g : Nat) (s : ByteArray) (o : Option (S36 × Nat)) (Q : Exit → Act → World → Prop) : Prop :=
  ∀ (a' : Act) (w' : World) (gr : Nat) (x : S42) (A : Option Addr) (c : Nat) (b : Bool) (j : Nat), a'.defers = [] → a'.tmps.getD 4 undef = .pointer (some ⟨gr, 0, none⟩) → w'.heap[gr]? = some (.cells #[.string x.f0, .string x.f1, .slice A x.f2.length c] 42 (0, 0)) → x.f2.length ≤ c →
    Kd.F k42 w' (fun k => w.heap.size ≤ k) A x.f2.length x.f2 → RdF w0 w' g s j b → KeepBut w w' g none → (match o with | some (n, m) => b = false ∧ x = toR n ∧ j = m ∧ m ≤ s.size | none => b = true) → Q .ret a' w'
set_option maxHeartbeats 4000000 in
set_option maxRecDepth 1000000 in
theorem relem_tail {Kl : Act → World → Prop} {Q : Exit → Act → World → Prop} {w0 w wi : World} {g gr gn d j0 : Nat} {s nm : ByteArray} {a' : Act} (hp : ∀ c (N : Option Tmp) v a w, Q (.panic c) (a.put N v) w → Q (.panic c) a w) (hc : RContOk s d) (hsm : s.size ≤ 1073741824) (hnmv : nameV nm = true)
    (hgg : gn ≠ g) (hrg : gr ≠ g) (hgnr : gn ≠ gr) (hglt : g < w.heap.size) (h0 : 0 < w0.heap.size) (hgw : w.heap.size ≤ gn) (hrw : w.heap.size ≤ gr) (hgw0 : w0.heap.size ≤ gn) (hrw0 : w0.heap.size ≤ gr) (hj0 : j0 ≤ s.size) (hF : RElFr g gr gn d a') (hR : RdF w0 wi g s j0 false) (hK : KeepBut w wi g none)
    (hbn : wi.heap[gn]? = some (.cells #[.string nm, .string ⟨#[]⟩, .slice none 0 0] 42 (0, 0))) (hbr : ∃ x y z, wi.heap[gr]? = some (.cells #[x, y, z] 42 (0, 0)))
    (hRet : REndK w0 w g s (atV (elemV s d) s nm j0) Q) (hKl : ∀ a w, (codeIn Tryd.f53 [1, 1, 1, 1, 1]).wp Tryd.prog Q a w → Kl a w) :
    (codeIn Tryd.f53 [1, 1, 1, 1, 0]).wp Tryd.prog (Exit.then Kl Q) a' wi := by
  have hu42 := Tryd.underlying42
  have HPP := Aside0.mk hp
  have HC := Aside0.mk hc
  have HRet := Aside0.mk hRet
  have hend : ∀ (a' : Act) (w' : World) (b : Bool) (j : Nat) (nm' : ByteArray), a'.defers = [] → a'.tmps.getD 4 undef = .pointer (some ⟨gr, 0, none⟩) → w'.heap[gr]? = some (.cells #[.string nm', .string ⟨#[]⟩, .slice none 0 0] 42 (0, 0)) → RdF w0 w' g s j b → KeepBut w w' g none → (match atV (elemV s d) s nm j0 with | some (n, m) => b = false ∧ (⟨nm', ⟨#[]⟩, []⟩ : S42) = toR n ∧ j = m ∧ m ≤ s.size | none => b = true) → Q .ret a' w' :=
    fun a' w' b j nm' h1 h2 h3 h4 h5 h6 => HRet.out a' w' gr ⟨nm', ⟨#[]⟩, []⟩ none 0 b j h1 h2 h3 (Nat.le_refl _) (fun W_ _ => Kd.C_nil _ _) h4 h5 h6
  have HEND := Aside0.mk hend
  have hwrong : ∀ (a' : Act) (w3 : World) (j : Nat) (x y z : Value), a'.defers = [] → a'.tmps.getD 4 undef = .pointer (some ⟨gr, 0, none⟩) → w3.heap[gr]? = some (.cells #[x, y, z] 42 (0, 0)) → RdF w0 w3 g s j false → KeepBut w w3 g none → atV (elemV s d) s nm j0 = none →
      Q .ret a' ((((w3.setCell ⟨g, 2, none⟩ (.bool true)).setCell ⟨gr, 0, none⟩ (.string nm)).setCell ⟨gr, 1, none⟩ (.string ⟨#[]⟩)).setCell ⟨gr, 2, none⟩ (.slice none 0 0)) := fun a' w3 j x y z h1 h2 h3 h4 h5 h6 => by
    have h7 : (w3.setCell ⟨g, 2, none⟩ (.bool true)).heap[gr]? = some (.cells #[x, y, z] 42 (0, 0)) := (Below.heap_setCell w3 ⟨g, 2, none⟩ _ gr hrg).trans h3
    exact HEND.out a' _ true j nm h1 h2 (blk_put (blk_put (blk_put h7 0 _ rfl) 1 _ rfl) 2 _ rfl) ((((h4.mark true).far (p := ⟨gr, 0, none⟩) hrg hrw0 _).far (p := ⟨gr, 1, none⟩) hrg hrw0 _).far (p := ⟨gr, 2, none⟩) hrg hrw0 _) (keep_far (keep_far (keep_far (h5.set_ 2 _) (p := ⟨gr, 0, none⟩) hrw _) (p := ⟨gr, 1, none⟩) hrw _) (p := ⟨gr, 2, none⟩) hrw _) (by rw [h6])
  have HWRONG := Aside0.mk hwrong
  clear hwrong
  have HR0 := Aside0.mk hR
  have HK0 := Aside0.mk hK
  have HB0 := Aside0.mk hbn
  have HBR0 := Aside0.mk hbr
  clear hp hc hRet hend hR hK hbn hbr
  simp only [codeIn, Tryd.f53, Option.getD_some, codeAt] at hKl ⊢
  obtain ⟨u, rfl⟩ := hF
  have hM : ∀ (k : Nat) (a2 : Act) (w2 : World), attrsV (s.size + 1) s j0 = some k → hasP s k ⟨#[47, 62]⟩ = false → hasP s k ⟨#[62]⟩ = true → RElFr g gr gn d a2 → RdF w0 w2 g s (k + 1) false → KeepBut w w2 g none → w2.heap[gn]? = some (.cells #[.string nm, .string ⟨#[]⟩, .slice none 0 0] 42 (0, 0)) → (∃ x y z, w2.heap[gr]? = some (.cells #[x, y, z] 42 (0, 0))) → Kl a2 w2 := by
    intro k a2 w2 hat h1 h2 hF2 hR2 hK2 hb2 hbr2
    refine hKl a2 w2 ?_
    clear hKl Kl
    obtain ⟨u2, rfl⟩ := hF2
    have hk1 : k + 1 ≤ s.size := by have := hasP_le h2; have h3 : (⟨#[62]⟩ : ByteArray).size = 1 := rfl; omega
    have HO : Aside0 (atV (elemV s d) s nm j0 = match contV (elemV s d) s (k + 1) with | some (t, kids, m) => endV s nm t kids m | none => none) := ⟨by
      unfold atV
      rw [hat]
      show restV (elemV s d) s nm k = _
      unfold restV
      rw [if_neg (by rw [h1]; decide), if_pos h2]
      first | done | rfl⟩
    have HCC := Aside0.mk (HC.out w0 w2 g (k + 1) nm hnmv hR2 hk1 h0)
    have n0 := blk_cell hb2 0
    have n1 := blk_cell hb2 1
    have n2 := blk_cell hb2 2
    have HK2 := Aside0.mk hK2
    have HBR2 := Aside0.mk hbr2
    have HL2 := Aside0.mk hR2.lt
    clear hat h1 h2 hR2 hK2 hb2 hbr2 HR0 HK0 HB0 HBR0
    go_wp2_with fail
    refine HCC.out.mono ?_
    rintro e w3 ⟨x, A, c, b, j, rfl, hle, hF3, hR3, hk3, hm3⟩
    obtain ⟨x0, y0, z0, hbr2⟩ := HBR2.out
    have hbr3 := hk3.blk hbr2 hrg (by simp)
    have r0 := blk_cell hbr3 0
    have r1 := blk_cell hbr3 1
    have r2 := blk_cell hbr3 2
    have q0 := blk_frozen hbr3 0
    have q1 := blk_frozen hbr3 1
    have q2 := blk_frozen hbr3 2
    have HBR3 := Aside0.mk hbr3
    have HLE := Aside0.mk hle
    have HF3 := Aside0.mk hF3
    have HR3 := Aside0.mk hR3
    have HK3 := Aside0.mk (HK2.out.trans hk3 (.inl rfl))
    have HM3 := Aside0.mk hm3
    have HWW : Aside0 (w.heap.size ≤ w2.heap.size) := ⟨HK2.out.1⟩
    have HGR2 : Aside0 (gr < w2.heap.size) := ⟨blk_lt hbr2⟩
    clear hbr2 hbr3 hle hF3 hR3 hk3 hm3 HBR2 HCC
    go_wp2_with fail
    refine HRet.out _ _ gr x A c b j rfl rfl (blk_put (blk_put (blk_put HBR3.out 0 _ rfl) 1 _ rfl) 2 _ rfl) HLE.out ?_ (((HR3.out.far (p := ⟨gr, 0, none⟩) hrg hrw0 _).far (p := ⟨gr, 1, none⟩) hrg hrw0 _).far (p := ⟨gr, 2, none⟩) hrg hrw0 _) (keep_far (keep_far (keep_far HK3.out (p := ⟨gr, 0, none⟩) hrw _) (p := ⟨gr, 1, none⟩) hrw _) (p := ⟨gr, 2, none⟩) hrw _) ?_
    · have h1 := HGR2.out
      have h2 := HWW.out
      have far : ∀ {W : World} (o : Nat) (u : Value), Kd.F k42 W (fun k => w2.heap.size ≤ k) A x.f2.length x.f2 → Kd.F k42 (W.setCell ⟨gr, o, none⟩ u) (fun k => w2.heap.size ≤ k) A x.f2.length x.f2 := fun o u h => Kd.F_far (p := ⟨gr, o, none⟩) h (fun k hk he => by have h3 : k = gr := he; have h4 : w2.heap.size ≤ k := hk; omega) u
      exact Kd.F_mono (far 2 _ (far 1 _ (far 0 _ HF3.out))) (fun k hk => by have h4 : w2.heap.size ≤ k := hk; omega)
    · rw [HO.out]
      exact HM3.out
  have HM := Aside0.mk hM
  clear hM hKl
  go_wp2_with fail
  refine wp_loop_ghost_k (fun kq a' wr => RElFr g gr gn d a' ∧ ∃ i, i ≤ s.size ∧ s.size - i < kq ∧ attrsV kq s i = attrsV (s.size + 1) s j0 ∧ RdF w0 wr g s i false ∧ KeepBut w wr g none ∧ wr.heap[gn]? = some (.cells #[.string nm, .string ⟨#[]⟩, .slice none 0 0] 42 (0, 0)) ∧ ∃ x y z, wr.heap[gr]? = some (.cells #[x, y, z] 42 (0, 0))) (s.size + 1) ?_ ?_
  · exact ⟨RElFr.mk, j0, hj0, by omega, rfl, HR0.out, HK0.out, HB0.out, HBR0.out⟩
  · intro kq a2 wr hI J K hJ hK
    obtain ⟨⟨u2, rfl⟩, i, hi, hik, hat, hRr, hKr, hbnr, x0, y0, z0, hbrr⟩ := hI
    have HJ := Aside0.mk hJ
    have HKK := Aside0.mk hK
    have HAT := Aside0.mk hat
    have HRR := Aside0.mk hRr
    have HKR := Aside0.mk hKr
    have HBN := Aside0.mk hbnr
    have HBR := Aside0.mk hbrr
    clear hJ hK hat hRr hKr hbnr hbrr HR0 HK0 HB0 HBR0
    cases kq with
    | zero => omega
    | succ kq =>
    have hat2 := HAT.out
    rw [attrsV] at hat2
    obtain ⟨j, hj⟩ : ∃ j, j = skip whiteV s i := ⟨_, rfl⟩
    have hij : i ≤ j := by rw [hj]; exact le_skip _ _ _
    have hjs : j ≤ s.size := by rw [hj]; exact (skip_le _ _ _ hi).2
    rw [← hj] at hat2
    have HS := Aside0.mk (rskip_calls HRR.out)
    rw [← hj] at HS
    have HA2 := Aside0.mk hat2
    clear hj hat2 HAT HRR
    go_wp2_with fail
    refine HS.out.mono ?_
    rintro e w1 ⟨rfl, hR1, hk1⟩
    have HR1 := Aside0.mk hR1
    have HK1 := Aside0.mk (HKR.out.trans hk1 (.inl rfl))
    have HBN1 := Aside0.mk (hk1.blk HBN.out hgg (by simp))
    have HBR1 := Aside0.mk (hk1.blk HBR.out hrg (by simp))
    clear hR1 hk1 HS HKR HBN HBR
    go_wp2_with fail
    refine (reat_calls HR1.out hjs ⟨#[47, 62]⟩ (by decide)).mono ?_
    rintro e w2 ⟨rfl, hR2, hk2⟩
    have HK2 := Aside0.mk (HK1.out.trans hk2 (.inl rfl))
    have HBN2 := Aside0.mk (hk2.blk HBN1.out hgg (by simp))
    have HBR2 := Aside0.mk (hk2.blk HBR1.out hrg (by simp))
    clear hk2 HK1 HBN1 HBR1 HR1
    cases hq : hasP s j ⟨#[47, 62]⟩ with
    | true =>
      rw [if_pos hq] at hR2
      have hle2 := hasP_le hq
      have h22 : (⟨#[47, 62]⟩ : ByteArray).size = 2 := rfl
      rw [h22] at hR2 hle2
      have HO : Aside0 (atV (elemV s d) s nm j0 = some (⟨nm, ⟨#[]⟩, []⟩, j + 2)) := ⟨by
        have h1 := HA2.out
        rw [if_neg (by rw [slash2 hjs hq]; simp)] at h1
        unfold atV
        rw [← h1]
        show restV (elemV s d) s nm j = _
        unfold restV
        rw [if_pos hq]⟩
      have HR2 := Aside0.mk hR2
      have hbn2 := HBN2.out
      have hbr2 := HBR2.out
      have n0 := blk_cell hbn2 0
      have r0 := blk_cell hbr2 0
      have q0 := blk_frozen hbr2 0
      have n1 := blk_cell hbn2 1
      have r1 := blk_cell hbr2 1
      have q1 := blk_frozen hbr2 1
      have n2 := blk_cell hbn2 2
      have r2 := blk_cell hbr2 2
      have q2 := blk_frozen hbr2 2
      clear hR2 hq hbn2 hbr2
      go_wp2_with fail
      exact HEND.out _ _ false (j + 2) nm rfl rfl (blk_put (blk_put (blk_put HBR2.out 0 _ rfl) 1 _ rfl) 2 _ rfl) (((HR2.out.far (p := ⟨gr, 0, none⟩) hrg hrw0 _).far (p := ⟨gr, 1, none⟩) hrg hrw0 _).far (p := ⟨gr, 2, none⟩) hrg hrw0 _) (keep_far (keep_far (keep_far HK2.out (p := ⟨gr, 0, none⟩) hrw _) (p := ⟨gr, 1, none⟩) hrw _) (p := ⟨gr, 2, none⟩) hrw _) (by rw [HO.out]; exact ⟨rfl, rfl, rfl, by omega⟩)
    | false =>
      rw [if_neg (by rw [hq]; decide)] at hR2
      have HR2 := Aside0.mk hR2
      have HQ := Aside0.mk hq
      clear hR2 hq
      go_wp2_with fail
      refine (reat_calls HR2.out hjs ⟨#[62]⟩ (by decide)).mono ?_
      rintro e w3 ⟨rfl, hR3, hk3⟩
      have HK3 := Aside0.mk (HK2.out.trans hk3 (.inl rfl))
      have HBN3 := Aside0.mk (hk3.blk HBN2.out hgg (by simp))
      have HBR3 := Aside0.mk (hk3.blk HBR2.out hrg (by simp))
      clear hk3 HK2 HBN2 HBR2 HR2
      cases hq2 : hasP s j ⟨#[62]⟩ with
      | true =>
        rw [if_pos hq2] at hR3
        have h21 : (⟨#[62]⟩ : ByteArray).size = 1 := rfl
        rw [h21] at hR3
        have HAT : Aside0 (attrsV (s.size + 1) s j0 = some j) := ⟨by
          have h1 := HA2.out
          rw [if_neg (by rw [hq2]; simp)] at h1
          exact h1.symm⟩
        have HR3 := Aside0.mk hR3
        have HQ2 := Aside0.mk hq2
        clear hR3 hq2
        go_wp2_with fail
        exact HM.out j _ _ HAT.out HQ.out HQ2.out RElFr.mk HR3.out HK3.out HBN3.out ⟨_, _, _, HBR3.out⟩
      | false =>
        rw [if_neg (by rw [hq2]; decide)] at hR3
        have HR3 := Aside0.mk hR3
        have HQ2 := Aside0.mk hq2
        clear hR3 hq2
        by_cases hz : j - i = 0
        · have hz2 : ((j - i : Nat) : Int) = 0 := by omega
          have HO : Aside0 (atV (elemV s d) s nm j0 = none) := ⟨by
            have h1 := HA2.out
            rw [if_neg (by have : decide (i < j) = false := decide_eq_false (by omega); rw [this]; simp)] at h1
            unfold atV
            rw [← h1]
            show restV (elemV s d) s nm j = _
            unfold restV
            rw [if_neg (by rw [HQ.out]; decide), if_neg (by rw [HQ2.out]; decide)]⟩
          have hbn2 := HBN3.out
          have hbr2 := HBR3.out
          have n0 := blk_cell hbn2 0
          have r0 := blk_cell hbr2 0
          have q0 := blk_frozen hbr2 0
          have n1 := blk_cell hbn2 1
          have r1 := blk_cell hbr2 1
          have q1 := blk_frozen hbr2 1
          have n2 := blk_cell hbn2 2
          have r2 := blk_cell hbr2 2
          have q2 := blk_frozen hbr2 2
          have cB := HR3.out.cell2
          have fB := HR3.out.frozen 2
          have hng : gr ≠ g := hrg
          rw [hz2]
          clear hbn2 hbr2
          go_wp2_with fail
          exact HWRONG.out _ w3 j _ _ _ rfl rfl HBR3.out HR3.out HK3.out HO.out
        · have hz2 : (((j - i : Nat) : Int) == 0) = false := by simp; omega
          have hz3 : ¬ ((j - i : Nat) : Int) = 0 := by omega
          have hij2 : decide (i < j) = true := decide_eq_true (by omega)
          have HAC := Aside0.mk (rattr_calls HR3.out hjs)
          clear hz
          go_wp2_with fail
          refine HAC.out.mono ?_
          rintro e w4 ⟨ok, j4, rfl, hR4, hk4, hm4⟩
          have HR4 := Aside0.mk hR4
          have HK4 := Aside0.mk (HK3.out.trans hk4 (.inl rfl))
          have HBN4 := Aside0.mk (hk4.blk HBN3.out hgg (by simp))
          have HBR4 := Aside0.mk (hk4.blk HBR3.out hrg (by simp))
          clear hR4 hk4 HK3 HBN3 HBR3 HR3 HAC hz2 hz3
          have h1 := HA2.out
          rw [hij2, HQ2.out] at h1
          have HM4 := Aside0.mk hm4
          cases hav : attrV s j with
          | none =>
            have hok : ok = false := by have := HM4.out; rw [hav] at this; exact this
            subst hok
            have HO : Aside0 (atV (elemV s d) s nm j0 = none) := ⟨by
              rw [hav] at h1
              cases hsl : hasP s j ⟨#[47]⟩ with
              | true =>
                rw [hsl] at h1
                simp only [Bool.not_true, Bool.and_false, Bool.false_and, Bool.false_eq_true, if_false] at h1
                unfold atV
                rw [← h1]
                show restV (elemV s d) s nm j = none
                unfold restV
                rw [if_neg (by rw [HQ.out]; decide), if_neg (by rw [HQ2.out]; decide)]
              | false =>
                rw [hsl] at h1
                simp only [Bool.not_false, Bool.and_true, if_true] at h1
                unfold atV
                rw [← h1]⟩
            have hbn2 := HBN4.out
            have hbr2 := HBR4.out
            have n0 := blk_cell hbn2 0
            have r0 := blk_cell hbr2 0
            have q0 := blk_frozen hbr2 0
            have n1 := blk_cell hbn2 1
            have r1 := blk_cell hbr2 1
            have q1 := blk_frozen hbr2 1
            have n2 := blk_cell hbn2 2
            have r2 := blk_cell hbr2 2
            have q2 := blk_frozen hbr2 2
            have cB := HR4.out.cell2
            have fB := HR4.out.frozen 2
            have hng : gr ≠ g := hrg
            clear hbn2 hbr2 hav h1 hm4 HM4
            go_wp2_with fail
            exact HWRONG.out _ w4 j4 _ _ _ rfl rfl HBR4.out HR4.out HK4.out HO.out
          | some m =>
            have hns : hasP s j ⟨#[47]⟩ = false := by
              cases hx : hasP s j ⟨#[47]⟩ with
              | false => rfl
              | true => rw [slash_attr hjs hx] at hav; cases hav
            have hmm : ok = true ∧ j4 = m := by have := HM4.out; rw [hav] at this; exact this
            obtain ⟨rfl, rfl⟩ := hmm
            have hms := attrV_le hjs hav
            have hgt := attrV_gt hav
            rw [hns, hav] at h1
            have HAT3 : Aside0 (attrsV kq s j4 = attrsV (s.size + 1) s j0) := ⟨by simpa using h1⟩
            clear hav h1 hm4 HM4 hns
            go_wp2_with fail
            exact HKK.out _ _ ⟨kq, Nat.lt_succ_self _, HJ.out _ _ _ ⟨RElFr.mk, j4, hms, by omega, HAT3.out, HR4.out, HK4.out, HBN4.out, _, _, _, HBR4.out⟩⟩
theorem relem_end {w0 w : World} {g : Nat} {s : ByteArray} {o : Option (S36 × Nat)} : REndK w0 w g s o (bodyPost Tryd.prog Tryd.f53 (RElemPost w0 w g s o)) := by
  intro a' w' gr x A c b j h1 h2 h3 h4 h5 h6 h7 h8
  exact bodyPost_ret (relem_results h2 h3) h1 ⟨x, A, c, b, j, rfl, h4, h5, h6, h7, h8⟩
set_option maxHeartbeats 4000000 in
set_option maxRecDepth 1000000 in
theorem relem_step {d : Nat} {s : ByteArray} (hc : RContOk s d) (hd16 : d < 16) {w0 w : World} {g i : Nat} (h : RdF w0 w g s i false) (hi : i ≤ s.size) (h0 : 0 < w0.heap.size) :
    Calls Tryd.prog 53 #[.pointer (some ⟨g, 0, none⟩), .int .i64 (16 - (d : Int))] w (RElemPost w0 w g s (elemV s (d + 1) i)) := by
  have hu42 := Tryd.underlying42
  have HC := Aside0.mk hc
  have hsm := h.small
  have hlt := h.lt
  have hge := h.ge
  obtain ⟨gr, hgr⟩ : ∃ gr, gr = w.heap.size := ⟨_, rfl⟩
  have hrg : gr ≠ g := by omega
  have hrw : w.heap.size ≤ gr := by omega
  have hrw0 : w0.heap.size ≤ gr := by omega
  obtain ⟨w1, hw1⟩ : ∃ w1, w1 = w.alloc (.cells #[.string ⟨#[]⟩, .string ⟨#[]⟩, .slice none 0 0] 42) := ⟨_, rfl⟩
  have hb1 : Below w.heap.size w w1 := by rw [hw1]; exact below_alloc (Below.refl _ _) _
  have HR1 := Aside0.mk (h.stays hb1)
  have HK1 : Aside0 (KeepBut w w1 g none) := ⟨KeepBut.of_below hb1 g none⟩
  have HBR1 : Aside0 (w1.heap[gr]? = some (.cells #[.string ⟨#[]⟩, .string ⟨#[]⟩, .slice none 0 0] 42 (0, 0))) := ⟨by rw [hw1, hgr]; exact heap_alloc_new w _⟩
  have HGR := Aside0.mk hgr
  have HW1 := Aside0.mk hw1
  have hq16 : decide ((16 : Int) < 16 - (d : Int)) = false := decide_eq_false (by omega)
  clear hc h hgr hw1 hb1
  go_enter Tryd.func53, Tryd.ntmps53
  go_wp2_with fail
  rw [← HW1.out, ← HGR.out]
  refine (reat_calls HR1.out hi ⟨#[60]⟩ (by decide)).mono ?_
  rintro e w2 ⟨rfl, hR2, hk2⟩
  have HK2 := Aside0.mk (HK1.out.trans hk2 (.inl rfl))
  have HBR2 := Aside0.mk (hk2.blk HBR1.out hrg (by simp))
  clear hk2 HK1 HBR1 HR1
  cases hq : hasP s i ⟨#[60]⟩ with
  | false =>
    rw [if_neg (by rw [hq]; decide)] at hR2
    have HO : Aside0 (elemV s (d + 1) i = none) := ⟨by rw [elemV, if_neg (by rw [hq]; decide)]⟩
    have HR2 := Aside0.mk hR2
    have hbr2 := HBR2.out
    have r0 := blk_cell hbr2 0
    have r1 := blk_cell hbr2 1
    have r2 := blk_cell hbr2 2
    have q0 := blk_frozen hbr2 0
    have q1 := blk_frozen hbr2 1
    have q2 := blk_frozen hbr2 2
    have cB := HR2.out.cell2
    have fB := HR2.out.frozen 2
    clear hR2 hq hbr2
    go_wp2_with fail
    have h7 : (w2.setCell ⟨g, 2, none⟩ (.bool true)).heap[gr]? = some (.cells #[.string ⟨#[]⟩, .string ⟨#[]⟩, .slice none 0 0] 42 (0, 0)) := (Below.heap_setCell w2 ⟨g, 2, none⟩ _ gr hrg).trans HBR2.out
    exact relem_end _ _ gr ⟨⟨#[]⟩, ⟨#[]⟩, []⟩ none 0 true i rfl rfl (blk_put (blk_put (blk_put h7 0 _ rfl) 1 _ rfl) 2 _ rfl) (Nat.le_refl _) (fun W_ _ => Kd.C_nil _ _) ((((HR2.out.mark true).far (p := ⟨gr, 0, none⟩) hrg hrw0 _).far (p := ⟨gr, 1, none⟩) hrg hrw0 _).far (p := ⟨gr, 2, none⟩) hrg hrw0 _) (keep_far (keep_far (keep_far (HK2.out.set_ 2 _) (p := ⟨gr, 0, none⟩) hrw _) (p := ⟨gr, 1, none⟩) hrw _) (p := ⟨gr, 2, none⟩) hrw _) (by rw [HO.out])
  | true =>
    rw [if_pos hq] at hR2
    have h61 : (⟨#[60]⟩ : ByteArray).size = 1 := rfl
    have hle := hasP_le hq
    rw [h61] at hR2 hle
    have hi1 : i + 1 ≤ s.size := by omega
    have hO : elemV s (d + 1) i = if nameV (s.extract (i + 1) (skip innerV s (i + 1))) = true then atV (elemV s d) s (s.extract (i + 1) (skip innerV s (i + 1))) (skip innerV s (i + 1)) else none := by rw [elemV, if_pos hq]
    have HO := Aside0.mk hO
    have HN := Aside0.mk (rname_calls hR2 hi1)
    clear hR2 hq hO hle
    go_wp2_with fail
    refine HN.out.mono ?_
    rintro e w3 ⟨rfl, hR3, hk3⟩
    have HK3 := Aside0.mk (HK2.out.trans hk3 (.inl rfl))
    have HBR3 := Aside0.mk (hk3.blk HBR2.out hrg (by simp))
    obtain ⟨gn, hgn⟩ : ∃ gn, gn = w3.heap.size := ⟨_, rfl⟩
    have hgnr : gn ≠ gr := by have := blk_lt HBR3.out; omega
    have hgng : gn ≠ g := by have := hR3.lt; omega
    have hgnw : w.heap.size ≤ gn := by have := HK3.out.1; omega
    have hgnw0 : w0.heap.size ≤ gn := by omega
    cases hnv : nameV (s.extract (i + 1) (skip innerV s (i + 1))) with
    | false =>
      have he : rnameV s (i + 1) = (⟨#[]⟩, i + 1) := by unfold rnameV; rw [if_neg (by rw [hnv]; decide)]
      rw [he] at hR3 ⊢
      have HO2 : Aside0 (elemV s (d + 1) i = none) := ⟨by rw [HO.out, if_neg (by rw [hnv]; decide)]⟩
      obtain ⟨w4, hw4⟩ : ∃ w4, w4 = w3.alloc (.cells #[.string ⟨#[]⟩, .string ⟨#[]⟩, .slice none 0 0] 42) := ⟨_, rfl⟩
      have hb4 : Below w3.heap.size w3 w4 := by rw [hw4]; exact below_alloc (Below.refl _ _) _
      have hbn4 : w4.heap[gn]? = some (.cells #[.string ⟨#[]⟩, .string ⟨#[]⟩, .slice none 0 0] 42 (0, 0)) := by rw [hw4, hgn]; exact heap_alloc_new w3 _
      have hbr4 := blk_below HBR3.out hb4
      have HR4 := Aside0.mk (hR3.stays hb4)
      have HK4 := Aside0.mk (HK3.out.trans (KeepBut.of_below hb4 g none) (.inl rfl))
      have HBR4 := Aside0.mk hbr4
      have r0 := blk_cell hbr4 0
      have r1 := blk_cell hbr4 1
      have r2 := blk_cell hbr4 2
      have q0 := blk_frozen hbr4 0
      have q1 := blk_frozen hbr4 1
      have q2 := blk_frozen hbr4 2
      have n0 := blk_cell hbn4 0
      have n1 := blk_cell hbn4 1
      have n2 := blk_cell hbn4 2
      have cB := HR4.out.cell2
      have fB := HR4.out.frozen 2
      have HGN := Aside0.mk hgn
      have HW4 := Aside0.mk hw4
      clear hR3 hk3 hnv he hw4 hgn hb4 hbn4 hbr4 HK3 HBR3 HN HK2 HBR2
      go_upto_if 23 with (fail)
      rw [← HW4.out, ← HGN.out]
      go_wp2_with fail
      have h7 : (w4.setCell ⟨g, 2, none⟩ (.bool true)).heap[gr]? = some (.cells #[.string ⟨#[]⟩, .string ⟨#[]⟩, .slice none 0 0] 42 (0, 0)) := (Below.heap_setCell w4 ⟨g, 2, none⟩ _ gr hrg).trans HBR4.out
      exact relem_end _ _ gr ⟨⟨#[]⟩, ⟨#[]⟩, []⟩ none 0 true (i + 1) rfl rfl (blk_put (blk_put (blk_put h7 0 _ rfl) 1 _ rfl) 2 _ rfl) (Nat.le_refl _) (fun W_ _ => Kd.C_nil _ _) ((((HR4.out.mark true).far (p := ⟨gr, 0, none⟩) hrg hrw0 _).far (p := ⟨gr, 1, none⟩) hrg hrw0 _).far (p := ⟨gr, 2, none⟩) hrg hrw0 _) (keep_far (keep_far (keep_far (HK4.out.set_ 2 _) (p := ⟨gr, 0, none⟩) hrw _) (p := ⟨gr, 1, none⟩) hrw _) (p := ⟨gr, 2, none⟩) hrw _) (by rw [HO2.out])
    | true =>
      have he : rnameV s (i + 1) = (s.extract (i + 1) (skip innerV s (i + 1)), skip innerV s (i + 1)) := by unfold rnameV; rw [if_pos hnv]
      have hnn : ¬ (rnameV s (i + 1)).1.toList = [] := fun h => by have := (rname_nil s (i + 1) hi1).1 h; rw [hnv] at this; cases this
      rw [he] at hR3 hnn ⊢
      have hO2 : elemV s (d + 1) i = atV (elemV s d) s (s.extract (i + 1) (skip innerV s (i + 1))) (skip innerV s (i + 1)) := by rw [HO.out, if_pos hnv]
      have hjs := (skip_le innerV s (i + 1) hi1).2
      obtain ⟨nm, hnm⟩ : ∃ nm, nm = s.extract (i + 1) (skip innerV s (i + 1)) := ⟨_, rfl⟩
      obtain ⟨j0, hj0⟩ : ∃ j0, j0 = skip innerV s (i + 1) := ⟨_, rfl⟩
      simp only at hnn hR3
      rw [← hj0] at hnm hjs
      rw [← hj0, ← hnm] at hnn hO2
      rw [← hj0] at hR3
      have HO2 := Aside0.mk hO2
      have HNV : Aside0 (nameV nm = true) := ⟨by rw [hnm, hj0]; exact hnv⟩
      obtain ⟨w4, hw4⟩ : ∃ w4, w4 = w3.alloc (.cells #[.string nm, .string ⟨#[]⟩, .slice none 0 0] 42) := ⟨_, rfl⟩
      have hb4 : Below w3.heap.size w3 w4 := by rw [hw4]; exact below_alloc (Below.refl _ _) _
      have hbn4 : w4.heap[gn]? = some (.cells #[.string nm, .string ⟨#[]⟩, .slice none 0 0] 42 (0, 0)) := by rw [hw4, hgn]; exact heap_alloc_new w3 _
      have hbr4 := blk_below HBR3.out hb4
      have HR4 := Aside0.mk (hR3.stays hb4)
      have HK4 := Aside0.mk (HK3.out.trans (KeepBut.of_below hb4 g none) (.inl rfl))
      have HBR4 := Aside0.mk hbr4
      have HBN4 := Aside0.mk hbn4
      have n0 := blk_cell hbn4 0
      have hm1 : nm.toList.isEmpty = false := by cases hx : nm.toList with | nil => exact absurd hx hnn | cons a t => rfl
      have hm2 : (nm.toList == []) = false := by simpa using hnn
      have HGN := Aside0.mk hgn
      have HW4 := Aside0.mk hw4
      simp only
      rw [← hj0, ← hnm]
      clear hR3 hk3 hnv he hw4 hgn hb4 hbn4 hbr4 HK3 HBR3 HN HK2 HBR2 hO2 hnm hj0 HO
      go_upto_if 23 with (fail)
      rw [← HW4.out, ← HGN.out]
      have hK4 := HK4.out
      clear n0 hm1 hm2
      go_upto_block 0 with (fail)
      rename_i Kl hKl
      refine relem_tail (fun c_ N_ _ _ w_ h_ => by cases N_ <;> exact h_) HC.out hsm HNV.out hgng hrg hgnr hlt h0 hgnw hrw hgnw0 hrw0 hjs RElFr.mk HR4.out hK4 HBN4.out ⟨_, _, _, HBR4.out⟩ ?_ hKl
      rw [HO2.out]
      exact relem_end
def RCoFr (g gn gr d i : Nat) (a' : Act) : Prop := ∃ u : Nat → Value, a' = { tmps := #[.pointer (some ⟨g, 0, none⟩), u 1, .int .i64 (16 - (d : Int)), u 3, .pointer (some ⟨gn, 0, none⟩), u 5, .pointer (some ⟨gr, 0, none⟩), .int .i64 i, u 8, u 9, u 10, u 11, u 12, u 13, u 14, u 15, u 16, u 17, u 18, u 19, u 20, u 21, u 22, u 23, u 24, u 25, u 26, u 27, u 28, u 29, u 30, u 31, u 32, u 33, u 34, u 35, u 36, u 37, u 38, u 39, u 40, u 41, u 42, u 43, u 44, u 45, u 46, u 47, u 48, u 49, u 50, u 51, u 52, u 53, u 54, u 55, u 56, u 57, u 58, u 59, u 60, u 61, u 62, u 63, u 64, u 65, u 66, u 67, u 68, u 69, u 70, u 71, u 72, u 73, u 74, u 75, u 76, u 77, u 78, u 79, u 80, u 81, u 82, u 83, u 84, u 85, u 86, u 87, u 88, u 89, u 90, u 91, u 92, u 93, u 94, u 95, u 96, u 97, u 98, u 99, u 100, u 101, u 102, u 103, u 104, u 105, u 106, u 107, u 108, u 109, u 110, u 111, u 112, u 113, u 114, u 115, u 116, u 117, u 118, u 119, u 120, u 121, u 122, u 123, u 124, u 125, u 126, u 127, u 128, u 129, u 130, u 131, u 132, u 133, u 134, u 135, u 136, u 137, u 138, u 139, u 140, u 141, u 142, u 143, u 144, u 145, u 146, u 147, u 148, u 149, u 150, u 151, u 152, u 153, u 154, u 155, u 156, u 157, u 158, u 159, u 160, u 161, u 162, u 163, u 164, u 165, u 166, u 167, u 168, u 169, u 170, u 171, u 172, u 173, u 174, u 175, u 176, u 177], defers := [] }
theorem RCoFr.mk {g gn gr d i : Nat} {u1 u3 u5 u8 u9 u10 u11 u12 u13 u14 u15 u16 u17 u18 u19 u20 u21 u22 u23 u24 u25 u26 u27 u28 u29 u30 u31 u32 u33 u34 u35 u36 u37 u38 u39 u40 u41 u42 u43 u44 u45 u46 u47 u48 u49 u50 u51 u52 u53 u54 u55 u56 u57 u58 u59 u60 u61 u62 u63 u64 u65 u66 u67 u68 u69 u70 u71 u72 u73 u74 u75 u76 u77 u78 u79 u80 u81 u82 u83 u84 u85 u86 u87 u88 u89 u90 u91 u92 u93 u94 u95 u96 u97 u98 u99 u100 u101 u102 u103 u104 u105 u106 u107 u108 u109 u110 u111 u112 u113 u114 u115 u116 u117 u118 u119 u120 u121 u122 u123 u124 u125 u126 u127 u128 u129 u130 u131 u132 u133 u134 u135 u136 u137 u138 u139 u140 u141 u142 u143 u144 u145 u146 u147 u148 u149 u150 u151 u152 u153 u154 u155 u156 u157 u158 u159 u160 u161 u162 u163 u164 u165 u166 u167 u168 u169 u170 u171 u172 u173 u174 u175 u176 u177 : Value} : RCoFr g gn gr d i { tmps := #[.pointer (some ⟨g, 0, none⟩), u1, .int .i64 (16 - (d : Int)), u3, .pointer (some ⟨gn, 0, none⟩), u5, .pointer (some ⟨gr, 0, none⟩), .int .i64 i, u8, u9, u10, u11, u12, u13, u14, u15, u16, u17, u18, u19, u20, u21, u22, u23, u24, u25, u26, u27, u28, u29, u30, u31, u32, u33, u34, u35, u36, u37, u38, u39, u40, u41, u42, u43, u44, u45, u46, u47, u48, u49, u50, u51, u52, u53, u54, u55, u56, u57, u58, u59, u60, u61, u62, u63, u64, u65, u66, u67, u68, u69, u70, u71, u72, u73, u74, u75, u76, u77, u78, u79, u80, u81, u82, u83, u84, u85, u86, u87, u88, u89, u90, u91, u92, u93, u94, u95, u96, u97, u98, u99, u100, u101, u102, u103, u104, u105, u106, u107, u108, u109, u110, u111, u112, u113, u114, u115, u116, u117, u118, u119, u120, u121, u122, u123, u124, u125, u126, u127, u128, u129, u130, u131, u132, u133, u134, u135, u136, u137, u138, u139, u140, u141, u142, u143, u144, u145, u146, u147, u148, u149, u150, u151, u152, u153, u154, u155, u156, u157, u158, u159, u160, u161, u162, u163, u164, u165, u166, u167, u168, u169, u170, u171, u172, u173, u174, u175, u176, u177], defers := [] } := ⟨fun k => ([undef, u1, undef, u3, undef, u5, undef, undef, u8, u9, u10, u11, u12, u13, u14, u15, u16, u17, u18, u19, u20, u21, u22, u23, u24, u25, u26, u27, u28, u29, u30, u31, u32, u33, u34, u35, u36, u37, u38, u39, u40, u41, u42, u43, u44, u45, u46, u47, u48, u49, u50, u51, u52, u53, u54, u55, u56, u57, u58, u59, u60, u61, u62, u63, u64, u65, u66, u67, u68, u69, u70, u71, u72, u73, u74, u75, u76, u77, u78, u79, u80, u81, u82, u83, u84, u85, u86, u87, u88, u89, u90, u91, u92, u93, u94, u95, u96, u97, u98, u99, u100, u101, u102, u103, u104, u105, u106, u107, u108, u109, u110, u111, u112, u113, u114, u115, u116, u117, u118, u119, u120, u121, u122, u123, u124, u125, u126, u127, u128, u129, u130, u131, u132, u133, u134, u135, u136, u137, u138, u139, u140, u141, u142, u143, u144, u145, u146, u147, u148, u149, u150, u151, u152, u153, u154, u155, u156, u157, u158, u159, u160, u161, u162, u163, u164, u165, u166, u167, u168, u169, u170, u171, u172, u173, u174, u175, u176, u177] : List Value).getD k undef, rfl⟩
def RCoEnd (w0 w : World) (g : Nat) (s : ByteArray) (o : Option (S36 × Nat)) (Q : Exit → Act → World → Prop) : Prop :=
  ∀ (a' : Act) (w' : World) (gr : Nat) (x : S42) (A : Option Addr) (c : Nat) (b : Bool) (j : Nat), a'.defers = [] → a'.tmps.getD 6 undef = .pointer (some ⟨gr, 0, none⟩) → w'.heap[gr]? = some (.cells #[.string x.f0, .string x.f1, .slice A x.f2.length c] 42 (0, 0)) → x.f2.length ≤ c →
    Kd.F k42 w' (fun k => w.heap.size ≤ k) A x.f2.length x.f2 → RdF w0 w' g s j b → KeepBut w w' g none → (match o with | some (n, m) => b = false ∧ x = toR n ∧ j = m ∧ m ≤ s.size | none => b = true) → Q .ret a' w'
theorem rname_eq {s nm : ByteArray} {i : Nat} (hnm : nameV nm = true) (hi : i ≤ s.size) : (rnameV s i).1 = nm ↔ s.extract i (skip innerV s i) = nm := by
  unfold rnameV
  cases h : nameV (s.extract i (skip innerV s i)) with
  | true => simp
  | false =>
    simp only [Bool.false_eq_true, if_false]
    constructor
    · intro he
      rw [← he] at hnm
      exact absurd hnm (by decide)
    · intro he
      rw [he, hnm] at h
      cases h
theorem rname_le (s : ByteArray) {i : Nat} (hi : i ≤ s.size) : (rnameV s i).2 ≤ s.size := by
  unfold rnameV
  split
  · exact (skip_le innerV s i hi).2
  · exact hi
theorem rname_pos {s nm : ByteArray} {i : Nat} (hnm : nameV nm = true) (he : s.extract i (skip innerV s i) = nm) : (rnameV s i).2 = skip innerV s i := by
  unfold rnameV
  rw [he, if_pos hnm]
set_option maxHeartbeats 4000000 in
set_option maxRecDepth 1000000 in
theorem rcont_tail {Q : Exit → Act → World → Prop} {w0 w wi : World} {g gn gr d i j c : Nat} {s nm t : ByteArray} {l : List S36} {A : Option Addr} {b : Bool} {a' : Act} (hp : ∀ c (N : Option Tmp) v a w, Q (.panic c) (a.put N v) w → Q (.panic c) a w) (hsm : s.size ≤ 1073741824) (hnmv : nameV nm = true)
    (hgg : gn ≠ g) (hrg : gr ≠ g) (hgnr : gn ≠ gr) (hglt : g < w.heap.size) (hgw : w.heap.size ≤ gn) (hrw : w.heap.size ≤ gr) (hgw0 : w0.heap.size ≤ gn) (hrw0 : w0.heap.size ≤ gr) (hj : b = false → j ≤ s.size) (hF : RCoFr g gn gr d i a') (hR : RdF w0 wi g s j b) (hK : KeepBut w wi g none)
    (hbn : wi.heap[gn]? = some (.cells #[.string nm, .string t, .slice A l.length c] 42 (0, 0))) (hle : l.length ≤ c) (hFl : Kd.F k42 wi (fun k => w.heap.size ≤ k ∧ k ≠ gr) A l.length (toRs l)) (hbr : ∃ x y z, wi.heap[gr]? = some (.cells #[x, y, z] 42 (0, 0)))
    (hRet : RCoEnd w0 w g s (if b = true then none else endV s nm t l j) Q) :
    (codeIn Tryd.f102 [1, 1, 1, 1]).wp Tryd.prog Q a' wi := by
  have hu42 := Tryd.underlying42
  have HPP := Aside0.mk hp
  have HRet := Aside0.mk hRet
  obtain ⟨x0, y0, z0, hbr0⟩ := hbr
  have hend : ∀ (a' : Act) (w' : World) (b' : Bool) (j' : Nat), a'.defers = [] → a'.tmps.getD 6 undef = .pointer (some ⟨gr, 0, none⟩) → KeepBut wi w' g none → RdF w0 w' g s j' b' → (match (if b = true then none else endV s nm t l j) with | some (n, m) => b' = false ∧ (⟨nm, t, toRs l⟩ : S42) = toR n ∧ j' = m ∧ m ≤ s.size | none => b' = true) →
      Q .ret a' (((w'.setCell ⟨gr, 0, none⟩ (.string nm)).setCell ⟨gr, 1, none⟩ (.string t)).setCell ⟨gr, 2, none⟩ (.slice A l.length c)) := fun a' w' b' j' h1 h2 h3 h4 h5 => by
    have hk := h3.blk hbr0 hrg (by simp)
    have hf := Kd.F_keep hFl h3 (fun k hk he => by have := hk.1; omega)
    have far : ∀ {W : World} (o : Nat) (u : Value), Kd.F k42 W (fun k => w.heap.size ≤ k ∧ k ≠ gr) A l.length (toRs l) → Kd.F k42 (W.setCell ⟨gr, o, none⟩ u) (fun k => w.heap.size ≤ k ∧ k ≠ gr) A l.length (toRs l) := fun o u h => Kd.F_far (p := ⟨gr, o, none⟩) h (fun k hk he => hk.2 he) u
    have hlen := toRs_length l
    refine HRet.out a' _ gr ⟨nm, t, toRs l⟩ A c b' j' h1 h2 (by simp only; rw [hlen]; exact blk_put (blk_put (blk_put hk 0 _ rfl) 1 _ rfl) 2 _ rfl) (by simp only; rw [hlen]; exact hle) (by simp only; rw [hlen]; exact Kd.F_mono (far 2 _ (far 1 _ (far 0 _ hf))) (fun k hk => hk.1)) (((h4.far (p := ⟨gr, 0, none⟩) hrg hrw0 _).far (p := ⟨gr, 1, none⟩) hrg hrw0 _).far (p := ⟨gr, 2, none⟩) hrg hrw0 _) (keep_far (keep_far (keep_far (hK.trans h3 (.inl rfl)) (p := ⟨gr, 0, none⟩) hrw _) (p := ⟨gr, 1, none⟩) hrw _) (p := ⟨gr, 2, none⟩) hrw _) h5
  have HEND := Aside0.mk hend
  have HBR := Aside0.mk hbr0
  have HBN := Aside0.mk hbn
  have HR := Aside0.mk hR
  simp only [codeIn, Tryd.f102, Option.getD_some, codeAt]
  obtain ⟨u, rfl⟩ := hF
  have hRb : RdF w0 wi.drew g s j b := hR.drewN 1
  clear hp hRet hend hK hFl
  cases b with
  | true =>
    clear hbr0
    go_upto_region 12 with (fail)
    refine start_ (n := 16) (S := fun W => W.heap[gn]? = some (.cells #[.string nm, .string t, .slice A l.length c] 42 (0, 0)) ∧ W.cell? ⟨g, 2, none⟩ = some (.bool true)) (ds := []) #[false, false, false, false, false, false, false, false, false, false, false, false, false, false, false, false] (by kernel_rfl) rfl rfl ⟨hbn, hRb.cell2⟩ (fun hHeld => ?_)
    refine pure_ (i := 0) (N := (some 149)) (v := ?_) (a' := ?_) #[true, false, false, false, false, false, false, false, false, false, false, false, false, false, false, false] rfl rfl (by kernel_rfl) (fun c_ _ w_ h_ => HPP.out c_ _ _ _ w_ h_) (Or.inl ⟨by kernel_rfl, ?_⟩) ?_ ?_
    rotate_left
    · intro w_
      go_simp
      with_reducible rfl
    rotate_left
    · simp only [Act.put, List.setIfInBounds_toArray, List.set_cons_zero, List.set_cons_succ]
      rfl
    refine pure_ (i := 1) (N := (some 150)) (v := ?_) (a' := ?_) #[true, true, false, false, false, false, false, false, false, false, false, false, false, false, false, false] rfl rfl (by kernel_rfl) (fun c_ _ w_ h_ => HPP.out c_ _ _ _ w_ h_) (Or.inl ⟨by kernel_rfl, ?_⟩) ?_ ?_
    rotate_left
    · intro w_
      go_simp
      with_reducible rfl
    rotate_left
    · simp only [Act.put, List.setIfInBounds_toArray, List.set_cons_zero, List.set_cons_succ]
      rfl
    refine pure_ (i := 2) (N := (some 151)) (v := ?_) (a' := ?_) #[true, true, true, false, false, false, false, false, false, false, false, false, false, false, false, false] rfl rfl (by kernel_rfl) (fun c_ _ w_ h_ => HPP.out c_ _ _ _ w_ h_) (Or.inl ⟨by kernel_rfl, ?_⟩) ?_ ?_
    rotate_left
    · intro w_
      go_simp
      with_reducible rfl
    rotate_left
    · simp only [Act.put, List.setIfInBounds_toArray, List.set_cons_zero, List.set_cons_succ]
      rfl
    refine take_ (i := 3) (N := some 152) (v := ?_) (a' := ?_) #[true, true, true, true, false, false, false, false, false, false, false, false, false, false, false, false] rfl rfl (by kernel_rfl) (fun c_ _ w_ h_ => HPP.out c_ _ _ _ w_ h_) (Or.inl ⟨by kernel_rfl, ?_⟩) hHeld ?_ ?_
    rotate_left
    · rintro w_ ⟨sA, sB⟩
      go_simp
      with_reducible rfl
    rotate_left
    · simp only [Act.put, List.setIfInBounds_toArray, List.set_cons_zero, List.set_cons_succ]
      rfl
    refine pure_ (i := 4) (N := (some 153)) (v := ?_) (a' := ?_) #[true, true, true, true, true, false, false, false, false, false, false, false, false, false, false, false] rfl rfl (by kernel_rfl) (fun c_ _ w_ h_ => HPP.out c_ _ _ _ w_ h_) (Or.inl ⟨by kernel_rfl, ?_⟩) ?_ ?_
    rotate_left
    · intro w_
      go_simp
      with_reducible rfl
    rotate_left
    · simp only [Act.put, List.setIfInBounds_toArray, List.set_cons_zero, List.set_cons_succ]
      rfl
    refine pure_ (i := 5) (N := (some 154)) (v := undef) (a' := ?_) #[true, true, true, true, true, true, false, false, false, false, false, false, false, false, false, false] rfl rfl (by kernel_rfl) (fun c_ _ w_ h_ => HPP.out c_ _ _ _ w_ h_) (Or.inr ⟨by kernel_rfl, rfl⟩) ?_ ?_
    rotate_left
    · simp only [Act.put, List.setIfInBounds_toArray, List.set_cons_zero, List.set_cons_succ]
      rfl
    refine pure_ (i := 6) (N := (some 155)) (v := undef) (a' := ?_) #[true, true, true, true, true, true, true, false, false, false, false, false, false, false, false, false] rfl rfl (by kernel_rfl) (fun c_ _ w_ h_ => HPP.out c_ _ _ _ w_ h_) (Or.inr ⟨by kernel_rfl, rfl⟩) ?_ ?_
    rotate_left
    · simp only [Act.put, List.setIfInBounds_toArray, List.set_cons_zero, List.set_cons_succ]
      rfl
    refine pure_ (i := 7) (N := (some 156)) (v := undef) (a' := ?_) #[true, true, true, true, true, true, true, true, false, false, false, false, false, false, false, false] rfl rfl (by kernel_rfl) (fun c_ _ w_ h_ => HPP.out c_ _ _ _ w_ h_) (Or.inr ⟨by kernel_rfl, rfl⟩) ?_ ?_
    rotate_left
    · simp only [Act.put, List.setIfInBounds_toArray, List.set_cons_zero, List.set_cons_succ]
      rfl
    refine pure_ (i := 8) (N := (some 157)) (v := ?_) (a' := ?_) #[true, true, true, true, true, true, true, true, true, false, false, false, false, false, false, false] rfl rfl (by kernel_rfl) (fun c_ _ w_ h_ => HPP.out c_ _ _ _ w_ h_) (Or.inl ⟨by kernel_rfl, ?_⟩) ?_ ?_
    rotate_left
    · intro w_
      go_simp
      with_reducible rfl
    rotate_left
    · simp only [Act.put, List.setIfInBounds_toArray, List.set_cons_zero, List.set_cons_succ]
      rfl
    refine pure_ (i := 9) (N := (some 158)) (v := ?_) (a' := ?_) #[true, true, true, true, true, true, true, true, true, true, false, false, false, false, false, false] rfl rfl (by kernel_rfl) (fun c_ _ w_ h_ => HPP.out c_ _ _ _ w_ h_) (Or.inl ⟨by kernel_rfl, ?_⟩) ?_ ?_
    rotate_left
    · intro w_
      go_simp
      with_reducible rfl
    rotate_left
    · simp only [Act.put, List.setIfInBounds_toArray, List.set_cons_zero, List.set_cons_succ]
      rfl
    refine pure_ (i := 10) (N := (some 159)) (v := undef) (a' := ?_) #[true, true, true, true, true, true, true, true, true, true, true, false, false, false, false, false] rfl rfl (by kernel_rfl) (fun c_ _ w_ h_ => HPP.out c_ _ _ _ w_ h_) (Or.inr ⟨by kernel_rfl, rfl⟩) ?_ ?_
    rotate_left
    · simp only [Act.put, List.setIfInBounds_toArray, List.set_cons_zero, List.set_cons_succ]
      rfl
    refine pure_ (i := 11) (N := (some 160)) (v := undef) (a' := ?_) #[true, true, true, true, true, true, true, true, true, true, true, true, false, false, false, false] rfl rfl (by kernel_rfl) (fun c_ _ w_ h_ => HPP.out c_ _ _ _ w_ h_) (Or.inr ⟨by kernel_rfl, rfl⟩) ?_ ?_
    rotate_left
    · simp only [Act.put, List.setIfInBounds_toArray, List.set_cons_zero, List.set_cons_succ]
      rfl
    refine pure_ (i := 12) (N := (some 161)) (v := undef) (a' := ?_) #[true, true, true, true, true, true, true, true, true, true, true, true, true, false, false, false] rfl rfl (by kernel_rfl) (fun c_ _ w_ h_ => HPP.out c_ _ _ _ w_ h_) (Or.inr ⟨by kernel_rfl, rfl⟩) ?_ ?_
    rotate_left
    · simp only [Act.put, List.setIfInBounds_toArray, List.set_cons_zero, List.set_cons_succ]
      rfl
    refine pure_ (i := 13) (N := (some 162)) (v := undef) (a' := ?_) #[true, true, true, true, true, true, true, true, true, true, true, true, true, true, false, false] rfl rfl (by kernel_rfl) (fun c_ _ w_ h_ => HPP.out c_ _ _ _ w_ h_) (Or.inr ⟨by kernel_rfl, rfl⟩) ?_ ?_
    rotate_left
    · simp only [Act.put, List.setIfInBounds_toArray, List.set_cons_zero, List.set_cons_succ]
      rfl
    refine pure_ (i := 14) (N := (some 163)) (v := undef) (a' := ?_) #[true, true, true, true, true, true, true, true, true, true, true, true, true, true, true, false] rfl rfl (by kernel_rfl) (fun c_ _ w_ h_ => HPP.out c_ _ _ _ w_ h_) (Or.inr ⟨by kernel_rfl, rfl⟩) ?_ ?_
    rotate_left
    · simp only [Act.put, List.setIfInBounds_toArray, List.set_cons_zero, List.set_cons_succ]
      rfl
    refine pure_ (i := 15) (N := (some 164)) (v := ?_) (a' := ?_) #[true, true, true, true, true, true, true, true, true, true, true, true, true, true, true, true] rfl rfl (by kernel_rfl) (fun c_ _ w_ h_ => HPP.out c_ _ _ _ w_ h_) (Or.inl ⟨by kernel_rfl, ?_⟩) ?_ ?_
    rotate_left
    · intro w_
      go_simp
      with_reducible rfl
    rotate_left
    · simp only [Act.put, List.setIfInBounds_toArray, List.set_cons_zero, List.set_cons_succ]
      rfl
    refine done_ (by kernel_rfl) ?_
    have hkd : KeepBut wi wi.drew g none := keep_drewN (KeepBut.refl wi g none) 1
    clear hHeld
    generalize wi.drew = wd at hkd hRb ⊢
    have hbn2 := hkd.blk HBN.out hgg (by simp)
    have hbr2 := hkd.blk HBR.out hrg (by simp)
    have n0 := blk_cell hbn2 0
    have r0 := blk_cell hbr2 0
    have q0 := blk_frozen hbr2 0
    have n1 := blk_cell hbn2 1
    have r1 := blk_cell hbr2 1
    have q1 := blk_frozen hbr2 1
    have n2 := blk_cell hbn2 2
    have r2 := blk_cell hbr2 2
    have q2 := blk_frozen hbr2 2
    have cB := hRb.cell2
    have fB := hRb.frozen 2
    clear hbn2 hbr2
    go_wp2_with fail
    refine HEND.out _ _ true j ?_ ?_ (hkd.set_ 2 _) (hRb.mark true) (by simp)
    · rfl
    · rfl
  | false =>
    have hjs := hj rfl
    clear hbr0 hj
    cases hq : hasP s j ⟨#[60, 47]⟩ with
    | false =>
      have HEAT := Aside0.mk hq
      have HEV : Aside0 (endV s nm t l j = none) := ⟨by unfold endV; rw [if_neg (by rw [hq]; decide)]⟩
      have hRd := hRb
      clear hq
      go_upto_region 12 with (fail)
      refine start_ (n := 16) (S := fun W => W.heap[gn]? = some (.cells #[.string nm, .string t, .slice A l.length c] 42 (0, 0)) ∧ W.cell? ⟨g, 2, none⟩ = some (.bool false)) (ds := []) #[false, false, false, false, false, false, false, false, false, false, false, false, false, false, false, false] (by kernel_rfl) rfl rfl ⟨hbn, hRb.cell2⟩ (fun hHeld => ?_)
      refine pure_ (i := 0) (N := (some 149)) (v := ?_) (a' := ?_) #[true, false, false, false, false, false, false, false, false, false, false, false, false, false, false, false] rfl rfl (by kernel_rfl) (fun c_ _ w_ h_ => HPP.out c_ _ _ _ w_ h_) (Or.inl ⟨by kernel_rfl, ?_⟩) ?_ ?_
      rotate_left
      · intro w_
        go_simp
        with_reducible rfl
      rotate_left
      · simp only [Act.put, List.setIfInBounds_toArray, List.set_cons_zero, List.set_cons_succ]
        rfl
      refine pure_ (i := 1) (N := (some 150)) (v := ?_) (a' := ?_) #[true, true, false, false, false, false, false, false, false, false, false, false, false, false, false, false] rfl rfl (by kernel_rfl) (fun c_ _ w_ h_ => HPP.out c_ _ _ _ w_ h_) (Or.inl ⟨by kernel_rfl, ?_⟩) ?_ ?_
      rotate_left
      · intro w_
        go_simp
        with_reducible rfl
      rotate_left
      · simp only [Act.put, List.setIfInBounds_toArray, List.set_cons_zero, List.set_cons_succ]
        rfl
      refine pure_ (i := 2) (N := (some 151)) (v := ?_) (a' := ?_) #[true, true, true, false, false, false, false, false, false, false, false, false, false, false, false, false] rfl rfl (by kernel_rfl) (fun c_ _ w_ h_ => HPP.out c_ _ _ _ w_ h_) (Or.inl ⟨by kernel_rfl, ?_⟩) ?_ ?_
      rotate_left
      · intro w_
        go_simp
        with_reducible rfl
      rotate_left
      · simp only [Act.put, List.setIfInBounds_toArray, List.set_cons_zero, List.set_cons_succ]
        rfl
      refine take_ (i := 3) (N := some 152) (v := ?_) (a' := ?_) #[true, true, true, true, false, false, false, false, false, false, false, false, false, false, false, false] rfl rfl (by kernel_rfl) (fun c_ _ w_ h_ => HPP.out c_ _ _ _ w_ h_) (Or.inl ⟨by kernel_rfl, ?_⟩) hHeld ?_ ?_
      rotate_left
      · rintro w_ ⟨sA, sB⟩
        go_simp
        with_reducible rfl
      rotate_left
      · simp only [Act.put, List.setIfInBounds_toArray, List.set_cons_zero, List.set_cons_succ]
        rfl
      refine pure_ (i := 4) (N := (some 153)) (v := ?_) (a' := ?_) #[true, true, true, true, true, false, false, false, false, false, false, false, false, false, false, false] rfl rfl (by kernel_rfl) (fun c_ _ w_ h_ => HPP.out c_ _ _ _ w_ h_) (Or.inl ⟨by kernel_rfl, ?_⟩) ?_ ?_
      rotate_left
      · intro w_
        go_simp
        with_reducible rfl
      rotate_left
      · simp only [Act.put, List.setIfInBounds_toArray, List.set_cons_zero, List.set_cons_succ]
        rfl
      refine pure_ (i := 5) (N := (some 154)) (v := ?_) (a' := ?_) #[true, true, true, true, true, true, false, false, false, false, false, false, false, false, false, false] rfl rfl (by kernel_rfl) (fun c_ _ w_ h_ => HPP.out c_ _ _ _ w_ h_) (Or.inl ⟨by kernel_rfl, ?_⟩) ?_ ?_
      rotate_left
      · intro w_
        go_simp
        with_reducible rfl
      rotate_left
      · simp only [Act.put, List.setIfInBounds_toArray, List.set_cons_zero, List.set_cons_succ]
        rfl
      refine one_ (i := 6) (N := some 155) #[true, true, true, true, true, true, true, false, false, false, false, false, false, false, false, false] rfl rfl (by kernel_rfl) (by decide) (fun K hK => ?_)
      refine goes_ Tryd.func99 (by kernel_rfl) rfl #[.pointer (some ⟨g, 0, none⟩), .string ⟨#[60, 47]⟩] (by kernel_rfl) rfl rfl (by kernel_rfl) ?_
      refine (reat_calls hRd hjs ⟨#[60, 47]⟩ (by decide)).mono ?_
      rintro e w2 ⟨rfl, hR2, hk2⟩
      rw [HEAT.out] at hR2 ⊢
      refine ⟨_, rfl, ?_⟩
      refine hK.out _ _ ⟨hk2.blk hHeld.1 hgg (by simp), hR2.cell2⟩ (fun hHeld => ?_)
      clear hK K
      refine norm_ (a' := ?_) ?_ ?_
      rotate_left
      · show Act.put _ (some 155) _ = _
        simp only [Act.put, List.setIfInBounds_toArray, List.set_cons_zero, List.set_cons_succ]
        rfl
      refine pure_ (i := 7) (N := (some 156)) (v := ?_) (a' := ?_) #[true, true, true, true, true, true, true, true, false, false, false, false, false, false, false, false] rfl rfl (by kernel_rfl) (fun c_ _ w_ h_ => HPP.out c_ _ _ _ w_ h_) (Or.inl ⟨by kernel_rfl, ?_⟩) ?_ ?_
      rotate_left
      · intro w_
        go_simp
        with_reducible rfl
      rotate_left
      · simp only [Act.put, List.setIfInBounds_toArray, List.set_cons_zero, List.set_cons_succ]
        rfl
      refine pure_ (i := 8) (N := (some 157)) (v := ?_) (a' := ?_) #[true, true, true, true, true, true, true, true, true, false, false, false, false, false, false, false] rfl rfl (by kernel_rfl) (fun c_ _ w_ h_ => HPP.out c_ _ _ _ w_ h_) (Or.inl ⟨by kernel_rfl, ?_⟩) ?_ ?_
      rotate_left
      · intro w_
        go_simp
        with_reducible rfl
      rotate_left
      · simp only [Act.put, List.setIfInBounds_toArray, List.set_cons_zero, List.set_cons_succ]
        rfl
      refine pure_ (i := 9) (N := (some 158)) (v := ?_) (a' := ?_) #[true, true, true, true, true, true, true, true, true, true, false, false, false, false, false, false] rfl rfl (by kernel_rfl) (fun c_ _ w_ h_ => HPP.out c_ _ _ _ w_ h_) (Or.inl ⟨by kernel_rfl, ?_⟩) ?_ ?_
      rotate_left
      · intro w_
        go_simp
        with_reducible rfl
      rotate_left
      · simp only [Act.put, List.setIfInBounds_toArray, List.set_cons_zero, List.set_cons_succ]
        rfl
      refine pure_ (i := 10) (N := (some 159)) (v := undef) (a' := ?_) #[true, true, true, true, true, true, true, true, true, true, true, false, false, false, false, false] rfl rfl (by kernel_rfl) (fun c_ _ w_ h_ => HPP.out c_ _ _ _ w_ h_) (Or.inr ⟨by kernel_rfl, rfl⟩) ?_ ?_
      rotate_left
      · simp only [Act.put, List.setIfInBounds_toArray, List.set_cons_zero, List.set_cons_succ]
        rfl
      refine pure_ (i := 11) (N := (some 160)) (v := undef) (a' := ?_) #[true, true, true, true, true, true, true, true, true, true, true, true, false, false, false, false] rfl rfl (by kernel_rfl) (fun c_ _ w_ h_ => HPP.out c_ _ _ _ w_ h_) (Or.inr ⟨by kernel_rfl, rfl⟩) ?_ ?_
      rotate_left
      · simp only [Act.put, List.setIfInBounds_toArray, List.set_cons_zero, List.set_cons_succ]
        rfl
      refine pure_ (i := 12) (N := (some 161)) (v := undef) (a' := ?_) #[true, true, true, true, true, true, true, true, true, true, true, true, true, false, false, false] rfl rfl (by kernel_rfl) (fun c_ _ w_ h_ => HPP.out c_ _ _ _ w_ h_) (Or.inr ⟨by kernel_rfl, rfl⟩) ?_ ?_
      rotate_left
      · simp only [Act.put, List.setIfInBounds_toArray, List.set_cons_zero, List.set_cons_succ]
        rfl
      refine pure_ (i := 13) (N := (some 162)) (v := undef) (a' := ?_) #[true, true, true, true, true, true, true, true, true, true, true, true, true, true, false, false] rfl rfl (by kernel_rfl) (fun c_ _ w_ h_ => HPP.out c_ _ _ _ w_ h_) (Or.inr ⟨by kernel_rfl, rfl⟩) ?_ ?_
      rotate_left
      · simp only [Act.put, List.setIfInBounds_toArray, List.set_cons_zero, List.set_cons_succ]
        rfl
      refine pure_ (i := 14) (N := (some 163)) (v := undef) (a' := ?_) #[true, true, true, true, true, true, true, true, true, true, true, true, true, true, true, false] rfl rfl (by kernel_rfl) (fun c_ _ w_ h_ => HPP.out c_ _ _ _ w_ h_) (Or.inr ⟨by kernel_rfl, rfl⟩) ?_ ?_
      rotate_left
      · simp only [Act.put, List.setIfInBounds_toArray, List.set_cons_zero, List.set_cons_succ]
        rfl
      refine pure_ (i := 15) (N := (some 164)) (v := ?_) (a' := ?_) #[true, true, true, true, true, true, true, true, true, true, true, true, true, true, true, true] rfl rfl (by kernel_rfl) (fun c_ _ w_ h_ => HPP.out c_ _ _ _ w_ h_) (Or.inl ⟨by kernel_rfl, ?_⟩) ?_ ?_
      rotate_left
      · intro w_
        go_simp
        with_reducible rfl
      rotate_left
      · simp only [Act.put, List.setIfInBounds_toArray, List.set_cons_zero, List.set_cons_succ]
        rfl
      refine done_ (by kernel_rfl) ?_
      rw [if_neg (by decide)] at hR2
      have hk2' : KeepBut wi w2 g none := (keep_drewN (KeepBut.refl wi g none) 1).trans hk2 (.inl rfl)
      have hbn2 := hk2'.blk HBN.out hgg (by simp)
      have hbr2 := hk2'.blk HBR.out hrg (by simp)
      have n0 := blk_cell hbn2 0
      have r0 := blk_cell hbr2 0
      have q0 := blk_frozen hbr2 0
      have n1 := blk_cell hbn2 1
      have r1 := blk_cell hbr2 1
      have q1 := blk_frozen hbr2 1
      have n2 := blk_cell hbn2 2
      have r2 := blk_cell hbr2 2
      have q2 := blk_frozen hbr2 2
      have cB := hR2.cell2
      have fB := hR2.frozen 2
      clear hbn2 hbr2
      go_wp2_with fail
      refine HEND.out _ _ true j ?_ ?_ (hk2'.set_ 2 _) (hR2.mark true) (by simp only [Bool.false_eq_true, if_false, HEV.out])
      · rfl
      · rfl
    | true =>
      have HEAT := Aside0.mk hq
      have hj2 : j + 2 ≤ s.size := by
        have h1 := hasP_le hq
        have h2 : (⟨#[60, 47]⟩ : ByteArray).size = 2 := rfl
        omega
      have hRd := hRb
      obtain ⟨nn, hnn⟩ : ∃ nn, nn = (rnameV s (j + 2)).1 := ⟨_, rfl⟩
      have hnle := rname_le s hj2
      by_cases he : nn = nm
      · obtain rfl := he.symm
        have hx := (rname_eq hnmv hj2).1 hnn.symm
        have hps := rname_pos hnmv hx
        have HNAME : Aside0 (rnameV s (j + 2) = (nm, skip innerV s (j + 2))) := ⟨Prod.ext hnn.symm hps⟩
        rw [hps] at hnle
        obtain ⟨k, hk⟩ : ∃ k, k = skip whiteV s (skip innerV s (j + 2)) := ⟨_, rfl⟩
        have hks : k ≤ s.size := by rw [hk]; exact (skip_le whiteV s _ hnle).2
        have HEV : Aside0 (endV s nm t l j = if hasP s k ⟨#[62]⟩ = true then some (⟨nm, t, l⟩, k + 1) else none) := ⟨by unfold endV; rw [if_pos hq, if_pos hx, hk]⟩
        have HK9 := Aside0.mk hk
        clear hq hnn hx hps hk
        go_upto_region 12 with (fail)
        refine start_ (n := 16) (S := fun W => W.heap[gn]? = some (.cells #[.string nm, .string t, .slice A l.length c] 42 (0, 0)) ∧ W.cell? ⟨g, 2, none⟩ = some (.bool false)) (ds := []) #[false, false, false, false, false, false, false, false, false, false, false, false, false, false, false, false] (by kernel_rfl) rfl rfl ⟨hbn, hRb.cell2⟩ (fun hHeld => ?_)
        refine pure_ (i := 0) (N := (some 149)) (v := ?_) (a' := ?_) #[true, false, false, false, false, false, false, false, false, false, false, false, false, false, false, false] rfl rfl (by kernel_rfl) (fun c_ _ w_ h_ => HPP.out c_ _ _ _ w_ h_) (Or.inl ⟨by kernel_rfl, ?_⟩) ?_ ?_
        rotate_left
        · intro w_
          go_simp
          with_reducible rfl
        rotate_left
        · simp only [Act.put, List.setIfInBounds_toArray, List.set_cons_zero, List.set_cons_succ]
          rfl
        refine pure_ (i := 1) (N := (some 150)) (v := ?_) (a' := ?_) #[true, true, false, false, false, false, false, false, false, false, false, false, false, false, false, false] rfl rfl (by kernel_rfl) (fun c_ _ w_ h_ => HPP.out c_ _ _ _ w_ h_) (Or.inl ⟨by kernel_rfl, ?_⟩) ?_ ?_
        rotate_left
        · intro w_
          go_simp
          with_reducible rfl
        rotate_left
        · simp only [Act.put, List.setIfInBounds_toArray, List.set_cons_zero, List.set_cons_succ]
          rfl
        refine pure_ (i := 2) (N := (some 151)) (v := ?_) (a' := ?_) #[true, true, true, false, false, false, false, false, false, false, false, false, false, false, false, false] rfl rfl (by kernel_rfl) (fun c_ _ w_ h_ => HPP.out c_ _ _ _ w_ h_) (Or.inl ⟨by kernel_rfl, ?_⟩) ?_ ?_
        rotate_left
        · intro w_
          go_simp
          with_reducible rfl
        rotate_left
        · simp only [Act.put, List.setIfInBounds_toArray, List.set_cons_zero, List.set_cons_succ]
          rfl
        refine take_ (i := 3) (N := some 152) (v := ?_) (a' := ?_) #[true, true, true, true, false, false, false, false, false, false, false, false, false, false, false, false] rfl rfl (by kernel_rfl) (fun c_ _ w_ h_ => HPP.out c_ _ _ _ w_ h_) (Or.inl ⟨by kernel_rfl, ?_⟩) hHeld ?_ ?_
        rotate_left
        · rintro w_ ⟨sA, sB⟩
          go_simp
          with_reducible rfl
        rotate_left
        · simp only [Act.put, List.setIfInBounds_toArray, List.set_cons_zero, List.set_cons_succ]
          rfl
        refine pure_ (i := 4) (N := (some 153)) (v := ?_) (a' := ?_) #[true, true, true, true, true, false, false, false, false, false, false, false, false, false, false, false] rfl rfl (by kernel_rfl) (fun c_ _ w_ h_ => HPP.out c_ _ _ _ w_ h_) (Or.inl ⟨by kernel_rfl, ?_⟩) ?_ ?_
        rotate_left
        · intro w_
          go_simp
          with_reducible rfl
        rotate_left
        · simp only [Act.put, List.setIfInBounds_toArray, List.set_cons_zero, List.set_cons_succ]
          rfl
        refine pure_ (i := 5) (N := (some 154)) (v := ?_) (a' := ?_) #[true, true, true, true, true, true, false, false, false, false, false, false, false, false, false, false] rfl rfl (by kernel_rfl) (fun c_ _ w_ h_ => HPP.out c_ _ _ _ w_ h_) (Or.inl ⟨by kernel_rfl, ?_⟩) ?_ ?_
        rotate_left
        · intro w_
          go_simp
          with_reducible rfl
        rotate_left
        · simp only [Act.put, List.setIfInBounds_toArray, List.set_cons_zero, List.set_cons_succ]
          rfl
        refine one_ (i := 6) (N := some 155) #[true, true, true, true, true, true, true, false, false, false, false, false, false, false, false, false] rfl rfl (by kernel_rfl) (by decide) (fun K hK => ?_)
        refine goes_ Tryd.func99 (by kernel_rfl) rfl #[.pointer (some ⟨g, 0, none⟩), .string ⟨#[60, 47]⟩] (by kernel_rfl) rfl rfl (by kernel_rfl) ?_
        refine (reat_calls hRd hjs ⟨#[60, 47]⟩ (by decide)).mono ?_
        rintro e w2 ⟨rfl, hR2, hk2⟩
        rw [HEAT.out] at hR2 ⊢
        refine ⟨_, rfl, ?_⟩
        refine hK.out _ _ ⟨hk2.blk hHeld.1 hgg (by simp), hR2.cell2⟩ (fun hHeld => ?_)
        clear hK K
        refine norm_ (a' := ?_) ?_ ?_
        rotate_left
        · show Act.put _ (some 155) _ = _
          simp only [Act.put, List.setIfInBounds_toArray, List.set_cons_zero, List.set_cons_succ]
          rfl
        rw [if_pos rfl] at hR2
        change RdF w0 w2 g s (j + 2) false at hR2
        refine pure_ (i := 7) (N := (some 156)) (v := ?_) (a' := ?_) #[true, true, true, true, true, true, true, true, false, false, false, false, false, false, false, false] rfl rfl (by kernel_rfl) (fun c_ _ w_ h_ => HPP.out c_ _ _ _ w_ h_) (Or.inl ⟨by kernel_rfl, ?_⟩) ?_ ?_
        rotate_left
        · intro w_
          go_simp
          with_reducible rfl
        rotate_left
        · simp only [Act.put, List.setIfInBounds_toArray, List.set_cons_zero, List.set_cons_succ]
          rfl
        refine pure_ (i := 8) (N := (some 157)) (v := ?_) (a' := ?_) #[true, true, true, true, true, true, true, true, true, false, false, false, false, false, false, false] rfl rfl (by kernel_rfl) (fun c_ _ w_ h_ => HPP.out c_ _ _ _ w_ h_) (Or.inl ⟨by kernel_rfl, ?_⟩) ?_ ?_
        rotate_left
        · intro w_
          go_simp
          with_reducible rfl
        rotate_left
        · simp only [Act.put, List.setIfInBounds_toArray, List.set_cons_zero, List.set_cons_succ]
          rfl
        refine pure_ (i := 9) (N := (some 158)) (v := ?_) (a' := ?_) #[true, true, true, true, true, true, true, true, true, true, false, false, false, false, false, false] rfl rfl (by kernel_rfl) (fun c_ _ w_ h_ => HPP.out c_ _ _ _ w_ h_) (Or.inl ⟨by kernel_rfl, ?_⟩) ?_ ?_
        rotate_left
        · intro w_
          go_simp
          with_reducible rfl
        rotate_left
        · simp only [Act.put, List.setIfInBounds_toArray, List.set_cons_zero, List.set_cons_succ]
          rfl
        refine pure_ (i := 10) (N := (some 159)) (v := ?_) (a' := ?_) #[true, true, true, true, true, true, true, true, true, true, true, false, false, false, false, false] rfl rfl (by kernel_rfl) (fun c_ _ w_ h_ => HPP.out c_ _ _ _ w_ h_) (Or.inl ⟨by kernel_rfl, ?_⟩) ?_ ?_
        rotate_left
        · intro w_
          go_simp
          with_reducible rfl
        rotate_left
        · simp only [Act.put, List.setIfInBounds_toArray, List.set_cons_zero, List.set_cons_succ]
          rfl
        refine pure_ (i := 12) (N := (some 161)) (v := ?_) (a' := ?_) #[true, true, true, true, true, true, true, true, true, true, true, false, true, false, false, false] rfl rfl (by kernel_rfl) (fun c_ _ w_ h_ => HPP.out c_ _ _ _ w_ h_) (Or.inl ⟨by kernel_rfl, ?_⟩) ?_ ?_
        rotate_left
        · intro w_
          go_simp
          with_reducible rfl
        rotate_left
        · simp only [Act.put, List.setIfInBounds_toArray, List.set_cons_zero, List.set_cons_succ]
          rfl
        refine take_ (i := 13) (N := some 162) (v := ?_) (a' := ?_) #[true, true, true, true, true, true, true, true, true, true, true, false, true, true, false, false] rfl rfl (by kernel_rfl) (fun c_ _ w_ h_ => HPP.out c_ _ _ _ w_ h_) (Or.inl ⟨by kernel_rfl, ?_⟩) hHeld ?_ ?_
        rotate_left
        · rintro w_ ⟨sA, sB⟩
          have s0 := blk_cell sA 0
          go_simp
          with_reducible rfl
        rotate_left
        · simp only [Act.put, List.setIfInBounds_toArray, List.set_cons_zero, List.set_cons_succ]
          rfl
        refine one_ (i := 11) (N := some 160) #[true, true, true, true, true, true, true, true, true, true, true, true, true, true, false, false] rfl rfl (by kernel_rfl) (by decide) (fun K hK => ?_)
        refine goes_ Tryd.func100 (by kernel_rfl) rfl #[.pointer (some ⟨g, 0, none⟩)] (by kernel_rfl) rfl rfl (by kernel_rfl) ?_
        refine (rname_calls hR2 hj2).mono ?_
        rintro e w3 ⟨rfl, hR3, hk3⟩
        rw [HNAME.out] at hR3 ⊢
        refine ⟨_, rfl, ?_⟩
        refine hK.out _ _ ⟨hk3.blk hHeld.1 hgg (by simp), hR3.cell2⟩ (fun hHeld => ?_)
        clear hK K
        refine norm_ (a' := ?_) ?_ ?_
        rotate_left
        · show Act.put _ (some 160) _ = _
          simp only [Act.put, List.setIfInBounds_toArray, List.set_cons_zero, List.set_cons_succ]
          rfl
        refine pure_ (i := 14) (N := (some 163)) (v := ?_) (a' := ?_) #[true, true, true, true, true, true, true, true, true, true, true, true, true, true, true, false] rfl rfl (by kernel_rfl) (fun c_ _ w_ h_ => HPP.out c_ _ _ _ w_ h_) (Or.inl ⟨by kernel_rfl, ?_⟩) ?_ ?_
        rotate_left
        · intro w_
          go_simp
          with_reducible rfl
        rotate_left
        · simp only [Act.put, List.setIfInBounds_toArray, List.set_cons_zero, List.set_cons_succ]
          rfl
        refine pure_ (i := 15) (N := (some 164)) (v := ?_) (a' := ?_) #[true, true, true, true, true, true, true, true, true, true, true, true, true, true, true, true] rfl rfl (by kernel_rfl) (fun c_ _ w_ h_ => HPP.out c_ _ _ _ w_ h_) (Or.inl ⟨by kernel_rfl, ?_⟩) ?_ ?_
        rotate_left
        · intro w_
          go_simp
          with_reducible rfl
        rotate_left
        · simp only [Act.put, List.setIfInBounds_toArray, List.set_cons_zero, List.set_cons_succ]
          rfl
        refine done_ (by kernel_rfl) ?_
        have hk2' : KeepBut wi w2 g none := (keep_drewN (KeepBut.refl wi g none) 1).trans hk2 (.inl rfl)
        have hk3' : KeepBut wi w3 g none := hk2'.trans hk3 (.inl rfl)
        go_wp2_with fail
        refine (rskip_calls hR3).mono ?_
        rintro e w4 ⟨rfl, hR4, hk4⟩
        rw [← HK9.out] at hR4
        have hk4' : KeepBut wi w4 g none := hk3'.trans hk4 (.inl rfl)
        go_wp2_with fail
        refine (reat_calls hR4 hks ⟨#[62]⟩ (by decide)).mono ?_
        rintro e w5 ⟨rfl, hR5, hk5⟩
        have hk5' : KeepBut wi w5 g none := hk4'.trans hk5 (.inl rfl)
        cases hq5 : hasP s k ⟨#[62]⟩ with
        | true =>
          rw [hq5, if_pos rfl] at hR5
          change RdF w0 w5 g s (k + 1) false at hR5
          have hk1 : k + 1 ≤ s.size := by
            have h1 := hasP_le hq5
            have h2 : (⟨#[62]⟩ : ByteArray).size = 1 := rfl
            omega
          have HEV2 : Aside0 (endV s nm t l j = some (⟨nm, t, l⟩, k + 1)) := ⟨by rw [HEV.out, if_pos hq5]⟩
          have hbn2 := hk5'.blk HBN.out hgg (by simp)
          have hbr2 := hk5'.blk HBR.out hrg (by simp)
          have n0 := blk_cell hbn2 0
          have r0 := blk_cell hbr2 0
          have q0 := blk_frozen hbr2 0
          have n1 := blk_cell hbn2 1
          have r1 := blk_cell hbr2 1
          have q1 := blk_frozen hbr2 1
          have n2 := blk_cell hbn2 2
          have r2 := blk_cell hbr2 2
          have q2 := blk_frozen hbr2 2
          have cB := hR5.cell2
          have fB := hR5.frozen 2
          clear hbn2 hbr2
          go_wp2_with fail
          refine HEND.out _ _ false (k + 1) ?_ ?_ (hk5'.set_ 2 _) (hR5.mark false) (by simp only [Bool.false_eq_true, if_false, HEV2.out]; exact ⟨trivial, by rw [toR_mk], trivial, hk1⟩)
          · rfl
          · rfl
        | false =>
          rw [hq5, if_neg (by decide)] at hR5
          have HEV2 : Aside0 (endV s nm t l j = none) := ⟨by rw [HEV.out, if_neg (by rw [hq5]; decide)]⟩
          have hbn2 := hk5'.blk HBN.out hgg (by simp)
          have hbr2 := hk5'.blk HBR.out hrg (by simp)
          have n0 := blk_cell hbn2 0
          have r0 := blk_cell hbr2 0
          have q0 := blk_frozen hbr2 0
          have n1 := blk_cell hbn2 1
          have r1 := blk_cell hbr2 1
          have q1 := blk_frozen hbr2 1
          have n2 := blk_cell hbn2 2
          have r2 := blk_cell hbr2 2
          have q2 := blk_frozen hbr2 2
          have cB := hR5.cell2
          have fB := hR5.frozen 2
          clear hbn2 hbr2
          go_wp2_with fail
          refine HEND.out _ _ true k ?_ ?_ (hk5'.set_ 2 _) (hR5.mark true) (by simp only [Bool.false_eq_true, if_false, HEV2.out])
          · rfl
          · rfl
      · have HNE := Aside0.mk he
        have HNAME : Aside0 (rnameV s (j + 2) = (nn, (rnameV s (j + 2)).2)) := ⟨Prod.ext hnn.symm rfl⟩
        have HEV : Aside0 (endV s nm t l j = none) := ⟨by
          unfold endV
          rw [if_pos hq, if_neg]
          intro hx
          exact he (hnn.trans ((rname_eq hnmv hj2).2 hx))⟩
        have hbx : (nn.toList == nm.toList) = false := by rw [beq_eq_false_iff_ne]; exact fun h_ => he (ba_inj h_)
        clear hq hnn
        go_upto_region 12 with (fail)
        refine start_ (n := 16) (S := fun W => W.heap[gn]? = some (.cells #[.string nm, .string t, .slice A l.length c] 42 (0, 0)) ∧ W.cell? ⟨g, 2, none⟩ = some (.bool false)) (ds := []) #[false, false, false, false, false, false, false, false, false, false, false, false, false, false, false, false] (by kernel_rfl) rfl rfl ⟨hbn, hRb.cell2⟩ (fun hHeld => ?_)
        refine pure_ (i := 0) (N := (some 149)) (v := ?_) (a' := ?_) #[true, false, false, false, false, false, false, false, false, false, false, false, false, false, false, false] rfl rfl (by kernel_rfl) (fun c_ _ w_ h_ => HPP.out c_ _ _ _ w_ h_) (Or.inl ⟨by kernel_rfl, ?_⟩) ?_ ?_
        rotate_left
        · intro w_
          go_simp
          with_reducible rfl
        rotate_left
        · simp only [Act.put, List.setIfInBounds_toArray, List.set_cons_zero, List.set_cons_succ]
          rfl
        refine pure_ (i := 1) (N := (some 150)) (v := ?_) (a' := ?_) #[true, true, false, false, false, false, false, false, false, false, false, false, false, false, false, false] rfl rfl (by kernel_rfl) (fun c_ _ w_ h_ => HPP.out c_ _ _ _ w_ h_) (Or.inl ⟨by kernel_rfl, ?_⟩) ?_ ?_
        rotate_left
        · intro w_
          go_simp
          with_reducible rfl
        rotate_left
        · simp only [Act.put, List.setIfInBounds_toArray, List.set_cons_zero, List.set_cons_succ]
          rfl
        refine pure_ (i := 2) (N := (some 151)) (v := ?_) (a' := ?_) #[true, true, true, false, false, false, false, false, false, false, false, false, false, false, false, false] rfl rfl (by kernel_rfl) (fun c_ _ w_ h_ => HPP.out c_ _ _ _ w_ h_) (Or.inl ⟨by kernel_rfl, ?_⟩) ?_ ?_
        rotate_left
        · intro w_
          go_simp
          with_reducible rfl
        rotate_left
        · simp only [Act.put, List.setIfInBounds_toArray, List.set_cons_zero, List.set_cons_succ]
          rfl
        refine take_ (i := 3) (N := some 152) (v := ?_) (a' := ?_) #[true, true, true, true, false, false, false, false, false, false, false, false, false, false, false, false] rfl rfl (by kernel_rfl) (fun c_ _ w_ h_ => HPP.out c_ _ _ _ w_ h_) (Or.inl ⟨by kernel_rfl, ?_⟩) hHeld ?_ ?_
        rotate_left
        · rintro w_ ⟨sA, sB⟩
          go_simp
          with_reducible rfl
        rotate_left
        · simp only [Act.put, List.setIfInBounds_toArray, List.set_cons_zero, List.set_cons_succ]
          rfl
        refine pure_ (i := 4) (N := (some 153)) (v := ?_) (a' := ?_) #[true, true, true, true, true, false, false, false, false, false, false, false, false, false, false, false] rfl rfl (by kernel_rfl) (fun c_ _ w_ h_ => HPP.out c_ _ _ _ w_ h_) (Or.inl ⟨by kernel_rfl, ?_⟩) ?_ ?_
        rotate_left
        · intro w_
          go_simp
          with_reducible rfl
        rotate_left
        · simp only [Act.put, List.setIfInBounds_toArray, List.set_cons_zero, List.set_cons_succ]
          rfl
        refine pure_ (i := 5) (N := (some 154)) (v := ?_) (a' := ?_) #[true, true, true, true, true, true, false, false, false, false, false, false, false, false, false, false] rfl rfl (by kernel_rfl) (fun c_ _ w_ h_ => HPP.out c_ _ _ _ w_ h_) (Or.inl ⟨by kernel_rfl, ?_⟩) ?_ ?_
        rotate_left
        · intro w_
          go_simp
          with_reducible rfl
        rotate_left
        · simp only [Act.put, List.setIfInBounds_toArray, List.set_cons_zero, List.set_cons_succ]
          rfl
        refine one_ (i := 6) (N := some 155) #[true, true, true, true, true, true, true, false, false, false, false, false, false, false, false, false] rfl rfl (by kernel_rfl) (by decide) (fun K hK => ?_)
        refine goes_ Tryd.func99 (by kernel_rfl) rfl #[.pointer (some ⟨g, 0, none⟩), .string ⟨#[60, 47]⟩] (by kernel_rfl) rfl rfl (by kernel_rfl) ?_
        refine (reat_calls hRd hjs ⟨#[60, 47]⟩ (by decide)).mono ?_
        rintro e w2 ⟨rfl, hR2, hk2⟩
        rw [HEAT.out] at hR2 ⊢
        refine ⟨_, rfl, ?_⟩
        refine hK.out _ _ ⟨hk2.blk hHeld.1 hgg (by simp), hR2.cell2⟩ (fun hHeld => ?_)
        clear hK K
        refine norm_ (a' := ?_) ?_ ?_
        rotate_left
        · show Act.put _ (some 155) _ = _
          simp only [Act.put, List.setIfInBounds_toArray, List.set_cons_zero, List.set_cons_succ]
          rfl
        rw [if_pos rfl] at hR2
        change RdF w0 w2 g s (j + 2) false at hR2
        refine pure_ (i := 7) (N := (some 156)) (v := ?_) (a' := ?_) #[true, true, true, true, true, true, true, true, false, false, false, false, false, false, false, false] rfl rfl (by kernel_rfl) (fun c_ _ w_ h_ => HPP.out c_ _ _ _ w_ h_) (Or.inl ⟨by kernel_rfl, ?_⟩) ?_ ?_
        rotate_left
        · intro w_
          go_simp
          with_reducible rfl
        rotate_left
        · simp only [Act.put, List.setIfInBounds_toArray, List.set_cons_zero, List.set_cons_succ]
          rfl
        refine pure_ (i := 8) (N := (some 157)) (v := ?_) (a' := ?_) #[true, true, true, true, true, true, true, true, true, false, false, false, false, false, false, false] rfl rfl (by kernel_rfl) (fun c_ _ w_ h_ => HPP.out c_ _ _ _ w_ h_) (Or.inl ⟨by kernel_rfl, ?_⟩) ?_ ?_
        rotate_left
        · intro w_
          go_simp
          with_reducible rfl
        rotate_left
        · simp only [Act.put, List.setIfInBounds_toArray, List.set_cons_zero, List.set_cons_succ]
          rfl
        refine pure_ (i := 9) (N := (some 158)) (v := ?_) (a' := ?_) #[true, true, true, true, true, true, true, true, true, true, false, false, false, false, false, false] rfl rfl (by kernel_rfl) (fun c_ _ w_ h_ => HPP.out c_ _ _ _ w_ h_) (Or.inl ⟨by kernel_rfl, ?_⟩) ?_ ?_
        rotate_left
        · intro w_
          go_simp
          with_reducible rfl
        rotate_left
        · simp only [Act.put, List.setIfInBounds_toArray, List.set_cons_zero, List.set_cons_succ]
          rfl
        refine pure_ (i := 10) (N := (some 159)) (v := ?_) (a' := ?_) #[true, true, true, true, true, true, true, true, true, true, true, false, false, false, false, false] rfl rfl (by kernel_rfl) (fun c_ _ w_ h_ => HPP.out c_ _ _ _ w_ h_) (Or.inl ⟨by kernel_rfl, ?_⟩) ?_ ?_
        rotate_left
        · intro w_
          go_simp
          with_reducible rfl
        rotate_left
        · simp only [Act.put, List.setIfInBounds_toArray, List.set_cons_zero, List.set_cons_succ]
          rfl
        refine pure_ (i := 12) (N := (some 161)) (v := ?_) (a' := ?_) #[true, true, true, true, true, true, true, true, true, true, true, false, true, false, false, false] rfl rfl (by kernel_rfl) (fun c_ _ w_ h_ => HPP.out c_ _ _ _ w_ h_) (Or.inl ⟨by kernel_rfl, ?_⟩) ?_ ?_
        rotate_left
        · intro w_
          go_simp
          with_reducible rfl
        rotate_left
        · simp only [Act.put, List.setIfInBounds_toArray, List.set_cons_zero, List.set_cons_succ]
          rfl
        refine take_ (i := 13) (N := some 162) (v := ?_) (a' := ?_) #[true, true, true, true, true, true, true, true, true, true, true, false, true, true, false, false] rfl rfl (by kernel_rfl) (fun c_ _ w_ h_ => HPP.out c_ _ _ _ w_ h_) (Or.inl ⟨by kernel_rfl, ?_⟩) hHeld ?_ ?_
        rotate_left
        · rintro w_ ⟨sA, sB⟩
          have s0 := blk_cell sA 0
          go_simp
          with_reducible rfl
        rotate_left
        · simp only [Act.put, List.setIfInBounds_toArray, List.set_cons_zero, List.set_cons_succ]
          rfl
        refine one_ (i := 11) (N := some 160) #[true, true, true, true, true, true, true, true, true, true, true, true, true, true, false, false] rfl rfl (by kernel_rfl) (by decide) (fun K hK => ?_)
        refine goes_ Tryd.func100 (by kernel_rfl) rfl #[.pointer (some ⟨g, 0, none⟩)] (by kernel_rfl) rfl rfl (by kernel_rfl) ?_
        refine (rname_calls hR2 hj2).mono ?_
        rintro e w3 ⟨rfl, hR3, hk3⟩
        rw [HNAME.out] at hR3 ⊢
        refine ⟨_, rfl, ?_⟩
        refine hK.out _ _ ⟨hk3.blk hHeld.1 hgg (by simp), hR3.cell2⟩ (fun hHeld => ?_)
        clear hK K
        refine norm_ (a' := ?_) ?_ ?_
        rotate_left
        · show Act.put _ (some 160) _ = _
          simp only [Act.put, List.setIfInBounds_toArray, List.set_cons_zero, List.set_cons_succ]
          rfl
        refine pure_ (i := 14) (N := (some 163)) (v := ?_) (a' := ?_) #[true, true, true, true, true, true, true, true, true, true, true, true, true, true, true, false] rfl rfl (by kernel_rfl) (fun c_ _ w_ h_ => HPP.out c_ _ _ _ w_ h_) (Or.inl ⟨by kernel_rfl, ?_⟩) ?_ ?_
        rotate_left
        · intro w_
          go_simp
          with_reducible rfl
        rotate_left
        · simp only [Act.put, List.setIfInBounds_toArray, List.set_cons_zero, List.set_cons_succ]
          rfl
        refine pure_ (i := 15) (N := (some 164)) (v := ?_) (a' := ?_) #[true, true, true, true, true, true, true, true, true, true, true, true, true, true, true, true] rfl rfl (by kernel_rfl) (fun c_ _ w_ h_ => HPP.out c_ _ _ _ w_ h_) (Or.inl ⟨by kernel_rfl, ?_⟩) ?_ ?_
        rotate_left
        · intro w_
          go_simp
          with_reducible rfl
        rotate_left
        · simp only [Act.put, List.setIfInBounds_toArray, List.set_cons_zero, List.set_cons_succ]
          rfl
        refine done_ (by kernel_rfl) ?_
        have hk2' : KeepBut wi w2 g none := (keep_drewN (KeepBut.refl wi g none) 1).trans hk2 (.inl rfl)
        have hk3' : KeepBut wi w3 g none := hk2'.trans hk3 (.inl rfl)
        have hbn2 := hk3'.blk HBN.out hgg (by simp)
        have hbr2 := hk3'.blk HBR.out hrg (by simp)
        have n0 := blk_cell hbn2 0
        have r0 := blk_cell hbr2 0
        have q0 := blk_frozen hbr2 0
        have n1 := blk_cell hbn2 1
        have r1 := blk_cell hbr2 1
        have q1 := blk_frozen hbr2 1
        have n2 := blk_cell hbn2 2
        have r2 := blk_cell hbr2 2
        have q2 := blk_frozen hbr2 2
        have cB := hR3.cell2
        have fB := hR3.frozen 2
        clear hbn2 hbr2
        go_wp2_with fail
        refine HEND.out _ _ true _ ?_ ?_ (hk3'.set_ 2 _) (hR3.mark true) (by simp only [Bool.false_eq_true, if_false, HEV.out])
        · rfl
        · rfl
mutual
def ofR : S42 → S36
  | ⟨a, t, l⟩ => ⟨a, t, ofRs l⟩
def ofRs : List S42 → List S36
  | [] => []
  | n :: l => ofR n :: ofRs l
end
mutual
theorem toR_of : ∀ x : S42, toR (ofR x) = x
  | ⟨a, t, l⟩ => by rw [ofR, toR, toRs_of l]
theorem toRs_of : ∀ l : List S42, toRs (ofRs l) = l
  | [] => by rw [ofRs, toRs]
  | n :: l => by rw [ofRs, toRs, toR_of n, toRs_of l]
end
theorem toR_surj (x : S42) : ∃ n, toR n = x := ⟨ofR x, toR_of x⟩
theorem info42c : (Tryd.prog.info? 42).map (fun i => (i.zero, i.size, i.bytes)) = some (some (.agg #[.string ⟨#[]⟩, .string ⟨#[]⟩, .slice none 0 0]), 3, 56) := by kernel_rfl
theorem N_shape42 {w : World} {e base : Nat} {ok : Nat → Prop} {v : Value} {l : List S42} (h : Kd.N k42 e w base ok v l) (hl0 : 0 < l.length) : ∃ g' c', v = .slice (some ⟨g', 0, none⟩) l.length c' := by
  obtain ⟨_, rows, hl, ⟨_, inner, ho, hr⟩, _⟩ := h
  rcases ho.2 with ⟨hv, h0⟩ | ⟨g2, cap', cur, hv, _⟩
  · simp_all
  · exact ⟨g2, cap', by rw [hv, hl]⟩
structure RKidsAt (w wr : World) (gn : Nat) (nm : ByteArray) (l : List S36) (A : Option Addr) (c : Nat) : Prop where
  blk : wr.heap[gn]? = some (.cells #[.string nm, .string ⟨#[]⟩, .slice A l.length c] 42 (0, 0))
  row : Kd.N k42 42 wr w.heap.size (fun k => w.heap.size ≤ k) (.slice A l.length c) (toRs l)
theorem RKidsAt.f {w wr : World} {gn : Nat} {nm : ByteArray} {l : List S36} {A : Option Addr} {c : Nat} (h : RKidsAt w wr gn nm l A c) : Kd.F k42 wr (fun k => w.heap.size ≤ k) A l.length (toRs l) := by
  have h1 := Kd.N_F h.row
  exact h1
theorem RKidsAt.le {w wr : World} {gn : Nat} {nm : ByteArray} {l : List S36} {A : Option Addr} {c : Nat} (h : RKidsAt w wr gn nm l A c) : l.length ≤ c := (Kd.N_reads' h.row).2.1
theorem RKidsAt.drewN {w wr : World} {gn : Nat} {nm : ByteArray} {l : List S36} {A : Option Addr} {c : Nat} (h : RKidsAt w wr gn nm l A c) (n : Nat) : RKidsAt w (wr.drewN n) gn nm l A c := ⟨blk_drewN h.blk n, Kd.N_drewN h.row n⟩
theorem RKidsAt.keep {w wr w' : World} {g gn : Nat} {nm : ByteArray} {l : List S36} {A : Option Addr} {c : Nat} (h : RKidsAt w wr gn nm l A c) (hk : KeepBut wr w' g none) (hg : g < w.heap.size) (hgn : gn ≠ g) : RKidsAt w w' gn nm l A c :=
  ⟨hk.blk h.blk hgn (by simp), Kd.N_keep h.row hk (fun k hk_ e_ => by have := hk_; omega)⟩
set_option maxHeartbeats 4000000 in
set_option maxRecDepth 1000000 in
theorem rcont_r5 {Q : Exit → Act → World → Prop} {w0 w wr : World} {g gn gr d i j c : Nat} {s nm : ByteArray} {l : List S36} {A : Option Addr} {a' : Act} (hp : ∀ c (N : Option Tmp) v a w, Q (.panic c) (a.put N v) w → Q (.panic c) a w) (he : RElemOk s d) (hd16 : d ≤ 16) (hF : RCoFr g gn gr d i a')
    (hR : RdF w0 wr g s j false) (hjs : j ≤ s.size) (hK : KeepBut w wr g (some gn)) (hA : RKidsAt w wr gn nm l A c) (h0 : 0 < w0.heap.size) (hgn : gn < w.heap.size) (hgg : gn ≠ g) (hglt : g < w.heap.size) (hgw0 : w0.heap.size ≤ gn) (hlen : l.length ≤ 1073741824)
    (hQ : ∀ (a' : Act) (w' : World) (A' : Option Addr) (c' : Nat) (n : S36) (b : Bool) (j' : Nat), RCoFr g gn gr d i a' → RdF w0 w' g s j' b → KeepBut w w' g (some gn) → RKidsAt w w' gn nm (l ++ [n]) A' c' → (match elemV s d j with | some (n', m) => b = false ∧ toR n = toR n' ∧ j' = m ∧ m ≤ s.size | none => b = true) → Q .normal a' w') :
    (codeIn Tryd.f102 [1, 1, 1, 0, 1, 0, 0, 0, 1, 0, 0]).wp Tryd.prog Q a' wr := by
  have HPP := Aside0.mk hp
  have HE := Aside0.mk he
  have hwd : IntKind.i64.wrap (16 - (d : Int) + 1) = 16 - (d : Int) + 1 := by simp [IntKind.wrap_i64]; omega
  have hu42 := Tryd.underlying42
  obtain ⟨w5, hw5⟩ : ∃ w5, w5 = wr := ⟨_, rfl⟩
  subst hw5
  have hR5 : RdF w0 w5.drew g s j false := hR.drewN 1
  have hA5 : RKidsAt w w5.drew gn nm l A c := hA.drewN 1
  have hK5 : KeepBut w w5.drew g (some gn) := keep_drewN hK 1
  have hv5 : ∀ k_, (Value.slice A l.length c).ownBlock = some k_ → k_ < w5.heap.size := Kd.N_lt hA.row
  have hww5 : w.heap.size ≤ w5.heap.size := hK.1
  obtain ⟨u, rfl⟩ := hF
  clear hp he hR hA hK
  simp only [codeIn, Tryd.f102, Option.getD_some, codeAt]
  refine start_ (n := 10) (S := fun W => W.heap[gn]? = some (.cells #[.string nm, .string ⟨#[]⟩, .slice A l.length c] 42 (0, 0))) (ds := [7, 9]) #[false, false, false, false, false, false, false, false, false, false] (by kernel_rfl) rfl rfl hA5.blk (fun hHeld => ?_)
  refine pure_ (i := 0) (N := (some 82)) (v := ?_) (a' := ?_) #[true, false, false, false, false, false, false, false, false, false] rfl rfl (by kernel_rfl) (fun c_ _ w_ h_ => HPP.out c_ _ _ _ w_ h_) (Or.inl ⟨by kernel_rfl, ?_⟩) ?_ ?_
  rotate_left
  · intro w_
    go_simp
    with_reducible rfl
  rotate_left
  · simp only [Act.put, List.setIfInBounds_toArray, List.set_cons_zero, List.set_cons_succ]
    rfl
  refine pure_ (i := 2) (N := (some 84)) (v := ?_) (a' := ?_) #[true, false, true, false, false, false, false, false, false, false] rfl rfl (by kernel_rfl) (fun c_ _ w_ h_ => HPP.out c_ _ _ _ w_ h_) (Or.inl ⟨by kernel_rfl, ?_⟩) ?_ ?_
  rotate_left
  · intro w_
    go_simp
    with_reducible rfl
  rotate_left
  · simp only [Act.put, List.setIfInBounds_toArray, List.set_cons_zero, List.set_cons_succ]
    rfl
  refine pure_ (i := 3) (N := (some 85)) (v := ?_) (a' := ?_) #[true, false, true, true, false, false, false, false, false, false] rfl rfl (by kernel_rfl) (fun c_ _ w_ h_ => HPP.out c_ _ _ _ w_ h_) (Or.inl ⟨by kernel_rfl, ?_⟩) ?_ ?_
  rotate_left
  · intro w_
    go_simp
    with_reducible rfl
  rotate_left
  · simp only [Act.put, List.setIfInBounds_toArray, List.set_cons_zero, List.set_cons_succ]
    rfl
  refine take_ (i := 1) (N := some 83) (v := ?_) (a' := ?_) #[true, true, true, true, false, false, false, false, false, false] rfl rfl (by kernel_rfl) (fun c_ _ w_ h_ => HPP.out c_ _ _ _ w_ h_) (Or.inl ⟨by kernel_rfl, ?_⟩) hHeld ?_ ?_
  rotate_left
  · rintro w_ sA
    have s0 := blk_cell sA 2
    go_simp
    with_reducible rfl
  rotate_left
  · simp only [Act.put, List.setIfInBounds_toArray, List.set_cons_zero, List.set_cons_succ]
    rfl
  refine pure_ (i := 4) (N := (some 86)) (v := ?_) (a' := ?_) #[true, true, true, true, true, false, false, false, false, false] rfl rfl (by kernel_rfl) (fun c_ _ w_ h_ => HPP.out c_ _ _ _ w_ h_) (Or.inl ⟨by kernel_rfl, ?_⟩) ?_ ?_
  rotate_left
  · intro w_
    go_simp
    with_reducible rfl
  rotate_left
  · simp only [Act.put, List.setIfInBounds_toArray, List.set_cons_zero, List.set_cons_succ]
    rfl
  refine one_ (i := 5) (N := some 87) #[true, true, true, true, true, true, false, false, false, false] rfl rfl (by kernel_rfl) (by decide) (fun K hK => ?_)
  refine goes_ Tryd.func53 (by kernel_rfl) rfl #[.pointer (some ⟨g, 0, none⟩), .int .i64 (16 - (d : Int) + 1)] (by kernel_rfl) rfl rfl (by kernel_rfl) ?_
  refine (HE.out w0 w5.drew g j hR5 hjs h0).mono ?_
  rintro e w6 ⟨x, A1, d1, b, j2, rfl, hle1, hF1, hR6, hk6, hpost⟩
  have hww6 : w5.heap.size ≤ w6.heap.size := hk6.1
  have hb6 : w6.heap[gn]? = some (.cells #[.string nm, .string ⟨#[]⟩, .slice A l.length c] 42 (0, 0)) := hk6.blk hHeld hgg (by simp)
  have hA6 : RKidsAt w w6 gn nm l A c := hA5.keep hk6 hglt hgg
  have hK6 : KeepBut w w6 g (some gn) := hK5.trans (keepWeak hk6 _) (.inl rfl)
  clear hHeld
  refine ⟨_, rfl, ?_⟩
  refine hK.out _ _ hb6 (fun hHeld => ?_)
  clear hK K
  refine norm_ (a' := ?_) ?_ ?_
  rotate_left
  · show Act.put _ (some 87) _ = _
    simp only [Act.put, List.setIfInBounds_toArray, List.set_cons_zero, List.set_cons_succ]
    rfl
  refine one_ (i := 6) (N := some 88) #[true, true, true, true, true, true, true, false, false, false] rfl rfl (by kernel_rfl) (by decide) (fun K hK => ?_)
  refine value_ (v := .slice (some ⟨w6.heap.size, 0, none⟩) 1 1) (w1 := w6.alloc (.cells [Value.string x.f0, .string x.f1, .slice A1 x.f2.length d1].toArray 42)) (by kernel_rfl) rfl (by go_simp) ?_
  refine hK.out _ _ (blk_alloc hHeld _) (fun hHeld2 => ?_)
  clear hK K
  refine norm_ (a' := ?_) ?_ ?_
  rotate_left
  · show Act.put _ (some 88) _ = _
    simp only [Act.put, List.setIfInBounds_toArray, List.set_cons_zero, List.set_cons_succ]
    rfl
  refine last_ (i := 7) (N := some 89) #[true, true, true, true, true, true, true, true, false, false] rfl rfl (by kernel_rfl) (by decide) (fun K hK => ?_)
  refine Kd.N_append_step k42 (w0 := w6) w.heap.size (by kernel_rfl) (.tmp 83) (.tmp 88) 40 42 _ 56 rfl Tryd.underlying40 info42c rfl (by decide) (by decide) (.slice A l.length c) (toRs l) x _ (fun k => w.heap.size ≤ k) (fun k => w5.heap.size ≤ k) rfl rfl ?z1 (fun k hk => ⟨by omega, fun he => by have := hv5 k he.symm; omega⟩) (fun k hk => by omega) hA6.row (Below.refl _ _) (by omega) (by rw [toRs_length]; omega) ?_
  case z1 => exact k42_mkF _ _ x hle1 hF1
  intro v1 w8 hN8 hB8 hG8 hat8
  refine hK.out _ _ ?_
  clear hK K
  obtain ⟨g', c', hv1⟩ := N_shape42 hN8 (by simp)
  rw [show (toRs l ++ [x]).length = l.length + 1 by simp [toRs_length]] at hv1
  subst hv1
  obtain ⟨n, hxn⟩ := toR_surj x
  have hb8 : w8.heap[gn]? = some (.cells #[.string nm, .string ⟨#[]⟩, .slice A l.length c] 42 (0, 0)) := blk_grown hb6 hG8 (fun he => by
    have := Kd.N_base hA6.row gn he.symm
    omega)
  have hR8 : RdF w0 w8 g s j2 b := hR6.upto hB8 hglt (by omega)
  have hK8 : KeepBut w w8 g (some gn) := ⟨Nat.le_trans hK6.1 hG8.size, fun i_ hi h1 h2 => (hB8.block i_ hi).trans (hK6.2 i_ hi h1 h2)⟩
  refine norm_ (a' := ?_) ?_ ?_
  rotate_left
  · show Act.put _ (some 89) _ = _
    simp only [Act.put, List.setIfInBounds_toArray, List.set_cons_zero, List.set_cons_succ]
    rfl
  refine pure_ (i := 8) (N := (some 90)) (v := ?_) (a' := ?_) #[true, true, true, true, true, true, true, true, true, false] rfl rfl (by kernel_rfl) (fun c_ _ w_ h_ => HPP.out c_ _ _ _ w_ h_) (Or.inl ⟨by kernel_rfl, ?_⟩) ?_ ?_
  rotate_left
  · intro w_
    go_simp
    with_reducible rfl
  rotate_left
  · simp only [Act.put, List.setIfInBounds_toArray, List.set_cons_zero, List.set_cons_succ]
    rfl
  refine last_ (i := 9) (N := none) #[true, true, true, true, true, true, true, true, true, true] rfl rfl (by kernel_rfl) (by decide) (fun K hK => ?_)
  refine skip_ (w1 := w8.setCell ⟨gn, 2, none⟩ (.slice (some ⟨g', 0, none⟩) (l.length + 1) c')) (by kernel_rfl) rfl (by have s0 := blk_cell hb8 2; have s1 := blk_frozen hb8 2; go_simp) ?_
  refine hK.out _ _ ?_
  refine done_ (by kernel_rfl) ?_
  refine hQ _ _ (some ⟨g', 0, none⟩) c' n b j2 RCoFr.mk (hR8.far (p := ⟨gn, 2, none⟩) hgg hgw0 _) ⟨by rw [World.size_setCell]; exact hK8.1, fun i hi h1 h2 => (Below.heap_setCell _ ⟨gn, 2, none⟩ _ i (fun he => h2 (by rw [he]))).trans (hK8.2 i hi h1 h2)⟩ ⟨?_, ?_⟩ ?_
  · rw [List.length_append]
    exact blk_put hb8 2 _ rfl
  · rw [List.length_append, toRs_append]
    show Kd.N k42 _ _ _ _ _ (toRs l ++ [toR n])
    rw [hxn]
    exact Kd.N_far (p := ⟨gn, 2, none⟩) hN8 (show ∀ k, w.heap.size ≤ k → k ≠ gn from fun k hk he => by omega) _
  · rw [hxn]
    exact hpost
mutual
theorem ofR_to : ∀ x : S36, ofR (toR x) = x
  | ⟨a, t, l⟩ => by rw [toR, ofR, ofRs_to l]
theorem ofRs_to : ∀ l : List S36, ofRs (toRs l) = l
  | [] => by rw [toRs, ofRs]
  | n :: l => by rw [toRs, ofRs, ofR_to n, ofRs_to l]
end
theorem toR_inj {x y : S36} (h : toR x = toR y) : x = y := by
  have h1 := congrArg ofR h
  rw [ofR_to, ofR_to] at h1
  exact h1
theorem rbegins_calls (s : ByteArray) (j : Nat) (t : ByteArray) (hj : j ≤ s.size) (w : World) : Calls Tryd.prog 80 #[.string (s.extract j s.size), .string t] w fun e w' => e = .returned (.bool (hasP s j t)) ∧ Drawn0 w w' :=
  q27_.calls _ _ _ w (by rw [begins_list, ext_end, hasP_list s j t hj])
def outV (s nm : ByteArray) (i : Nat) (o : Option (List S36 × Nat)) : Option (S36 × Nat) := match contW s i o with | some (t, kids, m) => endV s nm t kids m | none => none
theorem outV_none (s nm : ByteArray) (i : Nat) : outV s nm i none = none := rfl
theorem outV_kids {s nm : ByteArray} {i m : Nat} {l : List S36} (hl : l ≠ []) : outV s nm i (some (l, m)) = endV s nm ⟨#[]⟩ l m := by
  unfold outV contW textV
  simp only
  rw [if_pos (List.length_pos_iff.2 hl)]
theorem endV_no {s nm t : ByteArray} {l : List S36} {m : Nat} (h : hasP s m ⟨#[60, 47]⟩ = false) : endV s nm t l m = none := by
  unfold endV
  rw [if_neg (by rw [h]; decide)]
theorem elemV_no {s : ByteArray} {d j : Nat} (h : hasP s j ⟨#[60]⟩ = false) : elemV s d j = none := by
  cases d with
  | zero => rfl
  | succ d => unfold elemV; rw [if_neg (by rw [h]; decide)]
theorem hasP_out {s : ByteArray} {j : Nat} (h : ¬ j < s.size) : hasP s j ⟨#[60]⟩ = false := by
  cases hx : hasP s j ⟨#[60]⟩ with
  | false => rfl
  | true =>
    have h1 := hasP_le hx
    have h2 : (⟨#[60]⟩ : ByteArray).size = 1 := rfl
    omega
def RContI (w0 w : World) (g gn gr i d : Nat) (s nm : ByteArray) (j0 : Nat) (kq : Nat) (a' : Act) (w' : World) : Prop :=
  RCoFr g gn gr d i a' ∧ ∃ (j : Nat) (l : List S36) (A : Option Addr) (c : Nat) (b : Bool), RdF w0 w' g s j b ∧ KeepBut w w' g (some gn) ∧ RKidsAt w w' gn nm l A c ∧ l.length + kq ≤ s.size + 1 ∧
    (if b = true then outV s nm i (kidsV (elemV s d) (s.size + 1) s j0 []) = none else (j ≤ s.size ∧ kidsV (elemV s d) kq s j l = kidsV (elemV s d) (s.size + 1) s j0 [] ∧ s.size - j < kq ∧ (l = [] → (hasP s j ⟨#[60]⟩ && !hasP s j ⟨#[60, 47]⟩) = true)))
set_option maxHeartbeats 4000000 in
set_option maxRecDepth 1000000 in
theorem rcont_round {Q : Exit → Act → World → Prop} {w0 w wr : World} {g gn gr i d j0 kq : Nat} {s nm : ByteArray} {a' : Act} (hp : ∀ c (N : Option Tmp) v a w, Q (.panic c) (a.put N v) w → Q (.panic c) a w) (he : RElemOk s d) (hpos : ∀ i n m, elemV s d i = some (n, m) → i < m) (hd16 : d ≤ 16) (hsm : s.size ≤ 1073741824)
    (hgg : gn ≠ g) (hglt : g < w.heap.size) (hgnlt : gn < w.heap.size) (h0 : 0 < w0.heap.size) (hgw0 : w0.heap.size ≤ gn) (hI : RContI w0 w g gn gr i d s nm j0 kq a' wr)
    (hNX : ∀ a' w' k', k' < kq → RContI w0 w g gn gr i d s nm j0 k' a' w' → Q .normal a' w')
    (hX : ∀ l j b A c a' w', RCoFr g gn gr d i a' → RdF w0 w' g s j b → KeepBut w w' g (some gn) → RKidsAt w w' gn nm l A c → (if b = true then outV s nm i (kidsV (elemV s d) (s.size + 1) s j0 []) = none else (j ≤ s.size ∧ kidsV (elemV s d) (s.size + 1) s j0 [] = some (l, j) ∧ l ≠ [])) → Q (.exit 0) a' w') :
    (codeIn Tryd.f102 [1, 1, 1, 0, 1, 0, 0, 0]).wp Tryd.prog Q a' wr := by
  obtain ⟨⟨u, rfl⟩, j, l, A, c, b, HRj0, HKj0, HKa0, hln, hif⟩ := hI
  have HE := Aside0.mk he
  have HP := Aside0.mk hpos
  have HNX := Aside0.mk hNX
  have HX := Aside0.mk hX
  have HRj := Aside0.mk HRj0
  have HKj := Aside0.mk HKj0
  have HKa := Aside0.mk HKa0
  have HLN := Aside0.mk hln
  have HPP := Aside0.mk hp
  clear he hpos hNX hX HRj0 HKj0 HKa0 hln hp
  have cA := HRj.out.cell0
  have cB := HRj.out.cell1
  have cC := HRj.out.cell2
  simp only [codeIn, Tryd.f102, Option.getD_some, codeAt]
  cases b with
  | true =>
    rw [if_pos rfl] at hif
    have HIF := Aside0.mk hif
    have HP2 : Aside0 (∀ w' : World, Calls Tryd.prog 80 #[.string (s.extract s.size s.size), .string ⟨#[60, 47]⟩] w' fun e w2 => e = .returned (.bool (hasP s s.size ⟨#[60, 47]⟩)) ∧ Drawn0 w' w2) := ⟨fun w' => rbegins_calls s s.size _ (Nat.le_refl _) w'⟩
    clear hif
    go_upto_region 4 with (fail)
    refine wp_region_quiet_lit (by kernel_rfl) (by kernel_rfl) ?_
    repeat (go_big_quiet_step (first | (go_at_call 80; with_reducible refine (HP2.out _).mono ?_; rintro e w2 ⟨rfl, ⟨n7, rfl⟩⟩; exact ⟨rfl, _, World.drewN_drewN _ _ _⟩)))
    refine wpQuiet_nil ?_
    intro _ hw'
    obtain ⟨nq, hw''⟩ := hw'
    subst hw''
    go_wp2_with fail
    exact HX.out l j true A c _ _ RCoFr.mk (HRj.out.drewN _) (keep_drewN HKj.out _) (HKa.out.drewN _) (by rw [if_pos rfl]; exact HIF.out)
  | false =>
    rw [if_neg (by decide)] at hif
    obtain ⟨hjs, hA0, hjk, hl0⟩ := hif
    obtain ⟨gk0, rfl⟩ : ∃ gk0, kq = gk0 + 1 := ⟨kq - 1, by omega⟩
    rw [kidsV] at hA0
    obtain ⟨c1, hc1⟩ : ∃ c1, c1 = hasP s j ⟨#[60]⟩ := ⟨_, rfl⟩
    obtain ⟨c2, hc2⟩ : ∃ c2, c2 = hasP s j ⟨#[60, 47]⟩ := ⟨_, rfl⟩
    have hno := hasP_out (s := s) (j := j)
    have HP2 : Aside0 (∀ w' : World, Calls Tryd.prog 80 #[.string (s.extract j s.size), .string ⟨#[60, 47]⟩] w' fun e w2 => e = .returned (.bool c2) ∧ Drawn0 w' w2) := ⟨fun w' => by rw [hc2]; exact rbegins_calls s j _ hjs w'⟩
    have HEN : Aside0 (c1 = false → elemV s d j = none) := ⟨fun h => elemV_no (by rw [← hc1]; exact h)⟩
    have HNN : Aside0 (c2 = false → ∀ t l, endV s nm t l j = none) := ⟨fun h t l => endV_no (by rw [← hc2]; exact h)⟩
    rw [← hc1, ← hc2] at hA0 hl0
    rw [← hc1] at hno
    have HA3 := Aside0.mk hA0
    have HL0 := Aside0.mk hl0
    clear hA0 hl0 hc1 hc2
    have p0 : (0 : Int) ≤ (j : Int) := by omega
    have p1 : (j : Int) ≤ (s.size : Int) := by omega
    by_cases hlt : j < s.size
    · have hlti : (j : Int) < (s.size : Int) := by omega
      clear hno
      cases c2 with
      | true =>
        go_upto_region 4 with (fail)
        refine wp_region_quiet_lit (by kernel_rfl) (by kernel_rfl) ?_
        repeat (go_big_quiet_step (first | (go_at_call 80; with_reducible refine (HP2.out _).mono ?_; rintro e w2 ⟨rfl, ⟨n7, rfl⟩⟩; exact ⟨rfl, _, World.drewN_drewN _ _ _⟩)))
        refine wpQuiet_nil ?_
        intro _ hw'
        obtain ⟨nq, hw''⟩ := hw'
        subst hw''
        go_wp2_with fail
        exact HX.out l j false A c _ _ RCoFr.mk (HRj.out.drewN _) (keep_drewN HKj.out _) (HKa.out.drewN _) (by
          rw [if_neg (by decide)]
          refine ⟨hjs, by have := HA3.out; simpa using this.symm, fun h => ?_⟩
          have := HL0.out h
          simp at this)
      | false =>
        go_upto_region 4 with (fail)
        refine wp_region_quiet_lit (by kernel_rfl) (by kernel_rfl) ?_
        repeat (go_big_quiet_step (first | (go_at_call 80; with_reducible refine (HP2.out _).mono ?_; rintro e w2 ⟨rfl, ⟨n7, rfl⟩⟩; exact ⟨rfl, _, World.drewN_drewN _ _ _⟩)))
        refine wpQuiet_nil ?_
        intro _ hw'
        obtain ⟨nq, hw''⟩ := hw'
        subst hw''
        go_upto_region 5 with (fail)
        refine rcont_r5 (fun c_ _ _ _ w_ h_ => HPP.out c_ _ _ _ w_ h_) HE.out hd16 RCoFr.mk (HRj.out.drewN nq) hjs (keep_drewN HKj.out nq) (HKa.out.drewN nq) h0 hgnlt hgg hglt hgw0 (by have := HLN.out; omega) ?_
        intro a2 w2 A2 c2 n b j2 hF2 hR2 hK2 hA2 hpost
        have HR2 := Aside0.mk hR2
        have HK2 := Aside0.mk hK2
        have HA2 := Aside0.mk hA2
        have HPO := Aside0.mk hpost
        obtain ⟨u2, rfl⟩ := hF2
        clear hR2 hK2 hA2 hpost HRj HKj HKa cA cB cC
        go_wp2_with fail
        refine (rskip_calls HR2.out).mono ?_
        rintro e w3 ⟨rfl, H3, hk3⟩
        have hK3 : KeepBut w w3 g (some gn) := HK2.out.trans (keepWeak hk3 _) (.inl rfl)
        have hA3 := HA2.out.keep hk3 hglt hgg
        have HK3 := Aside0.mk hK3
        have HA4 := Aside0.mk hA3
        have HR3 := Aside0.mk H3
        clear hK3 hA3 hk3 H3
        go_wp2_with fail
        refine HNX.out _ _ gk0 (Nat.lt_succ_self _) ⟨RCoFr.mk, _, l ++ [n], A2, c2, b, HR3.out, HK3.out, HA4.out, by have := HLN.out; rw [List.length_append]; simp; omega, ?_⟩
        have h3 := HPO.out
        have h4 := HA3.out
        cases hev : elemV s d j with
        | none =>
          rw [hev] at h3
          rw [if_pos h3]
          rw [hev] at h4
          cases c1 with
          | true =>
            simp only [Bool.not_false, Bool.and_true, if_true] at h4
            rw [← h4]
            rfl
          | false =>
            simp only [Bool.false_and, Bool.false_eq_true, if_false] at h4
            rw [← h4, outV_kids (fun h => by have := HL0.out h; simp at this)]
            exact HNN.out (by first | trivial | rfl) _ _
        | some r =>
          obtain ⟨n0, m0⟩ := r
          rw [hev] at h3
          obtain ⟨rfl, h5, rfl, h6⟩ := h3
          obtain rfl := toR_inj h5
          have hgt := HP.out _ _ _ hev
          have hsk := skip_le whiteV s j2 h6
          rw [if_neg (by decide)]
          cases c1 with
          | false => rw [HEN.out (by first | trivial | rfl)] at hev; cases hev
          | true =>
            rw [hev] at h4
            simp only [Bool.not_false, Bool.and_true, if_true] at h4
            exact ⟨hsk.2, h4, by have := hsk.1; omega, fun h => by simp at h⟩
    · have hlti : ¬ (j : Int) < (s.size : Int) := by omega
      obtain rfl := hno hlt
      go_upto_region 4 with (fail)
      refine wp_region_quiet_lit (by kernel_rfl) (by kernel_rfl) ?_
      repeat (go_big_quiet_step (first | (go_at_call 80; with_reducible refine (HP2.out _).mono ?_; rintro e w2 ⟨rfl, ⟨n7, rfl⟩⟩; exact ⟨rfl, _, World.drewN_drewN _ _ _⟩)))
      refine wpQuiet_nil ?_
      intro _ hw'
      obtain ⟨nq, hw''⟩ := hw'
      subst hw''
      go_wp2_with fail
      exact HX.out l j false A c _ _ RCoFr.mk (HRj.out.drewN _) (keep_drewN HKj.out _) (HKa.out.drewN _) (by
          rw [if_neg (by decide)]
          refine ⟨hjs, by have := HA3.out; simpa using this.symm, fun h => ?_⟩
          have := HL0.out h
          simp at this)
def ltV (c : Int) : Bool := !(c == 60)
theorem idx_scan (s : ByteArray) : ∀ (r i : Nat), r + i = s.size → (Lib.indexByte (s.data.toList.drop i) 60 = -1 ∧ skip ltV s i = s.size) ∨ (∃ n : Nat, Lib.indexByte (s.data.toList.drop i) 60 = (n : Int) ∧ skip ltV s i = i + n ∧ i + n < s.size) := by
  intro r
  induction r with
  | zero =>
    intro i hi
    refine .inl ⟨?_, ?_⟩
    · rw [List.drop_of_length_le (by rw [← size_list]; omega)]
      rfl
    · rw [skip_out (by omega)]
      omega
  | succ r ih =>
    intro i hi
    have hil : i < s.size := by omega
    have hun : ∀ (b : UInt8) (l : List UInt8), Lib.indexByte (b :: l) 60 = (if (b == 60) = true then 0 else if (Lib.indexByte l 60 == -1) = true then -1 else Lib.indexByte l 60 + 1) := fun _ _ => rfl
    have hb := bt_get s i hil
    rw [drop_get s i hil, hun]
    by_cases hc : s[i] = 60
    · have h1 : ltV (bt s (i : Int)) = false := by rw [hb, hc]; rfl
      rw [hc, if_pos (by decide), skip_out (by rw [h1]; simp)]
      exact .inr ⟨0, rfl, rfl, hil⟩
    · have h0 : (s[i] == 60) = false := by simpa using hc
      have h1 : ltV (bt s (i : Int)) = true := by
        unfold ltV
        rw [hb]
        have : ¬ ((s[i].toNat : Int) = 60) := fun h => hc (UInt8.toNat_inj.1 (by have : (60 : UInt8).toNat = 60 := rfl; omega))
        simpa using this
      rw [h0, if_neg (by decide), skip_in hil h1]
      rcases ih (i + 1) (by omega) with ⟨h2, h3⟩ | ⟨n, h2, h3, h4⟩
      · rw [h2]
        exact .inl ⟨rfl, h3⟩
      · rw [h2, if_neg (by simp)]
        exact .inr ⟨n + 1, by omega, by omega, by omega⟩
theorem lt_white (s : ByteArray) : ∀ (r i : Nat), r + i = s.size → skip ltV s (skip whiteV s i) = skip ltV s i := by
  intro r
  induction r with
  | zero =>
    intro i hi
    rw [skip_out (p := whiteV) (by omega)]
  | succ r ih =>
    intro i hi
    have hil : i < s.size := by omega
    cases hw : whiteV (bt s i) with
    | false => rw [skip_out (p := whiteV) (by rw [hw]; simp)]
    | true =>
      have h1 : ltV (bt s (i : Int)) = true := by
        unfold whiteV at hw
        unfold ltV
        simp only [Bool.or_eq_true, beq_iff_eq] at hw
        rcases hw with ((h | h) | h) | h <;> rw [h] <;> rfl
      rw [skip_in hil hw, ih (i + 1) (by omega), skip_in hil h1]
def kidV (s : ByteArray) (j : Nat) : Bool := decide (j + 1 < s.size) && (bt s (j : Int) == 60) && !(bt s ((j + 1 : Nat) : Int) == 47)
theorem has_lt {s : ByteArray} {j : Nat} (hj : j < s.size) : hasP s j ⟨#[60]⟩ = (bt s (j : Int) == 60) := by
  rw [hasP_list s j _ (by omega), drop_get s j hj, bt_get s j hj]
  simp only [List.isPrefixOf, Bool.and_true]
  rw [Bool.eq_iff_iff, beq_iff_eq, beq_iff_eq]
  constructor
  · intro h
    rw [← h]
    rfl
  · intro h
    exact UInt8.toNat_inj.1 (by have : (60 : UInt8).toNat = 60 := rfl; omega)
theorem has_end {s : ByteArray} {j : Nat} (hj : j + 1 < s.size) : hasP s j ⟨#[60, 47]⟩ = ((bt s (j : Int) == 60) && (bt s ((j + 1 : Nat) : Int) == 47)) := by
  rw [hasP_list s j _ (by omega), drop_get s j (by omega), drop_get s (j + 1) hj, bt_get s j (by omega), bt_get s (j + 1) hj]
  simp only [List.isPrefixOf, Bool.and_true]
  rw [Bool.eq_iff_iff, Bool.and_eq_true, Bool.and_eq_true, beq_iff_eq, beq_iff_eq, beq_iff_eq, beq_iff_eq]
  constructor
  · rintro ⟨h1, h2⟩
    rw [← h1, ← h2]
    exact ⟨rfl, rfl⟩
  · rintro ⟨h1, h2⟩
    exact ⟨UInt8.toNat_inj.1 (by have : (60 : UInt8).toNat = 60 := rfl; omega), UInt8.toNat_inj.1 (by have : (47 : UInt8).toNat = 47 := rfl; omega)⟩
theorem has_end_no {s : ByteArray} {j : Nat} (hj : ¬ j + 1 < s.size) : hasP s j ⟨#[60, 47]⟩ = false := by
  cases hx : hasP s j ⟨#[60, 47]⟩ with
  | false => rfl
  | true =>
    have h1 := hasP_le hx
    have h2 : (⟨#[60, 47]⟩ : ByteArray).size = 2 := rfl
    omega
theorem kidV_yes {s : ByteArray} {j : Nat} (h : kidV s j = true) : (hasP s j ⟨#[60]⟩ && !hasP s j ⟨#[60, 47]⟩) = true := by
  unfold kidV at h
  simp only [Bool.and_eq_true, decide_eq_true_eq, Bool.not_eq_true'] at h
  obtain ⟨⟨h1, h2⟩, h3⟩ := h
  rw [has_lt (by omega), has_end h1, h2, h3]
  rfl
theorem elemV_last {s : ByteArray} {d j : Nat} (h : j + 1 = s.size) : elemV s d j = none := by
  cases d with
  | zero => rfl
  | succ d =>
    unfold elemV
    by_cases hp : hasP s j ⟨#[60]⟩ = true
    · rw [if_pos hp, if_neg]
      rw [skip_out (by omega), h]
      have : s.extract s.size s.size = ⟨#[]⟩ := by
        apply ba_inj
        rw [ByteArray.toList_eq, ByteArray.toList_eq, ext_end, List.drop_of_length_le (by rw [← size_list]; exact Nat.le_refl _)]
      rw [this]
      decide
    · rw [if_neg hp]
theorem text_law {s nm : ByteArray} {d i : Nat} (hi : i ≤ s.size) (h : kidV s (skip whiteV s i) = false) : outV s nm i (kidsV (elemV s d) (s.size + 1) s (skip whiteV s i) []) =
    if (unV (s.extract i (skip ltV s (skip whiteV s i)))).2 = true then endV s nm (unV (s.extract i (skip ltV s (skip whiteV s i)))).1 [] (skip ltV s (skip whiteV s i)) else none := by
  have hsw := skip_le whiteV s i hi
  have hsc := idx_scan s (s.size - i) i (by omega)
  have hlw := lt_white s (s.size - i) i (by omega)
  obtain ⟨j, hj⟩ : ∃ j, j = skip whiteV s i := ⟨_, rfl⟩
  rw [← hj] at h hlw hsw ⊢
  rw [hlw]
  have hout : outV s nm i (some ([], j)) = if (unV (s.extract i (skip ltV s i))).2 = true then endV s nm (unV (s.extract i (skip ltV s i))).1 [] (skip ltV s i) else none := by
    unfold outV contW textV
    simp only [List.length_nil, Nat.lt_irrefl, if_false, ext_end]
    rcases hsc with ⟨h1, h2⟩ | ⟨n, h1, h2, h3⟩
    · rw [h1, h2, endV_no (has_end_no (by omega))]
      simp
    · rw [h1, h2, if_neg (by omega), Int.toNat_natCast]
      cases (unV (s.extract i (i + n))).2 <;> rfl
  rw [kidsV]
  by_cases hc : (hasP s j ⟨#[60]⟩ && !hasP s j ⟨#[60, 47]⟩) = true
  · rw [if_pos hc]
    have hlast : j + 1 = s.size := by
      rw [Bool.and_eq_true] at hc
      by_cases h1 : j + 1 < s.size
      · exfalso
        rw [has_lt (by omega), has_end h1] at hc
        unfold kidV at h
        rw [hc.1, decide_eq_true h1] at h
        have h2 := hc.2
        rw [hc.1] at h2
        simp_all
      · by_cases h2 : j < s.size
        · omega
        · rw [hasP_out h2] at hc
          exact absurd hc.1 (by decide)
    rw [elemV_last hlast]
    have hb : bt s (j : Int) = 60 := by
      have := (Bool.and_eq_true _ _ ▸ hc : _ ∧ _).1
      rw [has_lt (by omega)] at this
      simpa using this
    have hk : skip ltV s i = j := by
      rw [← hlw, skip_out]
      rw [hb]
      simp [ltV]
    rw [hk, endV_no (has_end_no (by omega))]
    simp [outV_none]
  · rw [if_neg hc]
    exact hout
def RScanI (w0 w : World) (g gn gr i d : Nat) (s nm : ByteArray) (j : Nat) (kq : Nat) (a' : Act) (w' : World) : Prop :=
  RCoFr g gn gr d i a' ∧ ∃ (k : Nat), k ≤ s.size ∧ i ≤ k ∧ skip ltV s k = skip ltV s j ∧ s.size - k < kq ∧ RdF w0 w' g s k false ∧ KeepBut w w' g (some gn) ∧ w'.heap[gn]? = some (.cells #[.string nm, .string ⟨#[]⟩, .slice none 0 0] 42 (0, 0))
set_option maxHeartbeats 4000000 in
set_option maxRecDepth 1000000 in
theorem rcont_r9 {Q : Exit → Act → World → Prop} {w0 w wr : World} {g gn gr i d K : Nat} {s nm : ByteArray} {a' : Act} (hp : ∀ c (N : Option Tmp) v a w, Q (.panic c) (a.put N v) w → Q (.panic c) a w) (hsm : s.size ≤ 1073741824)
    (hgg : gn ≠ g) (hglt : g < w.heap.size) (hgnlt : gn < w.heap.size) (hgw0 : w0.heap.size ≤ gn) (hF : RCoFr g gn gr d i a') (hR : RdF w0 wr g s K false) (hik : i ≤ K) (hks : K ≤ s.size) (hK : KeepBut w wr g (some gn)) (hbn : wr.heap[gn]? = some (.cells #[.string nm, .string ⟨#[]⟩, .slice none 0 0] 42 (0, 0)))
    (hQ : ∀ a' w', RCoFr g gn gr d i a' → RdF w0 w' g s K (!(unV (s.extract i K)).2) → KeepBut w w' g (some gn) → w'.heap[gn]? = some (.cells #[.string nm, .string (unV (s.extract i K)).1, .slice none 0 0] 42 (0, 0)) → Q .normal a' w') :
    (codeIn Tryd.f102 [1, 1, 1, 0, 1, 1, 1]).wp Tryd.prog Q a' wr := by
  have HPP := Aside0.mk hp
  have HQ := Aside0.mk hQ
  have hR5 : RdF w0 wr.drew g s K false := hR.drewN 1
  have HBN5 : Aside0 (wr.drew.heap[gn]? = _) := ⟨blk_drewN hbn 1⟩
  have HK5 : Aside0 (KeepBut w wr.drew g (some gn)) := ⟨keep_drewN hK 1⟩
  have hgl5 : gn < wr.drew.heap.size := Nat.lt_of_lt_of_le hgnlt hK.1
  obtain ⟨u, rfl⟩ := hF
  have hxs : (s.extract i K).size ≤ 1073741824 := by
    rw [ByteArray.size_extract]
    omega
  have p0 : (0 : Int) ≤ (i : Int) := by omega
  have p1 : (i : Int) ≤ (K : Int) := by omega
  have p2 : (K : Int) ≤ (s.size : Int) := by omega
  have p3 : (0 : Int) ≤ (K : Int) := by omega
  clear hp hQ hR hbn hK
  simp only [codeIn, Tryd.f102, Option.getD_some, codeAt]
  go_upto_region 9 with (fail)
  refine start_ (n := 16) (S := fun W => W.cell? ⟨g, 0, none⟩ = some (.string s) ∧ W.cell? ⟨g, 1, none⟩ = some (.int .i64 K)) (ds := []) #[false, false, false, false, false, false, false, false, false, false, false, false, false, false, false, false] (by kernel_rfl) rfl rfl ⟨hR5.cell0, hR5.cell1⟩ (fun hHeld => ?_)
  generalize wr.drew = w5 at hR5 HBN5 HK5 hgl5 hHeld ⊢
  refine pure_ (i := 0) (N := (some 123)) (v := ?_) (a' := ?_) #[true, false, false, false, false, false, false, false, false, false, false, false, false, false, false, false] rfl rfl (by kernel_rfl) (fun c_ _ w_ h_ => HPP.out c_ _ _ _ w_ h_) (Or.inl ⟨by kernel_rfl, ?_⟩) ?_ ?_
  rotate_left
  · intro w_
    go_simp
    with_reducible rfl
  rotate_left
  · simp only [Act.put, List.setIfInBounds_toArray, List.set_cons_zero, List.set_cons_succ]
    rfl
  refine pure_ (i := 1) (N := (some 124)) (v := ?_) (a' := ?_) #[true, true, false, false, false, false, false, false, false, false, false, false, false, false, false, false] rfl rfl (by kernel_rfl) (fun c_ _ w_ h_ => HPP.out c_ _ _ _ w_ h_) (Or.inl ⟨by kernel_rfl, ?_⟩) ?_ ?_
  rotate_left
  · intro w_
    go_simp
    with_reducible rfl
  rotate_left
  · simp only [Act.put, List.setIfInBounds_toArray, List.set_cons_zero, List.set_cons_succ]
    rfl
  refine pure_ (i := 2) (N := (some 125)) (v := ?_) (a' := ?_) #[true, true, true, false, false, false, false, false, false, false, false, false, false, false, false, false] rfl rfl (by kernel_rfl) (fun c_ _ w_ h_ => HPP.out c_ _ _ _ w_ h_) (Or.inl ⟨by kernel_rfl, ?_⟩) ?_ ?_
  rotate_left
  · intro w_
    go_simp
    with_reducible rfl
  rotate_left
  · simp only [Act.put, List.setIfInBounds_toArray, List.set_cons_zero, List.set_cons_succ]
    rfl
  refine pure_ (i := 4) (N := (some 127)) (v := ?_) (a' := ?_) #[true, true, true, false, true, false, false, false, false, false, false, false, false, false, false, false] rfl rfl (by kernel_rfl) (fun c_ _ w_ h_ => HPP.out c_ _ _ _ w_ h_) (Or.inl ⟨by kernel_rfl, ?_⟩) ?_ ?_
  rotate_left
  · intro w_
    go_simp
    with_reducible rfl
  rotate_left
  · simp only [Act.put, List.setIfInBounds_toArray, List.set_cons_zero, List.set_cons_succ]
    rfl
  refine pure_ (i := 5) (N := (some 128)) (v := ?_) (a' := ?_) #[true, true, true, false, true, true, false, false, false, false, false, false, false, false, false, false] rfl rfl (by kernel_rfl) (fun c_ _ w_ h_ => HPP.out c_ _ _ _ w_ h_) (Or.inl ⟨by kernel_rfl, ?_⟩) ?_ ?_
  rotate_left
  · intro w_
    go_simp
    with_reducible rfl
  rotate_left
  · simp only [Act.put, List.setIfInBounds_toArray, List.set_cons_zero, List.set_cons_succ]
    rfl
  refine pure_ (i := 6) (N := (some 129)) (v := ?_) (a' := ?_) #[true, true, true, false, true, true, true, false, false, false, false, false, false, false, false, false] rfl rfl (by kernel_rfl) (fun c_ _ w_ h_ => HPP.out c_ _ _ _ w_ h_) (Or.inl ⟨by kernel_rfl, ?_⟩) ?_ ?_
  rotate_left
  · intro w_
    go_simp
    with_reducible rfl
  rotate_left
  · simp only [Act.put, List.setIfInBounds_toArray, List.set_cons_zero, List.set_cons_succ]
    rfl
  refine pure_ (i := 7) (N := (some 130)) (v := ?_) (a' := ?_) #[true, true, true, false, true, true, true, true, false, false, false, false, false, false, false, false] rfl rfl (by kernel_rfl) (fun c_ _ w_ h_ => HPP.out c_ _ _ _ w_ h_) (Or.inl ⟨by kernel_rfl, ?_⟩) ?_ ?_
  rotate_left
  · intro w_
    go_simp
    with_reducible rfl
  rotate_left
  · simp only [Act.put, List.setIfInBounds_toArray, List.set_cons_zero, List.set_cons_succ]
    rfl
  refine take_ (i := 3) (N := some 126) (v := ?_) (a' := ?_) #[true, true, true, true, true, true, true, true, false, false, false, false, false, false, false, false] rfl rfl (by kernel_rfl) (fun c_ _ w_ h_ => HPP.out c_ _ _ _ w_ h_) (Or.inl ⟨by kernel_rfl, ?_⟩) hHeld ?_ ?_
  rotate_left
  · rintro w_ ⟨sA, sB⟩
    go_simp
    with_reducible rfl
  rotate_left
  · simp only [Act.put, List.setIfInBounds_toArray, List.set_cons_zero, List.set_cons_succ]
    rfl
  refine take_ (i := 8) (N := some 131) (v := ?_) (a' := ?_) #[true, true, true, true, true, true, true, true, true, false, false, false, false, false, false, false] rfl rfl (by kernel_rfl) (fun c_ _ w_ h_ => HPP.out c_ _ _ _ w_ h_) (Or.inl ⟨by kernel_rfl, ?_⟩) hHeld ?_ ?_
  rotate_left
  · rintro w_ ⟨sA, sB⟩
    go_simp
    with_reducible rfl
  rotate_left
  · simp only [Act.put, List.setIfInBounds_toArray, List.set_cons_zero, List.set_cons_succ]
    rfl
  refine pure_ (i := 9) (N := (some 132)) (v := ?_) (a' := ?_) #[true, true, true, true, true, true, true, true, true, true, false, false, false, false, false, false] rfl rfl (by kernel_rfl) (fun c_ _ w_ h_ => HPP.out c_ _ _ _ w_ h_) (Or.inl ⟨by kernel_rfl, ?_⟩) ?_ ?_
  rotate_left
  · intro w_
    go_simp
    with_reducible rfl
  rotate_left
  · simp only [Act.put, List.setIfInBounds_toArray, List.set_cons_zero, List.set_cons_succ]
    rfl
  refine one_ (i := 10) (N := some 133) #[true, true, true, true, true, true, true, true, true, true, true, false, false, false, false, false] rfl rfl (by kernel_rfl) (by decide) (fun K_ hK_ => ?_)
  refine goes_ Tryd.func22 (by kernel_rfl) rfl #[.string (s.extract i K)] (by kernel_rfl) rfl rfl (by kernel_rfl) ?_
  refine (refUnescape_calls (s.extract i K) hxs w5).mono ?_
  rintro e w6 ⟨rfl, hb6⟩
  refine ⟨_, rfl, ?_⟩
  have hR6 : RdF w0 w6 g s K false := hR5.stays hb6
  refine hK_.out _ _ ⟨hR6.cell0, hR6.cell1⟩ (fun hHeld => ?_)
  clear hK_ K_
  refine norm_ (a' := ?_) ?_ ?_
  rotate_left
  · show Act.put _ (some 133) _ = _
    simp only [Act.put, List.setIfInBounds_toArray, List.set_cons_zero, List.set_cons_succ]
    rfl
  refine pure_ (i := 11) (N := (some 122)) (v := ?_) (a' := ?_) #[true, true, true, true, true, true, true, true, true, true, true, true, false, false, false, false] rfl rfl (by kernel_rfl) (fun c_ _ w_ h_ => HPP.out c_ _ _ _ w_ h_) (Or.inl ⟨by kernel_rfl, ?_⟩) ?_ ?_
  rotate_left
  · intro w_
    go_simp
    with_reducible rfl
  rotate_left
  · simp only [Act.put, List.setIfInBounds_toArray, List.set_cons_zero, List.set_cons_succ]
    rfl
  refine pure_ (i := 12) (N := (some 134)) (v := ?_) (a' := ?_) #[true, true, true, true, true, true, true, true, true, true, true, true, true, false, false, false] rfl rfl (by kernel_rfl) (fun c_ _ w_ h_ => HPP.out c_ _ _ _ w_ h_) (Or.inl ⟨by kernel_rfl, ?_⟩) ?_ ?_
  rotate_left
  · intro w_
    go_simp
    with_reducible rfl
  rotate_left
  · simp only [Act.put, List.setIfInBounds_toArray, List.set_cons_zero, List.set_cons_succ]
    rfl
  refine pure_ (i := 13) (N := (some 135)) (v := ?_) (a' := ?_) #[true, true, true, true, true, true, true, true, true, true, true, true, true, true, false, false] rfl rfl (by kernel_rfl) (fun c_ _ w_ h_ => HPP.out c_ _ _ _ w_ h_) (Or.inl ⟨by kernel_rfl, ?_⟩) ?_ ?_
  rotate_left
  · intro w_
    go_simp
    with_reducible rfl
  rotate_left
  · simp only [Act.put, List.setIfInBounds_toArray, List.set_cons_zero, List.set_cons_succ]
    rfl
  refine pure_ (i := 14) (N := (some 8)) (v := ?_) (a' := ?_) #[true, true, true, true, true, true, true, true, true, true, true, true, true, true, true, false] rfl rfl (by kernel_rfl) (fun c_ _ w_ h_ => HPP.out c_ _ _ _ w_ h_) (Or.inl ⟨by kernel_rfl, ?_⟩) ?_ ?_
  rotate_left
  · intro w_
    go_simp
    with_reducible rfl
  rotate_left
  · simp only [Act.put, List.setIfInBounds_toArray, List.set_cons_zero, List.set_cons_succ]
    rfl
  refine pure_ (i := 15) (N := (some 9)) (v := ?_) (a' := ?_) #[true, true, true, true, true, true, true, true, true, true, true, true, true, true, true, true] rfl rfl (by kernel_rfl) (fun c_ _ w_ h_ => HPP.out c_ _ _ _ w_ h_) (Or.inl ⟨by kernel_rfl, ?_⟩) ?_ ?_
  rotate_left
  · intro w_
    go_simp
    with_reducible rfl
  rotate_left
  · simp only [Act.put, List.setIfInBounds_toArray, List.set_cons_zero, List.set_cons_succ]
    rfl
  refine done_ (by kernel_rfl) ?_
  have hb60 := hb6
  have HK6 : Aside0 (KeepBut w w6 g (some gn)) := ⟨HK5.out.trans (keepWeak (KeepBut.of_below hb6 g none) _) (.inl rfl)⟩
  have hbn6 : w6.heap[gn]? = some (.cells #[.string nm, .string ⟨#[]⟩, .slice none 0 0] 42 (0, 0)) := (hb6.block gn hgl5).trans HBN5.out
  have HBN6 := Aside0.mk hbn6
  have HR6 := Aside0.mk hR6
  have n0 := blk_cell hbn6 1
  have q0 := blk_frozen hbn6 1
  have cB := hR6.cell2
  have fB := hR6.frozen 2
  clear hb6 hb60 hR6 hbn6 HBN5 HK5 hR5
  generalize hun : unV (s.extract i K) = un at HQ ⊢
  obtain ⟨t, ok⟩ := un
  clear hun
  cases ok <;> (
    go_wp2_with fail
    refine HQ.out _ _ RCoFr.mk ((HR6.out.far (p := ⟨gn, 1, none⟩) hgg hgw0 _).mark _) ((KeepBut.set_ ⟨by rw [World.size_setCell]; exact HK6.out.1, fun i hi h1 h2 => (Below.heap_setCell _ ⟨gn, 1, none⟩ _ i (fun he => h2 (by rw [he]))).trans (HK6.out.2 i hi h1 h2)⟩ 2 _)) ?_
    exact (Below.heap_setCell _ ⟨g, 2, none⟩ _ gn hgg).trans (blk_put HBN6.out 1 _ rfl))
set_option maxHeartbeats 4000000 in
set_option maxRecDepth 1000000 in
theorem rcont_scan {Q : Exit → Act → World → Prop} {w0 w wr : World} {g gn gr i d j : Nat} {s nm : ByteArray} {a' : Act} (hp : ∀ c (N : Option Tmp) v a w, Q (.panic c) (a.put N v) w → Q (.panic c) a w) (hsm : s.size ≤ 1073741824)
    (hgg : gn ≠ g) (hglt : g < w.heap.size) (hgnlt : gn < w.heap.size) (hgw0 : w0.heap.size ≤ gn) (hF : RCoFr g gn gr d i a') (hR : RdF w0 wr g s j false) (hij : i ≤ j) (hjs : j ≤ s.size) (hK : KeepBut w wr g (some gn)) (hbn : wr.heap[gn]? = some (.cells #[.string nm, .string ⟨#[]⟩, .slice none 0 0] 42 (0, 0)))
    (hQ : ∀ a' w' k, RCoFr g gn gr d i a' → k = skip ltV s j → i ≤ k → k ≤ s.size → RdF w0 w' g s k false → KeepBut w w' g (some gn) → w'.heap[gn]? = some (.cells #[.string nm, .string ⟨#[]⟩, .slice none 0 0] 42 (0, 0)) → Q .normal a' w') :
    (codeIn Tryd.f102 [1, 1, 1, 0, 1, 1, 0]).wp Tryd.prog Q a' wr := by
  have HPP := Aside0.mk hp
  have HQ := Aside0.mk hQ
  have HI : Aside0 (RScanI w0 w g gn gr i d s nm j (s.size + 1) a' wr) := ⟨hF, j, hjs, hij, rfl, by omega, hR, hK, hbn⟩
  clear hp hQ hR hbn hK hF
  simp only [codeIn, Tryd.f102, Option.getD_some, codeAt]
  go_wp2_with fail
  refine wp_loop_ghost_k (RScanI w0 w g gn gr i d s nm j) (s.size + 1) HI.out ?_
  intro kq a2 w2 hI J K hJ hK
  have HJ := Aside0.mk hJ
  have HKK := Aside0.mk hK
  obtain ⟨⟨u, rfl⟩, k, hks, hik, hsk, hkk, hR2, hK2, hbn2⟩ := hI
  dsimp only
  have cA := hR2.cell0
  have cB := hR2.cell1
  have fB := hR2.frozen 1
  have HR2 := Aside0.mk hR2
  have HK2 := Aside0.mk hK2
  have HBN2 := Aside0.mk hbn2
  have HSK := Aside0.mk hsk
  have p0 : (0 : Int) ≤ (k : Int) := by omega
  have hwk : IntKind.i64.wrap ((k : Int) + 1) = ((k + 1 : Nat) : Int) := by simp [IntKind.wrap_i64]; omega
  clear hR2 hK2 hbn2 hJ hK HI hsk
  by_cases hlt : k < s.size
  · have hlti : (k : Int) < (s.size : Int) := by omega
    by_cases hc : bt s (k : Int) = 60
    · have HC := Aside0.mk hc
      have hsk : skip ltV s k = k := skip_out (by rw [hc]; simp [ltV])
      have HSK3 := Aside0.mk hsk
      have hcn : ((s[k].toNat : Int) != 60) = false := by rw [← bt_get s k hlt, hc]; rfl
      clear hsk
      go_upto_region 7 with (fail)
      refine wp_region_quiet_lit (by kernel_rfl) (by kernel_rfl) ?_
      repeat (go_big_quiet_step (fail))
      refine wpQuiet_nil ?_
      intro _ hw'
      obtain ⟨nq, hw''⟩ := hw'
      subst hw''
      go_wp2_with fail
      exact HQ.out _ _ k RCoFr.mk (HSK3.out.symm.trans HSK.out) hik hks (HR2.out.drewN nq) (keep_drewN HK2.out nq) (blk_drewN HBN2.out nq)
    · have HC := Aside0.mk hc
      have hsk : skip ltV s k = skip ltV s (k + 1) := skip_in hlt (by simpa [ltV] using hc)
      have HSK3 := Aside0.mk hsk
      have hcb : ((s[k].toNat : Int) != 60) = true := by rw [← bt_get s k hlt]; simpa using hc
      clear hsk
      go_upto_region 7 with (fail)
      refine wp_region_quiet_lit (by kernel_rfl) (by kernel_rfl) ?_
      repeat (go_big_quiet_step (fail))
      refine wpQuiet_nil ?_
      intro _ hw'
      obtain ⟨nq, hw''⟩ := hw'
      subst hw''
      go_wp2_with fail
      exact HKK.out _ _ ⟨kq - 1, by omega, HJ.out _ _ _ ⟨RCoFr.mk, k + 1, by omega, by omega, HSK3.out.symm.trans HSK.out, by omega, (HR2.out.drewN nq).move _, (keep_drewN HK2.out nq).set_ 1 _, (Below.heap_setCell _ ⟨g, 1, none⟩ _ gn hgg).trans (blk_drewN HBN2.out nq)⟩⟩
  · have hlti : ¬ (k : Int) < (s.size : Int) := by omega
    have hsk : skip ltV s k = k := skip_out (by omega)
    have HSK3 := Aside0.mk hsk
    clear hsk
    go_upto_region 7 with (fail)
    refine wp_region_quiet_lit (by kernel_rfl) (by kernel_rfl) ?_
    repeat (go_big_quiet_step (fail))
    refine wpQuiet_nil ?_
    intro _ hw'
    obtain ⟨nq, hw''⟩ := hw'
    subst hw''
    go_wp2_with fail
    exact HQ.out _ _ k RCoFr.mk (HSK3.out.symm.trans HSK.out) hik hks (HR2.out.drewN nq) (keep_drewN HK2.out nq) (blk_drewN HBN2.out nq)
set_option maxHeartbeats 4000000 in
set_option maxRecDepth 1000000 in
theorem rcont_mid {Q : Exit → Act → World → Prop} {w0 w wr : World} {g gn gr i d j : Nat} {s nm : ByteArray} {a' : Act} (hp : ∀ c (N : Option Tmp) v a w, Q (.panic c) (a.put N v) w → Q (.panic c) a w) (he : RElemOk s d) (hpos : ∀ i n m, elemV s d i = some (n, m) → i < m) (hd16 : d ≤ 16) (hsm : s.size ≤ 1073741824)
    (hgg : gn ≠ g) (hglt : g < w.heap.size) (hgnlt : gn < w.heap.size) (h0 : 0 < w0.heap.size) (hgw0 : w0.heap.size ≤ gn) (hi : i ≤ s.size) (hj : j = skip whiteV s i) (hF : RCoFr g gn gr d i a') (hR : RdF w0 wr g s j false) (hK : KeepBut w wr g (some gn)) (hbn : wr.heap[gn]? = some (.cells #[.string nm, .string ⟨#[]⟩, .slice none 0 0] 42 (0, 0)))
    (hQ : ∀ a' w' k b l t A c, RCoFr g gn gr d i a' → RdF w0 w' g s k b → KeepBut w w' g (some gn) → w'.heap[gn]? = some (.cells #[.string nm, .string t, .slice A l.length c] 42 (0, 0)) → l.length ≤ c → Kd.F k42 w' (fun k => w.heap.size ≤ k) A l.length (toRs l) → (b = false → k ≤ s.size) → (if b = true then none else endV s nm t l k) = outV s nm i (kidsV (elemV s d) (s.size + 1) s j []) → Q .normal a' w') {Kc : Act → World → Prop} (hKc : ∀ a w, (codeIn Tryd.f102 [1, 1, 1, 0, 1]).wp Tryd.prog Q a w → Kc a w) :
    (codeIn Tryd.f102 [1, 1, 1, 0, 0]).wp Tryd.prog (Exit.then Kc Q) a' wr := by
  have HPP := Aside0.mk hp
  have HQ := Aside0.mk hQ
  have HE := Aside0.mk he
  have HP := Aside0.mk hpos
  have HR := Aside0.mk hR
  have HK := Aside0.mk hK
  have HBN := Aside0.mk hbn
  have hsw := skip_le whiteV s i hi
  rw [← hj] at hsw
  have hij := hsw.1
  have hjs := hsw.2
  have HTL0 : Aside0 (kidV s j = false → outV s nm i (kidsV (elemV s d) (s.size + 1) s j []) = if (unV (s.extract i (skip ltV s j))).2 = true then endV s nm (unV (s.extract i (skip ltV s j))).1 [] (skip ltV s j) else none) := ⟨by rw [hj]; exact text_law hi⟩
  obtain ⟨u, rfl⟩ := hF
  have cA := hR.cell0
  have cB := hR.cell1
  have p0 : (0 : Int) ≤ (j : Int) := by omega
  have p1 : (0 : Int) ≤ (j : Int) + 1 := by omega
  have hwk : IntKind.i64.wrap ((j : Int) + 1) = (j : Int) + 1 := by simp [IntKind.wrap_i64]; omega
  have htn : ((j : Int) + 1).toNat = j + 1 := by omega
  clear hp hQ he hpos hR hK hbn hsw hj
  simp only [codeIn, Tryd.f102, Option.getD_some, codeAt] at hKc ⊢
  by_cases hlt : j + 1 < s.size
  · have hlti : (j : Int) + 1 < (s.size : Int) := by omega
    have hlj : j < s.size := by omega
    have hljt : (j : Int) < (s.size : Int) := by omega
    by_cases hc : bt s (j : Int) = 60
    · have hcn : ((s[j].toNat : Int) == 60) = true := by rw [← bt_get s j hlj, hc]; rfl
      by_cases hd : bt s ((j + 1 : Nat) : Int) = 47
      · have hdn : ((s[j + 1].toNat : Int) != 47) = false := by rw [← bt_get s (j + 1) hlt, hd]; rfl
        have HTL := Aside0.mk (HTL0.out (by unfold kidV; rw [hd]; simp))
        clear HTL0 hc hd
        go_upto_region 3 with (fail)
        refine wp_region_quiet_lit (by kernel_rfl) (by kernel_rfl) ?_
        repeat (go_big_quiet_step (fail))
        refine wpQuiet_nil ?_
        intro _ hw'
        obtain ⟨nq, hw''⟩ := hw'
        subst hw''
        go_upto_block 2 with (fail)
        rename_i Kl hKl
        refine rcont_scan (fun c_ N_ v_ a_ w_ h_ => HPP.out c_ N_ v_ a_ w_ h_) hsm hgg hglt hgnlt hgw0 RCoFr.mk (HR.out.drewN nq) hij hjs (keep_drewN HK.out nq) (blk_drewN HBN.out nq) ?_
        intro a2 w2 k hF2 hk2 hik hks hR2 hK2 hbn2
        refine hKl a2 w2 ?_
        refine rcont_r9 (fun c_ N_ v_ a_ w_ h_ => HPP.out c_ N_ v_ a_ w_ h_) hsm hgg hglt hgnlt hgw0 hF2 hR2 hik hks hK2 hbn2 ?_
        intro a3 w3 hF3 hR3 hK3 hbn3
        refine HQ.out a3 w3 k _ [] (unV (s.extract i k)).1 none 0 hF3 hR3 hK3 hbn3 (Nat.le_refl _) (by rw [toRs]; exact fun W_ _ => Kd.C_nil _ _) (fun _ => hks) ?_
        rw [HTL.out, ← hk2]
        cases (unV (s.extract i k)).2 <;> rfl
      · have hdn : ((s[j + 1].toNat : Int) != 47) = true := by rw [← bt_get s (j + 1) hlt]; simpa using hd
        have HKV : Aside0 (kidV s j = true) := ⟨by unfold kidV; rw [decide_eq_true hlt, hc]; simpa using hd⟩
        clear HTL0 hc hd
        go_upto_region 3 with (fail)
        refine wp_region_quiet_lit (by kernel_rfl) (by kernel_rfl) ?_
        repeat (go_big_quiet_step (fail))
        refine wpQuiet_nil ?_
        intro _ hw'
        obtain ⟨nq, hw''⟩ := hw'
        subst hw''
        go_wp2_with fail
        refine wp_loop_ghost_k (RContI w0 w g gn gr i d s nm j) (s.size + 1) ?_ ?_
        · exact ⟨RCoFr.mk, j, [], none, 0, false, HR.out.drewN _, keep_drewN HK.out _, ⟨blk_drewN HBN.out _, by rw [toRs]; exact Kd.N_nil _ _ _ _ _⟩, by simp, by rw [if_neg (by decide)]; exact ⟨hjs, rfl, by omega, fun _ => kidV_yes HKV.out⟩⟩
        · intro gk a' wr hI J K hJ hK
          refine rcont_round (fun c_ N_ v_ a_ w_ h_ => HPP.out c_ N_ v_ a_ w_ h_) HE.out HP.out hd16 hsm hgg hglt hgnlt h0 hgw0 hI ?_ ?_
          · intro a2 w2 k' hk' h2
            exact hK _ _ ⟨k', hk', hJ _ _ _ h2⟩
          · intro l k b A c a2 w2 hF2 hR2 hK2 hA2 hif
            refine HQ.out a2 w2 k b l ⟨#[]⟩ A c hF2 hR2 hK2 hA2.blk hA2.le hA2.f ?_ ?_
            · intro hb
              rw [if_neg (by rw [hb]; decide)] at hif
              exact hif.1
            · cases b with
              | true =>
                rw [if_pos rfl] at hif
                rw [hif, if_pos rfl]
              | false =>
                rw [if_neg (by decide)] at hif
                rw [hif.2.1, outV_kids hif.2.2, if_neg (by decide)]
    · have hcn : ((s[j].toNat : Int) == 60) = false := by rw [← bt_get s j hlj]; simpa using hc
      have HTL := Aside0.mk (HTL0.out (by unfold kidV; rw [show (bt s (j : Int) == 60) = false by simpa using hc]; simp))
      clear HTL0 hc
      go_upto_region 3 with (fail)
      refine wp_region_quiet_lit (by kernel_rfl) (by kernel_rfl) ?_
      repeat (go_big_quiet_step (fail))
      refine wpQuiet_nil ?_
      intro _ hw'
      obtain ⟨nq, hw''⟩ := hw'
      subst hw''
      go_upto_block 2 with (fail)
      rename_i Kl hKl
      refine rcont_scan (fun c_ N_ v_ a_ w_ h_ => HPP.out c_ N_ v_ a_ w_ h_) hsm hgg hglt hgnlt hgw0 RCoFr.mk (HR.out.drewN nq) hij hjs (keep_drewN HK.out nq) (blk_drewN HBN.out nq) ?_
      intro a2 w2 k hF2 hk2 hik hks hR2 hK2 hbn2
      refine hKl a2 w2 ?_
      refine rcont_r9 (fun c_ N_ v_ a_ w_ h_ => HPP.out c_ N_ v_ a_ w_ h_) hsm hgg hglt hgnlt hgw0 hF2 hR2 hik hks hK2 hbn2 ?_
      intro a3 w3 hF3 hR3 hK3 hbn3
      refine HQ.out a3 w3 k _ [] (unV (s.extract i k)).1 none 0 hF3 hR3 hK3 hbn3 (Nat.le_refl _) (by rw [toRs]; exact fun W_ _ => Kd.C_nil _ _) (fun _ => hks) ?_
      rw [HTL.out, ← hk2]
      cases (unV (s.extract i k)).2 <;> rfl
  · have hlti : ¬ (j : Int) + 1 < (s.size : Int) := by omega
    have HTL := Aside0.mk (HTL0.out (by unfold kidV; rw [decide_eq_false hlt]; simp))
    clear HTL0
    go_upto_region 3 with (fail)
    refine wp_region_quiet_lit (by kernel_rfl) (by kernel_rfl) ?_
    repeat (go_big_quiet_step (fail))
    refine wpQuiet_nil ?_
    intro _ hw'
    obtain ⟨nq, hw''⟩ := hw'
    subst hw''
    go_upto_block 2 with (fail)
    rename_i Kl hKl
    refine rcont_scan (fun c_ N_ v_ a_ w_ h_ => HPP.out c_ N_ v_ a_ w_ h_) hsm hgg hglt hgnlt hgw0 RCoFr.mk (HR.out.drewN nq) hij hjs (keep_drewN HK.out nq) (blk_drewN HBN.out nq) ?_
    intro a2 w2 k hF2 hk2 hik hks hR2 hK2 hbn2
    refine hKl a2 w2 ?_
    refine rcont_r9 (fun c_ N_ v_ a_ w_ h_ => HPP.out c_ N_ v_ a_ w_ h_) hsm hgg hglt hgnlt hgw0 hF2 hR2 hik hks hK2 hbn2 ?_
    intro a3 w3 hF3 hR3 hK3 hbn3
    refine HQ.out a3 w3 k _ [] (unV (s.extract i k)).1 none 0 hF3 hR3 hK3 hbn3 (Nat.le_refl _) (by rw [toRs]; exact fun W_ _ => Kd.C_nil _ _) (fun _ => hks) ?_
    rw [HTL.out, ← hk2]
    cases (unV (s.extract i k)).2 <;> rfl
theorem rcont_results {T : Array Value} {w : World} {gn : Nat} {x y z : Value} (h6 : T.getD 6 undef = .pointer (some ⟨gn, 0, none⟩)) (hb : w.heap[gn]? = some (.cells #[x, y, z] 42 (0, 0))) :
    (results Tryd.f102 T).run Tryd.prog w = .ok (.agg #[x, y, z]) w := by
  have h := run_loadVar_row (P := Tryd.prog) w gn 42 42 #[x, y, z] (0, 0) _ hb Tryd.underlying42 rfl (by kernel_rfl)
  have h5 : T[6]?.getD undef = .pointer (some ⟨gn, 0, none⟩) := by rw [← h6]; simp
  simp [results, Tryd.f102, h5, asAddr, h, Result.andThen]
theorem rcont_end {w0 w : World} {g : Nat} {s : ByteArray} {o : Option (S36 × Nat)} : RCoEnd w0 w g s o (bodyPost Tryd.prog Tryd.f102 (RElemPost w0 w g s o)) := by
  intro a' w' gr x A c b j h1 h2 h3 h4 h5 h6 h7 h8
  exact bodyPost_ret (rcont_results h2 h3) h1 ⟨x, A, c, b, j, rfl, h4, h5, h6, h7, h8⟩
set_option maxHeartbeats 4000000 in
set_option maxRecDepth 1000000 in
theorem rcont_step {d : Nat} {s : ByteArray} (he : RElemOk s d) (hpos : ∀ i n m, elemV s d i = some (n, m) → i < m) (hd16 : d ≤ 16) : RContOk s d := by
  intro w0 w g i nm hnmv h hi h0
  have hu42 := Tryd.underlying42
  have HE := Aside0.mk he
  have HP := Aside0.mk hpos
  have HNM := Aside0.mk hnmv
  have hsm := h.small
  have hlt := h.lt
  have hge := h.ge
  obtain ⟨gn, hgn⟩ : ∃ gn, gn = w.heap.size := ⟨_, rfl⟩
  obtain ⟨w1, hw1⟩ : ∃ w1, w1 = w.alloc (.cells #[.string nm, .string ⟨#[]⟩, .slice none 0 0] 42) := ⟨_, rfl⟩
  have hb1 : Below w.heap.size w w1 := by rw [hw1]; exact below_alloc (Below.refl _ _) _
  have hs1 : w1.heap.size = w.heap.size + 1 := by rw [hw1, World.size_alloc]
  obtain ⟨gr, hgr⟩ : ∃ gr, gr = w1.heap.size := ⟨_, rfl⟩
  obtain ⟨w2, hw2⟩ : ∃ w2, w2 = w1.alloc (.cells #[.string ⟨#[]⟩, .string ⟨#[]⟩, .slice none 0 0] 42) := ⟨_, rfl⟩
  have hb2 : Below w1.heap.size w1 w2 := by rw [hw2]; exact below_alloc (Below.refl _ _) _
  have hs2 : w2.heap.size = w1.heap.size + 1 := by rw [hw2, World.size_alloc]
  have hbn1 : w1.heap[gn]? = some (.cells #[.string nm, .string ⟨#[]⟩, .slice none 0 0] 42 (0, 0)) := by rw [hw1, hgn]; exact heap_alloc_new w _
  have hbn2 := blk_below hbn1 hb2
  have HBN2 := Aside0.mk hbn2
  have HBR2 : Aside0 (w2.heap[gr]? = some (.cells #[.string ⟨#[]⟩, .string ⟨#[]⟩, .slice none 0 0] 42 (0, 0))) := ⟨by rw [hw2, hgr]; exact heap_alloc_new w1 _⟩
  have hR2 := (h.stays hb1).stays hb2
  have HR2 := Aside0.mk hR2
  have HB2 : Aside0 (KeepBut w w2 g none) := ⟨(KeepBut.of_below hb1 g none).trans (KeepBut.of_below hb2 g none) (.inl rfl)⟩
  have c1 := h.cell1
  have HGR2 : Aside0 (gr = gn + 1) := ⟨by omega⟩
  have hgg : gn ≠ g := by omega
  have hrg : gr ≠ g := by omega
  have hgnr : gn ≠ gr := by omega
  have hgnlt : gn < w2.heap.size := by omega
  have hrlt : gr < w2.heap.size := by omega
  have hglt2 : g < w2.heap.size := by omega
  have hgw : w.heap.size ≤ gn := by omega
  have hrw : w.heap.size ≤ gr := by omega
  have hgw0 : w0.heap.size ≤ gn := by omega
  have hrw0 : w0.heap.size ≤ gr := by omega
  have hww2 : w.heap.size ≤ w2.heap.size := by omega
  have HGN := Aside0.mk hgn
  have HGR := Aside0.mk hgr
  have HW1 := Aside0.mk hw1
  have HW2 := Aside0.mk hw2
  clear he hpos hnmv h hgn hgr hw1 hw2 hb1 hb2 hs1 hs2 hbn1 hbn2 hR2 hge
  go_enter Tryd.func102, Tryd.ntmps102
  go_wp2_with fail
  rw [← HW1.out, ← HW2.out, ← HGN.out, ← HGR2.out]
  refine (rskip_calls HR2.out).mono ?_
  rintro e w3 ⟨rfl, hR3, hk3⟩
  obtain ⟨j, hj⟩ : ∃ j, j = skip whiteV s i := ⟨_, rfl⟩
  rw [← hj] at hR3
  have HJ := Aside0.mk hj
  have HR3 := Aside0.mk hR3
  have HK3 : Aside0 (KeepBut w2 w3 g (some gn)) := ⟨keepWeak hk3 _⟩
  have HBN3 := Aside0.mk (hk3.blk HBN2.out hgg (by simp))
  clear hj hR3 hk3 c1
  go_upto_region 3 with (fail)
  rename_i Kl hKl Kc hKc
  refine rcont_mid (Q := Exit.then Kl _) (fun c_ N_ _ _ w_ h_ => by cases N_ <;> exact h_) HE.out HP.out hd16 hsm hgg hglt2 hgnlt h0 hgw0 hi HJ.out RCoFr.mk HR3.out HK3.out HBN3.out ?_ hKc
  intro a' w4 k b l t A c hF4 hR4 hK4 hbn4 hle4 hf4 hk4 hout
  refine hKl a' w4 ?_
  have hKw : KeepBut w w4 g none := ⟨Nat.le_trans hww2 hK4.1, fun i_ hi_ h1 h2 => (hK4.2 i_ (by omega) h1 (by intro e_; injection e_ with e_; omega)).trans (HB2.out.2 i_ hi_ h1 h2)⟩
  have hbr4 : w4.heap[gr]? = some (.cells #[.string ⟨#[]⟩, .string ⟨#[]⟩, .slice none 0 0] 42 (0, 0)) := (hK4.2 gr hrlt hrg (by intro e_; injection e_ with e_; exact hgnr e_.symm)).trans HBR2.out
  refine rcont_tail (fun c_ N_ _ _ w_ h_ => by cases N_ <;> exact h_) hsm HNM.out hgg hrg hgnr hlt hgw hrw hgw0 hrw0 hk4 hF4 hR4 hKw hbn4 hle4 (Kd.F_mono hf4 (fun k_ hk_ => ⟨by omega, by omega⟩)) ⟨_, _, _, hbr4⟩ ?_
  rw [hout]
  have hC : outV s nm i (kidsV (elemV s d) (s.size + 1) s j []) = (match contV (elemV s d) s i with | some (t, kids, m) => endV s nm t kids m | none => none) := by
    unfold outV contV
    rw [HJ.out]
    first | done | rfl
  rw [hC]
  exact rcont_end
set_option maxHeartbeats 4000000 in
set_option maxRecDepth 1000000 in
theorem relem_zero {s : ByteArray} {w0 w : World} {g i : Nat} (h : RdF w0 w g s i false) (hi : i ≤ s.size) (h0 : 0 < w0.heap.size) :
    Calls Tryd.prog 53 #[.pointer (some ⟨g, 0, none⟩), .int .i64 17] w (RElemPost w0 w g s none) := by
  have hu42 := Tryd.underlying42
  have hsm := h.small
  have hlt := h.lt
  have hge := h.ge
  have HH := Aside0.mk h
  have hq16 : decide ((16 : Int) < 17) = true := decide_eq_true (by omega)
  have fB : w.frozen? ⟨g, 2, none⟩ = false := h.frozen 2
  have cB : w.cell? ⟨g, 2, none⟩ = some (.bool false) := h.cell2
  clear h
  go_enter Tryd.func53, Tryd.ntmps53
  go_wp2_with fail
  have hn := heap_alloc_new (w.setCell ⟨g, 2, none⟩ (.bool true)) (.cells #[.string ⟨#[]⟩, .string ⟨#[]⟩, .slice none 0 0] 42)
  rw [World.size_setCell] at hn
  have hb' : Below (w.setCell ⟨g, 2, none⟩ (.bool true)).heap.size (w.setCell ⟨g, 2, none⟩ (.bool true)) ((w.setCell ⟨g, 2, none⟩ (.bool true)).alloc (.cells #[.string ⟨#[]⟩, .string ⟨#[]⟩, .slice none 0 0] 42)) := below_alloc (Below.refl _ _) _
  exact relem_end _ _ w.heap.size ⟨⟨#[]⟩, ⟨#[]⟩, []⟩ none 0 true i rfl rfl hn (Nat.le_refl _) (fun W_ _ => Kd.C_nil _ _) ((HH.out.mark true).stays hb') (((KeepBut.refl w g none).set_ 2 _).trans (KeepBut.of_below hb' g none) (.inl rfl)) rfl
theorem relem_ok (s : ByteArray) : ∀ d, d ≤ 16 → RElemOk s d
  | 0, _ => by
    intro w0 w g i h hi h0
    exact relem_zero h hi h0
  | d + 1, hd => by
    intro w0 w g i h hi h0
    have h1 := relem_step (rcont_step (relem_ok s d (by omega)) (elemV_gt s d) (by omega)) (by omega) h hi h0
    have h2 : (16 - ((d + 1 : Nat) : Int) + 1) = 16 - (d : Int) := by omega
    rw [h2]
    exact h1
def NewRef (w w' : World) (n : S36) (v : Value) : Prop := ∃ (A : Option Addr) (c : Nat), v = .agg #[.string n.f0, .string n.f1, .slice A (toRs n.f2).length c] ∧ (toRs n.f2).length ≤ c ∧ Kd.F k42 w' (fun k => w.heap.size ≤ k) A (toRs n.f2).length (toRs n.f2)
def RParsePost (w : World) (s : ByteArray) (e : Ending) (w' : World) : Prop := ∃ v, e = .returned (.tuple #[v, .int .i64 (parseV s).2]) ∧ NewRef w w' (parseV s).1 v ∧ Below w.heap.size w w'
theorem NewRef.zero (w w' : World) : NewRef w w' z36 (.agg #[.string ⟨#[]⟩, .string ⟨#[]⟩, .slice none 0 0]) := ⟨none, 0, by rw [show z36.f2 = [] from rfl, toRs]; rfl, by rw [show z36.f2 = [] from rfl, toRs]; exact Nat.le_refl _, by rw [show z36.f2 = [] from rfl, toRs]; exact fun W_ _ => Kd.C_nil _ _⟩
theorem RParsePost.no {w w' : World} {s : ByteArray} {c : Int} (h : parseV s = (z36, c)) (hb : Below w.heap.size w w') : RParsePost w s (.returned (.tuple #[.agg #[.string ⟨#[]⟩, .string ⟨#[]⟩, .slice none 0 0], .int .i64 c])) w' := ⟨_, by rw [h], by rw [h]; exact NewRef.zero _ _, hb⟩
theorem rparse_results {T : Array Value} {w : World} {gn : Nat} {x y z u : Value} (h2 : T.getD 2 undef = .pointer (some ⟨gn, 0, none⟩)) (h3 : T.getD 3 undef = u) (hb : w.heap[gn]? = some (.cells #[x, y, z] 42 (0, 0))) :
    (results Tryd.f17 T).run Tryd.prog w = .ok (.tuple #[.agg #[x, y, z], u]) w := by
  rw [results_cell_tmp (p := 2) (u := 3) (ty := 42) rfl, h2, h3]
  have h := run_loadVar_row (P := Tryd.prog) w gn 42 42 #[x, y, z] (0, 0) _ hb Tryd.underlying42 rfl (by kernel_rfl)
  simp [asAddr, h, Result.andThen]
theorem blk42_set3 {w : World} {g : Nat} {a b c a' b' c' : Value} (h : w.heap[g]? = some (.cells #[a, b, c] 42 (0, 0))) :
    (((w.setCell ⟨g, 0, none⟩ a').setCell ⟨g, 1, none⟩ b').setCell ⟨g, 2, none⟩ c').heap[g]? = some (.cells #[a', b', c'] 42 (0, 0)) := blk_put (blk_put (blk_put h 0 _ rfl) 1 _ rfl) 2 _ rfl
set_option maxHeartbeats 4000000 in
set_option maxRecDepth 1000000 in
theorem rparse_calls (s : ByteArray) (w : World) (hs : s.size ≤ 140737488351232) : Calls Tryd.prog 17 #[.string s] w (RParsePost w s) := by
  have hu42 := Tryd.underlying42
  have hmax : s.size ≤ 9223372036854775807 := by omega
  by_cases hL : 65536 < s.size
  · have hL2 : (65536 : Int) < (s.size : Int) := by omega
    have HP : Aside0 (parseV s = (z36, 2)) := ⟨by rw [parseV, if_pos hL]⟩
    clear hL
    go_enter Tryd.func17, Tryd.ntmps17
    go_wp2_with fail
    exact bodyPost_ret (rparse_results rfl rfl (heap_alloc_new w _)) rfl (RParsePost.no HP.out (below_alloc (Below.refl _ _) _))
  · have hL2 : ¬ ((65536 : Int) < (s.size : Int)) := by omega
    have hsm : s.size ≤ 1073741824 := by omega
    obtain ⟨gr, hgr⟩ : ∃ gr, gr = w.heap.size := ⟨_, rfl⟩
    obtain ⟨W1, hW1⟩ : ∃ W1, W1 = w.alloc (.cells #[.string ⟨#[]⟩, .string ⟨#[]⟩, .slice none 0 0] 42) := ⟨_, rfl⟩
    obtain ⟨W2, hW2⟩ : ∃ W2, W2 = W1.alloc (.cells #[.string s, .int .i64 0, .bool false] 94) := ⟨_, rfl⟩
    have hW1s : W1.heap.size = w.heap.size + 1 := by rw [hW1]; simp
    have hb1 : Below w.heap.size w W1 := by rw [hW1]; exact below_alloc (Below.refl _ _) _
    have hc1 : W1.heap[gr]? = some (.cells #[.string ⟨#[]⟩, .string ⟨#[]⟩, .slice none 0 0] 42 (0, 0)) := by rw [hW1, hgr]; exact heap_alloc_new w _
    have hR2 : RdF W1 W2 (gr + 1) s 0 false := by
      rw [hgr, ← hW1s, hW2]
      exact ⟨IsS94.new W1 W1 s 0 false (Below.refl _ _), below_alloc (Below.refl _ _) _, hsm⟩
    have h00 : 0 < W1.heap.size := by omega
    have HL := Aside0.mk (refLegal_calls s hsm W2)
    have HR2 := Aside0.mk hR2
    have HB1 := Aside0.mk hb1
    have HC1 := Aside0.mk hc1
    have HS1 := Aside0.mk hW1s
    have HGR := Aside0.mk hgr
    have HW1 := Aside0.mk hW1
    have HW2 := Aside0.mk hW2
    have hspec : parseV s = if legalV s = false then (z36, 130) else match beginV s with | some j => docV s j | none => (z36, 130) := by rw [parseV, if_neg hL]; first | done | rfl
    have HS := Aside0.mk hspec
    clear hL hR2 hb1 hc1 hW1s hgr hW1 hW2 hspec hs
    go_enter Tryd.func17, Tryd.ntmps17
    go_wp2_with fail
    rw [← HW1.out, ← HW2.out, ← HGR.out]
    have HGR2 : Aside0 (gr < W1.heap.size) := ⟨by rw [HS1.out, HGR.out]; omega⟩
    refine HL.out.mono ?_
    rintro e w3 ⟨rfl, n3, rfl⟩
    have HR3 : Aside0 (RdF W1 (W2.drewN n3) (gr + 1) s 0 false) := ⟨HR2.out.drewN n3⟩
    generalize W2.drewN n3 = w3 at HR3 ⊢
    clear HR2 HL
    have hno : ∀ (w' : World) (c : Int), parseV s = (z36, c) → Below W1.heap.size W1 w' → RParsePost w s (.returned (.tuple #[.agg #[.string ⟨#[]⟩, .string ⟨#[]⟩, .slice none 0 0], .int .i64 c])) (((w'.setCell ⟨gr, 0, none⟩ (.string ⟨#[]⟩)).setCell ⟨gr, 1, none⟩ (.string ⟨#[]⟩)).setCell ⟨gr, 2, none⟩ (.slice none 0 0)) := fun w' c h hb => by
      have h1 := below_then HB1.out HB1.out.size hb
      have h2 : w.heap.size ≤ gr := by rw [HGR.out]; exact Nat.le_refl _
      exact RParsePost.no h (((h1.setCell (p := ⟨gr, 0, none⟩) h2 _).setCell (p := ⟨gr, 1, none⟩) h2 _).setCell (p := ⟨gr, 2, none⟩) h2 _)
    have HNO := Aside0.mk hno
    clear hno
    cases hl : legalV s with
    | false =>
      have HP : Aside0 (parseV s = (z36, 130)) := ⟨by rw [HS.out, if_pos hl]⟩
      have hcr : w3.heap[gr]? = some (.cells #[.string ⟨#[]⟩, .string ⟨#[]⟩, .slice none 0 0] 42 (0, 0)) := blk_below HC1.out HR3.out.below
      clear hl
      have cz0 := blk_cell hcr 0
      have cz1 := blk_cell hcr 1
      have cz2 := blk_cell hcr 2
      have fz0 := blk_frozen hcr 0
      have fz1 := blk_frozen hcr 1
      have fz2 := blk_frozen hcr 2
      have HCR := Aside0.mk hcr
      clear hcr
      go_wp2_with fail
      exact bodyPost_ret (rparse_results rfl rfl (x := .string ⟨#[]⟩) (y := .string ⟨#[]⟩) (z := .slice none 0 0) (blk42_set3 HCR.out)) rfl (HNO.out _ _ HP.out HR3.out.below)
    | true =>
      have HS' : Aside0 (parseV s = match beginV s with | some j => docV s j | none => (z36, 130)) := ⟨by rw [HS.out, if_neg (by rw [hl]; decide)]⟩
      clear hl HS
      go_wp2_with fail
      refine (rprolog_calls HR3.out).mono ?_
      rintro e w4 ⟨ok, j, rfl, hR4, hk4, hjs, hm⟩
      have HR4 := Aside0.mk hR4
      have hcr : w4.heap[gr]? = some (.cells #[.string ⟨#[]⟩, .string ⟨#[]⟩, .slice none 0 0] 42 (0, 0)) := blk_below HC1.out hR4.below
      clear hR4 hk4 HR3
      cases ok with
      | false =>
        have HP : Aside0 (parseV s = (z36, 130)) := ⟨by
          rw [HS'.out]
          cases hbv : beginV s with
          | none => rfl
          | some n => rw [hbv] at hm; exact absurd hm.1 (by decide)⟩
        have cz0 := blk_cell hcr 0
        have cz1 := blk_cell hcr 1
        have cz2 := blk_cell hcr 2
        have fz0 := blk_frozen hcr 0
        have fz1 := blk_frozen hcr 1
        have fz2 := blk_frozen hcr 2
        have HCR := Aside0.mk hcr
        clear hcr hm
        go_wp2_with fail
        exact bodyPost_ret (rparse_results rfl rfl (x := .string ⟨#[]⟩) (y := .string ⟨#[]⟩) (z := .slice none 0 0) (blk42_set3 HCR.out)) rfl (HNO.out _ _ HP.out HR4.out.below)
      | true =>
        obtain ⟨j1, hj1⟩ : ∃ j1, j1 = skip whiteV s j := ⟨_, rfl⟩
        have HS3 : Aside0 (parseV s = match elemV s 16 j1 with | some (n, m) => if skip whiteV s m = s.size then (n, 0) else (z36, 130) | none => (z36, 130)) := ⟨by
          rw [HS'.out]
          cases hbv : beginV s with
          | none =>
            rw [hbv] at hm
            rw [hj1, hm rfl]
          | some n =>
            rw [hbv] at hm
            show docV s n = _
            unfold docV
            rw [hj1, hm.2]
            first | done | rfl⟩
        have hj1s : j1 ≤ s.size := by rw [hj1]; exact (skip_le whiteV s j hjs).2
        have HJ1 := Aside0.mk hj1
        clear hcr hm HS' hj1
        go_wp2_with fail
        refine (rskip_calls HR4.out).mono ?_
        rintro e w5 ⟨rfl, h5, hk5⟩
        rw [← HJ1.out] at h5
        have hE := relem_ok s 16 (Nat.le_refl _) W1 w5 (gr + 1) j1 h5 hj1s h00
        rw [show (16 - ((16 : Nat) : Int) + 1) = 1 from rfl] at hE
        have HEl := Aside0.mk hE
        have hw5 : W1.heap.size ≤ w5.heap.size := h5.below.size
        have hgr5 : gr + 1 < w5.heap.size := h5.lt
        clear hk5 hE h5 HR4
        go_wp2_with fail
        refine HEl.out.mono ?_
        rintro e w6 ⟨x, A, c, b, m, rfl, hle, hF6, hR6, hk6, hm6⟩
        obtain ⟨gk, hgk⟩ : ∃ gk, gk = w6.heap.size := ⟨_, rfl⟩
        obtain ⟨w7, hw7⟩ : ∃ w7, w7 = w6.alloc (.cells #[.string x.f0, .string x.f1, .slice A x.f2.length c] 42) := ⟨_, rfl⟩
        have hb67 : Below w6.heap.size w6 w7 := by
          rw [hw7]
          exact below_alloc (Below.refl _ _) _
        have hbk : w7.heap[gk]? = some (.cells #[.string x.f0, .string x.f1, .slice A x.f2.length c] 42 (0, 0)) := by
          rw [hw7, hgk]
          exact heap_alloc_new w6 _
        have hgkr : gk ≠ gr + 1 := by have := hk6.1; omega
        have HR7 := Aside0.mk (hR6.stays hb67)
        have HF7 := Aside0.mk (Kd.F_below hF6 hb67)
        have HBK := Aside0.mk hbk
        have HM6 := Aside0.mk hm6
        have HGK := Aside0.mk hgk
        have HW7 := Aside0.mk hw7
        have HLE := Aside0.mk hle
        clear hle hF6 hR6 hk6 hm6 hgk hw7 hb67 hbk HEl
        go_wp2_with fail
        rw [← HGK.out, ← HW7.out]
        refine (rskip_calls HR7.out).mono ?_
        rintro e w8 ⟨rfl, hR8, hk8⟩
        have hbk8 : w8.heap[gk]? = some (.cells #[.string x.f0, .string x.f1, .slice A x.f2.length c] 42 (0, 0)) := hk8.blk HBK.out hgkr (by simp)
        have hcr : w8.heap[gr]? = some (.cells #[.string ⟨#[]⟩, .string ⟨#[]⟩, .slice none 0 0] 42 (0, 0)) := blk_below HC1.out hR8.below
        have cz0 := blk_cell hcr 0
        have cz1 := blk_cell hcr 1
        have cz2 := blk_cell hcr 2
        have fz0 := blk_frozen hcr 0
        have fz1 := blk_frozen hcr 1
        have fz2 := blk_frozen hcr 2
        have ck0 := blk_cell hbk8 0
        have ck1 := blk_cell hbk8 1
        have ck2 := blk_cell hbk8 2
        have cat := hR8.cell1
        have cbd := hR8.cell2
        have HCR := Aside0.mk hcr
        have HR8 := Aside0.mk hR8
        have HF8 := Aside0.mk (Kd.F_keep HF7.out hk8 (fun k hk he => by have : w5.heap.size ≤ k := hk; omega))
        obtain ⟨m2, hm2⟩ : ∃ m2, m2 = skip whiteV s m := ⟨_, rfl⟩
        have HM2 := Aside0.mk hm2
        rw [← hm2] at cat
        clear hcr hR8 hk8 HF7 HR7 HW7 hbk8 hm2
        have h6 := HM6.out
        cases hev : elemV s 16 j1 with
        | none =>
          rw [hev] at h6
          obtain rfl : b = true := h6
          have HP : Aside0 (parseV s = (z36, 130)) := ⟨by rw [HS3.out, hev]⟩
          clear hev HM6 HS3
          go_wp2_with fail
          exact bodyPost_ret (rparse_results rfl rfl (x := .string ⟨#[]⟩) (y := .string ⟨#[]⟩) (z := .slice none 0 0) (blk42_set3 HCR.out)) rfl (HNO.out _ _ HP.out HR8.out.below)
        | some r =>
          obtain ⟨n0, m0⟩ := r
          rw [hev] at h6
          obtain ⟨rfl, h60, h61, h62⟩ := h6
          have HS4 : Aside0 (parseV s = if m2 = s.size then (n0, 0) else (z36, 130)) := ⟨by rw [HS3.out, hev, HM2.out, h61]⟩
          have HX := Aside0.mk h60
          clear hev HM6 HS3 h60 h61 h62 HM2
          by_cases hend : m2 = s.size
          · have HP : Aside0 (parseV s = (n0, 0)) := ⟨by rw [HS4.out, if_pos hend]⟩
            subst hend
            clear HS4
            go_wp2_with fail
            refine bodyPost_ret (rparse_results rfl rfl (x := .string x.f0) (y := .string x.f1) (z := .slice A x.f2.length c) (blk42_set3 HCR.out)) rfl ?_
            have hgr0 : w.heap.size ≤ gr := by rw [HGR.out]; exact Nat.le_refl _
            have hgrw : gr < w5.heap.size := by omega
            refine ⟨_, by rw [HP.out]; rfl, ?_, (((below_then HB1.out HB1.out.size HR8.out.below).setCell (p := ⟨gr, 0, none⟩) hgr0 _).setCell (p := ⟨gr, 1, none⟩) hgr0 _).setCell (p := ⟨gr, 2, none⟩) hgr0 _⟩
            rw [HP.out]
            have hs1 := HS1.out
            have hf := HF8.out
            have hl := HLE.out
            have hx := HX.out
            rw [toR_mk] at hx
            subst hx
            have hfar : ∀ k, w5.heap.size ≤ k → k ≠ gr := fun k hk he => by omega
            exact ⟨A, c, rfl, hl, Kd.F_mono (Kd.F_far (p := ⟨gr, 2, none⟩) (Kd.F_far (p := ⟨gr, 1, none⟩) (Kd.F_far (p := ⟨gr, 0, none⟩) hf hfar _) hfar _) hfar _) (fun k hk => by omega)⟩
          · have HP : Aside0 (parseV s = (z36, 130)) := ⟨by rw [HS4.out, if_neg hend]⟩
            have hne : ((m2 : Int) != (s.size : Int)) = true := by simp; omega
            have hne2 : ((m2 : Int) == (s.size : Int)) = false := by simp; omega
            clear HS4 hend
            go_wp2_with fail
            exact bodyPost_ret (rparse_results rfl rfl (x := .string ⟨#[]⟩) (y := .string ⟨#[]⟩) (z := .slice none 0 0) (blk42_set3 HCR.out)) rfl (HNO.out _ _ HP.out HR8.out.below)
end Go.Proofs.YtkhjpobhdpcglaaDoor.X
end
