/- stowagelaw13.XmlTexts holds for every text of bulk at most 1048576 (its second form): part 4 of what its proof leans on. -/
import Derived.Test.YtkhjpobhdpcglaaDoorBXmlTexts1
import Derived.Test.YtkhjpobhdpcglaaDoorBXmlTexts2
import Derived.Test.YtkhjpobhdpcglaaDoorBXmlTexts3
section
namespace Go.Proofs.YtkhjpobhdpcglaaDoor.X
open Go.RowKit Go.Proofs.YtkhjpobhdpcglaaDoorW.PrintWords Go.Proofs.YtkhjpobhdpcglaaDoorW.PrintLast Go.Proofs.YtkhjpobhdpcglaaDoorW.PrintMore
set_option linter.unusedVariables false
set_option linter.unusedSimpArgs false

theorem refLetter_f (c : Int) : stowageref13_letter.f c = some (letterV c) := letter_f c
theorem refInner_f (c : Int) : stowageref13_inner.f c = some (innerV c) := by
  have := inner_f c
  unfold xml_inner.f at this
  unfold stowageref13_inner.f
  exact this
theorem w64 (j : Nat) (h : j ≤ 4611686018427387904) : wrap64 ((j : Int) + 1) = ((j + 1 : Nat) : Int) := by unfold wrap64; omega
theorem refName_l (s : ByteArray) (hs : s.size ≤ 1073741824) (hl : letterV (bt s 0) = true) : ∀ (r j k : Nat), r + j = s.size → r < k → stowageref13_Name.l0 k s (j : Int) = some (nameB s r j) := by
  intro r
  induction r with
  | zero =>
    intro j k hj hk
    obtain ⟨k, rfl⟩ : ∃ m, k = m + 1 := ⟨k - 1, by omega⟩
    simp only [stowageref13_Name.l0]
    rw [if_neg (by omega), nameB_end _ _ _ (by omega)]
    by_cases hz : s.size = 0
    · rw [if_neg (by omega)]
      simp [hz]
    · rw [if_pos (by omega), if_pos (by omega), refLetter_f, hl]
      simp [hz]
  | succ r ih =>
    intro j k hj hk
    obtain ⟨k, rfl⟩ : ∃ m, k = m + 1 := ⟨k - 1, by omega⟩
    simp only [stowageref13_Name.l0]
    rw [if_pos (by omega), if_pos (by omega), refInner_f, w64 j (by omega), ih (j + 1) k (by omega) (by omega)]
    rw [nameB, if_pos (by omega)]
    have h0 : (decide (j ≠ 0) || letterV (bt s (j : Int))) = true := by
      by_cases hz : j = 0
      · subst hz
        simpa using hl
      · simp [hz]
    rw [h0]
    cases innerV (bt s (j : Int)) <;> simp
theorem refName_no (s : ByteArray) (hs : s.size ≤ 1073741824) (hl : letterV (bt s 0) = false) : ∀ (r j k : Nat), r + j = s.size → r < k → stowageref13_Name.l0 k s (j : Int) = some false := by
  intro r
  induction r with
  | zero =>
    intro j k hj hk
    obtain ⟨k, rfl⟩ : ∃ m, k = m + 1 := ⟨k - 1, by omega⟩
    simp only [stowageref13_Name.l0]
    rw [if_neg (by omega)]
    by_cases hz : s.size = 0
    · rw [if_neg (by omega)]
    · rw [if_pos (by omega), if_pos (by omega), refLetter_f, hl]
      rfl
  | succ r ih =>
    intro j k hj hk
    obtain ⟨k, rfl⟩ : ∃ m, k = m + 1 := ⟨k - 1, by omega⟩
    simp only [stowageref13_Name.l0]
    rw [if_pos (by omega), if_pos (by omega), refInner_f, w64 j (by omega), ih (j + 1) k (by omega) (by omega)]
    cases innerV (bt s (j : Int)) <;> simp
theorem refName_f (s : ByteArray) (hs : s.size ≤ 1073741824) : stowageref13_Name.f (s.size + 1) s = some (nameV s) := by
  unfold stowageref13_Name.f nameV
  cases hl : letterV (bt s 0) with
  | true => exact refName_l s hs hl s.size 0 _ (by omega) (by omega)
  | false =>
    have h1 := refName_no s hs hl s.size 0 (s.size + 1) (by omega) (by omega)
    have h2 : nameB s s.size 0 = false := by
      cases hz : s.size with
      | zero => simp [nameB, hz]
      | succ r =>
        rw [nameB, if_pos (by omega)]
        have : letterV (bt s ((0 : Nat) : Int)) = false := hl
        rw [this]
        simp
    rw [h2]
    exact h1
theorem refName_calls (s : ByteArray) (hs : s.size ≤ 1073741824) (w : World) : Calls Tryd.prog 24 #[.string s] w fun e w' => e = .returned (.bool (nameV s)) ∧ Drawn0 w w' :=
  stowageref13_Name.calls _ s _ w (refName_f s hs)

theorem bt_get (s : ByteArray) (j : Nat) (h : j < s.size) : bt s (j : Int) = ((s[j]'h).toNat : Int) := by simp [bt, h]
theorem drop_get (s : ByteArray) (j : Nat) (h : j < s.size) : s.data.toList.drop j = s[j] :: s.data.toList.drop (j + 1) := by
  rw [List.drop_eq_getElem_cons (by rw [Array.length_toList]; exact h)]
  rfl
theorem ba_ext {a b : ByteArray} (h : a.data.toList = b.data.toList) : a = b := by
  obtain ⟨⟨a⟩⟩ := a
  obtain ⟨⟨b⟩⟩ := b
  simpa using h
theorem size_list (s : ByteArray) : s.size = s.data.toList.length := by rw [Array.length_toList]; rfl
theorem ext_one (s : ByteArray) (j : Nat) (h : j < s.size) : (s.extract j (j + 1)).data.toList = [s[j]] := by
  apply List.ext_getElem
  · rw [← size_list]; simp; omega
  · intro i h1 h2
    simp at h2
    subst h2
    simp
    rfl
theorem refEscape_l (s : ByteArray) (hs : s.size ≤ 1073741824) : ∀ (r j k : Nat) (acc : ByteArray), r + j = s.size → r < k → acc.size ≤ 6 * j → stowageref13_Escape.l0 k s acc (j : Int) = some ⟨(acc.data.toList ++ escL (s.data.toList.drop j)).toArray⟩ := by
  intro r
  induction r with
  | zero =>
    intro j k acc hj hk ha
    obtain ⟨k, rfl⟩ : ∃ m, k = m + 1 := ⟨k - 1, by omega⟩
    simp only [stowageref13_Escape.l0]
    rw [if_neg (by omega), List.drop_of_length_le (by rw [← size_list]; omega)]
    congr 1
    apply ba_ext
    simp [escL]
  | succ r ih =>
    intro j k acc hj hk ha
    obtain ⟨k, rfl⟩ : ∃ m, k = m + 1 := ⟨k - 1, by omega⟩
    have hjl : j < s.size := by omega
    have step : ∀ (t : ByteArray), t.size ≤ 6 → t.data.toList = escU s[j] → stowageref13_Escape.l0 k s (acc ++ t) (wrap64 ((j : Int) + 1)) = some ⟨(acc.data.toList ++ escL (s.data.toList.drop j)).toArray⟩ := by
      intro t ht he
      rw [w64 j (by omega), ih (j + 1) k (acc ++ t) (by omega) (by omega) (by rw [ByteArray.size_append]; omega), drop_get s j hjl]
      congr 1
      apply ba_ext
      simp [escL, he]
    have hb := bt_get s j hjl
    have no : ∀ (c : Nat), c < 256 → ¬ bt s (j : Int) = (c : Int) → (s[j] == c.toUInt8) = false := fun c hc h => u8_no hc (by rw [← hb]; simpa using h)
    have yes : ∀ (c : Nat), c < 256 → bt s (j : Int) = (c : Int) → s[j] = c.toUInt8 := fun c hc h => u8_yes hc (by rw [← hb]; simpa using h)
    simp only [stowageref13_Escape.l0]
    rw [if_pos (by omega), if_pos (by omega)]
    by_cases h1 : bt s (j : Int) = 38
    · rw [if_pos h1, if_pos (by omega)]
      exact step _ (by decide) (by rw [yes 38 (by omega) h1]; rfl)
    · rw [if_neg h1]
      by_cases h2 : bt s (j : Int) = 60
      · rw [if_pos h2, if_pos (by omega)]
        exact step _ (by decide) (by rw [yes 60 (by omega) h2]; rfl)
      · rw [if_neg h2]
        by_cases h3 : bt s (j : Int) = 62
        · rw [if_pos h3, if_pos (by omega)]
          exact step _ (by decide) (by rw [yes 62 (by omega) h3]; rfl)
        · rw [if_neg h3]
          by_cases h4 : bt s (j : Int) = 34
          · rw [if_pos h4, if_pos (by omega)]
            exact step _ (by decide) (by rw [yes 34 (by omega) h4]; rfl)
          · rw [if_neg h4]
            by_cases h5 : bt s (j : Int) = 13
            · rw [if_pos h5, if_pos (by omega)]
              exact step _ (by decide) (by rw [yes 13 (by omega) h5]; rfl)
            · rw [if_neg h5]
              have hw := w64 j (by omega)
              have hx : (s.extract (j : Int).toNat (wrap64 ((j : Int) + 1)).toNat) = s.extract j (j + 1) := by rw [hw]; rfl
              have hsz : (s.extract j (j + 1)).size = 1 := by rw [size_list, ext_one s j hjl]; rfl
              rw [hx, if_pos (by rw [hw]; omega), if_pos (by rw [hw]; omega)]
              rw [if_pos (by omega)]
              exact step _ (by omega) (by rw [ext_one s j hjl, escU_other (no 38 (by omega) h1) (no 60 (by omega) h2) (no 62 (by omega) h3) (no 34 (by omega) h4) (no 13 (by omega) h5)])
theorem refEscape_calls (s : ByteArray) (hs : s.size ≤ 1073741824) (w : World) : Calls Tryd.prog 26 #[.string s] w fun e w' => e = .returned (.string ⟨(escL s.data.toList).toArray⟩) ∧ Drawn0 w w' := by
  refine stowageref13_Escape.calls (s.size + 1) s _ w ?_
  unfold stowageref13_Escape.f
  have := refEscape_l s hs s.size 0 (s.size + 1) ⟨#[]⟩ (by omega) (by omega) (by decide)
  simpa using this
end Go.Proofs.YtkhjpobhdpcglaaDoor.X
end
section
namespace Go.Proofs.YtkhjpobhdpcglaaDoor.X
open Go.RowKit Go.Proofs.YtkhjpobhdpcglaaDoorW.PrintWords Go.Proofs.YtkhjpobhdpcglaaDoorW.PrintLast Go.Proofs.YtkhjpobhdpcglaaDoorW.PrintMore
attribute [local go_sem] max2_int min2_int max_two min_two max_three min_three max_four min_four
set_option linter.unusedVariables false
set_option linter.unusedSimpArgs false

/-! ### stowageref3_Digit: function 107 -/
mutual
def stowageref3_Digit.j0 : Nat → Int → Bool → Option (Int)
  | 0, _, _ => none
  | k + 1, x0, x3 => if x3 = true then (some ((x0 - 48) % 256)) else (if x0 ≥ 97 then (stowageref3_Digit.j1 k x0 (decide (x0 ≤ 102))) else (stowageref3_Digit.j1 k x0 false))
def stowageref3_Digit.j1 : Nat → Int → Bool → Option (Int)
  | 0, _, _ => none
  | k + 1, x0, x13 => if x13 = true then (some (((x0 - 97) % 256) + 10)) else (if x0 ≥ 65 then (if x0 ≤ 70 then (some (((x0 - 65) % 256) + 10)) else (some (-1))) else (some (-1)))
end
def stowageref3_Digit.f (k : Nat) (a0 : Int) : Option (Int) := if a0 ≥ 48 then (stowageref3_Digit.j0 k a0 (decide (a0 ≤ 57))) else (stowageref3_Digit.j0 k a0 false)
theorem stowageref3_Digit.mono_l : ∀ k, (∀ y0 y1, LeO (stowageref3_Digit.j0 k y0 y1) (stowageref3_Digit.j0 (k + 1) y0 y1)) ∧ (∀ y0 y1, LeO (stowageref3_Digit.j1 k y0 y1) (stowageref3_Digit.j1 (k + 1) y0 y1))
  | 0 => ⟨fun _ _ r h => by simp [stowageref3_Digit.j0] at h, fun _ _ r h => by simp [stowageref3_Digit.j1] at h⟩
  | k + 1 => by
    obtain ⟨ih0, ih1⟩ := stowageref3_Digit.mono_l k
    refine ⟨?_, ?_⟩
    · intro y0 y1
      unfold stowageref3_Digit.j0
      repeat' first
      | (with_reducible exact ih0 _ _)
      | (with_reducible exact ih1 _ _)
      | (with_reducible exact LeO.refl _)
      | (with_reducible exact LeO.none _)
      | (with_reducible refine LeO.ite ?_ ?_)
      | (with_reducible refine LeO.bind ?_ (fun _ => ?_))
      | exact ih0 _ _
      | exact ih1 _ _
      | exact LeO.none _
      | refine LeO.ite ?_ ?_
      | refine LeO.bind ?_ (fun _ => ?_)
    · intro y0 y1
      unfold stowageref3_Digit.j1
      repeat' first
      | (with_reducible exact ih0 _ _)
      | (with_reducible exact ih1 _ _)
      | (with_reducible exact LeO.refl _)
      | (with_reducible exact LeO.none _)
      | (with_reducible refine LeO.ite ?_ ?_)
      | (with_reducible refine LeO.bind ?_ (fun _ => ?_))
      | exact ih0 _ _
      | exact ih1 _ _
      | exact LeO.none _
      | refine LeO.ite ?_ ?_
      | refine LeO.bind ?_ (fun _ => ?_)
theorem stowageref3_Digit.mono : ∀ a0 k, LeO (stowageref3_Digit.f k a0) (stowageref3_Digit.f (k + 1) a0) := by
  intro a0 k
  obtain ⟨ih0, ih1⟩ := stowageref3_Digit.mono_l k
  unfold stowageref3_Digit.f
  repeat' first
      | (with_reducible exact ih0 _ _)
      | (with_reducible exact ih1 _ _)
      | (with_reducible exact LeO.refl _)
      | (with_reducible exact LeO.none _)
      | (with_reducible refine LeO.ite ?_ ?_)
      | (with_reducible refine LeO.bind ?_ (fun _ => ?_))
      | exact ih0 _ _
      | exact ih1 _ _
      | exact LeO.none _
      | refine LeO.ite ?_ ?_
      | refine LeO.bind ?_ (fun _ => ?_)
set_option maxHeartbeats 8000000 in
set_option maxRecDepth 100000 in
theorem stowageref3_Digit.calls (k : Nat) (a0 : Int) (r : Int) (w : World) (h : stowageref3_Digit.f k a0 = some r) :
    Calls Tryd.prog 107 #[.int .u8 a0] w fun e w' => e = .returned (.int .i64 r) ∧ Drawn0 w w' := by
  have H : (if a0 ≥ 48 then (stowageref3_Digit.j0 k a0 (decide (a0 ≤ 57))) else (stowageref3_Digit.j0 k a0 false)) = some r := h
  clear h
  have HC2 := Aside0.mk H
  clear H
  go_enter Tryd.func107, Tryd.ntmps107
  go_upto_region 1 with (fail)
  go_cut [3] (fun v3 wc => ∃ (kq : Nat) (x3_1 : Bool), v3 = .bool x3_1 ∧ Aside0 (stowageref3_Digit.j0 kq a0 x3_1 = some r) ∧ Aside0 (kq ≤ k) ∧ Drawn0 w wc)
  case first =>
    have H := HC2.out
    clear HC2
    by_cases c3 : a0 ≥ 48
    · rw [if_pos c3] at H
      have c3b0 : decide (48 ≤ a0) = true := decide_eq_true c3
      clear c3
      (first | rw [c3b0] | (simp only [i64_w, i32_w]; rw [c3b0]) | skip)
      have H' := Aside0.mk H
      clear H
      go_wp2
      go_meet
      case rel => exact ⟨_, (decide (a0 ≤ 57)), (by first | rfl | (simp; done) | (simp [*]; done)), H', ⟨by first | omega | exact Nat.le_refl _⟩, by repeat (first | exact Drawn0.refl _ | apply Drawn0.step)⟩
    · rw [if_neg c3] at H
      have c3b0 : decide (48 ≤ a0) = false := decide_eq_false c3
      clear c3
      (first | rw [c3b0] | (simp only [i64_w, i32_w]; rw [c3b0]) | skip)
      have H' := Aside0.mk H
      clear H
      go_wp2
      go_meet
      case rel => exact ⟨_, (false), (by first | rfl | (simp; done) | (simp [*]; done)), H', ⟨by first | omega | exact Nat.le_refl _⟩, by repeat (first | exact Drawn0.refl _ | apply Drawn0.step)⟩
  case rest =>
    clear HC2
    try clear c1
    try clear p2
    try clear c3
    try clear c3b0
    obtain ⟨kq, x3_1, rfl, HA, HJ1, ⟨mc1, rfl⟩⟩ := hcut
    cases kq with
    | zero => exact absurd HA.out (by simp [stowageref3_Digit.j0])
    | succ kj1 =>
      have H := HA.out
      clear HA
      simp only [stowageref3_Digit.j0] at H
      by_cases c4 : x3_1 = true
      · subst c4
        have H1 : (some ((a0 - 48) % 256)) = some r := by rw [if_pos rfl] at H; exact H
        clear H
        have H := H1
        clear H1
        obtain rfl := Option.some.inj H
        go_wp2
        go_ret
        exact ⟨by first | rfl | (simp; done) | (simp [*]; done), by repeat (first | exact Drawn0.refl _ | apply Drawn0.step)⟩
      · replace c4 := Bool.eq_false_iff.mpr c4
        subst c4
        have H1 : (if a0 ≥ 97 then (stowageref3_Digit.j1 kj1 a0 (decide (a0 ≤ 102))) else (stowageref3_Digit.j1 kj1 a0 false)) = some r := by rw [if_neg (show ¬ (false = true) by decide)] at H; exact H
        clear H
        have H := H1
        clear H1
        have HC5 := Aside0.mk H
        clear H
        go_upto_region 3 with (fail)
        go_cut [13] (fun v13 wc => ∃ (kq : Nat) (x13_4 : Bool), v13 = .bool x13_4 ∧ Aside0 (stowageref3_Digit.j1 kq a0 x13_4 = some r) ∧ Aside0 (kq ≤ kj1) ∧ Drawn0 w wc)
        case first =>
          have H := HC5.out
          clear HC5
          by_cases c6 : a0 ≥ 97
          · rw [if_pos c6] at H
            have c6b0 : decide (97 ≤ a0) = true := decide_eq_true c6
            clear c6
            (first | rw [c6b0] | (simp only [i64_w, i32_w]; rw [c6b0]) | skip)
            have H' := Aside0.mk H
            clear H
            go_wp2
            go_meet
            case rel => exact ⟨_, (decide (a0 ≤ 102)), (by first | rfl | (simp; done) | (simp [*]; done)), H', ⟨by have := HJ1.out; first | omega | exact Nat.le_refl _⟩, by repeat (first | exact Drawn0.refl _ | apply Drawn0.step)⟩
          · rw [if_neg c6] at H
            have c6b0 : decide (97 ≤ a0) = false := decide_eq_false c6
            clear c6
            (first | rw [c6b0] | (simp only [i64_w, i32_w]; rw [c6b0]) | skip)
            have H' := Aside0.mk H
            clear H
            go_wp2
            go_meet
            case rel => exact ⟨_, (false), (by first | rfl | (simp; done) | (simp [*]; done)), H', ⟨by have := HJ1.out; first | omega | exact Nat.le_refl _⟩, by repeat (first | exact Drawn0.refl _ | apply Drawn0.step)⟩
        case rest =>
          clear HC5
          try clear c1
          try clear p2
          try clear c3
          try clear c3b0
          try clear c4
          try clear c6
          try clear c6b0
          try clear p2
          obtain ⟨kq, x13_4, rfl, HA, HJ4, ⟨mc4, rfl⟩⟩ := hcut
          cases kq with
          | zero => exact absurd HA.out (by simp [stowageref3_Digit.j1])
          | succ kj4 =>
            have H := HA.out
            clear HA
            simp only [stowageref3_Digit.j1] at H
            by_cases c7 : x13_4 = true
            · subst c7
              have H1 : (some (((a0 - 97) % 256) + 10)) = some r := by rw [if_pos rfl] at H; exact H
              clear H
              have H := H1
              clear H1
              obtain rfl := Option.some.inj H
              go_wp2
              go_ret
              exact ⟨by first | rfl | (simp; done) | (simp [*]; done), by repeat (first | exact Drawn0.refl _ | apply Drawn0.step)⟩
            · replace c7 := Bool.eq_false_iff.mpr c7
              subst c7
              have H1 : (if a0 ≥ 65 then (if a0 ≤ 70 then (some (((a0 - 65) % 256) + 10)) else (some (-1))) else (some (-1))) = some r := by rw [if_neg (show ¬ (false = true) by decide)] at H; exact H
              clear H
              have H := H1
              clear H1
              by_cases c8 : a0 ≥ 65
              · rw [if_pos c8] at H
                have c8b0 : decide (65 ≤ a0) = true := decide_eq_true c8
                clear c8
                by_cases c9 : a0 ≤ 70
                · rw [if_pos c9] at H
                  have c9b0 : decide (a0 ≤ 70) = true := decide_eq_true c9
                  clear c9
                  obtain rfl := Option.some.inj H
                  go_wp2
                  go_ret
                  exact ⟨by first | rfl | (simp; done) | (simp [*]; done), by repeat (first | exact Drawn0.refl _ | apply Drawn0.step)⟩
                · rw [if_neg c9] at H
                  have c9b0 : decide (a0 ≤ 70) = false := decide_eq_false c9
                  clear c9
                  obtain rfl := Option.some.inj H
                  go_wp2
                  go_ret
                  exact ⟨by first | rfl | (simp; done) | (simp [*]; done), by repeat (first | exact Drawn0.refl _ | apply Drawn0.step)⟩
              · rw [if_neg c8] at H
                have c8b0 : decide (65 ≤ a0) = false := decide_eq_false c8
                clear c8
                obtain rfl := Option.some.inj H
                go_wp2
                go_ret
                exact ⟨by first | rfl | (simp; done) | (simp [*]; done), by repeat (first | exact Drawn0.refl _ | apply Drawn0.step)⟩

end Go.Proofs.YtkhjpobhdpcglaaDoor.X
end
section
namespace Go.Proofs.YtkhjpobhdpcglaaDoor.X
open Go.RowKit Go.Proofs.YtkhjpobhdpcglaaDoorW.PrintWords Go.Proofs.YtkhjpobhdpcglaaDoorW.PrintLast Go.Proofs.YtkhjpobhdpcglaaDoorW.PrintMore
attribute [local go_sem] max2_int min2_int max_two min_two max_three min_three max_four min_four
set_option linter.unusedVariables false
set_option linter.unusedSimpArgs false

/-! ### stowageref13_utf8: function 108 -/
def stowageref13_utf8.f (a0 : Int) : Option (ByteArray) := if a0 < 128 then (some (strOfNums (([(a0) % 256] : List Int)))) else (if a0 < 2048 then (some (strOfNums (([(wrap64 (192 + (wrap64 (Int.tdiv a0 64)))) % 256, (wrap64 (128 + (Int.tmod a0 64))) % 256] : List Int)))) else (if a0 < 65536 then (some (strOfNums (([(wrap64 (224 + (wrap64 (Int.tdiv a0 4096)))) % 256, (wrap64 (128 + (Int.tmod (wrap64 (Int.tdiv a0 64)) 64))) % 256, (wrap64 (128 + (Int.tmod a0 64))) % 256] : List Int)))) else (some (strOfNums (([(wrap64 (240 + (wrap64 (Int.tdiv a0 262144)))) % 256, (wrap64 (128 + (Int.tmod (wrap64 (Int.tdiv a0 4096)) 64))) % 256, (wrap64 (128 + (Int.tmod (wrap64 (Int.tdiv a0 64)) 64))) % 256, (wrap64 (128 + (Int.tmod a0 64))) % 256] : List Int))))))
set_option maxHeartbeats 8000000 in
set_option maxRecDepth 100000 in
theorem stowageref13_utf8.calls (a0 : Int) (r : ByteArray) (w : World) (h : stowageref13_utf8.f a0 = some r) :
    Calls Tryd.prog 108 #[.int .i64 a0] w fun e w' => e = .returned (.string r) ∧ Below w.heap.size w w' := by
  have HB := Aside0.mk (Below.refl w.heap.size w)
  have H : (if a0 < 128 then (some (strOfNums (([(a0) % 256] : List Int)))) else (if a0 < 2048 then (some (strOfNums (([(wrap64 (192 + (wrap64 (Int.tdiv a0 64)))) % 256, (wrap64 (128 + (Int.tmod a0 64))) % 256] : List Int)))) else (if a0 < 65536 then (some (strOfNums (([(wrap64 (224 + (wrap64 (Int.tdiv a0 4096)))) % 256, (wrap64 (128 + (Int.tmod (wrap64 (Int.tdiv a0 64)) 64))) % 256, (wrap64 (128 + (Int.tmod a0 64))) % 256] : List Int)))) else (some (strOfNums (([(wrap64 (240 + (wrap64 (Int.tdiv a0 262144)))) % 256, (wrap64 (128 + (Int.tmod (wrap64 (Int.tdiv a0 4096)) 64))) % 256, (wrap64 (128 + (Int.tmod (wrap64 (Int.tdiv a0 64)) 64))) % 256, (wrap64 (128 + (Int.tmod a0 64))) % 256] : List Int))))))) = some r := h
  clear h
  by_cases c2 : a0 < 128
  · rw [if_pos c2] at H
    have c2b0 : decide (a0 < 128) = true := decide_eq_true c2
    clear c2
    obtain ⟨y101, hy101⟩ : ∃ y_ : List Int, y_ = (([(a0) % 256] : List Int)) := ⟨_, rfl⟩
    replace H : (some (strOfNums y101)) = some r := by first | (rw [hy101]; with_reducible exact H) | (have H2_ := (Option.bind_some _ _).symm.trans H; rw [hy101]; with_reducible exact H2_) | (have H2_ := (Option.bind_some _ _).symm.trans H; with_reducible exact H2_) | with_reducible exact H | (rw [hy101]; exact H) | exact H
    have Ny101 := Aside0.mk hy101
    clear hy101
    obtain rfl := Option.some.inj H
    go_enter Tryd.func108, Tryd.ntmps108
    go_wp2_with (first | ((with_reducible refine gate_dst (N := 8) rfl ?_); refine Kd.R_lit (Kd.int .u8) _ 5 ?hg (N := 8) ?hd (xs := ([(a0) % 256] : List Int)) (inner := [.int .u8 ((a0) % 256)]) (ok := fun _ => True) (okp := fun _ => True) ?hr ?hp (fun _ hk => hk) trivial (Below.refl _ _) (Nat.le_refl _) (by simp) ?_; (case hd => rfl); (case hg => rfl); (case hr => first | (go_simp; done) | (go_simp; rfl)); (case hp => exact (Reps.one (show Kd.M (Kd.int .u8) _ _ _ ((a0) % 256) [.int .u8 ((a0) % 256)] from rfl) (Reps.none _ _))); intro v102 w3 ho4 hb hg_ hnew_; clear hg_ hnew_; (first | rw [← Ny101.out] at ho4 | (simp only [Int.reduceToNat] at ho4; rw [← Ny101.out] at ho4)); have n0_ := Aside0.mk (Kd.R_lower ho4 (below_size (by repeat (first | (with_reducible first | exact HB.out | apply below_alloc | apply pw_below_drewN | apply below_drew1) | exact HB.out)))); have n1_ := Aside0.mk (below_step (by repeat (first | (with_reducible first | exact HB.out | apply below_alloc | apply pw_below_drewN | apply below_drew1) | exact HB.out)) hb); clear HB; have HO103 := n0_; have HB := n1_; clear n0_ n1_; clear hb ho4; have hcv5 := own_string (P := Tryd.prog) Tryd.underlying22 Tryd.underlying5 Tryd.underlying9 (Kd.own_of_R HO103.out)))
    go_ret
    exact ⟨by first | rfl | (simp [errW_none, errW_some] <;> rfl) | (simp [*, errW_none, errW_some] <;> rfl), by repeat (first | (with_reducible first | exact HB.out | apply below_alloc | apply pw_below_drewN | apply below_drew1) | exact HB.out)⟩
  · rw [if_neg c2] at H
    have c2b0 : decide (a0 < 128) = false := decide_eq_false c2
    clear c2
    by_cases c6 : a0 < 2048
    · rw [if_pos c6] at H
      have c6b0 : decide (a0 < 2048) = true := decide_eq_true c6
      clear c6
      obtain ⟨y104, hy104⟩ : ∃ y_ : List Int, y_ = (([(wrap64 (192 + (wrap64 (Int.tdiv a0 64)))) % 256, (wrap64 (128 + (Int.tmod a0 64))) % 256] : List Int)) := ⟨_, rfl⟩
      replace H : (some (strOfNums y104)) = some r := by first | (rw [hy104]; with_reducible exact H) | (have H2_ := (Option.bind_some _ _).symm.trans H; rw [hy104]; with_reducible exact H2_) | (have H2_ := (Option.bind_some _ _).symm.trans H; with_reducible exact H2_) | with_reducible exact H | (rw [hy104]; exact H) | exact H
      have Ny104 := Aside0.mk hy104
      clear hy104
      obtain rfl := Option.some.inj H
      go_enter Tryd.func108, Tryd.ntmps108
      go_wp2_with (first | ((with_reducible refine gate_dst (N := 21) rfl ?_); refine Kd.R_lit (Kd.int .u8) _ 5 ?hg (N := 21) ?hd (xs := ([(wrap64 (192 + (wrap64 (Int.tdiv a0 64)))) % 256, (wrap64 (128 + (Int.tmod a0 64))) % 256] : List Int)) (inner := [.int .u8 ((wrap64 (192 + (wrap64 (Int.tdiv a0 64)))) % 256), .int .u8 ((wrap64 (128 + (Int.tmod a0 64))) % 256)]) (ok := fun _ => True) (okp := fun _ => True) ?hr ?hp (fun _ hk => hk) trivial (Below.refl _ _) (Nat.le_refl _) (by simp) ?_; (case hd => rfl); (case hg => rfl); (case hr => first | (go_simp; done) | (go_simp; rfl)); (case hp => exact (Reps.one (show Kd.M (Kd.int .u8) _ _ _ ((wrap64 (192 + (wrap64 (Int.tdiv a0 64)))) % 256) [.int .u8 ((wrap64 (192 + (wrap64 (Int.tdiv a0 64)))) % 256)] from rfl) (Reps.one (show Kd.M (Kd.int .u8) _ _ _ ((wrap64 (128 + (Int.tmod a0 64))) % 256) [.int .u8 ((wrap64 (128 + (Int.tmod a0 64))) % 256)] from rfl) (Reps.none _ _)))); intro v105 w7 ho8 hb hg_ hnew_; clear hg_ hnew_; (first | rw [← Ny104.out] at ho8 | (simp only [Int.reduceToNat] at ho8; rw [← Ny104.out] at ho8)); have n0_ := Aside0.mk (Kd.R_lower ho8 (below_size (by repeat (first | (with_reducible first | exact HB.out | apply below_alloc | apply pw_below_drewN | apply below_drew1) | exact HB.out)))); have n1_ := Aside0.mk (below_step (by repeat (first | (with_reducible first | exact HB.out | apply below_alloc | apply pw_below_drewN | apply below_drew1) | exact HB.out)) hb); clear HB; have HO106 := n0_; have HB := n1_; clear n0_ n1_; clear hb ho8; have hcv9 := own_string (P := Tryd.prog) Tryd.underlying22 Tryd.underlying5 Tryd.underlying9 (Kd.own_of_R HO106.out)))
      go_ret
      exact ⟨by first | rfl | (simp [errW_none, errW_some] <;> rfl) | (simp [*, errW_none, errW_some] <;> rfl), by repeat (first | (with_reducible first | exact HB.out | apply below_alloc | apply pw_below_drewN | apply below_drew1) | exact HB.out)⟩
    · rw [if_neg c6] at H
      have c6b0 : decide (a0 < 2048) = false := decide_eq_false c6
      clear c6
      by_cases c10 : a0 < 65536
      · rw [if_pos c10] at H
        have c10b0 : decide (a0 < 65536) = true := decide_eq_true c10
        clear c10
        obtain ⟨y107, hy107⟩ : ∃ y_ : List Int, y_ = (([(wrap64 (224 + (wrap64 (Int.tdiv a0 4096)))) % 256, (wrap64 (128 + (Int.tmod (wrap64 (Int.tdiv a0 64)) 64))) % 256, (wrap64 (128 + (Int.tmod a0 64))) % 256] : List Int)) := ⟨_, rfl⟩
        replace H : (some (strOfNums y107)) = some r := by first | (rw [hy107]; with_reducible exact H) | (have H2_ := (Option.bind_some _ _).symm.trans H; rw [hy107]; with_reducible exact H2_) | (have H2_ := (Option.bind_some _ _).symm.trans H; with_reducible exact H2_) | with_reducible exact H | (rw [hy107]; exact H) | exact H
        have Ny107 := Aside0.mk hy107
        clear hy107
        obtain rfl := Option.some.inj H
        go_enter Tryd.func108, Tryd.ntmps108
        go_wp2_with (first | ((with_reducible refine gate_dst (N := 39) rfl ?_); refine Kd.R_lit (Kd.int .u8) _ 5 ?hg (N := 39) ?hd (xs := ([(wrap64 (224 + (wrap64 (Int.tdiv a0 4096)))) % 256, (wrap64 (128 + (Int.tmod (wrap64 (Int.tdiv a0 64)) 64))) % 256, (wrap64 (128 + (Int.tmod a0 64))) % 256] : List Int)) (inner := [.int .u8 ((wrap64 (224 + (wrap64 (Int.tdiv a0 4096)))) % 256), .int .u8 ((wrap64 (128 + (Int.tmod (wrap64 (Int.tdiv a0 64)) 64))) % 256), .int .u8 ((wrap64 (128 + (Int.tmod a0 64))) % 256)]) (ok := fun _ => True) (okp := fun _ => True) ?hr ?hp (fun _ hk => hk) trivial (Below.refl _ _) (Nat.le_refl _) (by simp) ?_; (case hd => rfl); (case hg => rfl); (case hr => first | (go_simp; done) | (go_simp; rfl)); (case hp => exact (Reps.one (show Kd.M (Kd.int .u8) _ _ _ ((wrap64 (224 + (wrap64 (Int.tdiv a0 4096)))) % 256) [.int .u8 ((wrap64 (224 + (wrap64 (Int.tdiv a0 4096)))) % 256)] from rfl) (Reps.one (show Kd.M (Kd.int .u8) _ _ _ ((wrap64 (128 + (Int.tmod (wrap64 (Int.tdiv a0 64)) 64))) % 256) [.int .u8 ((wrap64 (128 + (Int.tmod (wrap64 (Int.tdiv a0 64)) 64))) % 256)] from rfl) (Reps.one (show Kd.M (Kd.int .u8) _ _ _ ((wrap64 (128 + (Int.tmod a0 64))) % 256) [.int .u8 ((wrap64 (128 + (Int.tmod a0 64))) % 256)] from rfl) (Reps.none _ _))))); intro v108 w11 ho12 hb hg_ hnew_; clear hg_ hnew_; (first | rw [← Ny107.out] at ho12 | (simp only [Int.reduceToNat] at ho12; rw [← Ny107.out] at ho12)); have n0_ := Aside0.mk (Kd.R_lower ho12 (below_size (by repeat (first | (with_reducible first | exact HB.out | apply below_alloc | apply pw_below_drewN | apply below_drew1) | exact HB.out)))); have n1_ := Aside0.mk (below_step (by repeat (first | (with_reducible first | exact HB.out | apply below_alloc | apply pw_below_drewN | apply below_drew1) | exact HB.out)) hb); clear HB; have HO109 := n0_; have HB := n1_; clear n0_ n1_; clear hb ho12; have hcv13 := own_string (P := Tryd.prog) Tryd.underlying22 Tryd.underlying5 Tryd.underlying9 (Kd.own_of_R HO109.out)))
        go_ret
        exact ⟨by first | rfl | (simp [errW_none, errW_some] <;> rfl) | (simp [*, errW_none, errW_some] <;> rfl), by repeat (first | (with_reducible first | exact HB.out | apply below_alloc | apply pw_below_drewN | apply below_drew1) | exact HB.out)⟩
      · rw [if_neg c10] at H
        have c10b0 : decide (a0 < 65536) = false := decide_eq_false c10
        clear c10
        obtain ⟨y110, hy110⟩ : ∃ y_ : List Int, y_ = (([(wrap64 (240 + (wrap64 (Int.tdiv a0 262144)))) % 256, (wrap64 (128 + (Int.tmod (wrap64 (Int.tdiv a0 4096)) 64))) % 256, (wrap64 (128 + (Int.tmod (wrap64 (Int.tdiv a0 64)) 64))) % 256, (wrap64 (128 + (Int.tmod a0 64))) % 256] : List Int)) := ⟨_, rfl⟩
        replace H : (some (strOfNums y110)) = some r := by first | (rw [hy110]; with_reducible exact H) | (have H2_ := (Option.bind_some _ _).symm.trans H; rw [hy110]; with_reducible exact H2_) | (have H2_ := (Option.bind_some _ _).symm.trans H; with_reducible exact H2_) | with_reducible exact H | (rw [hy110]; exact H) | exact H
        have Ny110 := Aside0.mk hy110
        clear hy110
        obtain rfl := Option.some.inj H
        go_enter Tryd.func108, Tryd.ntmps108
        go_wp2_with (first | ((with_reducible refine gate_dst (N := 59) rfl ?_); refine Kd.R_lit (Kd.int .u8) _ 5 ?hg (N := 59) ?hd (xs := ([(wrap64 (240 + (wrap64 (Int.tdiv a0 262144)))) % 256, (wrap64 (128 + (Int.tmod (wrap64 (Int.tdiv a0 4096)) 64))) % 256, (wrap64 (128 + (Int.tmod (wrap64 (Int.tdiv a0 64)) 64))) % 256, (wrap64 (128 + (Int.tmod a0 64))) % 256] : List Int)) (inner := [.int .u8 ((wrap64 (240 + (wrap64 (Int.tdiv a0 262144)))) % 256), .int .u8 ((wrap64 (128 + (Int.tmod (wrap64 (Int.tdiv a0 4096)) 64))) % 256), .int .u8 ((wrap64 (128 + (Int.tmod (wrap64 (Int.tdiv a0 64)) 64))) % 256), .int .u8 ((wrap64 (128 + (Int.tmod a0 64))) % 256)]) (ok := fun _ => True) (okp := fun _ => True) ?hr ?hp (fun _ hk => hk) trivial (Below.refl _ _) (Nat.le_refl _) (by simp) ?_; (case hd => rfl); (case hg => rfl); (case hr => first | (go_simp; done) | (go_simp; rfl)); (case hp => exact (Reps.one (show Kd.M (Kd.int .u8) _ _ _ ((wrap64 (240 + (wrap64 (Int.tdiv a0 262144)))) % 256) [.int .u8 ((wrap64 (240 + (wrap64 (Int.tdiv a0 262144)))) % 256)] from rfl) (Reps.one (show Kd.M (Kd.int .u8) _ _ _ ((wrap64 (128 + (Int.tmod (wrap64 (Int.tdiv a0 4096)) 64))) % 256) [.int .u8 ((wrap64 (128 + (Int.tmod (wrap64 (Int.tdiv a0 4096)) 64))) % 256)] from rfl) (Reps.one (show Kd.M (Kd.int .u8) _ _ _ ((wrap64 (128 + (Int.tmod (wrap64 (Int.tdiv a0 64)) 64))) % 256) [.int .u8 ((wrap64 (128 + (Int.tmod (wrap64 (Int.tdiv a0 64)) 64))) % 256)] from rfl) (Reps.one (show Kd.M (Kd.int .u8) _ _ _ ((wrap64 (128 + (Int.tmod a0 64))) % 256) [.int .u8 ((wrap64 (128 + (Int.tmod a0 64))) % 256)] from rfl) (Reps.none _ _)))))); intro v111 w14 ho15 hb hg_ hnew_; clear hg_ hnew_; (first | rw [← Ny110.out] at ho15 | (simp only [Int.reduceToNat] at ho15; rw [← Ny110.out] at ho15)); have n0_ := Aside0.mk (Kd.R_lower ho15 (below_size (by repeat (first | (with_reducible first | exact HB.out | apply below_alloc | apply pw_below_drewN | apply below_drew1) | exact HB.out)))); have n1_ := Aside0.mk (below_step (by repeat (first | (with_reducible first | exact HB.out | apply below_alloc | apply pw_below_drewN | apply below_drew1) | exact HB.out)) hb); clear HB; have HO112 := n0_; have HB := n1_; clear n0_ n1_; clear hb ho15; have hcv16 := own_string (P := Tryd.prog) Tryd.underlying22 Tryd.underlying5 Tryd.underlying9 (Kd.own_of_R HO112.out)))
        go_ret
        exact ⟨by first | rfl | (simp [errW_none, errW_some] <;> rfl) | (simp [*, errW_none, errW_some] <;> rfl), by repeat (first | (with_reducible first | exact HB.out | apply below_alloc | apply pw_below_drewN | apply below_drew1) | exact HB.out)⟩

end Go.Proofs.YtkhjpobhdpcglaaDoor.X
end
section
namespace Go.Proofs.YtkhjpobhdpcglaaDoor.X
open Go.RowKit Go.Proofs.YtkhjpobhdpcglaaDoorW.PrintWords Go.Proofs.YtkhjpobhdpcglaaDoorW.PrintLast Go.Proofs.YtkhjpobhdpcglaaDoorW.PrintMore
attribute [local go_sem] max2_int min2_int max_two min_two max_three min_three max_four min_four
set_option linter.unusedVariables false
set_option linter.unusedSimpArgs false

/-! ### stowageref3_Begins: function 80 -/
def stowageref3_Begins.f (a0 : ByteArray) (a1 : ByteArray) : Option (Bool) := if (a0.size : Int) ≥ (a1.size : Int) then (if 0 ≤ (a1.size : Int) then (if (a1.size : Int) ≤ (a0.size : Int) then (some ((a0.extract 0 ((a1.size : Int) : Int).toNat).toList == a1.toList)) else (none)) else (none)) else (some false)
set_option maxHeartbeats 8000000 in
set_option maxRecDepth 100000 in
theorem stowageref3_Begins.calls (a0 : ByteArray) (a1 : ByteArray) (r : Bool) (w : World) (h : stowageref3_Begins.f a0 a1 = some r) :
    Calls Tryd.prog 80 #[.string a0, .string a1] w fun e w' => e = .returned (.bool r) ∧ Drawn0 w w' := by
  have H : (if (a0.size : Int) ≥ (a1.size : Int) then (if 0 ≤ (a1.size : Int) then (if (a1.size : Int) ≤ (a0.size : Int) then (some ((a0.extract 0 ((a1.size : Int) : Int).toNat).toList == a1.toList)) else (none)) else (none)) else (some false)) = some r := h
  clear h
  by_cases c3 : (a0.size : Int) ≥ (a1.size : Int)
  · rw [if_pos c3] at H
    have c3b0 : decide ((a1.size : Int) ≤ (a0.size : Int)) = true := decide_eq_true c3
    have c3b1 : decide (a1.size ≤ a0.size) = true := decide_eq_true (Int.ofNat_le.mp c3)
    clear c3
    by_cases c4 : 0 ≤ (a1.size : Int)
    · rw [if_pos c4] at H
      have c4b0 := eq_true c4
      have c4b1 : decide (0 ≤ (a1.size : Int)) = true := decide_eq_true c4
      clear c4
      by_cases c5 : (a1.size : Int) ≤ (a0.size : Int)
      · rw [if_pos c5] at H
        have c5b0 := eq_true c5
        have c5b1 : decide ((a1.size : Int) ≤ (a0.size : Int)) = true := decide_eq_true c5
        clear c5
        obtain rfl := Option.some.inj H
        go_enter Tryd.func80, Tryd.ntmps80
        go_wp2
        go_ret
        exact ⟨by first | rfl | (simp; done) | (simp [*]; done), by repeat (first | exact Drawn0.refl _ | apply Drawn0.step)⟩
      · rw [if_neg c5] at H
        exact absurd H (by simp)
    · rw [if_neg c4] at H
      exact absurd H (by simp)
  · rw [if_neg c3] at H
    have c3b0 : decide ((a1.size : Int) ≤ (a0.size : Int)) = false := decide_eq_false c3
    have c3b1 : decide (a1.size ≤ a0.size) = false := decide_eq_false (fun h => c3 (Int.ofNat_le.mpr h))
    clear c3
    obtain rfl := Option.some.inj H
    go_enter Tryd.func80, Tryd.ntmps80
    go_wp2
    go_ret
    exact ⟨by first | rfl | (simp; done) | (simp [*]; done), by repeat (first | exact Drawn0.refl _ | apply Drawn0.step)⟩

end Go.Proofs.YtkhjpobhdpcglaaDoor.X
end
section
namespace Go.Proofs.YtkhjpobhdpcglaaDoor.X
open Go.RowKit Go.Proofs.YtkhjpobhdpcglaaDoorW.PrintWords Go.Proofs.YtkhjpobhdpcglaaDoorW.PrintLast Go.Proofs.YtkhjpobhdpcglaaDoorW.PrintMore
attribute [local go_sem] max2_int min2_int max_two min_two max_three min_three max_four min_four
set_option linter.unusedVariables false
set_option linter.unusedSimpArgs false

/-! ### stowageref3_Char: function 97 -/
def stowageref3_Char.f (a0 : Int) : Option (Bool) := if a0 = 9 then (some true) else (if a0 = 10 then (some true) else (if a0 = 13 then (some true) else (if a0 ≥ 32 then (if a0 ≤ 55295 then (some true) else (if a0 ≥ 57344 then (if a0 ≤ 65533 then (some true) else (if a0 ≥ 65536 then (some (decide (a0 ≤ 1114111))) else (some false))) else (if a0 ≥ 65536 then (some (decide (a0 ≤ 1114111))) else (some false)))) else (if a0 ≥ 57344 then (if a0 ≤ 65533 then (some true) else (if a0 ≥ 65536 then (some (decide (a0 ≤ 1114111))) else (some false))) else (if a0 ≥ 65536 then (some (decide (a0 ≤ 1114111))) else (some false))))))
set_option maxHeartbeats 8000000 in
set_option maxRecDepth 100000 in
theorem stowageref3_Char.calls (a0 : Int) (r : Bool) (w : World) (h : stowageref3_Char.f a0 = some r) :
    Calls Tryd.prog 97 #[.int .i64 a0] w fun e w' => e = .returned (.bool r) ∧ Drawn0 w w' := by
  have H : (if a0 = 9 then (some true) else (if a0 = 10 then (some true) else (if a0 = 13 then (some true) else (if a0 ≥ 32 then (if a0 ≤ 55295 then (some true) else (if a0 ≥ 57344 then (if a0 ≤ 65533 then (some true) else (if a0 ≥ 65536 then (some (decide (a0 ≤ 1114111))) else (some false))) else (if a0 ≥ 65536 then (some (decide (a0 ≤ 1114111))) else (some false)))) else (if a0 ≥ 57344 then (if a0 ≤ 65533 then (some true) else (if a0 ≥ 65536 then (some (decide (a0 ≤ 1114111))) else (some false))) else (if a0 ≥ 65536 then (some (decide (a0 ≤ 1114111))) else (some false))))))) = some r := h
  clear h
  by_cases c2 : a0 = 9
  · rw [if_pos c2] at H
    have c2b0 : (a0 == 9) = true := beq_iff_eq.mpr c2
    have c2b1 : (a0 != 9) = false := bne_eq_false_iff_eq.mpr c2
    clear c2
    obtain rfl := Option.some.inj H
    go_enter Tryd.func97, Tryd.ntmps97
    go_wp2
    go_ret
    exact ⟨by first | rfl | (simp; done) | (simp [*]; done), by repeat (first | exact Drawn0.refl _ | apply Drawn0.step)⟩
  · rw [if_neg c2] at H
    have c2b0 : (a0 == 9) = false := beq_eq_false_iff_ne.mpr c2
    have c2b1 : (a0 != 9) = true := bne_iff_ne.mpr c2
    by_cases c3 : a0 = 10
    · rw [if_pos c3] at H
      have c3b0 : (a0 == 10) = true := beq_iff_eq.mpr c3
      have c3b1 : (a0 != 10) = false := bne_eq_false_iff_eq.mpr c3
      clear c3
      obtain rfl := Option.some.inj H
      go_enter Tryd.func97, Tryd.ntmps97
      go_wp2
      go_ret
      exact ⟨by first | rfl | (simp; done) | (simp [*]; done), by repeat (first | exact Drawn0.refl _ | apply Drawn0.step)⟩
    · rw [if_neg c3] at H
      have c3b0 : (a0 == 10) = false := beq_eq_false_iff_ne.mpr c3
      have c3b1 : (a0 != 10) = true := bne_iff_ne.mpr c3
      by_cases c4 : a0 = 13
      · rw [if_pos c4] at H
        have c4b0 : (a0 == 13) = true := beq_iff_eq.mpr c4
        have c4b1 : (a0 != 13) = false := bne_eq_false_iff_eq.mpr c4
        clear c4
        obtain rfl := Option.some.inj H
        go_enter Tryd.func97, Tryd.ntmps97
        go_wp2
        go_ret
        exact ⟨by first | rfl | (simp; done) | (simp [*]; done), by repeat (first | exact Drawn0.refl _ | apply Drawn0.step)⟩
      · rw [if_neg c4] at H
        have c4b0 : (a0 == 13) = false := beq_eq_false_iff_ne.mpr c4
        have c4b1 : (a0 != 13) = true := bne_iff_ne.mpr c4
        by_cases c5 : a0 ≥ 32
        · rw [if_pos c5] at H
          have c5b0 : decide (32 ≤ a0) = true := decide_eq_true c5
          clear c5
          by_cases c6 : a0 ≤ 55295
          · rw [if_pos c6] at H
            have c6b0 : decide (a0 ≤ 55295) = true := decide_eq_true c6
            clear c6
            obtain rfl := Option.some.inj H
            go_enter Tryd.func97, Tryd.ntmps97
            go_wp2
            go_ret
            exact ⟨by first | rfl | (simp; done) | (simp [*]; done), by repeat (first | exact Drawn0.refl _ | apply Drawn0.step)⟩
          · rw [if_neg c6] at H
            have c6b0 : decide (a0 ≤ 55295) = false := decide_eq_false c6
            clear c6
            by_cases c7 : a0 ≥ 57344
            · rw [if_pos c7] at H
              have c7b0 : decide (57344 ≤ a0) = true := decide_eq_true c7
              clear c7
              by_cases c8 : a0 ≤ 65533
              · rw [if_pos c8] at H
                have c8b0 : decide (a0 ≤ 65533) = true := decide_eq_true c8
                clear c8
                obtain rfl := Option.some.inj H
                go_enter Tryd.func97, Tryd.ntmps97
                go_wp2
                go_ret
                exact ⟨by first | rfl | (simp; done) | (simp [*]; done), by repeat (first | exact Drawn0.refl _ | apply Drawn0.step)⟩
              · rw [if_neg c8] at H
                have c8b0 : decide (a0 ≤ 65533) = false := decide_eq_false c8
                clear c8
                by_cases c9 : a0 ≥ 65536
                · rw [if_pos c9] at H
                  have c9b0 : decide (65536 ≤ a0) = true := decide_eq_true c9
                  clear c9
                  obtain rfl := Option.some.inj H
                  go_enter Tryd.func97, Tryd.ntmps97
                  go_wp2
                  go_ret
                  exact ⟨by first | rfl | (simp; done) | (simp [*]; done), by repeat (first | exact Drawn0.refl _ | apply Drawn0.step)⟩
                · rw [if_neg c9] at H
                  have c9b0 : decide (65536 ≤ a0) = false := decide_eq_false c9
                  clear c9
                  obtain rfl := Option.some.inj H
                  go_enter Tryd.func97, Tryd.ntmps97
                  go_wp2
                  go_ret
                  exact ⟨by first | rfl | (simp; done) | (simp [*]; done), by repeat (first | exact Drawn0.refl _ | apply Drawn0.step)⟩
            · rw [if_neg c7] at H
              have c7b0 : decide (57344 ≤ a0) = false := decide_eq_false c7
              clear c7
              by_cases c10 : a0 ≥ 65536
              · rw [if_pos c10] at H
                have c10b0 : decide (65536 ≤ a0) = true := decide_eq_true c10
                clear c10
                obtain rfl := Option.some.inj H
                go_enter Tryd.func97, Tryd.ntmps97
                go_wp2
                go_ret
                exact ⟨by first | rfl | (simp; done) | (simp [*]; done), by repeat (first | exact Drawn0.refl _ | apply Drawn0.step)⟩
              · rw [if_neg c10] at H
                have c10b0 : decide (65536 ≤ a0) = false := decide_eq_false c10
                clear c10
                obtain rfl := Option.some.inj H
                go_enter Tryd.func97, Tryd.ntmps97
                go_wp2
                go_ret
                exact ⟨by first | rfl | (simp; done) | (simp [*]; done), by repeat (first | exact Drawn0.refl _ | apply Drawn0.step)⟩
        · rw [if_neg c5] at H
          have c5b0 : decide (32 ≤ a0) = false := decide_eq_false c5
          clear c5
          by_cases c11 : a0 ≥ 57344
          · rw [if_pos c11] at H
            have c11b0 : decide (57344 ≤ a0) = true := decide_eq_true c11
            clear c11
            by_cases c12 : a0 ≤ 65533
            · rw [if_pos c12] at H
              have c12b0 : decide (a0 ≤ 65533) = true := decide_eq_true c12
              clear c12
              obtain rfl := Option.some.inj H
              go_enter Tryd.func97, Tryd.ntmps97
              go_wp2
              go_ret
              exact ⟨by first | rfl | (simp; done) | (simp [*]; done), by repeat (first | exact Drawn0.refl _ | apply Drawn0.step)⟩
            · rw [if_neg c12] at H
              have c12b0 : decide (a0 ≤ 65533) = false := decide_eq_false c12
              clear c12
              by_cases c13 : a0 ≥ 65536
              · rw [if_pos c13] at H
                have c13b0 : decide (65536 ≤ a0) = true := decide_eq_true c13
                clear c13
                obtain rfl := Option.some.inj H
                go_enter Tryd.func97, Tryd.ntmps97
                go_wp2
                go_ret
                exact ⟨by first | rfl | (simp; done) | (simp [*]; done), by repeat (first | exact Drawn0.refl _ | apply Drawn0.step)⟩
              · rw [if_neg c13] at H
                have c13b0 : decide (65536 ≤ a0) = false := decide_eq_false c13
                clear c13
                obtain rfl := Option.some.inj H
                go_enter Tryd.func97, Tryd.ntmps97
                go_wp2
                go_ret
                exact ⟨by first | rfl | (simp; done) | (simp [*]; done), by repeat (first | exact Drawn0.refl _ | apply Drawn0.step)⟩
          · rw [if_neg c11] at H
            have c11b0 : decide (57344 ≤ a0) = false := decide_eq_false c11
            clear c11
            by_cases c14 : a0 ≥ 65536
            · rw [if_pos c14] at H
              have c14b0 : decide (65536 ≤ a0) = true := decide_eq_true c14
              clear c14
              obtain rfl := Option.some.inj H
              go_enter Tryd.func97, Tryd.ntmps97
              go_wp2
              go_ret
              exact ⟨by first | rfl | (simp; done) | (simp [*]; done), by repeat (first | exact Drawn0.refl _ | apply Drawn0.step)⟩
            · rw [if_neg c14] at H
              have c14b0 : decide (65536 ≤ a0) = false := decide_eq_false c14
              clear c14
              obtain rfl := Option.some.inj H
              go_enter Tryd.func97, Tryd.ntmps97
              go_wp2
              go_ret
              exact ⟨by first | rfl | (simp; done) | (simp [*]; done), by repeat (first | exact Drawn0.refl _ | apply Drawn0.step)⟩

end Go.Proofs.YtkhjpobhdpcglaaDoor.X
end
section
namespace Go.Proofs.YtkhjpobhdpcglaaDoor.X
open Go.RowKit Go.Proofs.YtkhjpobhdpcglaaDoorW.PrintWords Go.Proofs.YtkhjpobhdpcglaaDoorW.PrintLast Go.Proofs.YtkhjpobhdpcglaaDoorW.PrintMore
attribute [local go_sem] max2_int min2_int max_two min_two max_three min_three max_four min_four
set_option linter.unusedVariables false
set_option linter.unusedSimpArgs false

/-! ### stowageref13_entity: function 60 -/
mutual
def stowageref13_entity.j0 : Nat → ByteArray → Int → Option (ByteArray × Bool)
  | 0, _, _ => none
  | k + 1, x0, x4 => if (x0.size : Int) < 1 then (stowageref13_entity.j1 k x0 x4 true) else (stowageref13_entity.j1 k x0 x4 (decide ((x0.size : Int) > 7)))
def stowageref13_entity.j1 : Nat → ByteArray → Int → Bool → Option (ByteArray × Bool)
  | 0, _, _, _ => none
  | k + 1, x0, x4, x34 => if x34 = true then (some ((⟨#[]⟩ : ByteArray), false)) else (stowageref13_entity.l0 k x0 x4 0 0)
def stowageref13_entity.l0 : Nat → ByteArray → Int → Int → Int → Option (ByteArray × Bool)
  | 0, _, _, _, _ => none
  | k + 1, x0, x4, x5, x6 => if x6 < (x0.size : Int) then (if 0 ≤ x6 then ((stowageref3_Digit.f k (bt x0 x6)).bind fun t103 => (if t103 < 0 then (some ((⟨#[]⟩ : ByteArray), false)) else (if t103 ≥ x4 then (some ((⟨#[]⟩ : ByteArray), false)) else (stowageref13_entity.l0 k x0 x4 (wrap64 ((wrap64 (x4 * x5)) + t103)) (wrap64 (x6 + 1)))))) else (none)) else ((stowageref3_Char.f x5).bind fun t104 => (if t104 = true then ((stowageref13_utf8.f x5).bind fun t105 => (some (t105, true))) else (some ((⟨#[]⟩ : ByteArray), false))))
end
def stowageref13_entity.f (k : Nat) (a0 : ByteArray) : Option (ByteArray × Bool) := if a0.toList = ([97, 109, 112] : List UInt8) then (some ((⟨#[38]⟩ : ByteArray), true)) else (if a0.toList = ([108, 116] : List UInt8) then (some ((⟨#[60]⟩ : ByteArray), true)) else (if a0.toList = ([103, 116] : List UInt8) then (some ((⟨#[62]⟩ : ByteArray), true)) else (if a0.toList = ([113, 117, 111, 116] : List UInt8) then (some ((⟨#[34]⟩ : ByteArray), true)) else (if a0.toList = ([97, 112, 111, 115] : List UInt8) then (some ((⟨#[39]⟩ : ByteArray), true)) else ((stowageref3_Begins.f a0 (⟨#[35, 120]⟩ : ByteArray)).bind fun t101 => (if t101 = true then (if 2 ≤ (a0.size : Int) then (stowageref13_entity.j0 k (a0.extract 2 a0.size) 16) else (none)) else ((stowageref3_Begins.f a0 (⟨#[35]⟩ : ByteArray)).bind fun t102 => (if t102 = true then (if 1 ≤ (a0.size : Int) then (stowageref13_entity.j0 k (a0.extract 1 a0.size) 10) else (none)) else (some ((⟨#[]⟩ : ByteArray), false))))))))))
theorem stowageref13_entity.mono_l : ∀ k, (∀ y0 y1, LeO (stowageref13_entity.j0 k y0 y1) (stowageref13_entity.j0 (k + 1) y0 y1)) ∧ (∀ y0 y1 y2, LeO (stowageref13_entity.j1 k y0 y1 y2) (stowageref13_entity.j1 (k + 1) y0 y1 y2)) ∧ (∀ y0 y1 y2 y3, LeO (stowageref13_entity.l0 k y0 y1 y2 y3) (stowageref13_entity.l0 (k + 1) y0 y1 y2 y3))
  | 0 => ⟨fun _ _ r h => by simp [stowageref13_entity.j0] at h, fun _ _ _ r h => by simp [stowageref13_entity.j1] at h, fun _ _ _ _ r h => by simp [stowageref13_entity.l0] at h⟩
  | k + 1 => by
    obtain ⟨ih0, ih1, ih2⟩ := stowageref13_entity.mono_l k
    refine ⟨?_, ?_, ?_⟩
    · intro y0 y1
      unfold stowageref13_entity.j0
      repeat' first
      | (with_reducible exact ih0 _ _)
      | (with_reducible exact ih1 _ _ _)
      | (with_reducible exact ih2 _ _ _ _)
      | (with_reducible exact stowageref3_Digit.mono _ _)
      | (with_reducible exact LeO.refl _)
      | (with_reducible exact LeO.none _)
      | (with_reducible refine LeO.ite ?_ ?_)
      | (with_reducible refine LeO.bind ?_ (fun _ => ?_))
      | exact ih0 _ _
      | exact ih1 _ _ _
      | exact ih2 _ _ _ _
      | exact stowageref3_Digit.mono _ _
      | exact LeO.none _
      | refine LeO.ite ?_ ?_
      | refine LeO.bind ?_ (fun _ => ?_)
    · intro y0 y1 y2
      unfold stowageref13_entity.j1
      repeat' first
      | (with_reducible exact ih0 _ _)
      | (with_reducible exact ih1 _ _ _)
      | (with_reducible exact ih2 _ _ _ _)
      | (with_reducible exact stowageref3_Digit.mono _ _)
      | (with_reducible exact LeO.refl _)
      | (with_reducible exact LeO.none _)
      | (with_reducible refine LeO.ite ?_ ?_)
      | (with_reducible refine LeO.bind ?_ (fun _ => ?_))
      | exact ih0 _ _
      | exact ih1 _ _ _
      | exact ih2 _ _ _ _
      | exact stowageref3_Digit.mono _ _
      | exact LeO.none _
      | refine LeO.ite ?_ ?_
      | refine LeO.bind ?_ (fun _ => ?_)
    · intro y0 y1 y2 y3
      unfold stowageref13_entity.l0
      repeat' first
      | (with_reducible exact ih0 _ _)
      | (with_reducible exact ih1 _ _ _)
      | (with_reducible exact ih2 _ _ _ _)
      | (with_reducible exact stowageref3_Digit.mono _ _)
      | (with_reducible exact LeO.refl _)
      | (with_reducible exact LeO.none _)
      | (with_reducible refine LeO.ite ?_ ?_)
      | (with_reducible refine LeO.bind ?_ (fun _ => ?_))
      | exact ih0 _ _
      | exact ih1 _ _ _
      | exact ih2 _ _ _ _
      | exact stowageref3_Digit.mono _ _
      | exact LeO.none _
      | refine LeO.ite ?_ ?_
      | refine LeO.bind ?_ (fun _ => ?_)
theorem stowageref13_entity.mono : ∀ a0 k, LeO (stowageref13_entity.f k a0) (stowageref13_entity.f (k + 1) a0) := by
  intro a0 k
  obtain ⟨ih0, ih1, ih2⟩ := stowageref13_entity.mono_l k
  unfold stowageref13_entity.f
  repeat' first
      | (with_reducible exact ih0 _ _)
      | (with_reducible exact ih1 _ _ _)
      | (with_reducible exact ih2 _ _ _ _)
      | (with_reducible exact stowageref3_Digit.mono _ _)
      | (with_reducible exact LeO.refl _)
      | (with_reducible exact LeO.none _)
      | (with_reducible refine LeO.ite ?_ ?_)
      | (with_reducible refine LeO.bind ?_ (fun _ => ?_))
      | exact ih0 _ _
      | exact ih1 _ _ _
      | exact ih2 _ _ _ _
      | exact stowageref3_Digit.mono _ _
      | exact LeO.none _
      | refine LeO.ite ?_ ?_
      | refine LeO.bind ?_ (fun _ => ?_)
set_option maxHeartbeats 8000000 in
set_option maxRecDepth 100000 in
theorem stowageref13_entity.calls (k : Nat) (a0 : ByteArray) (r1 : ByteArray) (r2 : Bool) (w : World) (h : stowageref13_entity.f k a0 = some (r1, r2)) :
    Calls Tryd.prog 60 #[.string a0] w fun e w' => e = .returned (.tuple #[.string r1, .bool r2]) ∧ Below w.heap.size w w' := by
  have HB := Aside0.mk (Below.refl w.heap.size w)
  have H : (if a0.toList = ([97, 109, 112] : List UInt8) then (some ((⟨#[38]⟩ : ByteArray), true)) else (if a0.toList = ([108, 116] : List UInt8) then (some ((⟨#[60]⟩ : ByteArray), true)) else (if a0.toList = ([103, 116] : List UInt8) then (some ((⟨#[62]⟩ : ByteArray), true)) else (if a0.toList = ([113, 117, 111, 116] : List UInt8) then (some ((⟨#[34]⟩ : ByteArray), true)) else (if a0.toList = ([97, 112, 111, 115] : List UInt8) then (some ((⟨#[39]⟩ : ByteArray), true)) else ((stowageref3_Begins.f a0 (⟨#[35, 120]⟩ : ByteArray)).bind fun t101 => (if t101 = true then (if 2 ≤ (a0.size : Int) then (stowageref13_entity.j0 k (a0.extract 2 a0.size) 16) else (none)) else ((stowageref3_Begins.f a0 (⟨#[35]⟩ : ByteArray)).bind fun t102 => (if t102 = true then (if 1 ≤ (a0.size : Int) then (stowageref13_entity.j0 k (a0.extract 1 a0.size) 10) else (none)) else (some ((⟨#[]⟩ : ByteArray), false))))))))))) = some (r1, r2) := h
  clear h
  by_cases c2 : a0.toList = ([97, 109, 112] : List UInt8)
  · rw [if_pos c2] at H
    have c2b0 : (a0.toList == ([97, 109, 112] : List UInt8)) = true := beq_iff_eq.mpr c2
    have c2b1 : (a0.toList != ([97, 109, 112] : List UInt8)) = false := bne_eq_false_iff_eq.mpr c2
    clear c2
    simp only [Option.some.injEq, Prod.mk.injEq] at H
    obtain ⟨rfl, rfl⟩ := H
    go_enter Tryd.func60, Tryd.ntmps60
    go_wp2
    go_ret2
    exact ⟨by first | rfl | (simp [errW_none, errW_some] <;> rfl) | (simp [*, errW_none, errW_some] <;> rfl), by repeat (first | (with_reducible first | exact HB.out | apply below_alloc | apply pw_below_drewN | apply below_drew1) | exact HB.out)⟩
  · rw [if_neg c2] at H
    have c2b0 : (a0.toList == ([97, 109, 112] : List UInt8)) = false := beq_eq_false_iff_ne.mpr c2
    have c2b1 : (a0.toList != ([97, 109, 112] : List UInt8)) = true := bne_iff_ne.mpr c2
    by_cases c3 : a0.toList = ([108, 116] : List UInt8)
    · rw [if_pos c3] at H
      have c3b0 : (a0.toList == ([108, 116] : List UInt8)) = true := beq_iff_eq.mpr c3
      have c3b1 : (a0.toList != ([108, 116] : List UInt8)) = false := bne_eq_false_iff_eq.mpr c3
      clear c3
      simp only [Option.some.injEq, Prod.mk.injEq] at H
      obtain ⟨rfl, rfl⟩ := H
      go_enter Tryd.func60, Tryd.ntmps60
      go_wp2
      go_ret2
      exact ⟨by first | rfl | (simp [errW_none, errW_some] <;> rfl) | (simp [*, errW_none, errW_some] <;> rfl), by repeat (first | (with_reducible first | exact HB.out | apply below_alloc | apply pw_below_drewN | apply below_drew1) | exact HB.out)⟩
    · rw [if_neg c3] at H
      have c3b0 : (a0.toList == ([108, 116] : List UInt8)) = false := beq_eq_false_iff_ne.mpr c3
      have c3b1 : (a0.toList != ([108, 116] : List UInt8)) = true := bne_iff_ne.mpr c3
      by_cases c4 : a0.toList = ([103, 116] : List UInt8)
      · rw [if_pos c4] at H
        have c4b0 : (a0.toList == ([103, 116] : List UInt8)) = true := beq_iff_eq.mpr c4
        have c4b1 : (a0.toList != ([103, 116] : List UInt8)) = false := bne_eq_false_iff_eq.mpr c4
        clear c4
        simp only [Option.some.injEq, Prod.mk.injEq] at H
        obtain ⟨rfl, rfl⟩ := H
        go_enter Tryd.func60, Tryd.ntmps60
        go_wp2
        go_ret2
        exact ⟨by first | rfl | (simp [errW_none, errW_some] <;> rfl) | (simp [*, errW_none, errW_some] <;> rfl), by repeat (first | (with_reducible first | exact HB.out | apply below_alloc | apply pw_below_drewN | apply below_drew1) | exact HB.out)⟩
      · rw [if_neg c4] at H
        have c4b0 : (a0.toList == ([103, 116] : List UInt8)) = false := beq_eq_false_iff_ne.mpr c4
        have c4b1 : (a0.toList != ([103, 116] : List UInt8)) = true := bne_iff_ne.mpr c4
        by_cases c5 : a0.toList = ([113, 117, 111, 116] : List UInt8)
        · rw [if_pos c5] at H
          have c5b0 : (a0.toList == ([113, 117, 111, 116] : List UInt8)) = true := beq_iff_eq.mpr c5
          have c5b1 : (a0.toList != ([113, 117, 111, 116] : List UInt8)) = false := bne_eq_false_iff_eq.mpr c5
          clear c5
          simp only [Option.some.injEq, Prod.mk.injEq] at H
          obtain ⟨rfl, rfl⟩ := H
          go_enter Tryd.func60, Tryd.ntmps60
          go_wp2
          go_ret2
          exact ⟨by first | rfl | (simp [errW_none, errW_some] <;> rfl) | (simp [*, errW_none, errW_some] <;> rfl), by repeat (first | (with_reducible first | exact HB.out | apply below_alloc | apply pw_below_drewN | apply below_drew1) | exact HB.out)⟩
        · rw [if_neg c5] at H
          have c5b0 : (a0.toList == ([113, 117, 111, 116] : List UInt8)) = false := beq_eq_false_iff_ne.mpr c5
          have c5b1 : (a0.toList != ([113, 117, 111, 116] : List UInt8)) = true := bne_iff_ne.mpr c5
          by_cases c6 : a0.toList = ([97, 112, 111, 115] : List UInt8)
          · rw [if_pos c6] at H
            have c6b0 : (a0.toList == ([97, 112, 111, 115] : List UInt8)) = true := beq_iff_eq.mpr c6
            have c6b1 : (a0.toList != ([97, 112, 111, 115] : List UInt8)) = false := bne_eq_false_iff_eq.mpr c6
            clear c6
            simp only [Option.some.injEq, Prod.mk.injEq] at H
            obtain ⟨rfl, rfl⟩ := H
            go_enter Tryd.func60, Tryd.ntmps60
            go_wp2
            go_ret2
            exact ⟨by first | rfl | (simp [errW_none, errW_some] <;> rfl) | (simp [*, errW_none, errW_some] <;> rfl), by repeat (first | (with_reducible first | exact HB.out | apply below_alloc | apply pw_below_drewN | apply below_drew1) | exact HB.out)⟩
          · rw [if_neg c6] at H
            have c6b0 : (a0.toList == ([97, 112, 111, 115] : List UInt8)) = false := beq_eq_false_iff_ne.mpr c6
            have c6b1 : (a0.toList != ([97, 112, 111, 115] : List UInt8)) = true := bne_iff_ne.mpr c6
            replace H := Option.bind_eq_some_iff.mp H
            obtain ⟨t101, A70, H⟩ := H
            replace H : (if t101 = true then (if 2 ≤ (a0.size : Int) then (stowageref13_entity.j0 k (a0.extract 2 a0.size) 16) else (none)) else ((stowageref3_Begins.f a0 (⟨#[35]⟩ : ByteArray)).bind fun t102 => (if t102 = true then (if 1 ≤ (a0.size : Int) then (stowageref13_entity.j0 k (a0.extract 1 a0.size) 10) else (none)) else (some ((⟨#[]⟩ : ByteArray), false))))) = some (r1, r2) := H
            have A7 := Aside0.mk A70
            clear A70
            have HC8 := Aside0.mk H
            clear H
            go_enter Tryd.func60, Tryd.ntmps60
            go_upto_if 20 with (first | ((with_reducible refine gate_callee (f := 80) rfl ?_); refine goesL_ (some 20) rfl rfl Tryd.func80 (by kernel_rfl) rfl #[.string a0, .string (⟨#[35, 120]⟩ : ByteArray)] rfl (by (try simp only [List.map_toArray, List.map_cons, List.map_nil]); first | done | rfl | (simp only [List.length_drop, List.length_take]; rfl)) ?_; (with_reducible refine (stowageref3_Begins.calls a0 (⟨#[35, 120]⟩ : ByteArray) t101 _ A7.out).mono ?_); rintro e w' ⟨rfl, ⟨nd, rfl⟩⟩; refine ⟨_, rfl, ?_⟩))
            (try simp only [Act.put, List.setIfInBounds_toArray, List.set_cons_zero, List.set_cons_succ])
            go_cut [0, 4] (fun v0 v4 wc => ∃ (kq : Nat) (x0_7 : ByteArray) (x4_7 : Int), v0 = .string x0_7 ∧ v4 = .int .i64 x4_7 ∧ Aside0 (stowageref13_entity.j0 kq x0_7 x4_7 = some (r1, r2)) ∧ Aside0 (kq ≤ k) ∧ Aside0 (Below w.heap.size w wc))
            case first =>
              have H := HC8.out
              clear HC8
              by_cases c9 : t101 = true
              · subst c9
                have H1 : (if 2 ≤ (a0.size : Int) then (stowageref13_entity.j0 k (a0.extract 2 a0.size) 16) else (none)) = some (r1, r2) := by rw [if_pos rfl] at H; exact H
                clear H
                have H := H1
                clear H1
                by_cases c10 : 2 ≤ (a0.size : Int)
                · rw [if_pos c10] at H
                  have c10b0 := eq_true c10
                  have c10b1 : decide (2 ≤ (a0.size : Int)) = true := decide_eq_true c10
                  clear c10
                  have H' := Aside0.mk H
                  clear H
                  go_wp2
                  go_meet
                  case rel => exact ⟨_, (a0.extract 2 a0.size), (16), (by first | rfl | (simp; done) | (simp [*]; done)), (by first | rfl | (simp; done) | (simp [*]; done)), H', ⟨by first | omega | exact Nat.le_refl _⟩, ⟨by repeat (first | (with_reducible first | exact HB.out | apply below_alloc | apply pw_below_drewN | apply below_drew1) | exact HB.out)⟩⟩
                · rw [if_neg c10] at H
                  exact absurd H (by simp)
              · replace c9 := Bool.eq_false_iff.mpr c9
                subst c9
                have H1 : ((stowageref3_Begins.f a0 (⟨#[35]⟩ : ByteArray)).bind fun t102 => (if t102 = true then (if 1 ≤ (a0.size : Int) then (stowageref13_entity.j0 k (a0.extract 1 a0.size) 10) else (none)) else (some ((⟨#[]⟩ : ByteArray), false)))) = some (r1, r2) := by rw [if_neg (show ¬ (false = true) by decide)] at H; exact H
                clear H
                have H := H1
                clear H1
                replace H := Option.bind_eq_some_iff.mp H
                obtain ⟨t102, A110, H⟩ := H
                replace H : (if t102 = true then (if 1 ≤ (a0.size : Int) then (stowageref13_entity.j0 k (a0.extract 1 a0.size) 10) else (none)) else (some ((⟨#[]⟩ : ByteArray), false))) = some (r1, r2) := H
                have A11 := Aside0.mk A110
                clear A110
                by_cases c12 : t102 = true
                · subst c12
                  have H1 : (if 1 ≤ (a0.size : Int) then (stowageref13_entity.j0 k (a0.extract 1 a0.size) 10) else (none)) = some (r1, r2) := by rw [if_pos rfl] at H; exact H
                  clear H
                  have H := H1
                  clear H1
                  by_cases c13 : 1 ≤ (a0.size : Int)
                  · rw [if_pos c13] at H
                    have c13b0 := eq_true c13
                    have c13b1 : decide (1 ≤ (a0.size : Int)) = true := decide_eq_true c13
                    clear c13
                    have H' := Aside0.mk H
                    clear H
                    go_wp2_with (first | ((with_reducible refine gate_callee (f := 80) rfl ?_); refine goesL_ (some 24) rfl rfl Tryd.func80 (by kernel_rfl) rfl #[.string a0, .string (⟨#[35]⟩ : ByteArray)] rfl (by (try simp only [List.map_toArray, List.map_cons, List.map_nil]); first | done | rfl | (simp only [List.length_drop, List.length_take]; rfl)) ?_; (with_reducible refine (stowageref3_Begins.calls a0 (⟨#[35]⟩ : ByteArray) true _ A11.out).mono ?_); rintro e w' ⟨rfl, ⟨nd, rfl⟩⟩; refine ⟨_, rfl, ?_⟩))
                    go_meet
                    case rel => exact ⟨_, (a0.extract 1 a0.size), (10), (by first | rfl | (simp; done) | (simp [*]; done)), (by first | rfl | (simp; done) | (simp [*]; done)), H', ⟨by first | omega | exact Nat.le_refl _⟩, ⟨by repeat (first | (with_reducible first | exact HB.out | apply below_alloc | apply pw_below_drewN | apply below_drew1) | exact HB.out)⟩⟩
                  · rw [if_neg c13] at H
                    exact absurd H (by simp)
                · replace c12 := Bool.eq_false_iff.mpr c12
                  subst c12
                  have H1 : (some ((⟨#[]⟩ : ByteArray), false)) = some (r1, r2) := by rw [if_neg (show ¬ (false = true) by decide)] at H; exact H
                  clear H
                  have H := H1
                  clear H1
                  simp only [Option.some.injEq, Prod.mk.injEq] at H
                  obtain ⟨rfl, rfl⟩ := H
                  go_wp2_with (first | ((with_reducible refine gate_callee (f := 80) rfl ?_); refine goesL_ (some 24) rfl rfl Tryd.func80 (by kernel_rfl) rfl #[.string a0, .string (⟨#[35]⟩ : ByteArray)] rfl (by (try simp only [List.map_toArray, List.map_cons, List.map_nil]); first | done | rfl | (simp only [List.length_drop, List.length_take]; rfl)) ?_; (with_reducible refine (stowageref3_Begins.calls a0 (⟨#[35]⟩ : ByteArray) false _ A11.out).mono ?_); rintro e w' ⟨rfl, ⟨nd, rfl⟩⟩; refine ⟨_, rfl, ?_⟩))
                  go_ret2
                  exact ⟨by first | rfl | (simp [errW_none, errW_some] <;> rfl) | (simp [*, errW_none, errW_some] <;> rfl), by repeat (first | (with_reducible first | exact HB.out | apply below_alloc | apply pw_below_drewN | apply below_drew1) | exact HB.out)⟩
            case rest =>
              clear HC8
              try clear c1
              try clear c2
              try clear c2b0
              try clear c2b1
              try clear p2
              try clear c3
              try clear c3b0
              try clear c3b1
              try clear c4
              try clear c4b0
              try clear c4b1
              try clear c5
              try clear c5b0
              try clear c5b1
              try clear c6
              try clear c6b0
              try clear c6b1
              try clear c8
              try clear c9
              try clear c10
              try clear c10b0
              try clear c10b1
              try clear c12
              try clear c13
              try clear c13b0
              try clear c13b1
              obtain ⟨kq, x0_7, x4_7, rfl, rfl, HA, HJ7, HB⟩ := hcut
              cases kq with
              | zero => exact absurd HA.out (by simp [stowageref13_entity.j0])
              | succ kj7 =>
                have H := HA.out
                clear HA
                simp only [stowageref13_entity.j0] at H
                have HC14 := Aside0.mk H
                clear H
                go_upto_region 19 with (fail)
                go_cut [34] (fun v34 wc => ∃ (kq : Nat) (x34_13 : Bool), v34 = .bool x34_13 ∧ Aside0 (stowageref13_entity.j1 kq x0_7 x4_7 x34_13 = some (r1, r2)) ∧ Aside0 (kq ≤ kj7) ∧ Aside0 (Below w.heap.size w wc))
                case first =>
                  have H := HC14.out
                  clear HC14
                  by_cases c15 : (x0_7.size : Int) < 1
                  · rw [if_pos c15] at H
                    have c15b0 : decide ((x0_7.size : Int) < 1) = true := decide_eq_true c15
                    have c15b1 : decide (x0_7.size < 1) = true := decide_eq_true (by omega)
                    clear c15
                    (first | rw [c15b0] | (simp only [i64_w, i32_w]; rw [c15b0]) | skip)
                    have H' := Aside0.mk H
                    clear H
                    go_wp2
                    go_meet
                    case rel => exact ⟨_, (true), (by first | rfl | (simp; done) | (simp [*]; done)), H', ⟨by have := HJ7.out; first | omega | exact Nat.le_refl _⟩, ⟨by repeat (first | (with_reducible first | exact HB.out | apply below_alloc | apply pw_below_drewN | apply below_drew1) | exact HB.out)⟩⟩
                  · rw [if_neg c15] at H
                    have c15b0 : decide ((x0_7.size : Int) < 1) = false := decide_eq_false c15
                    have c15b1 : decide (x0_7.size < 1) = false := decide_eq_false (by omega)
                    clear c15
                    (first | rw [c15b0] | (simp only [i64_w, i32_w]; rw [c15b0]) | skip)
                    have H' := Aside0.mk H
                    clear H
                    go_wp2
                    go_meet
                    case rel => exact ⟨_, (decide ((x0_7.size : Int) > 7)), (by first | rfl | (simp; done) | (simp [*]; done)), H', ⟨by have := HJ7.out; first | omega | exact Nat.le_refl _⟩, ⟨by repeat (first | (with_reducible first | exact HB.out | apply below_alloc | apply pw_below_drewN | apply below_drew1) | exact HB.out)⟩⟩
                case rest =>
                  clear HC14
                  try clear c1
                  try clear c2
                  try clear c2b0
                  try clear c2b1
                  try clear p2
                  try clear c3
                  try clear c3b0
                  try clear c3b1
                  try clear c4
                  try clear c4b0
                  try clear c4b1
                  try clear c5
                  try clear c5b0
                  try clear c5b1
                  try clear c6
                  try clear c6b0
                  try clear c6b1
                  try clear c8
                  try clear c9
                  try clear c10
                  try clear c10b0
                  try clear c10b1
                  try clear c12
                  try clear c13
                  try clear c13b0
                  try clear c13b1
                  try clear c15
                  try clear c15b0
                  try clear c15b1
                  try clear p2
                  obtain ⟨kq, x34_13, rfl, HA, HJ13, HB⟩ := hcut
                  cases kq with
                  | zero => exact absurd HA.out (by simp [stowageref13_entity.j1])
                  | succ kj13 =>
                    have H := HA.out
                    clear HA
                    simp only [stowageref13_entity.j1] at H
                    by_cases c16 : x34_13 = true
                    · subst c16
                      have H1 : (some ((⟨#[]⟩ : ByteArray), false)) = some (r1, r2) := by rw [if_pos rfl] at H; exact H
                      clear H
                      have H := H1
                      clear H1
                      simp only [Option.some.injEq, Prod.mk.injEq] at H
                      obtain ⟨rfl, rfl⟩ := H
                      go_wp2
                      go_ret2
                      exact ⟨by first | rfl | (simp [errW_none, errW_some] <;> rfl) | (simp [*, errW_none, errW_some] <;> rfl), by repeat (first | (with_reducible first | exact HB.out | apply below_alloc | apply pw_below_drewN | apply below_drew1) | exact HB.out)⟩
                    · replace c16 := Bool.eq_false_iff.mpr c16
                      subst c16
                      have H1 : (stowageref13_entity.l0 kj13 x0_7 x4_7 0 0) = some (r1, r2) := by rw [if_neg (show ¬ (false = true) by decide)] at H; exact H
                      clear H
                      have H := H1
                      clear H1
                      have H' := Aside0.mk H
                      clear H
                      go_wp2
                      go_loopg [5, 6] kj13 (fun kq v5 v6 w' => ∃ (x5_3 : Int) (x6_3 : Int), v5 = .int .i64 x5_3 ∧ v6 = .int .i64 x6_3 ∧ Aside0 (stowageref13_entity.l0 kq x0_7 x4_7 x5_3 x6_3 = some (r1, r2)) ∧ Aside0 (kq ≤ kj13) ∧ Aside0 (Below w.heap.size w w'))
                      case atStart => exact ⟨(0), (0), (by first | rfl | (simp; done) | (simp [*]; done)), (by first | rfl | (simp; done) | (simp [*]; done)), H', ⟨Nat.le_refl _⟩, ⟨by repeat (first | (with_reducible first | exact HB.out | apply below_alloc | apply pw_below_drewN | apply below_drew1) | exact HB.out)⟩⟩
                      case round =>
                        clear H'
                        try clear c1
                        try clear c2
                        try clear c2b0
                        try clear c2b1
                        try clear p2
                        try clear c3
                        try clear c3b0
                        try clear c3b1
                        try clear c4
                        try clear c4b0
                        try clear c4b1
                        try clear c5
                        try clear c5b0
                        try clear c5b1
                        try clear c6
                        try clear c6b0
                        try clear c6b1
                        try clear c8
                        try clear c9
                        try clear c10
                        try clear c10b0
                        try clear c10b1
                        try clear c12
                        try clear c13
                        try clear c13b0
                        try clear c13b1
                        try clear c15
                        try clear c15b0
                        try clear c15b1
                        try clear c16
                        try clear p2
                        obtain ⟨x5_3, x6_3, rfl, rfl, HA, HK3, HB⟩ := hrel
                        cases gk with
                        | zero => exact absurd HA.out (by simp [stowageref13_entity.l0])
                        | succ k3 =>
                          have H := HA.out
                          clear HA
                          simp only [stowageref13_entity.l0] at H
                          by_cases c17 : x6_3 < (x0_7.size : Int)
                          · rw [if_pos c17] at H
                            have c17b0 : decide (x6_3 < (x0_7.size : Int)) = true := decide_eq_true c17
                            clear c17
                            by_cases c18 : 0 ≤ x6_3
                            · rw [if_pos c18] at H
                              have c18b0 : decide (0 ≤ x6_3) = true := decide_eq_true c18
                              clear c18
                              replace H := Option.bind_eq_some_iff.mp H
                              obtain ⟨t103, A200, H⟩ := H
                              replace H : (if t103 < 0 then (some ((⟨#[]⟩ : ByteArray), false)) else (if t103 ≥ x4_7 then (some ((⟨#[]⟩ : ByteArray), false)) else (stowageref13_entity.l0 k3 x0_7 x4_7 (wrap64 ((wrap64 (x4_7 * x5_3)) + t103)) (wrap64 (x6_3 + 1))))) = some (r1, r2) := H
                              have A20 := Aside0.mk A200
                              clear A200
                              by_cases c21 : t103 < 0
                              · rw [if_pos c21] at H
                                have c21b0 : decide (t103 < 0) = true := decide_eq_true c21
                                clear c21
                                simp only [Option.some.injEq, Prod.mk.injEq] at H
                                obtain ⟨rfl, rfl⟩ := H
                                have p19 : 0 ≤ (x6_3 : Int) := of_decide_eq_true (by first | (with_reducible assumption) | assumption)
                                have q19 : x6_3 < (x0_7.size : Int) := of_decide_eq_true (by first | (with_reducible assumption) | assumption)
                                have hx19 := bt_at x0_7 x6_3
                                replace p19 := eq_true p19
                                replace q19 := eq_true q19
                                go_wp2_with (first | ((with_reducible refine gate_callee (f := 107) rfl ?_); refine goesL_ (some 44) rfl rfl Tryd.func107 (by kernel_rfl) rfl #[.int .u8 (bt x0_7 x6_3)] rfl (by (try simp only [List.map_toArray, List.map_cons, List.map_nil]); first | done | rfl | (simp only [List.length_drop, List.length_take]; rfl)) ?_; (with_reducible refine (stowageref3_Digit.calls k3 (bt x0_7 x6_3) t103 _ A20.out).mono ?_); rintro e w' ⟨rfl, ⟨nd, rfl⟩⟩; refine ⟨_, rfl, ?_⟩))
                                go_ret2
                                exact ⟨by first | rfl | (simp [errW_none, errW_some] <;> rfl) | (simp [*, errW_none, errW_some] <;> rfl), by repeat (first | (with_reducible first | exact HB.out | apply below_alloc | apply pw_below_drewN | apply below_drew1) | exact HB.out)⟩
                              · rw [if_neg c21] at H
                                have c21b0 : decide (t103 < 0) = false := decide_eq_false c21
                                clear c21
                                by_cases c22 : t103 ≥ x4_7
                                · rw [if_pos c22] at H
                                  have c22b0 : decide (x4_7 ≤ t103) = true := decide_eq_true c22
                                  clear c22
                                  simp only [Option.some.injEq, Prod.mk.injEq] at H
                                  obtain ⟨rfl, rfl⟩ := H
                                  have p19 : 0 ≤ (x6_3 : Int) := of_decide_eq_true (by first | (with_reducible assumption) | assumption)
                                  have q19 : x6_3 < (x0_7.size : Int) := of_decide_eq_true (by first | (with_reducible assumption) | assumption)
                                  have hx19 := bt_at x0_7 x6_3
                                  replace p19 := eq_true p19
                                  replace q19 := eq_true q19
                                  go_wp2_with (first | ((with_reducible refine gate_callee (f := 107) rfl ?_); refine goesL_ (some 44) rfl rfl Tryd.func107 (by kernel_rfl) rfl #[.int .u8 (bt x0_7 x6_3)] rfl (by (try simp only [List.map_toArray, List.map_cons, List.map_nil]); first | done | rfl | (simp only [List.length_drop, List.length_take]; rfl)) ?_; (with_reducible refine (stowageref3_Digit.calls k3 (bt x0_7 x6_3) t103 _ A20.out).mono ?_); rintro e w' ⟨rfl, ⟨nd, rfl⟩⟩; refine ⟨_, rfl, ?_⟩))
                                  go_ret2
                                  exact ⟨by first | rfl | (simp [errW_none, errW_some] <;> rfl) | (simp [*, errW_none, errW_some] <;> rfl), by repeat (first | (with_reducible first | exact HB.out | apply below_alloc | apply pw_below_drewN | apply below_drew1) | exact HB.out)⟩
                                · rw [if_neg c22] at H
                                  have c22b0 : decide (x4_7 ≤ t103) = false := decide_eq_false c22
                                  clear c22
                                  have H' := Aside0.mk H
                                  clear H
                                  have p19 : 0 ≤ (x6_3 : Int) := of_decide_eq_true (by first | (with_reducible assumption) | assumption)
                                  have q19 : x6_3 < (x0_7.size : Int) := of_decide_eq_true (by first | (with_reducible assumption) | assumption)
                                  have hx19 := bt_at x0_7 x6_3
                                  replace p19 := eq_true p19
                                  replace q19 := eq_true q19
                                  go_wp2_with (first | ((with_reducible refine gate_callee (f := 107) rfl ?_); refine goesL_ (some 44) rfl rfl Tryd.func107 (by kernel_rfl) rfl #[.int .u8 (bt x0_7 x6_3)] rfl (by (try simp only [List.map_toArray, List.map_cons, List.map_nil]); first | done | rfl | (simp only [List.length_drop, List.length_take]; rfl)) ?_; (with_reducible refine (stowageref3_Digit.calls k3 (bt x0_7 x6_3) t103 _ A20.out).mono ?_); rintro e w' ⟨rfl, ⟨nd, rfl⟩⟩; refine ⟨_, rfl, ?_⟩))
                                  go_roundg k3
                                  case measure => have := HJ7.out; have := HJ13.out; have := HK3.out; omega
                                  case rel => exact ⟨(wrap64 ((wrap64 (x4_7 * x5_3)) + t103)), (wrap64 (x6_3 + 1)), (by first | rfl | (simp; done) | (simp [*]; done)), (by first | rfl | (simp; done) | (simp [*]; done)), H', ⟨by have := HJ7.out; have := HJ13.out; have := HK3.out; omega⟩, ⟨by repeat (first | (with_reducible first | exact HB.out | apply below_alloc | apply pw_below_drewN | apply below_drew1) | exact HB.out)⟩⟩
                            · rw [if_neg c18] at H
                              exact absurd H (by simp)
                          · rw [if_neg c17] at H
                            have c17b0 : decide (x6_3 < (x0_7.size : Int)) = false := decide_eq_false c17
                            clear c17
                            replace H := Option.bind_eq_some_iff.mp H
                            obtain ⟨t104, A230, H⟩ := H
                            replace H : (if t104 = true then ((stowageref13_utf8.f x5_3).bind fun t105 => (some (t105, true))) else (some ((⟨#[]⟩ : ByteArray), false))) = some (r1, r2) := H
                            have A23 := Aside0.mk A230
                            clear A230
                            by_cases c24 : t104 = true
                            · subst c24
                              have H1 : ((stowageref13_utf8.f x5_3).bind fun t105 => (some (t105, true))) = some (r1, r2) := by rw [if_pos rfl] at H; exact H
                              clear H
                              have H := H1
                              clear H1
                              replace H := Option.bind_eq_some_iff.mp H
                              obtain ⟨t105, A250, H⟩ := H
                              replace H : (some (t105, true)) = some (r1, r2) := H
                              have A25 := Aside0.mk A250
                              clear A250
                              simp only [Option.some.injEq, Prod.mk.injEq] at H
                              obtain ⟨rfl, rfl⟩ := H
                              go_wp2_with (first | ((with_reducible refine gate_callee (f := 97) rfl ?_); refine goesL_ (some 58) rfl rfl Tryd.func97 (by kernel_rfl) rfl #[.int .i64 x5_3] rfl (by (try simp only [List.map_toArray, List.map_cons, List.map_nil]); first | done | rfl | (simp only [List.length_drop, List.length_take]; rfl)) ?_; (with_reducible refine (stowageref3_Char.calls x5_3 true _ A23.out).mono ?_); rintro e w' ⟨rfl, ⟨nd, rfl⟩⟩; refine ⟨_, rfl, ?_⟩) | ((with_reducible refine gate_callee (f := 108) rfl ?_); refine goesL_ (some 61) rfl rfl Tryd.func108 (by kernel_rfl) rfl #[.int .i64 x5_3] rfl (by (try simp only [List.map_toArray, List.map_cons, List.map_nil]); first | done | rfl | (simp only [List.length_drop, List.length_take]; rfl)) ?_; (with_reducible refine (stowageref13_utf8.calls x5_3 t105 _ A25.out).mono ?_); rintro e w26 ⟨rfl, hb⟩; refine ⟨_, rfl, ?_⟩; have n0_ := Aside0.mk (below_step (by repeat (first | (with_reducible first | exact HB.out | apply below_alloc | apply pw_below_drewN | apply below_drew1) | exact HB.out)) hb); clear HB; have HB := n0_; clear n0_; (try clear hb); (try clear hb2); (try clear hk); (try clear hi)))
                              go_ret2
                              exact ⟨by first | rfl | (simp [errW_none, errW_some] <;> rfl) | (simp [*, errW_none, errW_some] <;> rfl), by repeat (first | (with_reducible first | exact HB.out | apply below_alloc | apply pw_below_drewN | apply below_drew1) | exact HB.out)⟩
                            · replace c24 := Bool.eq_false_iff.mpr c24
                              subst c24
                              have H1 : (some ((⟨#[]⟩ : ByteArray), false)) = some (r1, r2) := by rw [if_neg (show ¬ (false = true) by decide)] at H; exact H
                              clear H
                              have H := H1
                              clear H1
                              simp only [Option.some.injEq, Prod.mk.injEq] at H
                              obtain ⟨rfl, rfl⟩ := H
                              go_wp2_with (first | ((with_reducible refine gate_callee (f := 97) rfl ?_); refine goesL_ (some 58) rfl rfl Tryd.func97 (by kernel_rfl) rfl #[.int .i64 x5_3] rfl (by (try simp only [List.map_toArray, List.map_cons, List.map_nil]); first | done | rfl | (simp only [List.length_drop, List.length_take]; rfl)) ?_; (with_reducible refine (stowageref3_Char.calls x5_3 false _ A23.out).mono ?_); rintro e w' ⟨rfl, ⟨nd, rfl⟩⟩; refine ⟨_, rfl, ?_⟩))
                              go_ret2
                              exact ⟨by first | rfl | (simp [errW_none, errW_some] <;> rfl) | (simp [*, errW_none, errW_some] <;> rfl), by repeat (first | (with_reducible first | exact HB.out | apply below_alloc | apply pw_below_drewN | apply below_drew1) | exact HB.out)⟩

end Go.Proofs.YtkhjpobhdpcglaaDoor.X
end
section
namespace Go.Proofs.YtkhjpobhdpcglaaDoor.X
open Go.RowKit Go.Proofs.YtkhjpobhdpcglaaDoorW.PrintWords Go.Proofs.YtkhjpobhdpcglaaDoorW.PrintLast Go.Proofs.YtkhjpobhdpcglaaDoorW.PrintMore
set_option linter.unusedVariables false
set_option linter.unusedSimpArgs false

theorem get_list (s : ByteArray) (i : Nat) (h : i < s.size) : s.get! i = s[i] := by
  show s.data[i]! = s.data[i]
  exact getElem!_pos s.data i h
theorem decode_small (s : ByteArray) (i : Nat) (h : i < s.size) (hb : s[i].toNat < 128) : Utf8.decode s i = (s[i].toNat, 1) := by
  unfold Utf8.decode
  simp only [Nat.add_zero, get_list s i h]
  rw [if_pos hb]
theorem decode_big (s : ByteArray) (i : Nat) (h : i < s.size) (hb : 128 ≤ s[i].toNat) : 128 ≤ (Utf8.decode s i).1 := by
  unfold Utf8.decode
  simp only [Nat.add_zero, get_list s i h]
  rw [if_neg (by omega)]
  have hr : (128 : Nat) ≤ Utf8.runeError := by decide
  split
  · split
    · rename_i h1; exact h1
    · exact hr
  · split
    · split
      · rename_i h1
        simp only [ge_iff_le, Bool.and_eq_true, decide_eq_true_eq] at h1
        have := h1.1
        show 128 ≤ _
        omega
      · exact hr
    · split
      · split
        · rename_i h1
          simp only [ge_iff_le, Bool.and_eq_true, decide_eq_true_eq] at h1
          have := h1.1
          show 128 ≤ _
          omega
        · exact hr
      · exact hr
/-- digits one behind the other -/
def numL (base : Int) : List UInt8 → Int → Option Int
  | [], n => some n
  | c :: l, n => match digV base c.toNat with | some d => numL base l (n * base + d) | none => none
theorem digV_big {base : Int} {c : Nat} (h : 128 ≤ c) : digV base c = none := digNo (by omega) (by omega) (by omega)
theorem numB_l (s : ByteArray) (base : Int) : ∀ (b pos : Nat) (n : Int), s.size - pos ≤ b → numB s base b pos n = numL base (s.data.toList.drop pos) n := by
  intro b
  induction b with
  | zero =>
    intro pos n h
    rw [List.drop_of_length_le (by rw [← size_list]; omega)]
    rfl
  | succ b ih =>
    intro pos n h
    by_cases hp : pos < s.size
    · rw [drop_get s pos hp]
      unfold numB
      rw [if_pos hp]
      by_cases hb : s[pos].toNat < 128
      · rw [decode_small s pos hp hb]
        simp only [numL]
        cases digV base s[pos].toNat with
        | none => rfl
        | some d => exact ih (pos + 1) _ (by omega)
      · have h1 := decode_big s pos hp (by omega)
        rw [digV_big h1]
        simp only [numL]
        rw [digV_big (by omega)]
    · rw [numB_end _ _ _ _ _ hp, List.drop_of_length_le (by rw [← size_list]; omega)]
      rfl
theorem numL_bound {base : Int} (hb : 2 ≤ base ∧ base ≤ 16) : ∀ (l : List UInt8) (n m : Int) (k : Nat), 0 ≤ n → n < 16 ^ k → numL base l n = some m → 0 ≤ m ∧ m < 16 ^ (k + l.length) := by
  intro l
  induction l with
  | nil =>
    intro n m k h0 h1 h
    injection h with h
    subst h
    exact ⟨h0, h1⟩
  | cons c l ih =>
    intro n m k h0 h1 h
    simp only [numL] at h
    cases hd : digV base c.toNat with
    | none => rw [hd] at h; cases h
    | some d =>
      rw [hd] at h
      have hdb : 0 ≤ d ∧ d ≤ 15 := by
        unfold digV at hd
        repeat' split at hd
        all_goals first | (injection hd with hd; omega) | cases hd
      have hn : n * base + d < 16 ^ (k + 1) := by
        have h2 : n * base ≤ n * 16 := Int.mul_le_mul_of_nonneg_left hb.2 h0
        rw [Int.pow_succ]
        omega
      have hn0 : 0 ≤ n * base + d := by
        have := Int.mul_nonneg h0 (show (0 : Int) ≤ base by omega)
        omega
      have := ih (n * base + d) m (k + 1) hn0 hn h
      rw [List.length_cons, show k + (l.length + 1) = k + 1 + l.length by omega]
      exact this
/-- the document's digit -/
theorem digit_f (c : Int) (h0 : 0 ≤ c) (h1 : c ≤ 255) : ∃ d : Int, (∀ k, 3 ≤ k → stowageref3_Digit.f k c = some d) ∧ -1 ≤ d ∧ d ≤ 15 ∧
    (∀ base : Int, base = 10 ∨ base = 16 → (if d < 0 ∨ d ≥ base then digV base c.toNat = none else digV base c.toNat = some d)) := by
  have key : ∀ k x, stowageref3_Digit.f (k + 3) c = some x → ∀ k', 3 ≤ k' → stowageref3_Digit.f k' c = some x → True := fun _ _ _ _ _ _ => trivial
  by_cases hA : 48 ≤ c ∧ c ≤ 57
  · refine ⟨c - 48, fun k hk => ?_, by omega, by omega, fun base hb => ?_⟩
    · obtain ⟨k, rfl⟩ : ∃ m, k = m + 1 := ⟨k - 1, by omega⟩
      simp only [stowageref3_Digit.f, stowageref3_Digit.j0]
      rw [if_pos (by omega), if_pos (decide_eq_true (by omega))]
      congr 1
      omega
    · rw [if_neg (by omega), dig1 (by omega) (by omega)]
      congr 1
      omega
  · by_cases hB : 97 ≤ c ∧ c ≤ 102
    · refine ⟨c - 97 + 10, fun k hk => ?_, by omega, by omega, fun base hb => ?_⟩
      · obtain ⟨k, rfl⟩ : ∃ m, k = m + 1 + 1 := ⟨k - 2, by omega⟩
        simp only [stowageref3_Digit.f, stowageref3_Digit.j0, stowageref3_Digit.j1]
        rw [if_pos (by omega), if_neg (by simp; omega), if_pos (by omega), if_pos (decide_eq_true (by omega))]
        congr 1
        omega
      · rcases hb with rfl | rfl
        · rw [if_pos (by omega), digNo10 (by omega)]
        · rw [if_neg (by omega), dig2 (by omega) (by omega)]
          congr 1
          omega
    · by_cases hC : 65 ≤ c ∧ c ≤ 70
      · refine ⟨c - 65 + 10, fun k hk => ?_, by omega, by omega, fun base hb => ?_⟩
        · obtain ⟨k, rfl⟩ : ∃ m, k = m + 1 + 1 := ⟨k - 2, by omega⟩
          simp only [stowageref3_Digit.f, stowageref3_Digit.j0, stowageref3_Digit.j1]
          rw [if_pos (by omega), if_neg (by simp; omega), if_neg (by omega), if_neg (by decide), if_pos (by omega), if_pos (by omega)]
          congr 1
          omega
        · rcases hb with rfl | rfl
          · rw [if_pos (by omega), digNo10 (by omega)]
          · rw [if_neg (by omega), dig3 (by omega) (by omega)]
            congr 1
            omega
      · refine ⟨-1, fun k hk => ?_, by omega, by omega, fun base hb => ?_⟩
        · obtain ⟨k, rfl⟩ : ∃ m, k = m + 1 + 1 := ⟨k - 2, by omega⟩
          have hj1 : stowageref3_Digit.j1 (k + 1) c false = some (-1) := by
            simp only [stowageref3_Digit.j1]
            rw [if_neg (by decide)]
            by_cases h65 : c ≥ 65
            · rw [if_pos h65, if_neg (by omega)]
            · rw [if_neg h65]
          have hj0 : stowageref3_Digit.j0 (k + 1 + 1) c false = some (-1) := by
            simp only [stowageref3_Digit.j0]
            rw [if_neg (by decide)]
            by_cases h97 : c ≥ 97
            · rw [if_pos h97, decide_eq_false (by omega), hj1]
            · rw [if_neg h97, hj1]
          unfold stowageref3_Digit.f
          by_cases h48 : c ≥ 48
          · rw [if_pos h48, decide_eq_false (by omega), hj0]
          · rw [if_neg h48, hj0]
        · rw [if_pos (by omega), digNo (by omega) (by omega) (by omega)]
/-- a character that may stand -/
def charV (n : Int) : Bool := n == 9 || n == 10 || n == 13 || (decide (32 ≤ n) && decide (n ≤ 55295)) || (decide (57344 ≤ n) && decide (n ≤ 65533)) || (decide (65536 ≤ n) && decide (n ≤ 1114111))
theorem char_f (n : Int) : stowageref3_Char.f n = some (charV n) := by
  unfold stowageref3_Char.f charV
  repeat' split
  all_goals (congr 1; simp_all; try omega)
end Go.Proofs.YtkhjpobhdpcglaaDoor.X
end
section
namespace Go.Proofs.YtkhjpobhdpcglaaDoor.X
open Go.RowKit Go.Proofs.YtkhjpobhdpcglaaDoorW.PrintWords Go.Proofs.YtkhjpobhdpcglaaDoorW.PrintLast Go.Proofs.YtkhjpobhdpcglaaDoorW.PrintMore
set_option linter.unusedVariables false
set_option linter.unusedSimpArgs false

theorem ofNat_nat (n : Nat) (h : n < 256) : (UInt8.ofNat n).toNat = n := by simp; omega
theorem decode_1 (a : UInt8) (h : a.toNat < 128) : Utf8.decode ⟨#[a]⟩ 0 = (a.toNat, 1) := by
  unfold Utf8.decode
  have h0 : (⟨#[a]⟩ : ByteArray).get! 0 = a := rfl
  simp only [Nat.add_zero, h0]
  rw [if_pos h]
theorem decode_2 (a b : UInt8) (c : Nat) (h1 : a.toNat = 192 + c / 64) (h2 : b.toNat = 128 + c % 64) (hc : 128 ≤ c) (hc2 : c < 2048) : Utf8.decode ⟨#[a, b]⟩ 0 = (c, 2) := by
  unfold Utf8.decode
  have g0 : (⟨#[a, b]⟩ : ByteArray).get! 0 = a := rfl
  have g1 : (⟨#[a, b]⟩ : ByteArray).get! 1 = b := rfl
  have hs : (⟨#[a, b]⟩ : ByteArray).size = 2 := rfl
  simp only [Nat.add_zero, Nat.zero_add, g0, g1, hs]
  rw [if_neg (by omega), if_pos (by simp; omega), if_pos (by omega)]
  congr 1
  omega
theorem decode_3 (a b d : UInt8) (c : Nat) (h1 : a.toNat = 224 + c / 4096) (h2 : b.toNat = 128 + c / 64 % 64) (h3 : d.toNat = 128 + c % 64) (hc : 2048 ≤ c) (hc2 : c < 65536) (hv : Utf8.valid c = true) : Utf8.decode ⟨#[a, b, d]⟩ 0 = (c, 3) := by
  unfold Utf8.decode
  have g0 : (⟨#[a, b, d]⟩ : ByteArray).get! 0 = a := rfl
  have g1 : (⟨#[a, b, d]⟩ : ByteArray).get! 1 = b := rfl
  have g2 : (⟨#[a, b, d]⟩ : ByteArray).get! 2 = d := rfl
  have hs : (⟨#[a, b, d]⟩ : ByteArray).size = 3 := rfl
  have he : (a.toNat % 16) * 4096 + (b.toNat % 64) * 64 + d.toNat % 64 = c := by omega
  simp only [Nat.add_zero, Nat.zero_add, g0, g1, g2, hs]
  rw [if_neg (by omega), if_neg (by simp; omega), if_pos (by simp; omega), he, if_pos (by simp [hv]; omega)]
theorem decode_4 (a b d e : UInt8) (c : Nat) (h1 : a.toNat = 240 + c / 262144) (h2 : b.toNat = 128 + c / 4096 % 64) (h3 : d.toNat = 128 + c / 64 % 64) (h4 : e.toNat = 128 + c % 64) (hc : 65536 ≤ c) (hc2 : c ≤ 1114111) (hv : Utf8.valid c = true) : Utf8.decode ⟨#[a, b, d, e]⟩ 0 = (c, 4) := by
  unfold Utf8.decode
  have g0 : (⟨#[a, b, d, e]⟩ : ByteArray).get! 0 = a := rfl
  have g1 : (⟨#[a, b, d, e]⟩ : ByteArray).get! 1 = b := rfl
  have g2 : (⟨#[a, b, d, e]⟩ : ByteArray).get! 2 = d := rfl
  have g3 : (⟨#[a, b, d, e]⟩ : ByteArray).get! 3 = e := rfl
  have hs : (⟨#[a, b, d, e]⟩ : ByteArray).size = 4 := rfl
  have he : (a.toNat % 8) * 262144 + (b.toNat % 64) * 4096 + (d.toNat % 64) * 64 + e.toNat % 64 = c := by omega
  simp only [Nat.add_zero, Nat.zero_add, g0, g1, g2, g3, hs]
  rw [if_neg (by omega), if_neg (by simp; omega), if_neg (by simp; omega), if_pos (by simp; omega), he, if_pos (by simp [hv]; omega)]
theorem encode_valid (c : Nat) (hv : Utf8.valid c = true) : Utf8.decode (Utf8.encode c) 0 = (c, (Utf8.encode c).size) ∧ 0 < (Utf8.encode c).size := by
  have hc : c ≤ 1114111 := by
    unfold Utf8.valid at hv
    simp at hv
    omega
  have he : Utf8.encode c = if c < 128 then ⟨#[UInt8.ofNat c]⟩ else if c < 2048 then ⟨#[UInt8.ofNat (192 + c / 64), UInt8.ofNat (128 + c % 64)]⟩ else if c < 65536 then ⟨#[UInt8.ofNat (224 + c / 4096), UInt8.ofNat (128 + c / 64 % 64), UInt8.ofNat (128 + c % 64)]⟩ else ⟨#[UInt8.ofNat (240 + c / 262144), UInt8.ofNat (128 + c / 4096 % 64), UInt8.ofNat (128 + c / 64 % 64), UInt8.ofNat (128 + c % 64)]⟩ := by
    unfold Utf8.encode
    rw [if_pos hv, Int.toNat_natCast]
  rw [he]
  split
  · rename_i h
    have h1 := ofNat_nat c (by omega)
    have := decode_1 (UInt8.ofNat c) (by omega)
    rw [h1] at this
    exact ⟨this , Nat.succ_pos _⟩
  · split
    · exact ⟨decode_2 _ _ c (ofNat_nat _ (by omega)) (ofNat_nat _ (by omega)) (by omega) (by omega), Nat.succ_pos _⟩
    · split
      · exact ⟨decode_3 _ _ _ c (ofNat_nat _ (by omega)) (ofNat_nat _ (by omega)) (ofNat_nat _ (by omega)) (by omega) (by omega) hv, Nat.succ_pos _⟩
      · exact ⟨decode_4 _ _ _ _ c (ofNat_nat _ (by omega)) (ofNat_nat _ (by omega)) (ofNat_nat _ (by omega)) (ofNat_nat _ (by omega)) (by omega) (by omega) hv, Nat.succ_pos _⟩
theorem encode_fffd : Utf8.encode 65533 = ⟨#[239, 191, 189]⟩ := by decide
theorem encode_bad (n : Int) (h : Utf8.valid n = false) : Utf8.encode n = ⟨#[239, 191, 189]⟩ := by
  have : Utf8.encode n = Utf8.encode 65533 := by
    unfold Utf8.encode
    rw [h]
    rfl
  rw [this, encode_fffd]
/-- one character alone: its tests -/
theorem one_char (c : Nat) (hv : Utf8.valid c = true) (hne : c ≠ 65533) : legB (Utf8.encode c) (Utf8.encode c).size 0 = legalRune c ∧ (cntB (Utf8.encode c) (Utf8.encode c).size 0 0).2 = true := by
  obtain ⟨hd, hp⟩ := encode_valid c hv
  obtain ⟨z, hz⟩ : ∃ z, (Utf8.encode c).size = z + 1 := ⟨(Utf8.encode c).size - 1, by omega⟩
  have hb : bad (Utf8.encode c) 0 = false := bad_no (by rw [hd]; simp; omega)
  constructor
  · rw [hz]
    unfold legB
    rw [if_pos hp, hd]
    cases legalRune c with
    | false => rfl
    | true =>
      rw [if_pos rfl, Nat.zero_add]
      exact legB_end _ _ _ (by omega)
  · rw [hz]
    unfold cntB
    rw [if_pos hp, hb, if_neg (by decide), hd, Nat.zero_add, cntB_end _ _ _ _ (by omega)]
set_option maxRecDepth 100000 in
theorem okN_char (n : Int) (h0 : 0 ≤ n) : okN n = charV n := by
  obtain ⟨c, rfl⟩ : ∃ c : Nat, n = (c : Int) := ⟨n.toNat, by omega⟩
  by_cases hv : Utf8.valid (c : Int) = true
  · have hv2 := hv
    unfold Utf8.valid at hv2
    simp at hv2
    by_cases hf : c = 65533
    · subst hf
      unfold okN charV
      simp
    · obtain ⟨h1, h2⟩ := one_char c hv hf
      have h3 : ((Utf8.encode (c : Int)).toList == [239, 191, 189]) = false := by
        rw [beq_eq_false_iff_ne]
        intro he
        have he2 : Utf8.encode (c : Int) = ⟨#[239, 191, 189]⟩ := by
          apply ba_ext
          rw [← ByteArray.toList_eq, he]
        have hd := (encode_valid c hv).1
        rw [he2] at hd
        have hd3 : Utf8.decode ⟨#[239, 191, 189]⟩ 0 = (65533, 3) := by decide
        rw [hd3] at hd
        injection hd with hd
        exact hf hd.symm
      unfold okN charV
      rw [h1, h2, h3]
      have hlr : legalRune c = (((c : Int) == 9) || ((c : Int) == 10) || ((c : Int) == 13) || (decide (32 ≤ (c : Int)) && decide ((c : Int) ≤ 55295)) || (decide (57344 ≤ (c : Int)) && decide ((c : Int) ≤ 65533)) || decide (65536 ≤ (c : Int))) := by
        unfold legalRune
        rw [Bool.eq_iff_iff]
        simp only [Bool.or_eq_true, Bool.and_eq_true, beq_iff_eq, decide_eq_true_eq]
        omega
      rw [hlr]
      rw [Bool.eq_iff_iff]
      simp
      omega
  · have hv2 : Utf8.valid (c : Int) = false := by simpa using hv
    have he := encode_bad _ hv2
    unfold Utf8.valid at hv2
    simp at hv2
    have h3 : ((Utf8.encode (c : Int)).toList == [239, 191, 189]) = true := by rw [he, ByteArray.toList_eq]; decide
    unfold okN charV
    rw [h3]
    rw [Bool.eq_iff_iff]
    simp
    omega
theorem strOf (l : List Int) : (strOfNums l).data.toList = l.map (fun n => n.toNat.toUInt8) := by
  simp [strOfNums]
set_option maxRecDepth 100000 in
theorem utf8_enc (n : Int) (h0 : 0 ≤ n) (hc : charV n = true) : stowageref13_utf8.f n = some (Utf8.encode n) := by
  obtain ⟨c, rfl⟩ : ∃ c : Nat, n = (c : Int) := ⟨n.toNat, by omega⟩
  have hv : Utf8.valid (c : Int) = true := by
    unfold charV at hc
    unfold Utf8.valid
    simp at hc ⊢
    omega
  have hcm : c ≤ 1114111 := by
    unfold charV at hc
    simp at hc
    omega
  have he : Utf8.encode c = if c < 128 then ⟨#[UInt8.ofNat c]⟩ else if c < 2048 then ⟨#[UInt8.ofNat (192 + c / 64), UInt8.ofNat (128 + c % 64)]⟩ else if c < 65536 then ⟨#[UInt8.ofNat (224 + c / 4096), UInt8.ofNat (128 + c / 64 % 64), UInt8.ofNat (128 + c % 64)]⟩ else ⟨#[UInt8.ofNat (240 + c / 262144), UInt8.ofNat (128 + c / 4096 % 64), UInt8.ofNat (128 + c / 64 % 64), UInt8.ofNat (128 + c % 64)]⟩ := by
    unfold Utf8.encode
    rw [if_pos hv, Int.toNat_natCast]
  have t1 : Int.tdiv (c : Int) 64 = ((c / 64 : Nat) : Int) := by rw [Int.tdiv_eq_ediv_of_nonneg (by omega)]; rfl
  have t2 : Int.tdiv (c : Int) 4096 = ((c / 4096 : Nat) : Int) := by rw [Int.tdiv_eq_ediv_of_nonneg (by omega)]; rfl
  have t3 : Int.tdiv (c : Int) 262144 = ((c / 262144 : Nat) : Int) := by rw [Int.tdiv_eq_ediv_of_nonneg (by omega)]; rfl
  have w : ∀ x : Nat, x ≤ 4611686018427387904 → wrap64 (x : Int) = (x : Int) := fun x hx => by unfold wrap64; omega
  have m : ∀ x : Nat, Int.tmod (x : Int) 64 = ((x % 64 : Nat) : Int) := fun x => by rw [Int.tmod_eq_emod_of_nonneg (by omega)]; rfl
  have fin : ∀ (x : Int) (y : Nat), x = (y : Int) → y < 256 → (wrap64 x % 256).toNat.toUInt8 = UInt8.ofNat y := fun x y hx hy => by
    subst hx
    rw [w y (by omega)]
    have : ((y : Int) % 256).toNat = y := by omega
    rw [this]
  unfold stowageref13_utf8.f
  rw [he, t1, t2, t3, w _ (by omega), w _ (by omega), w _ (by omega), m, m, m]
  by_cases h1 : c < 128
  · rw [if_pos (by omega), if_pos h1]
    refine congrArg some ?_
    apply ba_ext
    rw [strOf]
    have : ((c : Int) % 256).toNat = c := by omega
    simp [this]
  · rw [if_neg (by omega), if_neg h1]
    by_cases h2 : c < 2048
    · rw [if_pos (by omega), if_pos h2]
      refine congrArg some ?_
      apply ba_ext
      rw [strOf]
      simp only [List.map_cons, List.map_nil]
      rw [fin _ (192 + c / 64) (by omega) (by omega), fin _ (128 + c % 64) (by omega) (by omega)]
    · rw [if_neg (by omega), if_neg h2]
      by_cases h3 : c < 65536
      · rw [if_pos (by omega), if_pos h3]
        refine congrArg some ?_
        apply ba_ext
        rw [strOf]
        simp only [List.map_cons, List.map_nil]
        rw [fin _ (224 + c / 4096) (by omega) (by omega), fin _ (128 + c / 64 % 64) (by omega) (by omega), fin _ (128 + c % 64) (by omega) (by omega)]
      · rw [if_neg (by omega), if_neg h3]
        refine congrArg some ?_
        apply ba_ext
        rw [strOf]
        simp only [List.map_cons, List.map_nil]
        rw [fin _ (240 + c / 262144) (by omega) (by omega), fin _ (128 + c / 4096 % 64) (by omega) (by omega), fin _ (128 + c / 64 % 64) (by omega) (by omega), fin _ (128 + c % 64) (by omega) (by omega)]
end Go.Proofs.YtkhjpobhdpcglaaDoor.X
end
section
namespace Go.Proofs.YtkhjpobhdpcglaaDoor.X
open Go.RowKit Go.Proofs.YtkhjpobhdpcglaaDoorW.PrintWords Go.Proofs.YtkhjpobhdpcglaaDoorW.PrintLast Go.Proofs.YtkhjpobhdpcglaaDoorW.PrintMore
set_option linter.unusedVariables false
set_option linter.unusedSimpArgs false

theorem ext_list (s : ByteArray) (i j : Nat) : (s.extract i j).data.toList = (s.data.toList.take j).drop i := by
  simp [List.extract_eq_take_drop, List.drop_take]
theorem ext_end (s : ByteArray) (i : Nat) : (s.extract i s.size).data.toList = s.data.toList.drop i := by
  rw [ext_list, List.take_of_length_le (by rw [← size_list]; exact Nat.le_refl _)]
theorem pre_list (a b : ByteArray) : (decide (b.size ≤ a.size) && (a.extract 0 b.size).toList == b.toList) = b.data.toList.isPrefixOf a.data.toList := by
  rw [Bool.eq_iff_iff, Bool.and_eq_true, decide_eq_true_eq, beq_iff_eq, List.isPrefixOf_iff_prefix, List.prefix_iff_eq_take, ByteArray.toList_eq, ByteArray.toList_eq, ext_list, List.drop_zero, ← size_list]
  constructor
  · rintro ⟨_, h⟩
    exact h.symm
  · intro h
    refine ⟨?_, h.symm⟩
    have := congrArg List.length h
    rw [List.length_take, ← size_list, ← size_list] at this
    omega
theorem hp_list (a b : ByteArray) (ha : a.size ≤ 1073741824) (hb : b.size ≤ 1073741824) : strings_HasPrefix.f a b = some (b.data.toList.isPrefixOf a.data.toList) := by
  rw [hasPrefix_f a b (by omega) (by omega), pre_list]
theorem begins_list (a b : ByteArray) : stowageref3_Begins.f a b = some (b.data.toList.isPrefixOf a.data.toList) := by
  unfold stowageref3_Begins.f
  rw [← pre_list]
  by_cases h : b.size ≤ a.size
  · rw [if_pos (by omega), if_pos (by omega), if_pos (by omega), Int.toNat_natCast]
    simp [h]
  · rw [if_neg (by omega)]
    simp [h]
/-- a name's text, none: it tells none -/
def entV (s : ByteArray) : ByteArray × Bool := if (signV s).2 = true then ((signV s).1, true) else (⟨#[]⟩, false)
def numR (base : Int) (l : List UInt8) (n : Int) : ByteArray × Bool :=
  match numL base l n with
  | none => (⟨#[]⟩, false)
  | some m => if charV m = true then (Utf8.encode m, true) else (⟨#[]⟩, false)
theorem entity_l (s : ByteArray) (hs : s.size ≤ 7) (base : Int) (hb : base = 10 ∨ base = 16) : ∀ (r pos k : Nat) (n : Int), r + pos = s.size → r + 4 ≤ k → 0 ≤ n → n < 16 ^ pos → stowageref13_entity.l0 k s base n (pos : Int) = some (numR base (s.data.toList.drop pos) n) := by
  intro r
  induction r with
  | zero =>
    intro pos k n hp hk h0 h1
    obtain ⟨k, rfl⟩ : ∃ m, k = m + 1 := ⟨k - 1, by omega⟩
    simp only [stowageref13_entity.l0]
    rw [if_neg (by omega), char_f, List.drop_of_length_le (by rw [← size_list]; omega)]
    simp only [Option.bind_some, numR, numL]
    cases hc : charV n with
    | true =>
      rw [utf8_enc n h0 hc]
      rfl
    | false => rfl
  | succ r ih =>
    intro pos k n hp hk h0 h1
    obtain ⟨k, rfl⟩ : ∃ m, k = m + 1 := ⟨k - 1, by omega⟩
    have hpl : pos < s.size := by omega
    have hbt := bt_get s pos hpl
    obtain ⟨d, hd1, hd2, hd3, hd4⟩ := digit_f (bt s (pos : Int)) (bt_range s _).1 (bt_range s _).2
    have hd5 := hd4 base hb
    have hdn : (bt s (pos : Int)).toNat = s[pos].toNat := by rw [hbt]; omega
    rw [hdn] at hd5
    have hp16 : (16 : Int) ^ pos ≤ 16777216 := pow16 pos (by omega)
    simp only [stowageref13_entity.l0]
    rw [if_pos (by omega), if_pos (by omega), hd1 k (by omega), drop_get s pos hpl]
    simp only [Option.bind_some, numR, numL]
    by_cases hno : d < 0 ∨ d ≥ base
    · rw [if_pos hno] at hd5
      rw [hd5]
      by_cases hneg : d < 0
      · rw [if_pos hneg]
      · rw [if_neg hneg, if_pos (by omega)]
    · rw [if_neg hno] at hd5
      rw [hd5, if_neg (by omega), if_neg (by omega)]
      have hmul : base * n ≤ 16 * n ∧ 0 ≤ base * n := by
        constructor
        · exact Int.mul_le_mul_of_nonneg_right (by omega) h0
        · exact Int.mul_nonneg (by omega) h0
      have hw : wrap64 (wrap64 (base * n) + d) = n * base + d := by
        have e1 : wrap64 (base * n) = base * n := by unfold wrap64; omega
        rw [e1, Int.mul_comm base n]
        rw [Int.mul_comm base n] at hmul
        unfold wrap64
        omega
      rw [hw, w64 pos (by omega)]
      have hlt : n * base + d < 16 ^ (pos + 1) := by
        rw [Int.pow_succ, Int.mul_comm n base]
        omega
      rw [ih (pos + 1) k (n * base + d) (by omega) (by omega) (by rw [Int.mul_comm]; omega) hlt]
      rfl
theorem entity_j (s : ByteArray) (base : Int) (hb : base = 10 ∨ base = 16) (k : Nat) (hk : 16 ≤ k) : stowageref13_entity.j0 k s base = some (if s.size < 1 ∨ 7 < s.size then (⟨#[]⟩, false) else numR base s.data.toList 0) := by
  obtain ⟨k, rfl⟩ : ∃ m, k = m + 1 + 1 := ⟨k - 2, by omega⟩
  simp only [stowageref13_entity.j0, stowageref13_entity.j1, if_true]
  by_cases h1 : s.size < 1
  · rw [if_pos (by omega), if_pos (Or.inl h1)]
  · by_cases h7 : 7 < s.size
    · rw [if_neg (by omega), if_pos (decide_eq_true (by omega)), if_pos (.inr h7)]
    · rw [if_neg (by omega), if_neg (by simp; omega), if_neg (by omega)]
      have := entity_l s (by omega) base hb s.size 0 k 0 (by omega) (by omega) (by omega) (by decide)
      simpa using this
def numW (base : Int) (t : ByteArray) : Int × Bool :=
  if t.size < 1 ∨ 7 < t.size then (0, false)
  else match numB t base t.size 0 0 with
    | none => (0, false)
    | some n => (n, okN n)
theorem numV_W (s : ByteArray) : numV s = numW (numT s).1 (numT s).2 := rfl
/-- the number's answer in the program's words -/
theorem num_ans (base : Int) (hb : base = 10 ∨ base = 16) (t : ByteArray) (x : Int × Bool) (hx : x = numW base t) :
    (if t.size < 1 ∨ 7 < t.size then ((⟨#[]⟩ : ByteArray), false) else numR base t.data.toList 0) = if x.2 = true then (Utf8.encode x.1, true) else (⟨#[]⟩, false) := by
  subst hx
  unfold numW
  by_cases h : t.size < 1 ∨ 7 < t.size
  · rw [if_pos h, if_pos h]
    rfl
  · rw [if_neg h, if_neg h, numB_l t base t.size 0 0 (by omega), List.drop_zero]
    unfold numR
    cases hn : numL base t.data.toList 0 with
    | none => rfl
    | some m =>
      have hm := numL_bound (base := base) (by omega) t.data.toList 0 m 0 (by omega) (by decide) hn
      simp only
      rw [okN_char m hm.1]
theorem entity_f (s : ByteArray) (hs : s.size ≤ 1073741824) (k : Nat) (hk : 20 ≤ k) : stowageref13_entity.f k s = some (entV s) := by
  unfold stowageref13_entity.f entV signV
  by_cases h1 : s.toList = [97, 109, 112]
  · simp only [if_pos h1, if_true]
  by_cases h2 : s.toList = [108, 116]
  · simp only [if_neg h1, if_pos h2, if_true]
  by_cases h3 : s.toList = [103, 116]
  · simp only [if_neg h1, if_neg h2, if_pos h3, if_true]
  by_cases h4 : s.toList = [113, 117, 111, 116]
  · simp only [if_neg h1, if_neg h2, if_neg h3, if_pos h4, if_true]
  by_cases h5 : s.toList = [97, 112, 111, 115]
  · simp only [if_neg h1, if_neg h2, if_neg h3, if_neg h4, if_pos h5, if_true]
  simp only [if_neg h1, if_neg h2, if_neg h3, if_neg h4, if_neg h5]
  rw [begins_list, begins_list, hp_list s _ hs (by decide)]
  have hsz := size_list s
  cases hl : s.data.toList with
  | nil => rfl
  | cons a r =>
    rw [hl] at hsz
    have hs1 : 1 ≤ (s.size : Int) := by simp only [List.length_cons] at hsz; omega
    have hx1 : (s.extract 1 s.size).data.toList = r := by rw [ext_end, hl]; rfl
    have hxs : (s.extract 1 s.size).size ≤ 1073741824 := by rw [size_list, hx1]; simp at hsz; omega
    by_cases ha : a = 35
    · subst ha
      simp only [List.isPrefixOf, Option.bind_some]
      have hnT : numT (s.extract 1 s.size) = if ([120] : List UInt8).isPrefixOf r = true then (16, (s.extract 1 s.size).extract 1 (s.extract 1 s.size).size) else (10, s.extract 1 s.size) := by
        unfold numT
        rw [hp_list _ _ hxs (by decide), hx1]
        simp
      cases r with
      | nil =>
        have hx2 : (numV (s.extract 1 s.size)) = numW 10 (s.extract 1 s.size) := by
          rw [numV_W, hnT]
          rfl
        have := num_ans 10 (.inl rfl) (s.extract 1 s.size) _ hx2
        simp only [List.isPrefixOf, beq_self_eq_true, Bool.true_and, Bool.false_eq_true, if_false, if_true]
        rw [if_pos hs1, entity_j _ _ (.inl rfl) k (by omega), this]
      | cons b r =>
        have hs2 : 2 ≤ (s.size : Int) := by simp only [List.length_cons] at hsz; omega
        by_cases hb : b = 120
        · subst hb
          have hex : s.extract 2 s.size = (s.extract 1 s.size).extract 1 (s.extract 1 s.size).size := by
            apply ba_ext
            rw [ext_end, ext_end, hx1, hl]
            rfl
          have hx2 : (numV (s.extract 1 s.size)) = numW 16 (s.extract 2 s.size) := by
            rw [numV_W, hnT, hex]
            simp only [List.isPrefixOf, beq_self_eq_true, Bool.true_and, if_true]
          have := num_ans 16 (.inr rfl) (s.extract 2 s.size) _ hx2
          simp only [List.isPrefixOf, beq_self_eq_true, Bool.true_and, if_true]
          rw [if_pos hs2, entity_j _ _ (.inr rfl) k (by omega), this]
        · have hb2 : ((120 : UInt8) == b) = false := by simpa using fun h : 120 = b => hb h.symm
          have hx2 : (numV (s.extract 1 s.size)) = numW 10 (s.extract 1 s.size) := by
            rw [numV_W, hnT]
            simp only [List.isPrefixOf, hb2, Bool.false_and, Bool.false_eq_true, if_false]
          have := num_ans 10 (.inl rfl) (s.extract 1 s.size) _ hx2
          simp only [List.isPrefixOf, beq_self_eq_true, Bool.true_and, hb2, Bool.false_and, Bool.false_eq_true, if_false, if_true]
          rw [if_pos hs1, entity_j _ _ (.inl rfl) k (by omega), this]
    · have ha2 : ((35 : UInt8) == a) = false := by simpa using fun h : 35 = a => ha h.symm
      simp only [List.isPrefixOf, ha2, Bool.false_and, Option.bind_some, Bool.false_eq_true, if_false]
      rfl
end Go.Proofs.YtkhjpobhdpcglaaDoor.X
end
section
namespace Go.Proofs.YtkhjpobhdpcglaaDoor.X
open Go.RowKit Go.Proofs.YtkhjpobhdpcglaaDoorW.PrintWords Go.Proofs.YtkhjpobhdpcglaaDoorW.PrintLast Go.Proofs.YtkhjpobhdpcglaaDoorW.PrintMore
attribute [local go_sem] max2_int min2_int max_two min_two max_three min_three max_four min_four
set_option linter.unusedVariables false
set_option linter.unusedSimpArgs false

/-! ### stowageref3_Cut: function 59 -/
def stowageref3_Cut.l0 : Nat → ByteArray → Int → Int → Option (ByteArray × ByteArray × Bool)
  | 0, _, _, _ => none
  | k + 1, x0, x1, x7 => if x7 < (x0.size : Int) then (if 0 ≤ x7 then (if (bt x0 x7) = x1 then (if x7 ≤ (x0.size : Int) then (if 0 ≤ (wrap64 (x7 + 1)) then (if (wrap64 (x7 + 1)) ≤ (x0.size : Int) then (some (x0.extract 0 (x7 : Int).toNat, x0.extract ((wrap64 (x7 + 1)) : Int).toNat x0.size, true)) else (none)) else (none)) else (none)) else (stowageref3_Cut.l0 k x0 x1 (wrap64 (x7 + 1)))) else (none)) else (some (x0, (⟨#[]⟩ : ByteArray), false))
def stowageref3_Cut.f (k : Nat) (a0 : ByteArray) (a1 : Int) : Option (ByteArray × ByteArray × Bool) := stowageref3_Cut.l0 k a0 a1 0
theorem stowageref3_Cut.mono_l : ∀ k, (∀ y0 y1 y2, LeO (stowageref3_Cut.l0 k y0 y1 y2) (stowageref3_Cut.l0 (k + 1) y0 y1 y2))
  | 0 => fun _ _ _ r h => by simp [stowageref3_Cut.l0] at h
  | k + 1 => by
    have ih0 := stowageref3_Cut.mono_l k
    · intro y0 y1 y2
      unfold stowageref3_Cut.l0
      repeat' first
      | (with_reducible exact ih0 _ _ _)
      | (with_reducible exact LeO.refl _)
      | (with_reducible exact LeO.none _)
      | (with_reducible refine LeO.ite ?_ ?_)
      | (with_reducible refine LeO.bind ?_ (fun _ => ?_))
      | exact ih0 _ _ _
      | exact LeO.none _
      | refine LeO.ite ?_ ?_
      | refine LeO.bind ?_ (fun _ => ?_)
theorem stowageref3_Cut.mono : ∀ a0 a1 k, LeO (stowageref3_Cut.f k a0 a1) (stowageref3_Cut.f (k + 1) a0 a1) := by
  intro a0 a1 k
  have ih0 := stowageref3_Cut.mono_l k
  unfold stowageref3_Cut.f
  repeat' first
      | (with_reducible exact ih0 _ _ _)
      | (with_reducible exact LeO.refl _)
      | (with_reducible exact LeO.none _)
      | (with_reducible refine LeO.ite ?_ ?_)
      | (with_reducible refine LeO.bind ?_ (fun _ => ?_))
      | exact ih0 _ _ _
      | exact LeO.none _
      | refine LeO.ite ?_ ?_
      | refine LeO.bind ?_ (fun _ => ?_)
set_option maxHeartbeats 8000000 in
set_option maxRecDepth 100000 in
theorem stowageref3_Cut.calls (k : Nat) (a0 : ByteArray) (a1 : Int) (r1 : ByteArray) (r2 : ByteArray) (r3 : Bool) (w : World) (h : stowageref3_Cut.f k a0 a1 = some (r1, r2, r3)) :
    Calls Tryd.prog 59 #[.string a0, .int .u8 a1] w fun e w' => e = .returned (.tuple #[.string r1, .string r2, .bool r3]) ∧ Drawn0 w w' := by
  have H : (stowageref3_Cut.l0 k a0 a1 0) = some (r1, r2, r3) := h
  clear h
  have H' := Aside0.mk H
  clear H
  go_enter Tryd.func59, Tryd.ntmps59
  go_wp2
  repeat (go_quiet (fail); try go_wp2)
  go_loopg [7] k (fun kq v7 w' => ∃ (x7_1 : Int), v7 = .int .i64 x7_1 ∧ Aside0 (stowageref3_Cut.l0 kq a0 a1 x7_1 = some (r1, r2, r3)) ∧ Aside0 (kq ≤ k) ∧ Drawn0 w w')
  case atStart => exact ⟨(0), (by first | rfl | (simp; done) | (simp [*]; done)), H', ⟨Nat.le_refl _⟩, by repeat (first | exact Drawn0.refl _ | apply Drawn0.step)⟩
  case round =>
    clear H'
    try clear p2
    obtain ⟨x7_1, rfl, HA, HK1, ⟨m1, rfl⟩⟩ := hrel
    cases gk with
    | zero => exact absurd HA.out (by simp [stowageref3_Cut.l0])
    | succ k1 =>
      have H := HA.out
      clear HA
      simp only [stowageref3_Cut.l0] at H
      by_cases c3 : x7_1 < (a0.size : Int)
      · rw [if_pos c3] at H
        have c3b0 : decide (x7_1 < (a0.size : Int)) = true := decide_eq_true c3
        clear c3
        by_cases c4 : 0 ≤ x7_1
        · rw [if_pos c4] at H
          have c4b0 : decide (0 ≤ x7_1) = true := decide_eq_true c4
          clear c4
          by_cases c6 : (bt a0 x7_1) = a1
          · rw [if_pos c6] at H
            have c6b0 : ((bt a0 x7_1) == a1) = true := beq_iff_eq.mpr c6
            have c6b1 : ((bt a0 x7_1) != a1) = false := bne_eq_false_iff_eq.mpr c6
            clear c6
            have c7b0 := eq_true (of_decide_eq_true (by first | (with_reducible assumption) | assumption) : 0 ≤ x7_1)
            by_cases c8 : x7_1 ≤ (a0.size : Int)
            · rw [if_pos c8] at H
              have c8b0 := eq_true c8
              have c8b1 : decide (x7_1 ≤ (a0.size : Int)) = true := decide_eq_true c8
              clear c8
              obtain ⟨ji9, hji9⟩ : ∃ j_ : Int, (wrap64 (x7_1 + 1)) = j_ := ⟨_, rfl⟩
              replace H : (if 0 ≤ (ji9) then (if (ji9) ≤ (a0.size : Int) then (some (a0.extract 0 (x7_1 : Int).toNat, a0.extract ((ji9) : Int).toNat a0.size, true)) else (none)) else (none)) = some (r1, r2, r3) := by first | (rw [hji9] at H; exact H) | (simp only [hji9] at H ⊢; exact H)
              have hji9w : (IntKind.i64.wrap (x7_1 + 1)) = ji9 := (i64_w _).trans hji9
              by_cases c10 : 0 ≤ (ji9)
              · rw [if_pos c10] at H
                have c10b0 := eq_true c10
                have c10b1 : decide (0 ≤ (ji9)) = true := decide_eq_true c10
                clear c10
                by_cases c11 : (ji9) ≤ (a0.size : Int)
                · rw [if_pos c11] at H
                  have c11b0 := eq_true c11
                  have c11b1 : decide ((ji9) ≤ (a0.size : Int)) = true := decide_eq_true c11
                  clear c11
                  simp only [Option.some.injEq, Prod.mk.injEq] at H
                  obtain ⟨rfl, rfl, rfl⟩ := H
                  have p5 : 0 ≤ (x7_1 : Int) := of_decide_eq_true (by first | (with_reducible assumption) | assumption)
                  have q5 : x7_1 < (a0.size : Int) := of_decide_eq_true (by first | (with_reducible assumption) | assumption)
                  have hx5 := bt_at a0 x7_1
                  replace p5 := eq_true p5
                  replace q5 := eq_true q5
                  go_wp2
                  repeat (go_quiet (fail); try go_wp2)
                  go_ret3
                  exact ⟨by first | rfl | (simp; done) | (simp only [← hji9] <;> (first | rfl | simp)) | (simp [*]; done), by repeat (first | exact Drawn0.refl _ | apply Drawn0.step)⟩
                · rw [if_neg c11] at H
                  exact absurd H (by simp)
              · rw [if_neg c10] at H
                exact absurd H (by simp)
            · rw [if_neg c8] at H
              exact absurd H (by simp)
          · rw [if_neg c6] at H
            have c6b0 : ((bt a0 x7_1) == a1) = false := beq_eq_false_iff_ne.mpr c6
            have c6b1 : ((bt a0 x7_1) != a1) = true := bne_iff_ne.mpr c6
            have H' := Aside0.mk H
            clear H
            have p5 : 0 ≤ (x7_1 : Int) := of_decide_eq_true (by first | (with_reducible assumption) | assumption)
            have q5 : x7_1 < (a0.size : Int) := of_decide_eq_true (by first | (with_reducible assumption) | assumption)
            have hx5 := bt_at a0 x7_1
            replace p5 := eq_true p5
            replace q5 := eq_true q5
            go_wp2
            repeat (go_quiet (fail); try go_wp2)
            go_roundg k1
            case measure => have := HK1.out; omega
            case rel => exact ⟨(wrap64 (x7_1 + 1)), (by first | rfl | (simp; done) | (simp [*]; done)), H', ⟨by have := HK1.out; omega⟩, by repeat (first | exact Drawn0.refl _ | apply Drawn0.step)⟩
        · rw [if_neg c4] at H
          exact absurd H (by simp)
      · rw [if_neg c3] at H
        have c3b0 : decide (x7_1 < (a0.size : Int)) = false := decide_eq_false c3
        clear c3
        simp only [Option.some.injEq, Prod.mk.injEq] at H
        obtain ⟨rfl, rfl, rfl⟩ := H
        go_wp2
        repeat (go_quiet (fail); try go_wp2)
        go_ret3
        exact ⟨by first | rfl | (simp; done) | (simp [*]; done), by repeat (first | exact Drawn0.refl _ | apply Drawn0.step)⟩

end Go.Proofs.YtkhjpobhdpcglaaDoor.X
end
section
namespace Go.Proofs.YtkhjpobhdpcglaaDoor.X
open Go.RowKit Go.Proofs.YtkhjpobhdpcglaaDoorW.PrintWords Go.Proofs.YtkhjpobhdpcglaaDoorW.PrintLast Go.Proofs.YtkhjpobhdpcglaaDoorW.PrintMore
attribute [local go_sem] max2_int min2_int max_two min_two max_three min_three max_four min_four
set_option linter.unusedVariables false
set_option linter.unusedSimpArgs false

/-! ### stowageref13_Unescape: function 22 -/
def stowageref13_Unescape.l0 : Nat → ByteArray → ByteArray → Int → Option (ByteArray × Bool)
  | 0, _, _, _ => none
  | k + 1, x0, x4, x5 => if x5 < (x0.size : Int) then (if 0 ≤ x5 then (if (bt x0 x5) = 13 then (if x4.size + 1 ≤ 9223372036854775807 then (if (wrap64 (x5 + 1)) < (x0.size : Int) then (if 0 ≤ (wrap64 (x5 + 1)) then (if (bt x0 (wrap64 (x5 + 1))) = 10 then (stowageref13_Unescape.l0 k x0 (x4 ++ (⟨#[10]⟩ : ByteArray)) (wrap64 ((wrap64 (x5 + 1)) + 1))) else (stowageref13_Unescape.l0 k x0 (x4 ++ (⟨#[10]⟩ : ByteArray)) (wrap64 (x5 + 1)))) else (none)) else (stowageref13_Unescape.l0 k x0 (x4 ++ (⟨#[10]⟩ : ByteArray)) (wrap64 (x5 + 1)))) else (none)) else (if (bt x0 x5) = 38 then (if 0 ≤ (wrap64 (x5 + 1)) then (if (wrap64 (x5 + 1)) ≤ (x0.size : Int) then ((stowageref3_Cut.f k (x0.extract ((wrap64 (x5 + 1)) : Int).toNat x0.size) 59).bind fun bt101 => ((stowageref13_entity.f k bt101.1).bind fun bt104 => (if bt101.2.2 = true then (if bt104.2 = true then (if x4.size + bt104.1.size ≤ 9223372036854775807 then (stowageref13_Unescape.l0 k x0 (x4 ++ bt104.1) (wrap64 ((wrap64 ((wrap64 (x5 + 1)) + (bt101.1.size : Int))) + 1))) else (none)) else (some ((⟨#[]⟩ : ByteArray), false))) else (some ((⟨#[]⟩ : ByteArray), false))))) else (none)) else (none)) else (if x5 ≤ (wrap64 (x5 + 1)) then (if (wrap64 (x5 + 1)) ≤ (x0.size : Int) then (if x4.size + (x0.extract (x5 : Int).toNat ((wrap64 (x5 + 1)) : Int).toNat).size ≤ 9223372036854775807 then (stowageref13_Unescape.l0 k x0 (x4 ++ (x0.extract (x5 : Int).toNat ((wrap64 (x5 + 1)) : Int).toNat)) (wrap64 (x5 + 1))) else (none)) else (none)) else (none)))) else (none)) else (some (x4, true))
def stowageref13_Unescape.f (k : Nat) (a0 : ByteArray) : Option (ByteArray × Bool) := stowageref13_Unescape.l0 k a0 (⟨#[]⟩ : ByteArray) 0
theorem stowageref13_Unescape.mono_l : ∀ k, (∀ y0 y1 y2, LeO (stowageref13_Unescape.l0 k y0 y1 y2) (stowageref13_Unescape.l0 (k + 1) y0 y1 y2))
  | 0 => fun _ _ _ r h => by simp [stowageref13_Unescape.l0] at h
  | k + 1 => by
    have ih0 := stowageref13_Unescape.mono_l k
    · intro y0 y1 y2
      unfold stowageref13_Unescape.l0
      repeat' first
      | (with_reducible exact ih0 _ _ _)
      | (with_reducible exact stowageref13_entity.mono _ _)
      | (with_reducible exact stowageref3_Cut.mono _ _ _)
      | (with_reducible exact LeO.refl _)
      | (with_reducible exact LeO.none _)
      | (with_reducible refine LeO.ite ?_ ?_)
      | (with_reducible refine LeO.bind ?_ (fun _ => ?_))
      | exact ih0 _ _ _
      | exact stowageref13_entity.mono _ _
      | exact stowageref3_Cut.mono _ _ _
      | exact LeO.none _
      | refine LeO.ite ?_ ?_
      | refine LeO.bind ?_ (fun _ => ?_)
theorem stowageref13_Unescape.mono : ∀ a0 k, LeO (stowageref13_Unescape.f k a0) (stowageref13_Unescape.f (k + 1) a0) := by
  intro a0 k
  have ih0 := stowageref13_Unescape.mono_l k
  unfold stowageref13_Unescape.f
  repeat' first
      | (with_reducible exact ih0 _ _ _)
      | (with_reducible exact stowageref13_entity.mono _ _)
      | (with_reducible exact stowageref3_Cut.mono _ _ _)
      | (with_reducible exact LeO.refl _)
      | (with_reducible exact LeO.none _)
      | (with_reducible refine LeO.ite ?_ ?_)
      | (with_reducible refine LeO.bind ?_ (fun _ => ?_))
      | exact ih0 _ _ _
      | exact stowageref13_entity.mono _ _
      | exact stowageref3_Cut.mono _ _ _
      | exact LeO.none _
      | refine LeO.ite ?_ ?_
      | refine LeO.bind ?_ (fun _ => ?_)
set_option maxHeartbeats 8000000 in
set_option maxRecDepth 100000 in
theorem stowageref13_Unescape.calls (k : Nat) (a0 : ByteArray) (r1 : ByteArray) (r2 : Bool) (w : World) (h : stowageref13_Unescape.f k a0 = some (r1, r2)) :
    Calls Tryd.prog 22 #[.string a0] w fun e w' => e = .returned (.tuple #[.string r1, .bool r2]) ∧ Below w.heap.size w w' := by
  have HB := Aside0.mk (Below.refl w.heap.size w)
  have H : (stowageref13_Unescape.l0 k a0 (⟨#[]⟩ : ByteArray) 0) = some (r1, r2) := h
  clear h
  have H' := Aside0.mk H
  clear H
  go_enter Tryd.func22, Tryd.ntmps22
  go_wp2
  go_loopg [4, 5] k (fun kq v4 v5 w' => ∃ (x4_1 : ByteArray) (x5_1 : Int), v4 = .string x4_1 ∧ v5 = .int .i64 x5_1 ∧ Aside0 (stowageref13_Unescape.l0 kq a0 x4_1 x5_1 = some (r1, r2)) ∧ Aside0 (kq ≤ k) ∧ Aside0 (Below w.heap.size w w'))
  case atStart => exact ⟨((⟨#[]⟩ : ByteArray)), (0), (by first | rfl | (simp; done) | (simp [*]; done)), (by first | rfl | (simp; done) | (simp [*]; done)), H', ⟨Nat.le_refl _⟩, ⟨by repeat (first | (with_reducible first | exact HB.out | apply below_alloc | apply pw_below_drewN | apply below_drew1) | exact HB.out)⟩⟩
  case round =>
    clear H'
    obtain ⟨x4_1, x5_1, rfl, rfl, HA, HK1, HB⟩ := hrel
    cases gk with
    | zero => exact absurd HA.out (by simp [stowageref13_Unescape.l0])
    | succ k1 =>
      have H := HA.out
      clear HA
      simp only [stowageref13_Unescape.l0] at H
      by_cases c2 : x5_1 < (a0.size : Int)
      · rw [if_pos c2] at H
        have c2b0 : decide (x5_1 < (a0.size : Int)) = true := decide_eq_true c2
        clear c2
        by_cases c3 : 0 ≤ x5_1
        · rw [if_pos c3] at H
          have c3b0 : decide (0 ≤ x5_1) = true := decide_eq_true c3
          clear c3
          by_cases c5 : (bt a0 x5_1) = 13
          · rw [if_pos c5] at H
            have c5b0 : ((bt a0 x5_1) == 13) = true := beq_iff_eq.mpr c5
            have c5b1 : ((bt a0 x5_1) != 13) = false := bne_eq_false_iff_eq.mpr c5
            clear c5
            by_cases c6 : x4_1.size + 1 ≤ 9223372036854775807
            · rw [if_pos c6] at H
              have c6b0 := eq_true c6
              have c6b1 : decide (x4_1.size + 1 ≤ 9223372036854775807) = true := decide_eq_true c6
              try have c6b2 : (9223372036854775807 < x4_1.size + 1) = False := eq_false (Nat.not_lt.2 c6)
              by_cases c7 : (wrap64 (x5_1 + 1)) < (a0.size : Int)
              · rw [if_pos c7] at H
                have c7b0 : decide ((wrap64 (x5_1 + 1)) < (a0.size : Int)) = true := decide_eq_true c7
                clear c7
                obtain ⟨ji8, hji8⟩ : ∃ j_ : Int, (wrap64 (x5_1 + 1)) = j_ := ⟨_, rfl⟩
                replace H : (if 0 ≤ (ji8) then (if (bt a0 (ji8)) = 10 then (stowageref13_Unescape.l0 k1 a0 (x4_1 ++ (⟨#[10]⟩ : ByteArray)) (wrap64 ((ji8) + 1))) else (stowageref13_Unescape.l0 k1 a0 (x4_1 ++ (⟨#[10]⟩ : ByteArray)) ji8)) else (none)) = some (r1, r2) := by first | (rw [hji8] at H; exact H) | (simp only [hji8] at H ⊢; exact H)
                (try rw [hji8] at c7b0)
                have hji8w : (IntKind.i64.wrap (x5_1 + 1)) = ji8 := (i64_w _).trans hji8
                by_cases c9 : 0 ≤ (ji8)
                · rw [if_pos c9] at H
                  have c9b0 : decide (0 ≤ (ji8)) = true := decide_eq_true c9
                  clear c9
                  by_cases c11 : (bt a0 (ji8)) = 10
                  · rw [if_pos c11] at H
                    have c11b0 : ((bt a0 (ji8)) == 10) = true := beq_iff_eq.mpr c11
                    have c11b1 : ((bt a0 (ji8)) != 10) = false := bne_eq_false_iff_eq.mpr c11
                    clear c11
                    have H' := Aside0.mk H
                    clear H
                    have p4 : 0 ≤ (x5_1 : Int) := of_decide_eq_true (by first | (with_reducible assumption) | assumption)
                    have q4 : x5_1 < (a0.size : Int) := of_decide_eq_true (by first | (with_reducible assumption) | assumption)
                    have hx4 := bt_at a0 x5_1
                    replace p4 := eq_true p4
                    replace q4 := eq_true q4
                    have p10 : 0 ≤ ((ji8) : Int) := of_decide_eq_true (by first | (with_reducible assumption) | assumption)
                    have q10 : (ji8) < (a0.size : Int) := of_decide_eq_true (by first | (with_reducible assumption) | assumption)
                    have hx10 := bt_at a0 (ji8)
                    replace p10 := eq_true p10
                    replace q10 := eq_true q10
                    go_wp2
                    go_roundg k1
                    case measure => have := HK1.out; omega
                    case rel => exact ⟨(x4_1 ++ (⟨#[10]⟩ : ByteArray)), (wrap64 ((ji8) + 1)), (by first | rfl | (simp; done) | (simp [*]; done)), (by first | rfl | (simp; done) | (simp only [← hji8] <;> (first | rfl | simp)) | (simp [*]; done)), H', ⟨by have := HK1.out; omega⟩, ⟨by repeat (first | (with_reducible first | exact HB.out | apply below_alloc | apply pw_below_drewN | apply below_drew1) | exact HB.out)⟩⟩
                  · rw [if_neg c11] at H
                    have c11b0 : ((bt a0 (ji8)) == 10) = false := beq_eq_false_iff_ne.mpr c11
                    have c11b1 : ((bt a0 (ji8)) != 10) = true := bne_iff_ne.mpr c11
                    have H' := Aside0.mk H
                    clear H
                    have p4 : 0 ≤ (x5_1 : Int) := of_decide_eq_true (by first | (with_reducible assumption) | assumption)
                    have q4 : x5_1 < (a0.size : Int) := of_decide_eq_true (by first | (with_reducible assumption) | assumption)
                    have hx4 := bt_at a0 x5_1
                    replace p4 := eq_true p4
                    replace q4 := eq_true q4
                    have p10 : 0 ≤ ((ji8) : Int) := of_decide_eq_true (by first | (with_reducible assumption) | assumption)
                    have q10 : (ji8) < (a0.size : Int) := of_decide_eq_true (by first | (with_reducible assumption) | assumption)
                    have hx10 := bt_at a0 (ji8)
                    replace p10 := eq_true p10
                    replace q10 := eq_true q10
                    go_wp2
                    go_roundg k1
                    case measure => have := HK1.out; omega
                    case rel => exact ⟨(x4_1 ++ (⟨#[10]⟩ : ByteArray)), (ji8), (by first | rfl | (simp; done) | (simp [*]; done)), (by first | rfl | (simp; done) | (simp only [← hji8] <;> (first | rfl | simp)) | (simp [*]; done)), H', ⟨by have := HK1.out; omega⟩, ⟨by repeat (first | (with_reducible first | exact HB.out | apply below_alloc | apply pw_below_drewN | apply below_drew1) | exact HB.out)⟩⟩
                · rw [if_neg c9] at H
                  exact absurd H (by simp)
              · rw [if_neg c7] at H
                have c7b0 : decide ((wrap64 (x5_1 + 1)) < (a0.size : Int)) = false := decide_eq_false c7
                clear c7
                have H' := Aside0.mk H
                clear H
                have p4 : 0 ≤ (x5_1 : Int) := of_decide_eq_true (by first | (with_reducible assumption) | assumption)
                have q4 : x5_1 < (a0.size : Int) := of_decide_eq_true (by first | (with_reducible assumption) | assumption)
                have hx4 := bt_at a0 x5_1
                replace p4 := eq_true p4
                replace q4 := eq_true q4
                go_wp2
                go_roundg k1
                case measure => have := HK1.out; omega
                case rel => exact ⟨(x4_1 ++ (⟨#[10]⟩ : ByteArray)), (wrap64 (x5_1 + 1)), (by first | rfl | (simp; done) | (simp [*]; done)), (by first | rfl | (simp; done) | (simp [*]; done)), H', ⟨by have := HK1.out; omega⟩, ⟨by repeat (first | (with_reducible first | exact HB.out | apply below_alloc | apply pw_below_drewN | apply below_drew1) | exact HB.out)⟩⟩
            · rw [if_neg c6] at H
              exact absurd H (by simp)
          · rw [if_neg c5] at H
            have c5b0 : ((bt a0 x5_1) == 13) = false := beq_eq_false_iff_ne.mpr c5
            have c5b1 : ((bt a0 x5_1) != 13) = true := bne_iff_ne.mpr c5
            by_cases c13 : (bt a0 x5_1) = 38
            · rw [if_pos c13] at H
              have c13b0 : ((bt a0 x5_1) == 38) = true := beq_iff_eq.mpr c13
              have c13b1 : ((bt a0 x5_1) != 38) = false := bne_eq_false_iff_eq.mpr c13
              clear c13
              obtain ⟨ji14, hji14⟩ : ∃ j_ : Int, (wrap64 (x5_1 + 1)) = j_ := ⟨_, rfl⟩
              replace H : (if 0 ≤ (ji14) then (if (ji14) ≤ (a0.size : Int) then ((stowageref3_Cut.f k1 (a0.extract ((ji14) : Int).toNat a0.size) 59).bind fun bt101 => ((stowageref13_entity.f k1 bt101.1).bind fun bt104 => (if bt101.2.2 = true then (if bt104.2 = true then (if x4_1.size + bt104.1.size ≤ 9223372036854775807 then (stowageref13_Unescape.l0 k1 a0 (x4_1 ++ bt104.1) (wrap64 ((wrap64 ((ji14) + (bt101.1.size : Int))) + 1))) else (none)) else (some ((⟨#[]⟩ : ByteArray), false))) else (some ((⟨#[]⟩ : ByteArray), false))))) else (none)) else (none)) = some (r1, r2) := by first | (rw [hji14] at H; exact H) | (simp only [hji14] at H ⊢; exact H)
              have hji14w : (IntKind.i64.wrap (x5_1 + 1)) = ji14 := (i64_w _).trans hji14
              by_cases c15 : 0 ≤ (ji14)
              · rw [if_pos c15] at H
                have c15b0 := eq_true c15
                have c15b1 : decide (0 ≤ (ji14)) = true := decide_eq_true c15
                clear c15
                by_cases c16 : (ji14) ≤ (a0.size : Int)
                · rw [if_pos c16] at H
                  have c16b0 := eq_true c16
                  have c16b1 : decide ((ji14) ≤ (a0.size : Int)) = true := decide_eq_true c16
                  clear c16
                  replace H := Option.bind_eq_some_iff.mp H
                  obtain ⟨⟨t101, t102, t103⟩, A170, H⟩ := H
                  replace H : ((stowageref13_entity.f k1 t101).bind fun bt104 => (if t103 = true then (if bt104.2 = true then (if x4_1.size + bt104.1.size ≤ 9223372036854775807 then (stowageref13_Unescape.l0 k1 a0 (x4_1 ++ bt104.1) (wrap64 ((wrap64 ((ji14) + (t101.size : Int))) + 1))) else (none)) else (some ((⟨#[]⟩ : ByteArray), false))) else (some ((⟨#[]⟩ : ByteArray), false)))) = some (r1, r2) := H
                  have A17 := Aside0.mk A170
                  clear A170
                  replace H := Option.bind_eq_some_iff.mp H
                  obtain ⟨⟨t104, t105⟩, A180, H⟩ := H
                  replace H : (if t103 = true then (if t105 = true then (if x4_1.size + t104.size ≤ 9223372036854775807 then (stowageref13_Unescape.l0 k1 a0 (x4_1 ++ t104) (wrap64 ((wrap64 ((ji14) + (t101.size : Int))) + 1))) else (none)) else (some ((⟨#[]⟩ : ByteArray), false))) else (some ((⟨#[]⟩ : ByteArray), false))) = some (r1, r2) := H
                  have A18 := Aside0.mk A180
                  clear A180
                  by_cases c19 : t103 = true
                  · subst c19
                    have H1 : (if t105 = true then (if x4_1.size + t104.size ≤ 9223372036854775807 then (stowageref13_Unescape.l0 k1 a0 (x4_1 ++ t104) (wrap64 ((wrap64 ((ji14) + (t101.size : Int))) + 1))) else (none)) else (some ((⟨#[]⟩ : ByteArray), false))) = some (r1, r2) := by rw [if_pos rfl] at H; exact H
                    clear H
                    have H := H1
                    clear H1
                    by_cases c20 : t105 = true
                    · subst c20
                      have H1 : (if x4_1.size + t104.size ≤ 9223372036854775807 then (stowageref13_Unescape.l0 k1 a0 (x4_1 ++ t104) (wrap64 ((wrap64 ((ji14) + (t101.size : Int))) + 1))) else (none)) = some (r1, r2) := by rw [if_pos rfl] at H; exact H
                      clear H
                      have H := H1
                      clear H1
                      by_cases c21 : x4_1.size + t104.size ≤ 9223372036854775807
                      · rw [if_pos c21] at H
                        have c21b0 := eq_true c21
                        have c21b1 : decide (x4_1.size + t104.size ≤ 9223372036854775807) = true := decide_eq_true c21
                        try have c21b2 : (9223372036854775807 < x4_1.size + t104.size) = False := eq_false (Nat.not_lt.2 c21)
                        have H' := Aside0.mk H
                        clear H
                        have p4 : 0 ≤ (x5_1 : Int) := of_decide_eq_true (by first | (with_reducible assumption) | assumption)
                        have q4 : x5_1 < (a0.size : Int) := of_decide_eq_true (by first | (with_reducible assumption) | assumption)
                        have hx4 := bt_at a0 x5_1
                        replace p4 := eq_true p4
                        replace q4 := eq_true q4
                        have p12 : 0 ≤ (x5_1 : Int) := of_decide_eq_true (by first | (with_reducible assumption) | assumption)
                        have q12 : x5_1 < (a0.size : Int) := of_decide_eq_true (by first | (with_reducible assumption) | assumption)
                        have hx12 := bt_at a0 x5_1
                        replace p12 := eq_true p12
                        replace q12 := eq_true q12
                        go_wp2_with (first | ((with_reducible refine gate_callee (f := 59) rfl ?_); refine goesL_ (some 55) rfl rfl Tryd.func59 (by kernel_rfl) rfl #[.string (a0.extract ((ji14) : Int).toNat a0.size), .int .u8 59] rfl (by (try simp only [List.map_toArray, List.map_cons, List.map_nil]); first | done | (simp only [hji14]; rfl) | rfl | (simp only [List.length_drop, List.length_take]; rfl)) ?_; (with_reducible refine (stowageref3_Cut.calls k1 (a0.extract ((ji14) : Int).toNat a0.size) 59 t101 t102 true _ A17.out).mono ?_); rintro e w' ⟨rfl, ⟨nd, rfl⟩⟩; refine ⟨_, rfl, ?_⟩) | ((with_reducible refine gate_callee (f := 60) rfl ?_); refine goesL_ (some 61) rfl rfl Tryd.func60 (by kernel_rfl) rfl #[.string t101] rfl (by (try simp only [List.map_toArray, List.map_cons, List.map_nil]); first | done | rfl | (simp only [List.length_drop, List.length_take]; rfl)) ?_; (with_reducible refine (stowageref13_entity.calls k1 t101 t104 true _ A18.out).mono ?_); rintro e w22 ⟨rfl, hb⟩; refine ⟨_, rfl, ?_⟩; have n0_ := Aside0.mk (below_step (by repeat (first | (with_reducible first | exact HB.out | apply below_alloc | apply pw_below_drewN | apply below_drew1) | exact HB.out)) hb); clear HB; have HB := n0_; clear n0_; (try clear hb); (try clear hb2); (try clear hk); (try clear hi)))
                        go_roundg k1
                        case measure => have := HK1.out; omega
                        case rel => exact ⟨(x4_1 ++ t104), (wrap64 ((wrap64 ((ji14) + (t101.size : Int))) + 1)), (by first | rfl | (simp; done) | (simp [*]; done)), (by first | rfl | (simp; done) | (simp only [← hji14] <;> (first | rfl | simp)) | (simp [*]; done)), H', ⟨by have := HK1.out; omega⟩, ⟨by repeat (first | (with_reducible first | exact HB.out | apply below_alloc | apply pw_below_drewN | apply below_drew1) | exact HB.out)⟩⟩
                      · rw [if_neg c21] at H
                        exact absurd H (by simp)
                    · replace c20 := Bool.eq_false_iff.mpr c20
                      subst c20
                      have H1 : (some ((⟨#[]⟩ : ByteArray), false)) = some (r1, r2) := by rw [if_neg (show ¬ (false = true) by decide)] at H; exact H
                      clear H
                      have H := H1
                      clear H1
                      simp only [Option.some.injEq, Prod.mk.injEq] at H
                      obtain ⟨rfl, rfl⟩ := H
                      have p4 : 0 ≤ (x5_1 : Int) := of_decide_eq_true (by first | (with_reducible assumption) | assumption)
                      have q4 : x5_1 < (a0.size : Int) := of_decide_eq_true (by first | (with_reducible assumption) | assumption)
                      have hx4 := bt_at a0 x5_1
                      replace p4 := eq_true p4
                      replace q4 := eq_true q4
                      have p12 : 0 ≤ (x5_1 : Int) := of_decide_eq_true (by first | (with_reducible assumption) | assumption)
                      have q12 : x5_1 < (a0.size : Int) := of_decide_eq_true (by first | (with_reducible assumption) | assumption)
                      have hx12 := bt_at a0 x5_1
                      replace p12 := eq_true p12
                      replace q12 := eq_true q12
                      go_wp2_with (first | ((with_reducible refine gate_callee (f := 59) rfl ?_); refine goesL_ (some 55) rfl rfl Tryd.func59 (by kernel_rfl) rfl #[.string (a0.extract ((ji14) : Int).toNat a0.size), .int .u8 59] rfl (by (try simp only [List.map_toArray, List.map_cons, List.map_nil]); first | done | (simp only [hji14]; rfl) | rfl | (simp only [List.length_drop, List.length_take]; rfl)) ?_; (with_reducible refine (stowageref3_Cut.calls k1 (a0.extract ((ji14) : Int).toNat a0.size) 59 t101 t102 true _ A17.out).mono ?_); rintro e w' ⟨rfl, ⟨nd, rfl⟩⟩; refine ⟨_, rfl, ?_⟩) | ((with_reducible refine gate_callee (f := 60) rfl ?_); refine goesL_ (some 61) rfl rfl Tryd.func60 (by kernel_rfl) rfl #[.string t101] rfl (by (try simp only [List.map_toArray, List.map_cons, List.map_nil]); first | done | rfl | (simp only [List.length_drop, List.length_take]; rfl)) ?_; (with_reducible refine (stowageref13_entity.calls k1 t101 t104 false _ A18.out).mono ?_); rintro e w23 ⟨rfl, hb⟩; refine ⟨_, rfl, ?_⟩; have n0_ := Aside0.mk (below_step (by repeat (first | (with_reducible first | exact HB.out | apply below_alloc | apply pw_below_drewN | apply below_drew1) | exact HB.out)) hb); clear HB; have HB := n0_; clear n0_; (try clear hb); (try clear hb2); (try clear hk); (try clear hi)))
                      go_ret2
                      exact ⟨by first | rfl | (simp [errW_none, errW_some] <;> rfl) | (simp only [← hji14]; first | rfl | (simp [errW_none, errW_some] <;> rfl)) | (simp [*, errW_none, errW_some] <;> rfl), by repeat (first | (with_reducible first | exact HB.out | apply below_alloc | apply pw_below_drewN | apply below_drew1) | exact HB.out)⟩
                  · replace c19 := Bool.eq_false_iff.mpr c19
                    subst c19
                    have H1 : (some ((⟨#[]⟩ : ByteArray), false)) = some (r1, r2) := by rw [if_neg (show ¬ (false = true) by decide)] at H; exact H
                    clear H
                    have H := H1
                    clear H1
                    simp only [Option.some.injEq, Prod.mk.injEq] at H
                    obtain ⟨rfl, rfl⟩ := H
                    have p4 : 0 ≤ (x5_1 : Int) := of_decide_eq_true (by first | (with_reducible assumption) | assumption)
                    have q4 : x5_1 < (a0.size : Int) := of_decide_eq_true (by first | (with_reducible assumption) | assumption)
                    have hx4 := bt_at a0 x5_1
                    replace p4 := eq_true p4
                    replace q4 := eq_true q4
                    have p12 : 0 ≤ (x5_1 : Int) := of_decide_eq_true (by first | (with_reducible assumption) | assumption)
                    have q12 : x5_1 < (a0.size : Int) := of_decide_eq_true (by first | (with_reducible assumption) | assumption)
                    have hx12 := bt_at a0 x5_1
                    replace p12 := eq_true p12
                    replace q12 := eq_true q12
                    go_wp2_with (first | ((with_reducible refine gate_callee (f := 59) rfl ?_); refine goesL_ (some 55) rfl rfl Tryd.func59 (by kernel_rfl) rfl #[.string (a0.extract ((ji14) : Int).toNat a0.size), .int .u8 59] rfl (by (try simp only [List.map_toArray, List.map_cons, List.map_nil]); first | done | (simp only [hji14]; rfl) | rfl | (simp only [List.length_drop, List.length_take]; rfl)) ?_; (with_reducible refine (stowageref3_Cut.calls k1 (a0.extract ((ji14) : Int).toNat a0.size) 59 t101 t102 false _ A17.out).mono ?_); rintro e w' ⟨rfl, ⟨nd, rfl⟩⟩; refine ⟨_, rfl, ?_⟩) | ((with_reducible refine gate_callee (f := 60) rfl ?_); refine goesL_ (some 61) rfl rfl Tryd.func60 (by kernel_rfl) rfl #[.string t101] rfl (by (try simp only [List.map_toArray, List.map_cons, List.map_nil]); first | done | rfl | (simp only [List.length_drop, List.length_take]; rfl)) ?_; (with_reducible refine (stowageref13_entity.calls k1 t101 t104 t105 _ A18.out).mono ?_); rintro e w24 ⟨rfl, hb⟩; refine ⟨_, rfl, ?_⟩; have n0_ := Aside0.mk (below_step (by repeat (first | (with_reducible first | exact HB.out | apply below_alloc | apply pw_below_drewN | apply below_drew1) | exact HB.out)) hb); clear HB; have HB := n0_; clear n0_; (try clear hb); (try clear hb2); (try clear hk); (try clear hi)))
                    go_ret2
                    exact ⟨by first | rfl | (simp [errW_none, errW_some] <;> rfl) | (simp only [← hji14]; first | rfl | (simp [errW_none, errW_some] <;> rfl)) | (simp [*, errW_none, errW_some] <;> rfl), by repeat (first | (with_reducible first | exact HB.out | apply below_alloc | apply pw_below_drewN | apply below_drew1) | exact HB.out)⟩
                · rw [if_neg c16] at H
                  exact absurd H (by simp)
              · rw [if_neg c15] at H
                exact absurd H (by simp)
            · rw [if_neg c13] at H
              have c13b0 : ((bt a0 x5_1) == 38) = false := beq_eq_false_iff_ne.mpr c13
              have c13b1 : ((bt a0 x5_1) != 38) = true := bne_iff_ne.mpr c13
              have c25b0 := eq_true (of_decide_eq_true (by first | (with_reducible assumption) | assumption) : 0 ≤ x5_1)
              by_cases c26 : x5_1 ≤ (wrap64 (x5_1 + 1))
              · rw [if_pos c26] at H
                have c26b0 := eq_true c26
                have c26b1 : decide (x5_1 ≤ (wrap64 (x5_1 + 1))) = true := decide_eq_true c26
                by_cases c27 : (wrap64 (x5_1 + 1)) ≤ (a0.size : Int)
                · rw [if_pos c27] at H
                  have c27b0 := eq_true c27
                  have c27b1 : decide ((wrap64 (x5_1 + 1)) ≤ (a0.size : Int)) = true := decide_eq_true c27
                  by_cases c28 : x4_1.size + (a0.extract (x5_1 : Int).toNat ((wrap64 (x5_1 + 1)) : Int).toNat).size ≤ 9223372036854775807
                  · rw [if_pos c28] at H
                    have c28b0 := eq_true c28
                    have c28b1 : decide (x4_1.size + (a0.extract (x5_1 : Int).toNat ((wrap64 (x5_1 + 1)) : Int).toNat).size ≤ 9223372036854775807) = true := decide_eq_true c28
                    try have c28b2 : (9223372036854775807 < x4_1.size + (a0.extract (x5_1 : Int).toNat ((wrap64 (x5_1 + 1)) : Int).toNat).size) = False := eq_false (Nat.not_lt.2 c28)
                    have H' := Aside0.mk H
                    clear H
                    have p4 : 0 ≤ (x5_1 : Int) := of_decide_eq_true (by first | (with_reducible assumption) | assumption)
                    have q4 : x5_1 < (a0.size : Int) := of_decide_eq_true (by first | (with_reducible assumption) | assumption)
                    have hx4 := bt_at a0 x5_1
                    replace p4 := eq_true p4
                    replace q4 := eq_true q4
                    have p12 : 0 ≤ (x5_1 : Int) := of_decide_eq_true (by first | (with_reducible assumption) | assumption)
                    have q12 : x5_1 < (a0.size : Int) := of_decide_eq_true (by first | (with_reducible assumption) | assumption)
                    have hx12 := bt_at a0 x5_1
                    replace p12 := eq_true p12
                    replace q12 := eq_true q12
                    go_wp2
                    go_roundg k1
                    case measure => have := HK1.out; omega
                    case rel => exact ⟨(x4_1 ++ (a0.extract (x5_1 : Int).toNat ((wrap64 (x5_1 + 1)) : Int).toNat)), (wrap64 (x5_1 + 1)), (by first | rfl | (simp; done) | (simp [*]; done)), (by first | rfl | (simp; done) | (simp [*]; done)), H', ⟨by have := HK1.out; omega⟩, ⟨by repeat (first | (with_reducible first | exact HB.out | apply below_alloc | apply pw_below_drewN | apply below_drew1) | exact HB.out)⟩⟩
                  · rw [if_neg c28] at H
                    exact absurd H (by simp)
                · rw [if_neg c27] at H
                  exact absurd H (by simp)
              · rw [if_neg c26] at H
                exact absurd H (by simp)
        · rw [if_neg c3] at H
          exact absurd H (by simp)
      · rw [if_neg c2] at H
        have c2b0 : decide (x5_1 < (a0.size : Int)) = false := decide_eq_false c2
        clear c2
        simp only [Option.some.injEq, Prod.mk.injEq] at H
        obtain ⟨rfl, rfl⟩ := H
        go_wp2
        go_ret2
        exact ⟨by first | rfl | (simp [errW_none, errW_some] <;> rfl) | (simp [*, errW_none, errW_some] <;> rfl), by repeat (first | (with_reducible first | exact HB.out | apply below_alloc | apply pw_below_drewN | apply below_drew1) | exact HB.out)⟩

end Go.Proofs.YtkhjpobhdpcglaaDoor.X
end
section
namespace Go.Proofs.YtkhjpobhdpcglaaDoor.X
open Go.RowKit Go.Proofs.YtkhjpobhdpcglaaDoorW.PrintWords Go.Proofs.YtkhjpobhdpcglaaDoorW.PrintLast Go.Proofs.YtkhjpobhdpcglaaDoorW.PrintMore
set_option linter.unusedVariables false
set_option linter.unusedSimpArgs false

/-- a list at the first of a byte -/
def cutR (c : UInt8) : List UInt8 → Option (List UInt8 × List UInt8)
  | [] => none
  | b :: l => if b = c then some ([], l) else (cutR c l).map fun p => (b :: p.1, p.2)
theorem cutR_some {c : UInt8} : ∀ {l a r : List UInt8}, cutR c l = some (a, r) → l = a ++ c :: r ∧ c ∉ a
  | [], a, r, h => by cases h
  | b :: l, a, r, h => by
    unfold cutR at h
    split at h
    · rename_i hb
      injection h with h
      injection h with h1 h2
      subst h1
      subst h2
      subst hb
      exact ⟨rfl, by simp⟩
    · rename_i hb
      obtain ⟨⟨a', r'⟩, h1, h2⟩ := Option.map_eq_some_iff.1 h
      injection h2 with h2 h3
      subst h2
      subst h3
      obtain ⟨h4, h5⟩ := cutR_some h1
      refine ⟨by rw [h4]; rfl, ?_⟩
      simp only [List.mem_cons, not_or]
      exact ⟨fun h => hb h.symm, h5⟩
theorem cutR_none {c : UInt8} : ∀ {l : List UInt8}, cutR c l = none → c ∉ l
  | [], h => by simp
  | b :: l, h => by
    unfold cutR at h
    split at h
    · cases h
    · rename_i hb
      simp only [Option.map_eq_none_iff] at h
      simp only [List.mem_cons, not_or]
      exact ⟨fun h => hb h.symm, cutR_none h⟩
theorem cutR_mk {c : UInt8} : ∀ {a : List UInt8} (r : List UInt8), c ∉ a → cutR c (a ++ c :: r) = some (a, r)
  | [], r, h => by simp [cutR]
  | b :: a, r, h => by
    simp only [List.mem_cons, not_or] at h
    rw [List.cons_append, cutR, if_neg (fun e => h.1 e.symm), cutR_mk r h.2]
    rfl
theorem cutR_no {c : UInt8} : ∀ {l : List UInt8}, c ∉ l → cutR c l = none
  | [], h => rfl
  | b :: l, h => by
    simp only [List.mem_cons, not_or] at h
    rw [cutR, if_neg (fun e => h.1 e.symm), cutR_no h.2]
    rfl
theorem index_cut (c : UInt8) : ∀ l : List UInt8, Lib.indexByte l c = match cutR c l with | some (a, _) => (a.length : Int) | none => -1
  | [] => rfl
  | b :: l => by
    have hun : Lib.indexByte (b :: l) c = (if (b == c) = true then 0 else if (Lib.indexByte l c == -1) = true then -1 else Lib.indexByte l c + 1) := rfl
    have ih := index_cut c l
    rw [hun, cutR]
    by_cases hb : b = c
    · subst hb
      simp
    · have h1 : (b == c) = false := by simpa using hb
      rw [h1, if_neg hb]
      simp only [Bool.false_eq_true, if_false]
      cases hc : cutR c l with
      | none =>
        rw [hc] at ih
        simp only at ih
        rw [ih]
        rfl
      | some p =>
        obtain ⟨a, r⟩ := p
        rw [hc] at ih
        simp only at ih
        rw [ih]
        have : ((a.length : Int) == -1) = false := by simp
        rw [this]
        simp
theorem cutAt_R (l : List UInt8) (c : UInt8) : cutAt ⟨l.toArray⟩ (Lib.indexByte l c) = match cutR c l with | some (a, r) => (⟨a.toArray⟩, ⟨r.toArray⟩, true) | none => (⟨l.toArray⟩, ⟨#[]⟩, false) := by
  rw [index_cut]
  unfold cutAt
  cases hc : cutR c l with
  | none =>
    simp only
    rw [if_neg (by omega)]
  | some p =>
    obtain ⟨a, r⟩ := p
    obtain ⟨h1, h2⟩ := cutR_some hc
    simp only
    rw [if_pos (by omega), Int.toNat_natCast]
    have hl : (⟨l.toArray⟩ : ByteArray).data.toList = l := by simp
    have e1 : (⟨l.toArray⟩ : ByteArray).extract 0 a.length = ⟨a.toArray⟩ := by
      apply ba_ext
      rw [ext_list, hl, h1]
      simp
    have e2 : (⟨l.toArray⟩ : ByteArray).extract (a.length + 1) (⟨l.toArray⟩ : ByteArray).size = ⟨r.toArray⟩ := by
      apply ba_ext
      rw [ext_end, hl, h1]
      simp [List.drop_append]
    rw [e1, e2]
/-- a name's text, as lists -/
def entL (a : List UInt8) : List UInt8 × Bool := ((entV ⟨a.toArray⟩).1.data.toList, (entV ⟨a.toArray⟩).2)
/-- a text's escapes and line ends, as the document has them -/
def refU : Nat → List UInt8 → Option (List UInt8)
  | 0, _ => some []
  | n + 1, [] => some []
  | n + 1, b :: t =>
    if b = 13 then (refU n (if t.head? = some 10 then t.tail else t)).map fun l => 10 :: l
    else if b = 38 then (match cutR 59 t with | none => none | some (a, r) => if (entL a).2 = true then (refU n r).map fun l => (entL a).1 ++ l else none)
    else (refU n t).map fun l => b :: l
theorem refU_nil (n : Nat) : refU n [] = some [] := by cases n <;> rfl
theorem refU_fuel : ∀ (n m : Nat) (l : List UInt8), l.length ≤ n → l.length ≤ m → refU n l = refU m l := by
  intro n
  induction n with
  | zero =>
    intro m l hn hm
    have : l = [] := List.eq_nil_of_length_eq_zero (by omega)
    subst this
    rw [refU_nil, refU_nil]
  | succ n ih =>
    intro m l hn hm
    cases l with
    | nil => rw [refU_nil, refU_nil]
    | cons b t =>
      simp only [List.length_cons] at hn hm
      obtain ⟨m, rfl⟩ : ∃ x, m = x + 1 := ⟨m - 1, by omega⟩
      unfold refU
      by_cases h1 : b = 13
      · rw [if_pos h1, if_pos h1]
        have hlen : (if t.head? = some 10 then t.tail else t).length ≤ t.length := by
          split
          · simp
          · exact Nat.le_refl _
        rw [ih m _ (by omega) (by omega)]
      · rw [if_neg h1, if_neg h1]
        by_cases h2 : b = 38
        · rw [if_pos h2, if_pos h2]
          cases hc : cutR 59 t with
          | none => rfl
          | some p =>
            obtain ⟨a, r⟩ := p
            have h3 := (cutR_some hc).1
            have h4 : r.length ≤ t.length := by rw [h3]; simp; omega
            simp only
            rw [ih m r (by omega) (by omega)]
        · rw [if_neg h2, if_neg h2, ih m t (by omega) (by omega)]
/-! line ends -/
theorem crlf_app {c : UInt8} (h10 : c ≠ 10) : ∀ (a t : List UInt8), crlf (a ++ c :: t) = crlf a ++ crlf (c :: t)
  | [], t => rfl
  | b :: a, t => by
    have hh : ((a ++ c :: t).head? = some 10) ↔ (a.head? = some 10) := by
      cases a with
      | nil => simp [h10]
      | cons x a => simp
    rw [List.cons_append, crlf, crlf]
    by_cases hb : b = 13 ∧ a.head? = some 10
    · rw [if_pos ⟨hb.1, hh.2 hb.2⟩, if_pos hb, crlf_app h10 a t]
    · rw [if_neg (fun h => hb ⟨h.1, hh.1 h.2⟩), if_neg hb, crlf_app h10 a t]
      rfl
theorem norm_app {c : UInt8} (h10 : c ≠ 10) (h13 : c ≠ 13) (a t : List UInt8) : norm (a ++ c :: t) = norm a ++ c :: norm t := by
  unfold norm
  rw [crlf_app h10, crlf, if_neg (fun h => h13 h.1)]
  simp [cr, h13]
theorem crlf_mem {c : UInt8} : ∀ {l : List UInt8}, c ∈ crlf l → c ∈ l
  | [], h => h
  | b :: l, h => by
    unfold crlf at h
    split at h
    · exact List.mem_cons_of_mem _ (crlf_mem h)
    · rcases List.mem_cons.1 h with h | h
      · exact List.mem_cons.2 (.inl h)
      · exact List.mem_cons_of_mem _ (crlf_mem h)
theorem norm_mem {c : UInt8} (h10 : c ≠ 10) {l : List UInt8} (h : c ∈ norm l) : c ∈ l := by
  unfold norm cr at h
  obtain ⟨x, hx, hxc⟩ := List.mem_map.1 h
  split at hxc
  · exact absurd hxc.symm h10
  · subst hxc
    exact crlf_mem hx
theorem crlf_plain : ∀ {l : List UInt8}, (13 : UInt8) ∉ l → crlf l = l
  | [], h => rfl
  | b :: l, h => by
    simp only [List.mem_cons, not_or] at h
    rw [crlf, if_neg (fun e => h.1 e.1.symm), crlf_plain h.2]
theorem norm_plain {l : List UInt8} (h : (13 : UInt8) ∉ l) : norm l = l := by
  unfold norm
  rw [crlf_plain h]
  unfold cr
  conv => rhs; rw [← List.map_id l]
  apply List.map_congr_left
  intro b hb
  have : b ≠ 13 := fun e => h (e ▸ hb)
  simp [this]
theorem crlf_10 : ∀ {l : List UInt8}, (10 : UInt8) ∈ l → (10 : UInt8) ∈ crlf l
  | [], h => h
  | b :: l, h => by
    unfold crlf
    split
    · rename_i hb
      rcases List.mem_cons.1 h with h | h
      · exact absurd (h.trans hb.1) (by decide)
      · exact crlf_10 h
    · rcases List.mem_cons.1 h with h | h
      · exact List.mem_cons.2 (.inl h)
      · exact List.mem_cons_of_mem _ (crlf_10 h)
theorem crlf_13 : ∀ {l : List UInt8}, (13 : UInt8) ∈ l → (13 : UInt8) ∈ crlf l ∨ (10 : UInt8) ∈ crlf l
  | [], h => .inl h
  | b :: l, h => by
    unfold crlf
    split
    · rename_i hb
      right
      apply crlf_10
      cases l with
      | nil => simp at hb
      | cons x l => simp at hb; simp [hb.2]
    · rcases List.mem_cons.1 h with h | h
      · exact .inl (List.mem_cons.2 (.inl h))
      · rcases crlf_13 h with h | h
        · exact .inl (List.mem_cons_of_mem _ h)
        · exact .inr (List.mem_cons_of_mem _ h)
theorem norm_13 {l : List UInt8} (h : (13 : UInt8) ∈ l) : (10 : UInt8) ∈ norm l := by
  unfold norm cr
  rcases crlf_13 h with h | h
  · exact List.mem_map.2 ⟨13, h, by simp⟩
  · exact List.mem_map.2 ⟨10, h, by simp⟩
/-- a name that holds a line end tells nothing -/
theorem numL_bad {base : Int} {x : UInt8} (hx : digV base x.toNat = none) : ∀ {l : List UInt8} {n : Int}, x ∈ l → numL base l n = none
  | b :: l, n, h => by
    unfold numL
    rcases List.mem_cons.1 h with h | h
    · subst h
      rw [hx]
    · cases digV base b.toNat with
      | none => rfl
      | some d => exact numL_bad hx h
theorem numW_bad {base : Int} {x : UInt8} (hx : digV base x.toNat = none) {t : ByteArray} (h : x ∈ t.data.toList) : (numW base t).2 = false := by
  unfold numW
  split
  · rfl
  · rw [numB_l t base t.size 0 0 (by omega), List.drop_zero, numL_bad hx h]
theorem sign_bad {x : UInt8} (hx : x = 10 ∨ x = 13) {l : List UInt8} (hl : l.length ≤ 1073741824) (h : x ∈ l) : (signV ⟨l.toArray⟩).2 = false := by
  have hd : ∀ base : Int, digV base x.toNat = none := fun base => by
    rcases hx with rfl | rfl
    · exact digNo (.inl (by decide)) (.inl (by decide)) (.inl (by decide))
    · exact digNo (.inl (by decide)) (.inl (by decide)) (.inl (by decide))
  have hlist : (⟨l.toArray⟩ : ByteArray).data.toList = l := by simp
  have hsz : (⟨l.toArray⟩ : ByteArray).size = l.length := by rw [size_list, hlist]
  have no : ∀ t : List UInt8, x ∉ t → ¬ (⟨l.toArray⟩ : ByteArray).toList = t := fun t ht e => by
    rw [ByteArray.toList_eq, hlist] at e
    exact ht (e ▸ h)
  unfold signV
  rw [if_neg (no _ (by rcases hx with rfl | rfl <;> decide)), if_neg (no _ (by rcases hx with rfl | rfl <;> decide)), if_neg (no _ (by rcases hx with rfl | rfl <;> decide)), if_neg (no _ (by rcases hx with rfl | rfl <;> decide)), if_neg (no _ (by rcases hx with rfl | rfl <;> decide))]
  rw [hp_list _ _ (by omega) (by decide), hlist]
  cases l with
  | nil => cases h
  | cons a r =>
    by_cases ha : a = 35
    · subst ha
      have hr : x ∈ r := by
        rcases List.mem_cons.1 h with h | h
        · rcases hx with rfl | rfl <;> exact absurd h (by decide)
        · exact h
      rw [if_pos (by simp [List.isPrefixOf])]
      simp only
      rw [numV_W]
      have hx1 : ((⟨(35 :: r).toArray⟩ : ByteArray).extract 1 (⟨(35 :: r).toArray⟩ : ByteArray).size).data.toList = r := by rw [ext_end, hlist]; rfl
      unfold numT
      rw [hp_list _ _ (by rw [size_list, hx1]; simp at hl; omega) (by decide), hx1]
      split
      · rename_i hp
        refine numW_bad (hd _) ?_
        simp only
        rw [ext_end, hx1]
        cases r with
        | nil => cases hr
        | cons b r =>
          rcases List.mem_cons.1 hr with h2 | h2
          · subst h2
            exfalso
            simp [List.isPrefixOf] at hp
            rcases hx with rfl | rfl <;> exact absurd hp (by decide)
          · exact h2
      · refine numW_bad (hd _) ?_
        rw [hx1]
        exact hr
    · have ha2 : ((35 : UInt8) == a) = false := by simpa using fun h : 35 = a => ha h.symm
      rw [if_neg (by simp [List.isPrefixOf, ha2])]
/-- up to an escape, the line ends alone change -/
theorem refU_run {t : List UInt8} (ht : t = [] ∨ t.head? = some 38) : ∀ (n : Nat) (p : List UInt8), (38 : UInt8) ∉ p → (p ++ t).length ≤ n → refU n (p ++ t) = (refU t.length t).map fun l => norm p ++ l := by
  have hne : t.head? ≠ some 10 := by
    rcases ht with rfl | h
    · simp
    · rw [h]; decide
  intro n
  induction n using Nat.strongRecOn with
  | _ n ih =>
    intro p hp hn
    cases p with
    | nil =>
      rw [List.nil_append, refU_fuel n t.length t (by simpa using hn) (Nat.le_refl _)]
      cases refU t.length t <;> rfl
    | cons b p =>
      simp only [List.mem_cons, not_or] at hp
      simp only [List.cons_append, List.length_cons] at hn
      obtain ⟨n, rfl⟩ : ∃ x, n = x + 1 := ⟨n - 1, by omega⟩
      rw [List.cons_append, refU]
      by_cases hb : b = 13
      · subst hb
        rw [if_pos rfl]
        cases p with
        | nil =>
          rw [List.nil_append, if_neg hne, refU_fuel n t.length t (by simpa using hn) (Nat.le_refl _)]
          cases refU t.length t <;> rfl
        | cons x p =>
          simp only [List.mem_cons, not_or] at hp
          rw [List.cons_append, List.head?_cons, List.tail_cons]
          by_cases hx : x = 10
          · subst hx
            rw [if_pos rfl, ih n (by omega) p hp.2.2 (by simp at hn ⊢; omega)]
            have hnm : norm (13 :: 10 :: p) = 10 :: norm p := by
              unfold norm
              rw [crlf, if_pos ⟨rfl, rfl⟩, crlf, if_neg (fun h => absurd h.1 (by decide))]
              simp [cr]
            rw [hnm]
            cases refU t.length t <;> rfl
          · rw [if_neg (by simpa using hx)]
            have := ih n (by omega) (x :: p) (by simp only [List.mem_cons, not_or]; exact hp.2) (by simpa using hn)
            rw [List.cons_append] at this
            rw [this]
            have hnm : norm (13 :: x :: p) = 10 :: norm (x :: p) := by
              unfold norm
              rw [crlf, if_neg (fun h => hx (by simpa using h.2))]
              simp [cr]
            rw [hnm]
            cases refU t.length t <;> rfl
      · rw [if_neg hb, if_neg (fun e => hp.1 e.symm), ih n (by omega) p hp.2 (by omega)]
        have hnm : norm (b :: p) = b :: norm p := by
          unfold norm
          rw [crlf, if_neg (fun h => hb h.1)]
          simp [cr, hb]
        rw [hnm]
        cases refU t.length t <;> rfl
theorem unB_ref : ∀ (n : Nat) (l : List UInt8) (k : Nat) (acc : List UInt8), l.length ≤ n → l.length < k → l.length ≤ 1073741824 → unB k ⟨(norm l).toArray⟩ acc = (refU n l).map fun x => acc ++ x := by
  intro n
  induction n using Nat.strongRecOn with
  | _ n ih =>
    intro l k acc hn hk hb
    obtain ⟨k, rfl⟩ : ∃ x, k = x + 1 := ⟨k - 1, by omega⟩
    have hlist : ∀ x : List UInt8, (⟨x.toArray⟩ : ByteArray).data.toList = x := fun x => by simp
    unfold unB
    simp only [hlist, cutAt_R]
    cases hc : cutR 38 l with
    | none =>
      have h1 := cutR_none hc
      have h2 : cutR 38 (norm l) = none := cutR_no (fun h => h1 (norm_mem (by decide) h))
      have h3 := refU_run (t := []) (.inl rfl) n l h1 (by simpa using hn)
      rw [List.append_nil] at h3
      rw [h3, h2]
      simp [refU_nil, hlist]
    | some p =>
      obtain ⟨pre, rest⟩ := p
      obtain ⟨rfl, hpre⟩ := cutR_some hc
      have hlen : (pre ++ 38 :: rest).length = pre.length + rest.length + 1 := by simp; omega
      rw [norm_app (by decide) (by decide), cutR_mk _ (fun h => hpre (norm_mem (by decide) h))]
      simp only [if_true]
      rw [refU_run (t := 38 :: rest) (.inr rfl) n pre hpre hn]
      have hr : refU (38 :: rest).length (38 :: rest) = (match cutR 59 rest with | none => none | some (a, r) => if (entL a).2 = true then (refU rest.length r).map fun l => (entL a).1 ++ l else none) := by
        rw [List.length_cons, refU, if_neg (by decide), if_pos rfl]
      rw [hr]
      simp only [hlist, cutAt_R]
      cases hd : cutR 59 rest with
      | none =>
        have h1 := cutR_none hd
        rw [cutR_no (fun h => h1 (norm_mem (by decide) h))]
        rfl
      | some q =>
        obtain ⟨a, r⟩ := q
        obtain ⟨rfl, ha⟩ := cutR_some hd
        have hlen2 : (a ++ 59 :: r).length = a.length + r.length + 1 := by simp; omega
        rw [norm_app (by decide) (by decide), cutR_mk _ (fun h => ha (norm_mem (by decide) h))]
        simp only [if_true]
        by_cases h13 : (13 : UInt8) ∈ a
        · have e1 : (signV ⟨(norm a).toArray⟩).2 = false := sign_bad (.inl rfl) (by have := norm_len a; omega) (norm_13 h13)
          have e2 : (entL a).2 = false := by
            unfold entL entV
            rw [sign_bad (.inr rfl) (by omega) h13]
            rfl
          rw [e1, e2]
          rfl
        · rw [norm_plain h13]
          have e2 : (entL a).2 = (signV ⟨a.toArray⟩).2 := by
            unfold entL entV
            cases (signV ⟨a.toArray⟩).2 <;> rfl
          rw [e2]
          cases hs : (signV ⟨a.toArray⟩).2 with
          | false => rfl
          | true =>
            have e3 : (entL a).1 = (signV ⟨a.toArray⟩).1.data.toList := by
              unfold entL entV
              rw [hs]
              rfl
            simp only [if_true]
            rw [e3, ih r.length (by omega) r k _ (Nat.le_refl _) (by omega) (by omega), refU_fuel (a ++ 59 :: r).length r.length r (by omega) (Nat.le_refl _)]
            cases refU r.length r with
            | none => rfl
            | some x => simp
theorem unV_ref (s : ByteArray) (hs : s.size ≤ 1073741824) : unV s = match refU s.size s.data.toList with | some l => (⟨l.toArray⟩, true) | none => (⟨#[]⟩, false) := by
  unfold unV
  rw [unB_ref s.size s.data.toList (s.size + 1) [] (by rw [← size_list]; exact Nat.le_refl _) (by rw [← size_list]; omega) (by rw [← size_list]; exact hs)]
  cases refU s.size s.data.toList <;> rfl
theorem cut_l (t : ByteArray) (ht : t.size ≤ 1073741824) : ∀ (r i k : Nat), r + i = t.size → r < k → (59 : UInt8) ∉ t.data.toList.take i →
    stowageref3_Cut.l0 k t 59 (i : Int) = some (match cutR 59 (t.data.toList.drop i) with | some (a, q) => (⟨(t.data.toList.take i ++ a).toArray⟩, ⟨q.toArray⟩, true) | none => (t, ⟨#[]⟩, false)) := by
  intro r
  induction r with
  | zero =>
    intro i k hi hk hno
    obtain ⟨k, rfl⟩ : ∃ m, k = m + 1 := ⟨k - 1, by omega⟩
    simp only [stowageref3_Cut.l0]
    rw [if_neg (by omega), List.drop_of_length_le (by rw [← size_list]; omega)]
    rfl
  | succ r ih =>
    intro i k hi hk hno
    obtain ⟨k, rfl⟩ : ∃ m, k = m + 1 := ⟨k - 1, by omega⟩
    have hil : i < t.size := by omega
    have hbt := bt_get t i hil
    simp only [stowageref3_Cut.l0]
    rw [if_pos (by omega), if_pos (by omega), drop_get t i hil, cutR]
    by_cases hc : bt t (i : Int) = 59
    · have hc2 : t[i] = 59 := u8_yes (n := 59) (by omega) (by rw [← hbt]; simpa using hc)
      rw [if_pos hc, if_pos hc2, w64 i (by omega), if_pos (by omega), if_pos (by omega), if_pos (by omega)]
      have e1 : t.extract 0 (i : Int).toNat = ⟨(t.data.toList.take i ++ []).toArray⟩ := by
        apply ba_ext
        rw [ext_list]
        simp
      have e2 : t.extract ((i + 1 : Nat) : Int).toNat t.size = ⟨(t.data.toList.drop (i + 1)).toArray⟩ := by
        apply ba_ext
        rw [Int.toNat_natCast, ext_end]
      rw [e1, e2]
    · have hc2 : ¬ t[i] = 59 := fun h => hc (by rw [hbt, h]; rfl)
      have hno2 : (59 : UInt8) ∉ t.data.toList.take (i + 1) := by
        rw [take_snoc t i hil]
        simp only [List.mem_append, List.mem_singleton, not_or]
        exact ⟨hno, fun h => hc2 h.symm⟩
      rw [if_neg hc, if_neg hc2, w64 i (by omega), ih (i + 1) k (by omega) (by omega) hno2]
      cases cutR 59 (t.data.toList.drop (i + 1)) with
      | none => rfl
      | some p =>
        obtain ⟨a, q⟩ := p
        simp only [Option.map_some]
        rw [take_snoc t i hil]
        simp
theorem cut_f (t : ByteArray) (ht : t.size ≤ 1073741824) (k : Nat) (hk : t.size < k) : stowageref3_Cut.f k t 59 = some (match cutR 59 t.data.toList with | some (a, q) => (⟨a.toArray⟩, ⟨q.toArray⟩, true) | none => (t, ⟨#[]⟩, false)) := by
  unfold stowageref3_Cut.f
  have := cut_l t ht t.size 0 k (by omega) hk (by simp)
  simpa using this
theorem entV_len (s : ByteArray) : (entV s).1.size ≤ 4 := by
  unfold entV
  split
  · rw [size_list]; exact signV_len s
  · decide
theorem wrap_add {x y : Nat} (h : x + y ≤ 4611686018427387904) : wrap64 ((x : Int) + (y : Int)) = ((x + y : Nat) : Int) := by unfold wrap64; omega
theorem amp_arith {j n k al ql sz ac e : Nat} (hlen : sz - (j + 1) = al + (ql + 1)) (hj : n + 1 + j = sz) (hk : n + 1 + sz + 25 ≤ k + 1) (ha : ac ≤ 4 * j) (he : e ≤ 4) (hs : sz ≤ 1073741824) :
    j + 1 + al ≤ 4611686018427387904 ∧ n - (al + 1) < n + 1 ∧ n - (al + 1) + (j + 1 + al + 1) = sz ∧ n - (al + 1) + sz + 25 ≤ k ∧ ac + e ≤ 4 * (j + 1 + al + 1) ∧ ql ≤ n - (al + 1) ∧ ql ≤ n ∧ j + 1 + al + 1 = (j + 1) + (al + 1) := by omega
set_option maxHeartbeats 2000000 in
theorem refU_l (s : ByteArray) (hs : s.size ≤ 1073741824) : ∀ (n j k : Nat) (acc : ByteArray), n + j = s.size → n + s.size + 25 ≤ k → acc.size ≤ 4 * j →
    stowageref13_Unescape.l0 k s acc (j : Int) = some (match refU n (s.data.toList.drop j) with | some l => (⟨(acc.data.toList ++ l).toArray⟩, true) | none => (⟨#[]⟩, false)) := by
  intro n
  induction n using Nat.strongRecOn with
  | _ n ih =>
    intro j k acc hj hk ha
    obtain ⟨k, rfl⟩ : ∃ m, k = m + 1 := ⟨k - 1, by omega⟩
    simp only [stowageref13_Unescape.l0]
    by_cases hlt : j < s.size
    · obtain ⟨n, rfl⟩ : ∃ x, n = x + 1 := ⟨n - 1, by omega⟩
      have hbt := bt_get s j hlt
      have hw := w64 j (by omega)
      rw [if_pos (by omega), if_pos (by omega), drop_get s j hlt, refU]
      by_cases h13 : bt s (j : Int) = 13
      · have hc : s[j] = 13 := u8_yes (n := 13) (by omega) (by rw [← hbt]; simpa using h13)
        rw [if_pos h13, if_pos hc, if_pos (by omega), hw]
        by_cases hend : j + 1 < s.size
        · have hbt1 := bt_get s (j + 1) hend
          rw [if_pos (by omega), if_pos (by omega)]
          have hhd : (s.data.toList.drop (j + 1)).head? = some s[j + 1] := by rw [drop_get s (j + 1) hend]; rfl
          by_cases h10 : bt s ((j + 1 : Nat) : Int) = 10
          · have hc1 : s[j + 1] = 10 := u8_yes (n := 10) (by omega) (by rw [← hbt1]; simpa using h10)
            rw [if_pos h10, w64 (j + 1) (by omega), hhd, if_pos (by rw [hc1]), drop_get s (j + 1) hend, List.tail_cons]
            have := ih (n - 1) (by omega) (j + 2) k (acc ++ ⟨#[10]⟩) (by omega) (by omega) (by rw [ByteArray.size_append]; show acc.size + 1 ≤ _; omega)
            rw [this, refU_fuel (n - 1) n _ (by rw [List.length_drop, ← size_list]; omega) (by rw [List.length_drop, ← size_list]; omega)]
            cases refU n (s.data.toList.drop (j + 2)) with
            | none => rfl
            | some l => simp
          · have hc1 : ¬ s[j + 1] = 10 := fun h => h10 (by rw [hbt1, h]; rfl)
            rw [if_neg h10, hhd, if_neg (by simpa using hc1)]
            have := ih n (by omega) (j + 1) k (acc ++ ⟨#[10]⟩) (by omega) (by omega) (by rw [ByteArray.size_append]; show acc.size + 1 ≤ _; omega)
            rw [this]
            cases refU n (s.data.toList.drop (j + 1)) with
            | none => rfl
            | some l => simp
        · rw [if_neg (by omega)]
          have hnil : s.data.toList.drop (j + 1) = [] := List.drop_of_length_le (by rw [← size_list]; omega)
          have := ih n (by omega) (j + 1) k (acc ++ ⟨#[10]⟩) (by omega) (by omega) (by rw [ByteArray.size_append]; show acc.size + 1 ≤ _; omega)
          rw [this, hnil]
          simp [refU_nil]
      · have hc : ¬ s[j] = 13 := fun h => h13 (by rw [hbt, h]; rfl)
        rw [if_neg h13, if_neg hc]
        by_cases h38 : bt s (j : Int) = 38
        · have hc2 : s[j] = 38 := u8_yes (n := 38) (by omega) (by rw [← hbt]; simpa using h38)
          rw [if_pos h38, if_pos hc2, hw, if_pos (by omega), if_pos (by omega), Int.toNat_natCast]
          have hsz : (s.extract (j + 1) s.size).size = s.size - (j + 1) := by simp
          rw [cut_f _ (by omega) k (by omega), ext_end]
          cases hcut : cutR 59 (s.data.toList.drop (j + 1)) with
          | none =>
            simp only [Option.bind_some]
            rw [entity_f _ (by omega) k (by omega)]
            rfl
          | some p =>
            obtain ⟨a, q⟩ := p
            obtain ⟨h1, h2⟩ := cutR_some hcut
            have hlen := congrArg List.length h1
            rw [List.length_drop, ← size_list, List.length_append, List.length_cons] at hlen
            have hasz : (⟨a.toArray⟩ : ByteArray).size = a.length := by rw [size_list]
            simp only [Option.bind_some]
            rw [entity_f _ (by omega) k (by omega)]
            have hel := entV_len ⟨a.toArray⟩
            have hL : entL a = ((entV ⟨a.toArray⟩).1.data.toList, (entV ⟨a.toArray⟩).2) := rfl
            rw [hL]
            rw [hasz]
            generalize entV ⟨a.toArray⟩ = ev at hel ⊢
            obtain ⟨ev1, ev2⟩ := ev
            simp only [Option.bind_some, if_true]
            cases ev2 with
            | true =>
              simp only [if_true]
              simp only at hel
              rw [if_pos (by omega)]
              obtain ⟨z0, z1, z2, z3, z4, z5, z6, z7⟩ := amp_arith hlen hj hk ha hel hs
              have hww : wrap64 (wrap64 (((j + 1 : Nat) : Int) + (a.length : Int)) + 1) = ((j + 1 + a.length + 1 : Nat) : Int) := by
                have e1 : wrap64 (((j + 1 : Nat) : Int) + (a.length : Int)) = ((j + 1 + a.length : Nat) : Int) := wrap_add z0
                rw [e1]
                exact w64 (j + 1 + a.length) z0
              rw [hww]
              have hq : s.data.toList.drop (j + 1 + a.length + 1) = q := by
                rw [z7, ← List.drop_drop, h1]
                simp [List.drop_append]
              have := ih (n - (a.length + 1)) z1 (j + 1 + a.length + 1) k (acc ++ ev1) z2 z3 (by rw [ByteArray.size_append]; exact z4)
              rw [this, hq, refU_fuel (n - (a.length + 1)) n q z5 z6]
              cases refU n q with
              | none => rfl
              | some l => simp
            | false => rfl
        · have hc2 : ¬ s[j] = 38 := fun h => h38 (by rw [hbt, h]; rfl)
          rw [if_neg h38, if_neg hc2, hw, if_pos (by omega), if_pos (by omega)]
          have hx1 := ext_one s j hlt
          have hsz : (s.extract j (j + 1)).size = 1 := by rw [size_list, hx1]; rfl
          rw [Int.toNat_natCast, Int.toNat_natCast, if_pos (by omega)]
          have := ih n (by omega) (j + 1) k (acc ++ s.extract j (j + 1)) (by omega) (by omega) (by rw [ByteArray.size_append]; omega)
          rw [this]
          cases refU n (s.data.toList.drop (j + 1)) with
          | none => rfl
          | some l =>
            have hap : (acc ++ s.extract j (j + 1)).data.toList = acc.data.toList ++ [s[j]] := by rw [ByteArray.data_append, Array.toList_append, hx1]
            simp only [Option.map_some]
            rw [hap]
            simp
    · rw [if_neg (by omega), List.drop_of_length_le (by rw [← size_list]; omega), refU_nil]
      simp
theorem refUnescape_f (s : ByteArray) (hs : s.size ≤ 1073741824) : stowageref13_Unescape.f (2 * s.size + 25) s = some (unV s) := by
  unfold stowageref13_Unescape.f
  have := refU_l s hs s.size 0 (2 * s.size + 25) ⟨#[]⟩ (by omega) (by omega) (by decide)
  rw [List.drop_zero] at this
  rw [unV_ref s hs]
  refine Eq.trans this ?_
  cases refU s.size s.data.toList <;> simp
theorem refUnescape_calls (s : ByteArray) (hs : s.size ≤ 1073741824) (w : World) : Calls Tryd.prog 22 #[.string s] w fun e w' => e = .returned (.tuple #[.string (unV s).1, .bool (unV s).2]) ∧ Below w.heap.size w w' :=
  stowageref13_Unescape.calls _ s _ _ w (refUnescape_f s hs)
end Go.Proofs.YtkhjpobhdpcglaaDoor.X
end
section
namespace Go.Proofs.YtkhjpobhdpcglaaDoor.X
open Go.RowKit Go.Proofs.YtkhjpobhdpcglaaDoorW.PrintWords Go.Proofs.YtkhjpobhdpcglaaDoorW.PrintLast Go.Proofs.YtkhjpobhdpcglaaDoorW.PrintMore
set_option linter.unusedVariables false
set_option linter.unusedSimpArgs false
set_option maxHeartbeats 4000000 in
set_option maxRecDepth 1000000 in
theorem xmlTexts_calls (s : ByteArray) (w : World) (hg : GOK w) (hs : s.size ≤ 1048576) : Calls Tryd.prog 5 #[.string s] w fun e w' => e = .returned (.bool true) ∧ Below w.heap.size w w' := by
  have hs2 : s.size ≤ 1073741824 := by omega
  obtain ⟨x, hx⟩ : ∃ x, x = unV s := ⟨_, rfl⟩
  obtain ⟨x1, x2⟩ := x
  have H1 := Aside0.mk (xml_Unescape.calls s x1 x2 w hg (by rw [xml_Unescape.f, if_pos hs2, hx]))
  have H2 : Aside0 (∀ w', Calls Tryd.prog 22 #[.string s] w' fun e w2 => e = .returned (.tuple #[.string x1, .bool x2]) ∧ Below w'.heap.size w' w2) := ⟨fun w' => by have := refUnescape_calls s hs2 w'; rw [← hx] at this; exact this⟩
  obtain ⟨nb, hnb⟩ : ∃ nb, nb = nameV s := ⟨_, rfl⟩
  obtain ⟨eb, heb⟩ : ∃ eb, eb = (⟨(escL s.data.toList).toArray⟩ : ByteArray) := ⟨_, rfl⟩
  have H3 : Aside0 (∀ w', Calls Tryd.prog 23 #[.string s] w' fun e w2 => e = .returned (.bool nb) ∧ Drawn0 w' w2) := ⟨fun w' => by rw [hnb]; exact xml_Name.calls s _ w' (by rw [xml_Name.f, if_pos (by omega)])⟩
  have H4 : Aside0 (∀ w', Calls Tryd.prog 24 #[.string s] w' fun e w2 => e = .returned (.bool nb) ∧ Drawn0 w' w2) := ⟨fun w' => by rw [hnb]; exact refName_calls s hs2 w'⟩
  have H5 : Aside0 (∀ w', Calls Tryd.prog 25 #[.string s] w' fun e w2 => e = .returned (.string eb) ∧ Below w'.heap.size w' w2) := ⟨fun w' => by rw [heb]; exact xml_Escape.calls s _ w' (by rw [xml_Escape.f, if_pos (by omega)])⟩
  have H6 : Aside0 (∀ w', Calls Tryd.prog 26 #[.string s] w' fun e w2 => e = .returned (.string eb) ∧ Drawn0 w' w2) := ⟨fun w' => by rw [heb]; exact refEscape_calls s hs2 w'⟩
  have HG := Aside0.mk hg
  clear hx hnb heb hg
  go_enter Tryd.func5, Tryd.ntmps5
  go_wp2_with fail
  refine H1.out.mono ?_
  rintro e w1 ⟨rfl, hb1⟩
  have HB1 := Aside0.mk hb1
  clear hb1
  go_wp2_with fail
  refine (H2.out _).mono ?_
  rintro e w2 ⟨rfl, hb2⟩
  have HB2 := Aside0.mk (below_step HB1.out hb2)
  clear hb2
  go_wp2_with fail
  refine (H3.out _).mono ?_
  rintro e w3 ⟨rfl, ⟨n3, rfl⟩⟩
  go_wp2_with fail
  refine (H4.out _).mono ?_
  rintro e w4 ⟨rfl, ⟨n4, rfl⟩⟩
  go_wp2_with fail
  refine (H5.out _).mono ?_
  rintro e w5 ⟨rfl, hb5⟩
  have HB5 := Aside0.mk (below_step (pw_below_drewN HB2.out _) hb5)
  clear hb5
  go_wp2_with fail
  refine (H6.out _).mono ?_
  rintro e w6 ⟨rfl, ⟨n6, rfl⟩⟩
  go_wp2_with fail
  refine (awake13_calls _ ((HG.out.below HB5.out HG.out.lt).drewN n6)).mono ?_
  rintro e w7 ⟨rfl, hb7⟩
  have HB7 := Aside0.mk (below_step (pw_below_drewN HB5.out _) hb7)
  clear hb7
  go_wp2_with fail
  go_ret
  exact ⟨rfl, HB7.out⟩
end Go.Proofs.YtkhjpobhdpcglaaDoor.X
end
