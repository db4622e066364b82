/- stowagelaw13.XmlTexts holds for every text of bulk at most 1048576 (its second form): part 2 of what its proof leans on. -/
import Derived.Lib.Replace
import Derived.Lib.CountLaws
import Derived.Lib.ReplaceLaws
import Derived.Deep.QuietTactic
import Derived.Deep.RegionHeld3
import Derived.ScopeJumps
import Derived.WalkMore
import Derived.Laws.ResultCell
import Derived.Laws.Rows
import Derived.Test.YtkhjpobhdpcglaaDoorBXmlTexts1
section
namespace Go.Proofs.YtkhjpobhdpcglaaDoor.X
open Go.RowKit Go.Proofs.YtkhjpobhdpcglaaDoorW.PrintWords Go.Proofs.YtkhjpobhdpcglaaDoorW.PrintLast Go.Proofs.YtkhjpobhdpcglaaDoorW.PrintMore
set_option linter.unusedVariables false
set_option linter.unusedSimpArgs false

/-- what a digit tells -/
def digV (base : Int) (c : Nat) : Option Int :=
  if 48 ≤ c ∧ c ≤ 57 then some ((c : Int) - 48)
  else if base = 16 ∧ 97 ≤ c ∧ c ≤ 102 then some ((c : Int) - 97 + 10)
  else if base = 16 ∧ 65 ≤ c ∧ c ≤ 70 then some ((c : Int) - 65 + 10)
  else none
def numB (s : ByteArray) (base : Int) : Nat → Nat → Int → Option Int
  | 0, _, n => some n
  | b + 1, pos, n => if pos < s.size then (match digV base (Utf8.decode s pos).1 with | some d => numB s base b (pos + (Utf8.decode s pos).2) (n * base + d) | none => none) else some n
theorem numB_end (s : ByteArray) (base : Int) (b pos : Nat) (n : Int) (h : ¬ pos < s.size) : numB s base b pos n = some n := by
  cases b with
  | zero => rfl
  | succ b => simp [numB, h]
/-- the number's own text, and its base -/
def numT (s : ByteArray) : Int × ByteArray := if strings_HasPrefix.f s ⟨#[120]⟩ = some true then (16, s.extract 1 s.size) else (10, s)
def okN (n : Int) : Bool := decide (n ≤ 1114111) && (legB (Utf8.encode n) (Utf8.encode n).size 0 && (cntB (Utf8.encode n) (Utf8.encode n).size 0 0).2) && !((Utf8.encode n).toList == [239, 191, 189]) || n == 65533
def numV (s : ByteArray) : Int × Bool :=
  if (numT s).2.size < 1 ∨ 7 < (numT s).2.size then (0, false)
  else match numB (numT s).2 (numT s).1 (numT s).2.size 0 0 with
    | none => (0, false)
    | some n => (n, okN n)
theorem pow16 (k : Nat) (h : k ≤ 6) : (16 : Int) ^ k ≤ 16777216 := by
  have : k = 0 ∨ k = 1 ∨ k = 2 ∨ k = 3 ∨ k = 4 ∨ k = 5 ∨ k = 6 := by omega
  rcases this with rfl | rfl | rfl | rfl | rfl | rfl | rfl <;> decide
theorem enc_size (n : Int) : (Utf8.encode n).size ≤ 4 := by
  simp only [Utf8.encode]
  repeat' split
  all_goals simp [ByteArray.size]

theorem numB_step {s : ByteArray} {base : Int} {b pos : Nat} {n d : Int} (hp : pos < s.size) (hd : digV base (Utf8.decode s pos).1 = some d) : numB s base (b + 1) pos n = numB s base b (pos + (Utf8.decode s pos).2) (n * base + d) := by
  simp only [numB, if_pos hp, hd]
theorem numB_stop {s : ByteArray} {base : Int} {b pos : Nat} {n : Int} (hp : pos < s.size) (hd : digV base (Utf8.decode s pos).1 = none) : numB s base (b + 1) pos n = none := by
  simp only [numB, if_pos hp, hd]
theorem dig1 {base : Int} {c : Nat} (h1 : 48 ≤ c) (h2 : c ≤ 57) : digV base c = some ((c : Int) - 48) := by unfold digV; rw [if_pos ⟨h1, h2⟩]
theorem dig2 {c : Nat} (h1 : 97 ≤ c) (h2 : c ≤ 102) : digV 16 c = some ((c : Int) - 97 + 10) := by unfold digV; rw [if_neg (by omega), if_pos ⟨rfl, h1, h2⟩]
theorem dig3 {c : Nat} (h1 : 65 ≤ c) (h2 : c ≤ 70) : digV 16 c = some ((c : Int) - 65 + 10) := by unfold digV; rw [if_neg (by omega), if_neg (by omega), if_pos ⟨rfl, h1, h2⟩]
theorem digNo {base : Int} {c : Nat} (h1 : c < 48 ∨ 57 < c) (h2 : c < 97 ∨ 102 < c) (h3 : c < 65 ∨ 70 < c) : digV base c = none := by unfold digV; rw [if_neg (by omega), if_neg (by omega), if_neg (by omega)]
theorem digNo10 {c : Nat} (h1 : c < 48 ∨ 57 < c) : digV 10 c = none := by unfold digV; rw [if_neg (by omega), if_neg (by omega), if_neg (by omega)]
theorem bound16 {n x : Int} {k : Nat} (h0 : 0 ≤ n) (h : n < 16 ^ k) (hx : x ≤ n * 16 + 15) (_h1 : 0 ≤ x) : x < 16 ^ (k + 1) := by
  have e : (16 : Int) ^ (k + 1) = 16 ^ k * 16 := Int.pow_succ ..
  omega

set_option maxHeartbeats 4000000 in
set_option maxRecDepth 1000000 in
theorem number_16 (a0 : ByteArray) (r1 : Int) (r2 : Bool) (w : World) (hx : strings_HasPrefix.f a0 ⟨#[120]⟩ = some true) (hs : a0.size ≤ 4611686018427387904) (h : numV a0 = (r1, r2)) :
    Calls Tryd.prog 106 #[.string a0] w fun e w' => e = .returned (.tuple #[.int .i32 r1, .bool r2]) ∧ Below w.heap.size w w' := by
  have HX := Aside0.mk hx
  have h1 : (1 : Int) ≤ (a0.size : Int) := by
    rw [hasPrefix_f _ _ (by decide) (by omega)] at hx
    have h2 := ((Bool.and_eq_true _ _).mp (Option.some.inj hx)).1
    have h3 : 1 ≤ a0.size := of_decide_eq_true h2
    omega
  have hT : numT a0 = (16, a0.extract 1 a0.size) := by unfold numT; rw [if_pos hx]
  unfold numV at h
  rw [hT] at h
  clear hT
  obtain ⟨t, ht⟩ : ∃ t, t = a0.extract 1 a0.size := ⟨_, rfl⟩
  simp only [← ht] at h
  have HT := Aside0.mk ht
  have H := Aside0.mk h
  clear h hx ht
  by_cases hc1 : t.size < 1
  · have hb1 : decide ((t.size : Int) < 1) = true := by simp; omega
    have hc : (t.size < 1 ∨ 7 < t.size) := .inl hc1
    go_enter Tryd.func106, Tryd.ntmps106
    go_wp2_with (go_at_call 89; refine (strings_HasPrefix.calls a0 ⟨#[120]⟩ true _ HX.out).mono ?_; rintro e w' ⟨rfl, ⟨nd, rfl⟩⟩)
    go_quiet (fail)
    rw [← HT.out]
    go_wp2
    go_ret2
    have H1 := H.out
    rw [if_pos hc] at H1
    simp only [Prod.mk.injEq] at H1
    obtain ⟨rfl, rfl⟩ := H1
    exact ⟨rfl, pw_below_drewN (Below.refl _ _) _⟩
  · have hb1 : decide ((t.size : Int) < 1) = false := by simp; omega
    by_cases hc2 : 7 < t.size
    · have hb1 : decide ((t.size : Int) < 1) = false := by simp; omega
      have hb2 : decide (7 < (t.size : Int)) = true := by simp; omega
      have hc : (t.size < 1 ∨ 7 < t.size) := .inr hc2
      go_enter Tryd.func106, Tryd.ntmps106
      go_wp2_with (go_at_call 89; refine (strings_HasPrefix.calls a0 ⟨#[120]⟩ true _ HX.out).mono ?_; rintro e w' ⟨rfl, ⟨nd, rfl⟩⟩)
      go_quiet (fail)
      rw [← HT.out]
      go_wp2
      go_ret2
      have H1 := H.out
      rw [if_pos hc] at H1
      simp only [Prod.mk.injEq] at H1
      obtain ⟨rfl, rfl⟩ := H1
      exact ⟨rfl, pw_below_drewN (Below.refl _ _) _⟩
    · have hb2 : decide (7 < (t.size : Int)) = false := by simp; omega
      have hc : ¬ (t.size < 1 ∨ 7 < t.size) := by omega
      have H2 : Aside0 ((match numB t 16 t.size 0 0 with | none => ((0 : Int), false) | some n => (n, okN n)) = (r1, r2)) := by
        have H1 := H.out
        rw [if_neg hc] at H1
        exact ⟨H1⟩
      have hs7 : t.size ≤ 7 := by omega
      clear H hc
      go_enter Tryd.func106, Tryd.ntmps106
      go_wp2_with (go_at_call 89; refine (strings_HasPrefix.calls a0 ⟨#[120]⟩ true _ HX.out).mono ?_; rintro e w' ⟨rfl, ⟨nd, rfl⟩⟩)
      go_quiet (fail)
      rw [← HT.out]
      go_wp2
      obtain ⟨m0, hm0⟩ : ∃ m0 : Nat, m0 = m0 := ⟨0, rfl⟩
      clear hm0
      go_loopw [5, 7] (fun v c w' => ∃ (pos b k m : Nat) (n : Int), w' = (w.drewN m).iter t pos ∧ v = .int .i32 n ∧ Aside0 (numB t 16 b pos n = numB t 16 t.size 0 0) ∧ t.size ≤ pos + b ∧ k ≤ pos ∧ 0 ≤ n ∧ n < 16 ^ k) (fun _ _ w' => t.size - w'.iterPos w.heap.size)
      case atStart => exact ⟨0, t.size, 0, _, 0, rfl, rfl, ⟨rfl⟩, by omega, by omega, by omega, by simp⟩
      case round =>
        obtain ⟨pos, b, k, m, n, rfl, rfl, HC, hb, hk, hn0, hn⟩ := hrel
        by_cases hp : pos < t.size
        · have hnx : ∀ ty, (Instr.next (.pointer (some ⟨w.heap.size, 0, none⟩)) true ty).run Tryd.prog ((w.drewN m).iter t pos) = _ := fun ty => run_next_any (w.drewN m) t pos ty hp
          have hwd := width_pos t pos hp
          obtain ⟨b, rfl⟩ : ∃ b', b = b' + 1 := ⟨b - 1, by omega⟩
          have hn16 : n < 16777216 := Int.lt_of_lt_of_le hn (pow16 k (by omega))
          go_wp2
          all_goals first
          | (go_roundw
             case rel =>
               first
               | exact ⟨pos + (Utf8.decode t pos).2, b, k + 1, m, _, rfl, rfl, ⟨by rw [← HC.out, numB_step hp (dig1 (by omega) (by omega))]; congr 1; omega⟩, by omega, by omega, by omega, bound16 hn0 hn (by omega) (by omega)⟩
               | exact ⟨pos + (Utf8.decode t pos).2, b, k + 1, m, _, rfl, rfl, ⟨by rw [← HC.out, numB_step hp (dig2 (by omega) (by omega))]; congr 1; omega⟩, by omega, by omega, by omega, bound16 hn0 hn (by omega) (by omega)⟩
               | exact ⟨pos + (Utf8.decode t pos).2, b, k + 1, m, _, rfl, rfl, ⟨by rw [← HC.out, numB_step hp (dig3 (by omega) (by omega))]; congr 1; omega⟩, by omega, by omega, by omega, bound16 hn0 hn (by omega) (by omega)⟩
             case measure =>
               show t.size - ((w.drewN m).iter t _).iterPos (w.drewN m).heap.size < t.size - ((w.drewN m).iter t _).iterPos (w.drewN m).heap.size
               rw [World.iterPos_iter, World.iterPos_iter]; omega)
          | (have hC := HC.out
             rw [numB_stop hp (by first | exact digNo (by omega) (by omega) (by omega) | exact digNo10 (by omega))] at hC
             have H3 := H2.out
             rw [← hC] at H3
             simp only [Prod.mk.injEq] at H3
             obtain ⟨rfl, rfl⟩ := H3
             go_ret2
             exact ⟨rfl, below_alloc (pw_below_drewN (Below.refl _ _) _) _⟩)
        · have hnx : ∀ ty, (Instr.next (.pointer (some ⟨w.heap.size, 0, none⟩)) true ty).run Tryd.prog ((w.drewN m).iter t pos) = _ := fun ty => run_next_end (w.drewN m) t pos ty hp
          have hC := HC.out
          rw [numB_end t 16 b pos n hp] at hC
          have H3 := H2.out
          rw [← hC] at H3
          simp only [Prod.mk.injEq] at H3
          obtain ⟨rfl, hok⟩ := H3
          unfold okN at hok
          have he4 := enc_size n
          obtain ⟨L, hL⟩ : ∃ L, L = (legB (Utf8.encode n) (Utf8.encode n).size 0 && (cntB (Utf8.encode n) (Utf8.encode n).size 0 0).2) := ⟨_, rfl⟩
          have HL := Aside0.mk (show chars_Legal.f (Utf8.encode n) = some L by rw [hL, chars_Legal.f, if_pos (by omega)])
          rw [← hL] at hok
          clear hC hL he4
          cases h5 : (n == 65533) <;> cases hE : ((Utf8.encode n).toList == [239, 191, 189]) <;> by_cases hA : n ≤ 1114111 <;> cases L
          all_goals
            first
            | (have hA1 : decide (n ≤ 1114111) = true := decide_eq_true hA
               simp only [hA1, hE, h5, Bool.and_true, Bool.and_false, Bool.or_true, Bool.or_false, Bool.true_and, Bool.false_and, Bool.not_true, Bool.not_false] at hok
               obtain rfl := hok
               clear hA
               go_wp2_with (go_at_call 46; refine (chars_Legal.calls _ _ _ HL.out).mono ?_; rintro e w' ⟨rfl, hb1⟩)
               go_ret2
               exact ⟨rfl, below_then (below_alloc (pw_below_drewN (Below.refl _ _) _) _) (by simp [World.iter]) hb1⟩)
            | (have hA1 : decide (n ≤ 1114111) = false := decide_eq_false hA
               simp only [hA1, hE, h5, Bool.and_true, Bool.and_false, Bool.or_true, Bool.or_false, Bool.true_and, Bool.false_and, Bool.not_true, Bool.not_false] at hok
               obtain rfl := hok
               clear hA
               go_wp2
               go_ret2
               exact ⟨rfl, below_alloc (pw_below_drewN (Below.refl _ _) _) _⟩)

set_option maxHeartbeats 4000000 in
set_option maxRecDepth 1000000 in
theorem number_10 (a0 : ByteArray) (r1 : Int) (r2 : Bool) (w : World) (hx : strings_HasPrefix.f a0 ⟨#[120]⟩ = some false) (hs : a0.size ≤ 4611686018427387904) (h : numV a0 = (r1, r2)) :
    Calls Tryd.prog 106 #[.string a0] w fun e w' => e = .returned (.tuple #[.int .i32 r1, .bool r2]) ∧ Below w.heap.size w w' := by
  have HX := Aside0.mk hx
  have hT : numT a0 = (10, a0) := by unfold numT; rw [if_neg (by rw [hx]; simp)]
  unfold numV at h
  rw [hT] at h
  simp only [] at h
  clear hT
  have H := Aside0.mk h
  clear h hx
  by_cases hc1 : a0.size < 1
  · have hb1 : decide ((a0.size : Int) < 1) = true := by simp; omega
    have hc : (a0.size < 1 ∨ 7 < a0.size) := .inl hc1
    go_enter Tryd.func106, Tryd.ntmps106
    go_wp2_with (go_at_call 89; refine (strings_HasPrefix.calls a0 ⟨#[120]⟩ false _ HX.out).mono ?_; rintro e w' ⟨rfl, ⟨nd, rfl⟩⟩)
    go_ret2
    have H1 := H.out
    rw [if_pos hc] at H1
    simp only [Prod.mk.injEq] at H1
    obtain ⟨rfl, rfl⟩ := H1
    exact ⟨rfl, pw_below_drewN (Below.refl _ _) _⟩
  · have hb1 : decide ((a0.size : Int) < 1) = false := by simp; omega
    by_cases hc2 : 7 < a0.size
    · have hb1 : decide ((a0.size : Int) < 1) = false := by simp; omega
      have hb2 : decide (7 < (a0.size : Int)) = true := by simp; omega
      have hc : (a0.size < 1 ∨ 7 < a0.size) := .inr hc2
      go_enter Tryd.func106, Tryd.ntmps106
      go_wp2_with (go_at_call 89; refine (strings_HasPrefix.calls a0 ⟨#[120]⟩ false _ HX.out).mono ?_; rintro e w' ⟨rfl, ⟨nd, rfl⟩⟩)
      go_ret2
      have H1 := H.out
      rw [if_pos hc] at H1
      simp only [Prod.mk.injEq] at H1
      obtain ⟨rfl, rfl⟩ := H1
      exact ⟨rfl, pw_below_drewN (Below.refl _ _) _⟩
    · have hb2 : decide (7 < (a0.size : Int)) = false := by simp; omega
      have hc : ¬ (a0.size < 1 ∨ 7 < a0.size) := by omega
      have H2 : Aside0 ((match numB a0 10 a0.size 0 0 with | none => ((0 : Int), false) | some n => (n, okN n)) = (r1, r2)) := by
        have H1 := H.out
        rw [if_neg hc] at H1
        exact ⟨H1⟩
      have hs7 : a0.size ≤ 7 := by omega
      clear H hc
      go_enter Tryd.func106, Tryd.ntmps106
      go_wp2_with (go_at_call 89; refine (strings_HasPrefix.calls a0 ⟨#[120]⟩ false _ HX.out).mono ?_; rintro e w' ⟨rfl, ⟨nd, rfl⟩⟩)
      obtain ⟨m0, hm0⟩ : ∃ m0 : Nat, m0 = m0 := ⟨0, rfl⟩
      clear hm0
      go_loopw [5, 7] (fun v c w' => ∃ (pos b k m : Nat) (n : Int), w' = (w.drewN m).iter a0 pos ∧ v = .int .i32 n ∧ Aside0 (numB a0 10 b pos n = numB a0 10 a0.size 0 0) ∧ a0.size ≤ pos + b ∧ k ≤ pos ∧ 0 ≤ n ∧ n < 16 ^ k) (fun _ _ w' => a0.size - w'.iterPos w.heap.size)
      case atStart => exact ⟨0, a0.size, 0, _, 0, rfl, rfl, ⟨rfl⟩, by omega, by omega, by omega, by simp⟩
      case round =>
        obtain ⟨pos, b, k, m, n, rfl, rfl, HC, hb, hk, hn0, hn⟩ := hrel
        by_cases hp : pos < a0.size
        · have hnx : ∀ ty, (Instr.next (.pointer (some ⟨w.heap.size, 0, none⟩)) true ty).run Tryd.prog ((w.drewN m).iter a0 pos) = _ := fun ty => run_next_any (w.drewN m) a0 pos ty hp
          have hwd := width_pos a0 pos hp
          obtain ⟨b, rfl⟩ : ∃ b', b = b' + 1 := ⟨b - 1, by omega⟩
          have hn16 : n < 16777216 := Int.lt_of_lt_of_le hn (pow16 k (by omega))
          go_wp2
          all_goals first
          | (go_roundw
             case rel =>
               first
               | exact ⟨pos + (Utf8.decode a0 pos).2, b, k + 1, m, _, rfl, rfl, ⟨by rw [← HC.out, numB_step hp (dig1 (by omega) (by omega))]; congr 1; omega⟩, by omega, by omega, by omega, bound16 hn0 hn (by omega) (by omega)⟩
               | exact ⟨pos + (Utf8.decode a0 pos).2, b, k + 1, m, _, rfl, rfl, ⟨by rw [← HC.out, numB_step hp (dig2 (by omega) (by omega))]; congr 1; omega⟩, by omega, by omega, by omega, bound16 hn0 hn (by omega) (by omega)⟩
               | exact ⟨pos + (Utf8.decode a0 pos).2, b, k + 1, m, _, rfl, rfl, ⟨by rw [← HC.out, numB_step hp (dig3 (by omega) (by omega))]; congr 1; omega⟩, by omega, by omega, by omega, bound16 hn0 hn (by omega) (by omega)⟩
             case measure =>
               show a0.size - ((w.drewN m).iter a0 _).iterPos (w.drewN m).heap.size < a0.size - ((w.drewN m).iter a0 _).iterPos (w.drewN m).heap.size
               rw [World.iterPos_iter, World.iterPos_iter]; omega)
          | (have hC := HC.out
             rw [numB_stop hp (by first | exact digNo (by omega) (by omega) (by omega) | exact digNo10 (by omega))] at hC
             have H3 := H2.out
             rw [← hC] at H3
             simp only [Prod.mk.injEq] at H3
             obtain ⟨rfl, rfl⟩ := H3
             go_ret2
             exact ⟨rfl, below_alloc (pw_below_drewN (Below.refl _ _) _) _⟩)
        · have hnx : ∀ ty, (Instr.next (.pointer (some ⟨w.heap.size, 0, none⟩)) true ty).run Tryd.prog ((w.drewN m).iter a0 pos) = _ := fun ty => run_next_end (w.drewN m) a0 pos ty hp
          have hC := HC.out
          rw [numB_end a0 10 b pos n hp] at hC
          have H3 := H2.out
          rw [← hC] at H3
          simp only [Prod.mk.injEq] at H3
          obtain ⟨rfl, hok⟩ := H3
          unfold okN at hok
          have he4 := enc_size n
          obtain ⟨L, hL⟩ : ∃ L, L = (legB (Utf8.encode n) (Utf8.encode n).size 0 && (cntB (Utf8.encode n) (Utf8.encode n).size 0 0).2) := ⟨_, rfl⟩
          have HL := Aside0.mk (show chars_Legal.f (Utf8.encode n) = some L by rw [hL, chars_Legal.f, if_pos (by omega)])
          rw [← hL] at hok
          clear hC hL he4
          cases h5 : (n == 65533) <;> cases hE : ((Utf8.encode n).toList == [239, 191, 189]) <;> by_cases hA : n ≤ 1114111 <;> cases L
          all_goals
            first
            | (have hA1 : decide (n ≤ 1114111) = true := decide_eq_true hA
               simp only [hA1, hE, h5, Bool.and_true, Bool.and_false, Bool.or_true, Bool.or_false, Bool.true_and, Bool.false_and, Bool.not_true, Bool.not_false] at hok
               obtain rfl := hok
               clear hA
               go_wp2_with (go_at_call 46; refine (chars_Legal.calls _ _ _ HL.out).mono ?_; rintro e w' ⟨rfl, hb1⟩)
               go_ret2
               exact ⟨rfl, below_then (below_alloc (pw_below_drewN (Below.refl _ _) _) _) (by simp [World.iter]) hb1⟩)
            | (have hA1 : decide (n ≤ 1114111) = false := decide_eq_false hA
               simp only [hA1, hE, h5, Bool.and_true, Bool.and_false, Bool.or_true, Bool.or_false, Bool.true_and, Bool.false_and, Bool.not_true, Bool.not_false] at hok
               obtain rfl := hok
               clear hA
               go_wp2
               go_ret2
               exact ⟨rfl, below_alloc (pw_below_drewN (Below.refl _ _) _) _⟩)

def xml_number.f (a0 : ByteArray) : Option (Int × Bool) := if a0.size ≤ 4611686018427387904 then some (numV a0) else none
theorem xml_number.calls (a0 : ByteArray) (r1 : Int) (r2 : Bool) (w : World) (h : xml_number.f a0 = some (r1, r2)) :
    Calls Tryd.prog 106 #[.string a0] w fun e w' => e = .returned (.tuple #[.int .i32 r1, .bool r2]) ∧ Below w.heap.size w w' := by
  unfold xml_number.f at h
  split at h
  case isFalse => cases h
  rename_i hs
  have hv := Option.some.inj h
  cases hx : strings_HasPrefix.f a0 ⟨#[120]⟩ with
  | none => rw [hasPrefix_f _ _ (by decide) (by omega)] at hx; cases hx
  | some b =>
    cases b with
    | true => exact number_16 a0 r1 r2 w hx hs hv
    | false => exact number_10 a0 r1 r2 w hx hs hv

/-- what an escape's name tells -/
def signV (s : ByteArray) : ByteArray × Bool :=
  if s.toList = [97, 109, 112] then (⟨#[38]⟩, true)
  else if s.toList = [108, 116] then (⟨#[60]⟩, true)
  else if s.toList = [103, 116] then (⟨#[62]⟩, true)
  else if s.toList = [113, 117, 111, 116] then (⟨#[34]⟩, true)
  else if s.toList = [97, 112, 111, 115] then (⟨#[39]⟩, true)
  else if strings_HasPrefix.f s ⟨#[35]⟩ = some true then (Utf8.encode (numV (s.extract 1 s.size)).1, (numV (s.extract 1 s.size)).2)
  else (⟨#[]⟩, false)
def xml_sign.f (a0 : ByteArray) : Option (ByteArray × Bool) := if a0.size ≤ 4611686018427387904 then some (signV a0) else none

set_option maxHeartbeats 4000000 in
set_option maxRecDepth 1000000 in
theorem xml_sign.calls (a0 : ByteArray) (r1 : ByteArray) (r2 : Bool) (w : World) (h : xml_sign.f a0 = some (r1, r2)) :
    Calls Tryd.prog 58 #[.string a0] w fun e w' => e = .returned (.tuple #[.string r1, .bool r2]) ∧ Below w.heap.size w w' := by
  unfold xml_sign.f at h
  split at h
  case isFalse => cases h
  rename_i hs
  have hv := Option.some.inj h
  clear h
  unfold signV at hv
  by_cases h1 : a0.toList = [97, 109, 112]
  · have e1 : (a0.toList == [97, 109, 112]) = true := by simp [h1]
    rw [if_pos h1] at hv; obtain ⟨rfl, rfl⟩ := Prod.mk.inj hv
    clear h1 hv
    go_enter Tryd.func58, Tryd.ntmps58
    go_wp2
    go_ret2
    exact ⟨rfl, Below.refl _ _⟩
  have e1 : (a0.toList == [97, 109, 112]) = false := by simp [h1]
  rw [if_neg h1] at hv
  clear h1
  by_cases h1 : a0.toList = [108, 116]
  · have e2 : (a0.toList == [108, 116]) = true := by simp [h1]
    rw [if_pos h1] at hv; obtain ⟨rfl, rfl⟩ := Prod.mk.inj hv
    clear h1 hv
    go_enter Tryd.func58, Tryd.ntmps58
    go_wp2
    go_ret2
    exact ⟨rfl, Below.refl _ _⟩
  have e2 : (a0.toList == [108, 116]) = false := by simp [h1]
  rw [if_neg h1] at hv
  clear h1
  by_cases h1 : a0.toList = [103, 116]
  · have e3 : (a0.toList == [103, 116]) = true := by simp [h1]
    rw [if_pos h1] at hv; obtain ⟨rfl, rfl⟩ := Prod.mk.inj hv
    clear h1 hv
    go_enter Tryd.func58, Tryd.ntmps58
    go_wp2
    go_ret2
    exact ⟨rfl, Below.refl _ _⟩
  have e3 : (a0.toList == [103, 116]) = false := by simp [h1]
  rw [if_neg h1] at hv
  clear h1
  by_cases h1 : a0.toList = [113, 117, 111, 116]
  · have e4 : (a0.toList == [113, 117, 111, 116]) = true := by simp [h1]
    rw [if_pos h1] at hv; obtain ⟨rfl, rfl⟩ := Prod.mk.inj hv
    clear h1 hv
    go_enter Tryd.func58, Tryd.ntmps58
    go_wp2
    go_ret2
    exact ⟨rfl, Below.refl _ _⟩
  have e4 : (a0.toList == [113, 117, 111, 116]) = false := by simp [h1]
  rw [if_neg h1] at hv
  clear h1
  by_cases h1 : a0.toList = [97, 112, 111, 115]
  · have e5 : (a0.toList == [97, 112, 111, 115]) = true := by simp [h1]
    rw [if_pos h1] at hv; obtain ⟨rfl, rfl⟩ := Prod.mk.inj hv
    clear h1 hv
    go_enter Tryd.func58, Tryd.ntmps58
    go_wp2
    go_ret2
    exact ⟨rfl, Below.refl _ _⟩
  have e5 : (a0.toList == [97, 112, 111, 115]) = false := by simp [h1]
  rw [if_neg h1] at hv
  clear h1
  by_cases h1 : strings_HasPrefix.f a0 ⟨#[35]⟩ = some true
  · rw [if_pos h1] at hv
    obtain ⟨rfl, rfl⟩ := Prod.mk.inj hv
    have HX := Aside0.mk h1
    have h0 : (1 : Int) ≤ (a0.size : Int) := by
      rw [hasPrefix_f _ _ (by decide) (by omega)] at h1
      have h2 := ((Bool.and_eq_true _ _).mp (Option.some.inj h1)).1
      have h3 : 1 ≤ a0.size := of_decide_eq_true h2
      omega
    have HN : Aside0 (xml_number.f (a0.extract 1 a0.size) = some ((numV (a0.extract 1 a0.size)).1, (numV (a0.extract 1 a0.size)).2)) := ⟨by rw [xml_number.f, if_pos (by simp; omega)]⟩
    clear h1 hv
    go_enter Tryd.func58, Tryd.ntmps58
    go_wp2_with (first | (go_at_call 89; refine (strings_HasPrefix.calls a0 ⟨#[35]⟩ true _ HX.out).mono ?_; rintro e w' ⟨rfl, ⟨nd, rfl⟩⟩) | (go_at_call 106; refine (xml_number.calls _ _ _ _ HN.out).mono ?_; rintro e w' ⟨rfl, hb1⟩))
    go_ret2
    exact ⟨rfl, below_then (pw_below_drewN (Below.refl _ _) _) (Nat.le_refl _) hb1⟩
  · rw [if_neg h1] at hv
    obtain ⟨rfl, rfl⟩ := Prod.mk.inj hv
    have HX : Aside0 (strings_HasPrefix.f a0 ⟨#[35]⟩ = some false) := by
      rw [hasPrefix_f _ _ (by decide) (by omega)] at h1 ⊢
      refine ⟨?_⟩
      congr 1
      exact Bool.eq_false_iff.mpr (fun h => h1 (by rw [h]))
    clear h1 hv
    go_enter Tryd.func58, Tryd.ntmps58
    go_wp2_with (first | (go_at_call 89; refine (strings_HasPrefix.calls a0 ⟨#[35]⟩ false _ HX.out).mono ?_; rintro e w' ⟨rfl, ⟨nd, rfl⟩⟩))
    go_ret2
    exact ⟨rfl, pw_below_drewN (Below.refl _ _) _⟩
end Go.Proofs.YtkhjpobhdpcglaaDoor.X
end
section
namespace Go.Proofs.YtkhjpobhdpcglaaDoor.X

section
variable {old new : List UInt8}
theorem rep_miss {s : List UInt8} (h : Lib.index s old = -1) : Lib.replaceAll s old new = s := by
  unfold Lib.replaceAll Lib.replace
  split
  · rfl
  · unfold Lib.replaceNum
    rw [if_pos (.inl (by decide)), Lib.count_miss h]; rfl
theorem rep_hit {s : List UInt8} {i : Nat} (hne : old ≠ []) (hon : (old == new) = false) (h : Lib.index s old = i) :
    Lib.replaceAll s old new = s.take i ++ new ++ Lib.replaceAll (s.drop (i + old.length)) old new := by
  unfold Lib.replaceAll Lib.replace
  rw [if_neg (by rw [hon]; decide), if_neg (by rw [hon]; decide)]
  unfold Lib.replaceNum
  rw [if_pos (.inl (by decide)), if_pos (.inl (by decide)), Lib.count_hit hne h, Nat.add_comm, Lib.replaceK_hit old new _ s i h]
theorem rep_nil (hne : old ≠ []) : Lib.replaceAll [] old new = [] := rep_miss (by
  unfold Lib.index
  cases old with
  | nil => exact absurd rfl hne
  | cons a t => rfl)
theorem rep_pre {b : UInt8} {l : List UInt8} (hne : old ≠ []) (hon : (old == new) = false) (h : old.isPrefixOf (b :: l) = true) :
    Lib.replaceAll (b :: l) old new = new ++ Lib.replaceAll ((b :: l).drop old.length) old new := by
  have hi : Lib.index (b :: l) old = ((0 : Nat) : Int) := by
    have hun : Lib.index (b :: l) old = (if old.isPrefixOf (b :: l) then 0 else if Lib.index l old == -1 then -1 else Lib.index l old + 1) := rfl
    rw [hun, if_pos h]; rfl
  rw [rep_hit hne hon hi]
  simp
theorem rep_cons {b : UInt8} {l : List UInt8} (hne : old ≠ []) (hon : (old == new) = false) (h : old.isPrefixOf (b :: l) = false) :
    Lib.replaceAll (b :: l) old new = b :: Lib.replaceAll l old new := by
  have hun : Lib.index (b :: l) old = (if old.isPrefixOf (b :: l) then 0 else if Lib.index l old == -1 then -1 else Lib.index l old + 1) := rfl
  rw [if_neg (by rw [h]; decide)] at hun
  by_cases hm : Lib.index l old = -1
  · rw [if_pos (by simp [hm])] at hun
    rw [rep_miss hun, rep_miss hm]
  · rw [if_neg (by simpa using hm)] at hun
    have hge := Lib.index_ge l old
    obtain ⟨j, hj⟩ : ∃ j : Nat, Lib.index l old = j := ⟨(Lib.index l old).toNat, by omega⟩
    have hun2 : Lib.index (b :: l) old = ((j + 1 : Nat) : Int) := by rw [hun, hj]; rfl
    rw [rep_hit hne hon hun2, rep_hit hne hon hj]
    have : j + 1 + old.length = (j + old.length) + 1 := by omega
    rw [this]
    simp
end

/-- 0D 0A as 0A -/
def crlf : List UInt8 → List UInt8
  | [] => []
  | b :: l => if b = 13 ∧ l.head? = some 10 then crlf l else b :: crlf l
def cr (l : List UInt8) : List UInt8 := l.map fun b => if b = 13 then 10 else b
theorem rep_crlf : ∀ l : List UInt8, Lib.replaceAll l [13, 10] [10] = crlf l
  | [] => rep_nil (by simp)
  | b :: l => by
    by_cases h : b = 13 ∧ l.head? = some 10
    · obtain ⟨rfl, h2⟩ := h
      cases l with
      | nil => cases h2
      | cons c t =>
        simp at h2
        subst h2
        rw [rep_pre (by simp) rfl (by rfl)]
        simp only [List.length_cons, List.length_nil, List.drop_succ_cons, List.drop_zero]
        rw [rep_crlf t]
        simp [crlf]
    · rw [rep_cons (by simp) rfl (by
        cases l with
        | nil => simp [List.isPrefixOf]
        | cons c t =>
          simp [List.isPrefixOf]
          simp at h
          intro e; exact fun e2 => h e.symm e2.symm), rep_crlf l]
      simp [crlf, h]
theorem rep_cr : ∀ l : List UInt8, Lib.replaceAll l [13] [10] = cr l
  | [] => rep_nil (by simp)
  | b :: l => by
    by_cases h : b = 13
    · subst h
      rw [rep_pre (by simp) rfl (by rfl)]
      simp only [List.length_cons, List.length_nil, List.drop_succ_cons, List.drop_zero]
      rw [rep_cr l]
      simp [cr]
    · rw [rep_cons (by simp) rfl (by simp [List.isPrefixOf]; exact fun e => h e.symm), rep_cr l]
      simp [cr, h]
theorem crlf_len : ∀ l : List UInt8, (crlf l).length ≤ l.length
  | [] => by simp [crlf]
  | b :: l => by
    have := crlf_len l
    simp only [crlf]
    split <;> simp <;> omega
theorem cr_len (l : List UInt8) : (cr l).length = l.length := by simp [cr]
/-- line ends as 0A -/
def norm (l : List UInt8) : List UInt8 := cr (crlf l)
theorem norm_len (l : List UInt8) : (norm l).length ≤ l.length := by unfold norm; rw [cr_len]; exact crlf_len l
theorem count_le1 (s old : List UInt8) : Lib.count s old ≤ s.length + 1 := Lib.count_le s old
end Go.Proofs.YtkhjpobhdpcglaaDoor.X
end
section
namespace Go.Proofs.YtkhjpobhdpcglaaDoor.X
open Go.RowKit Go.Proofs.YtkhjpobhdpcglaaDoorW.PrintWords Go.Proofs.YtkhjpobhdpcglaaDoorW.PrintLast Go.Proofs.YtkhjpobhdpcglaaDoorW.PrintMore
set_option linter.unusedVariables false
set_option linter.unusedSimpArgs false

/-- a text's escapes, one behind the other; none: one of them is none -/
def unB : Nat → ByteArray → List UInt8 → Option (List UInt8)
  | 0, _, _ => none
  | k + 1, s, acc =>
    let c := cutAt s (Lib.indexByte s.data.toList 38)
    if c.2.2 = true then
      let d := cutAt c.2.1 (Lib.indexByte c.2.1.data.toList 59)
      if d.2.2 = true then (if (signV d.1).2 = true then unB k d.2.1 (acc ++ c.1.data.toList ++ (signV d.1).1.data.toList) else none) else none
    else some (acc ++ c.1.data.toList)
def unV (s : ByteArray) : ByteArray × Bool :=
  match unB (s.size + 1) ⟨(norm s.data.toList).toArray⟩ [] with
  | some l => (⟨l.toArray⟩, true)
  | none => (⟨#[]⟩, false)
def xml_Unescape.f (a0 : ByteArray) : Option (ByteArray × Bool) := if a0.size ≤ 1073741824 then some (unV a0) else none

theorem numV_enc (s : ByteArray) : (Utf8.encode (numV s).1).size ≤ 4 := enc_size _
theorem signV_len (s : ByteArray) : (signV s).1.data.toList.length ≤ 4 := by
  unfold signV
  repeat' split
  all_goals simp
  exact enc_size _
theorem cutAt_len (s : ByteArray) (c : UInt8) : (cutAt s (Lib.indexByte s.data.toList c)).1.size ≤ s.size ∧ (cutAt s (Lib.indexByte s.data.toList c)).2.1.size ≤ s.size ∧
    ((cutAt s (Lib.indexByte s.data.toList c)).2.2 = true → (cutAt s (Lib.indexByte s.data.toList c)).1.size + (cutAt s (Lib.indexByte s.data.toList c)).2.1.size + 1 = s.size) := by
  have hlt := indexByte_lt c s.data.toList
  have hge := Lib.indexByte_ge s.data.toList c
  have hlen : s.data.toList.length = s.size := by simp
  rw [hlen] at hlt
  unfold cutAt
  split
  · simp; omega
  · exact ⟨Nat.le_refl _, Nat.zero_le _, fun h => by cases h⟩

set_option maxHeartbeats 4000000 in
set_option maxRecDepth 1000000 in
theorem xml_Unescape.calls (a0 : ByteArray) (r1 : ByteArray) (r2 : Bool) (w : World) (hg : GOK w) (h : xml_Unescape.f a0 = some (r1, r2)) :
    Calls Tryd.prog 21 #[.string a0] w fun e w' => e = .returned (.tuple #[.string r1, .bool r2]) ∧ Below w.heap.size w w' := by
  unfold xml_Unescape.f at h
  split at h
  case isFalse => cases h
  rename_i hs
  have hv := Option.some.inj h
  have HV := Aside0.mk hv
  have HG := Aside0.mk hg
  clear h hv hg
  have hsz : a0.data.toList.length = a0.size := by simp
  have HS := Aside0.mk hsz
  clear hsz
  go_enter Tryd.func21, Tryd.ntmps21
  go_wp2_with fail
  refine (ReplaceAll_any a0 ⟨#[13, 10]⟩ ⟨#[10]⟩ _ HG.out (by omega) (by decide) (by
    have := count_le1 a0.data.toList [13, 10]
    have h2 : Lib.countB a0 ⟨#[13, 10]⟩ ≤ a0.size + 1 := by rw [HS.out] at this; exact this
    have h3 : (⟨#[10]⟩ : ByteArray).size = 1 := rfl
    rw [h3]; omega)).mono ?_
  rintro e w1 ⟨rfl, hb1⟩
  simp only [rep_crlf]
  go_wp2_with fail
  refine (ReplaceAll_any ⟨(crlf a0.data.toList).toArray⟩ ⟨#[13]⟩ ⟨#[10]⟩ _ (HG.out.below hb1 HG.out.lt) (by
    have := crlf_len a0.data.toList
    simp only [ByteArray.size, List.size_toArray]; have := HS.out; omega) (by decide) (by
    have := count_le1 (crlf a0.data.toList) [13]
    have h1 := crlf_len a0.data.toList
    have h2 : Lib.countB ⟨(crlf a0.data.toList).toArray⟩ ⟨#[13]⟩ ≤ (crlf a0.data.toList).length + 1 := this
    have h3 : (⟨#[10]⟩ : ByteArray).size = 1 := rfl
    have h4 : (⟨(crlf a0.data.toList).toArray⟩ : ByteArray).size = (crlf a0.data.toList).length := by simp [ByteArray.size]
    have h5 := HS.out
    rw [h3, h4]; omega)).mono ?_
  rintro e w2 ⟨rfl, hb2⟩
  simp only [rep_cr]
  obtain ⟨s0, hs0⟩ : ∃ s0 : ByteArray, s0 = ⟨(norm a0.data.toList).toArray⟩ := ⟨_, rfl⟩
  have hn0 : s0.size ≤ a0.size := by
    rw [hs0]
    have := norm_len a0.data.toList
    have h5 := HS.out
    simp only [ByteArray.size, List.size_toArray] at h5 ⊢
    omega
  have hsv : (⟨(cr (crlf a0.data.toList)).toArray⟩ : ByteArray) = s0 := hs0.symm
  rw [hsv]
  have HU : Aside0 (∃ R, unB (a0.size + 1) s0 [] = R ∧ (match R with | some l => ((⟨l.toArray⟩ : ByteArray), true) | none => (⟨#[]⟩, false)) = (r1, r2)) := ⟨_, rfl, by
    have := HV.out
    unfold unV at this
    rw [hs0]; exact this⟩
  clear hsv hs0 HV HS
  obtain ⟨R, hU, hR⟩ := HU.out
  have HU1 := Aside0.mk hU
  have HR := Aside0.mk hR
  clear hU hR HU
  have hbw : Below w.heap.size w w2 := below_then hb1 hb1.size hb2
  have hz2 := hbw.size
  clear hb1 hb2
  go_wp2
  go_loopw [0] (fun v wr => ∃ (cur : ByteArray) (acc : List UInt8) (k : Nat), v = .string cur ∧ Aside0 (unB k cur acc = R) ∧ cur.size < k ∧ acc.length + 4 * cur.size ≤ 4 * a0.size ∧ Aside0 (Bld w2.heap.size w2.heap.size acc wr) ∧ Below w2.heap.size w2 wr) (fun v _ => match v with | .string s => s.size | _ => 0)
  case atStart => exact ⟨s0, [], a0.size + 1, rfl, HU1, by omega, by simp; omega, ⟨Bld.fresh w2⟩, below_alloc (Below.refl _ _) _⟩
  case round =>
    obtain ⟨cur, acc, k, rfl, HC, hk, hacc, HB, hbel⟩ := hrel
    have hsz := hbel.size
    obtain ⟨k, rfl⟩ : ∃ k', k = k' + 1 := ⟨k - 1, by omega⟩
    obtain ⟨l1, l2, l3⟩ := cutAt_len cur 38
    obtain ⟨c1, c2, c3, hc⟩ : ∃ c1 c2 c3, cutAt cur (Lib.indexByte cur.data.toList 38) = (c1, c2, c3) := ⟨_, _, _, rfl⟩
    obtain ⟨d1, d2, d3, hd⟩ : ∃ d1 d2 d3, cutAt c2 (Lib.indexByte c2.data.toList 59) = (d1, d2, d3) := ⟨_, _, _, rfl⟩
    obtain ⟨m1, m2, m3⟩ := cutAt_len c2 59
    have hC := HC.out
    simp only [unB, hc, hd] at hC
    rw [hc] at l1 l2 l3
    rw [hd] at m1 m2 m3
    simp only [] at l1 l2 l3 m1 m2 m3 hC
    have HC1 := Aside0.mk hC
    have HK1 : Aside0 (strings_Cut.f cur ⟨#[38]⟩ = some (c1, c2, c3)) := ⟨by rw [strings_Cut.f, if_pos (by omega)]; simp only []; rw [hc]⟩
    have HK2 : Aside0 (strings_Cut.f c2 ⟨#[59]⟩ = some (d1, d2, d3)) := ⟨by rw [strings_Cut.f, if_pos (by omega)]; simp only []; rw [hd]⟩
    clear hC hc hd HC
    have HBd : ∀ n, Bld w2.heap.size w2.heap.size acc (wr.drewN n) := fun n => HB.out.drewN n
    have hszd : ∀ n, w2.heap.size ≤ (wr.drewN n).heap.size := fun n => hsz
    have hroom : acc.length + c1.size ≤ 140737488355328 := by omega
    cases c3 with
    | false =>
      have hC := HC1.out
      simp only [Bool.false_eq_true, if_false] at hC
      subst hC
      have hR := HR.out
      simp only [Prod.mk.injEq] at hR
      obtain ⟨rfl, rfl⟩ := hR
      go_wp2_with (first | (go_at_call 55; (with_reducible refine (strings_Cut.calls cur ⟨#[38]⟩ c1 c2 false _ HK1.out).mono ?_); rintro e w' ⟨rfl, ⟨nd, rfl⟩⟩) | (go_at_call 56; (with_reducible refine (Builder_WriteString w2.heap.size w2.heap.size acc c1 _ (HBd _) hroom (hszd _)).mono ?_); rintro e w3 ⟨rfl, hB3, hb3⟩) | (go_at_call 57; refine (Builder_String w2.heap.size w2.heap.size (acc ++ c1.data.toList) _ (by exact hB3) (by have := hb3.size; exact Nat.le_trans hsz this)).mono ?_; rintro e w4 ⟨rfl, hb4⟩))
      go_ret2
      exact ⟨rfl, below_then hbw hz2 ((pw_below_drewN hbel _).trans (hb3.trans hb4))⟩
    | true =>
      have hl3 := l3 rfl
      clear l3
      cases d3 with
      | false =>
        have hC := HC1.out
        simp only [if_true, Bool.false_eq_true, if_false] at hC
        subst hC
        have hR := HR.out
        simp only [Prod.mk.injEq] at hR
        obtain ⟨rfl, rfl⟩ := hR
        go_wp2_with (first | (go_at_call 55; (with_reducible refine (strings_Cut.calls cur ⟨#[38]⟩ c1 c2 true _ HK1.out).mono ?_); rintro e w' ⟨rfl, ⟨nd, rfl⟩⟩) | (go_at_call 56; (with_reducible refine (Builder_WriteString w2.heap.size w2.heap.size acc c1 _ (HBd _) hroom (hszd _)).mono ?_); rintro e w3 ⟨rfl, hB3, hb3⟩) | (go_at_call 55; (with_reducible refine (strings_Cut.calls c2 ⟨#[59]⟩ d1 d2 false _ HK2.out).mono ?_); rintro e w' ⟨rfl, ⟨nd2, rfl⟩⟩))
        go_ret2
        exact ⟨rfl, below_then hbw hz2 (pw_below_drewN ((pw_below_drewN hbel _).trans hb3) _)⟩
      | true =>
        have hm3 := m3 rfl
        clear m3
        obtain ⟨t1, t2, ht⟩ : ∃ t1 t2, signV d1 = (t1, t2) := ⟨_, _, rfl⟩
        have ht4 := signV_len d1
        rw [ht] at ht4
        simp only [] at ht4
        have ht5 : t1.size ≤ 4 := by have : t1.data.toList.length = t1.size := by simp
                                     omega
        clear ht4
        have HSG : Aside0 (xml_sign.f d1 = some (t1, t2)) := ⟨by rw [xml_sign.f, if_pos (by omega), ht]⟩
        have hC := HC1.out
        simp only [if_true, ht] at hC
        have HC2 := Aside0.mk hC
        clear hC ht HC1
        cases t2 with
        | false =>
          have hC := HC2.out
          simp only [Bool.false_eq_true, if_false] at hC
          subst hC
          have hR := HR.out
          simp only [Prod.mk.injEq] at hR
          obtain ⟨rfl, rfl⟩ := hR
          go_wp2_with (first | (go_at_call 55; (with_reducible refine (strings_Cut.calls cur ⟨#[38]⟩ c1 c2 true _ HK1.out).mono ?_); rintro e w' ⟨rfl, ⟨nd, rfl⟩⟩) | (go_at_call 56; (with_reducible refine (Builder_WriteString w2.heap.size w2.heap.size acc c1 _ (HBd _) hroom (hszd _)).mono ?_); rintro e w3 ⟨rfl, hB3, hb3⟩) | (go_at_call 55; (with_reducible refine (strings_Cut.calls c2 ⟨#[59]⟩ d1 d2 true _ HK2.out).mono ?_); rintro e w' ⟨rfl, ⟨nd2, rfl⟩⟩) | (go_at_call 58; refine (xml_sign.calls d1 t1 false _ HSG.out).mono ?_; rintro e w5 ⟨rfl, hb5⟩))
          go_ret2
          exact ⟨rfl, below_then hbw hz2 ((pw_below_drewN ((pw_below_drewN hbel _).trans hb3) _).trans (hb5.mono (Nat.le_trans hsz hb3.size)))⟩
        | true =>
          have hC := HC2.out
          simp only [if_true] at hC
          have HC3 := Aside0.mk hC
          clear hC HC2
          go_wp2_with (first | (go_at_call 55; (with_reducible refine (strings_Cut.calls cur ⟨#[38]⟩ c1 c2 true _ HK1.out).mono ?_); rintro e w' ⟨rfl, ⟨nd, rfl⟩⟩) | (go_at_call 56; (with_reducible refine (Builder_WriteString w2.heap.size w2.heap.size acc c1 _ (HBd _) hroom (hszd _)).mono ?_); rintro e w3 ⟨rfl, hB3, hb3⟩) | (go_at_call 55; (with_reducible refine (strings_Cut.calls c2 ⟨#[59]⟩ d1 d2 true _ HK2.out).mono ?_); rintro e w' ⟨rfl, ⟨nd2, rfl⟩⟩) | (go_at_call 58; (with_reducible refine (xml_sign.calls d1 t1 true _ HSG.out).mono ?_); rintro e w5 ⟨rfl, hb5⟩))
          have hB5 : Bld w2.heap.size w2.heap.size (acc ++ c1.data.toList) w5 := (hB3.drewN nd2).below hb5
          have hroom5 : (acc ++ c1.data.toList).length + t1.size ≤ 140737488355328 := by
            have : c1.data.toList.length = c1.size := by simp
            rw [List.length_append]; omega
          have hsz5 : w2.heap.size ≤ w5.heap.size := Nat.le_trans (Nat.le_trans hsz hb3.size) hb5.size
          refine (Builder_WriteString w2.heap.size w2.heap.size (acc ++ c1.data.toList) t1 _ hB5 hroom5 hsz5).mono ?_
          rintro e w6 ⟨rfl, hB6, hb6⟩
          have hlen6 : (acc ++ c1.data.toList ++ t1.data.toList).length = acc.length + c1.size + t1.size := by
            have e1 : c1.data.toList.length = c1.size := by simp
            have e2 : t1.data.toList.length = t1.size := by simp
            rw [List.length_append, List.length_append, e1, e2]
          have HL6 := Aside0.mk hlen6
          clear hlen6
          go_wp2
          go_roundw
          case rel => exact ⟨d2, acc ++ c1.data.toList ++ t1.data.toList, k, rfl, HC3, by omega, by rw [HL6.out]; omega, ⟨hB6⟩, (pw_below_drewN ((pw_below_drewN hbel _).trans hb3) _).trans ((hb5.mono (Nat.le_trans hsz hb3.size)).trans hb6)⟩
          case measure => simp only []; omega
end Go.Proofs.YtkhjpobhdpcglaaDoor.X
end
section
namespace Go.Proofs.YtkhjpobhdpcglaaDoor.X
open Go.RowKit Go.Proofs.YtkhjpobhdpcglaaDoorW.PrintWords Go.Proofs.YtkhjpobhdpcglaaDoorW.PrintLast Go.Proofs.YtkhjpobhdpcglaaDoorW.PrintMore
set_option linter.unusedVariables false
set_option linter.unusedSimpArgs false

/-- an element's attributes: where they end -/
def attrsV : Nat → ByteArray → Nat → Option Nat
  | 0, _, _ => none
  | k + 1, s, i =>
    if (decide (i < skip whiteV s i) && !hasP s (skip whiteV s i) ⟨#[47]⟩ && !hasP s (skip whiteV s i) ⟨#[62]⟩) = true then (match attrV s (skip whiteV s i) with | some m => attrsV k s m | none => none)
    else some (skip whiteV s i)
/-- the elements in an element -/
def kidsV (E : Nat → Option (S36 × Nat)) : Nat → ByteArray → Nat → List S36 → Option (List S36 × Nat)
  | 0, _, _, _ => none
  | k + 1, s, j, acc =>
    if (hasP s j ⟨#[60]⟩ && !hasP s j ⟨#[60, 47]⟩) = true then (match E j with | some (n, m) => kidsV E k s (skip whiteV s m) (acc ++ [n]) | none => none)
    else some (acc, j)
/-- behind the elements: the text, if there were none -/
def textV (s : ByteArray) (i : Nat) (kids : List S36) (m : Nat) : Option (ByteArray × List S36 × Nat) :=
  if 0 < kids.length then some (⟨#[]⟩, kids, m)
  else if Lib.indexByte (s.extract i s.size).data.toList 60 < 0 then none
  else if (unV (s.extract i (i + (Lib.indexByte (s.extract i s.size).data.toList 60).toNat))).2 = true then some ((unV (s.extract i (i + (Lib.indexByte (s.extract i s.size).data.toList 60).toNat))).1, [], i + (Lib.indexByte (s.extract i s.size).data.toList 60).toNat)
  else none
def contW (s : ByteArray) (i : Nat) (o : Option (List S36 × Nat)) : Option (ByteArray × List S36 × Nat) :=
  match o with
  | some (kids, m) => textV s i kids m
  | none => none
def contV (E : Nat → Option (S36 × Nat)) (s : ByteArray) (i : Nat) : Option (ByteArray × List S36 × Nat) := contW s i (kidsV E (s.size + 1) s (skip whiteV s i) [])
/-- behind the content -/
def endV (s nm : ByteArray) (t : ByteArray) (kids : List S36) (m : Nat) : Option (S36 × Nat) :=
  if hasP s m ⟨#[60, 47]⟩ = true then
    (if s.extract (m + 2) (skip innerV s (m + 2)) = nm then
      (if hasP s (skip whiteV s (skip innerV s (m + 2))) ⟨#[62]⟩ = true then some (⟨nm, t, kids⟩, skip whiteV s (skip innerV s (m + 2)) + 1) else none)
    else none)
  else none
/-- behind the attributes -/
def restV (E : Nat → Option (S36 × Nat)) (s nm : ByteArray) (k : Nat) : Option (S36 × Nat) :=
  if hasP s k ⟨#[47, 62]⟩ = true then some (⟨nm, ⟨#[]⟩, []⟩, k + 2)
  else if hasP s k ⟨#[62]⟩ = true then (match contV E s (k + 1) with | some (t, kids, m) => endV s nm t kids m | none => none)
  else none
/-- behind the name -/
def atV (E : Nat → Option (S36 × Nat)) (s nm : ByteArray) (j : Nat) : Option (S36 × Nat) :=
  match attrsV (s.size + 1) s j with | some k => restV E s nm k | none => none
/-- an element that lies so deep (so many may lie within it) -/
def elemV (s : ByteArray) : Nat → Nat → Option (S36 × Nat)
  | 0, _ => none
  | d + 1, i =>
    if hasP s i ⟨#[60]⟩ = true then
      (if nameV (s.extract (i + 1) (skip innerV s (i + 1))) = true then atV (elemV s d) s (s.extract (i + 1) (skip innerV s (i + 1))) (skip innerV s (i + 1)) else none)
    else none
theorem runTo_ge (p : Int → Bool) (s : ByteArray) : ∀ b i, i ≤ runTo p s b i
  | 0, i => Nat.le_refl _
  | b + 1, i => by
    unfold runTo
    split
    · have := runTo_ge p s b (i + 1)
      omega
    · exact Nat.le_refl _
theorem le_skip (p : Int → Bool) (s : ByteArray) (i : Nat) : i ≤ skip p s i := runTo_ge p s _ i
theorem skip_max {p : Int → Bool} {s : ByteArray} {i : Nat} (h : i ≤ s.size) : skip p s i ≤ s.size := (skip_le p s i h).2
theorem attr4_gt {s : ByteArray} {j m : Nat} (h : attr4 s j = some m) : j < m := by
  unfold attr4 at h
  repeat' split at h
  all_goals first | (cases h; done) | (injection h with h; omega)
theorem attr3_gt {s : ByteArray} {j m : Nat} (h : attr3 s j = some m) : j < m := by
  unfold attr3 at h
  split at h
  · have h1 := attr4_gt h
    have h2 := le_skip whiteV s j
    have h3 := le_skip whiteV s (skip whiteV s j + 1)
    omega
  · cases h
theorem attr2_gt {s : ByteArray} {j m : Nat} (h : attr2 s j = some m) : j < m := by
  unfold attr2 at h
  repeat' split at h
  · have h1 := attr3_gt h
    have h2 := le_skip innerV s (j + 1)
    omega
  · cases h
  · exact attr3_gt h
theorem attrV_gt {s : ByteArray} {j m : Nat} (h : attrV s j = some m) : j < m := by
  unfold attrV at h
  split at h
  · have h1 := attr2_gt h
    have h2 := le_skip innerV s j
    omega
  · cases h
/-- a list of new memory -/
def Wr (w : World) (b : Nat) (A : Option Addr) : Prop := ∀ ad, A = some ad → ∃ g cells, ad = ⟨g, 0, none⟩ ∧ b ≤ g ∧ w.heap[g]? = some (.cells cells 36 (0, 0))
def ElemPost (w0 w : World) (g : Nat) (s : ByteArray) (o : Option (S36 × Nat)) (e : Ending) (w' : World) : Prop :=
  ∃ (n : S36) (A : Option Addr) (c : Nat) (b : Bool) (j : Nat), e = .returned (.tuple #[.agg #[.string n.f0, .string n.f1, .slice A n.f2.length c], .bool b]) ∧ n.f2.length ≤ c ∧
    Kd.F k36 w' (fun k => w.heap.size ≤ k) A n.f2.length n.f2 ∧ Wr w' w.heap.size A ∧ Rd w0 w' g s j ∧ KeepBut w w' g none ∧ (match o with | some (m, k) => b = true ∧ n = m ∧ j = k | none => b = false)
theorem Wr.none (w : World) (b : Nat) : Wr w b none := fun ad h => by cases h
theorem ElemPost.no {w0 w w' : World} {g : Nat} {s : ByteArray} {o : Option (S36 × Nat)} {j : Nat} (ho : o = none) (h : Rd w0 w' g s j) (hk : KeepBut w w' g none) : ElemPost w0 w g s o (.returned (.tuple #[.agg #[.string ⟨#[]⟩, .string ⟨#[]⟩, .slice none 0 0], .bool false])) w' :=
  ⟨z36, none, 0, false, j, rfl, Nat.le_refl _, fun W _ => Kd.C_nil _ _, Wr.none _ _, h, hk, by rw [ho]⟩
/-- what content leaves in its element's block gn -/
def ContPost (w0 w : World) (g gn : Nat) (s nm : ByteArray) (o : Option (ByteArray × List S36 × Nat)) (e : Ending) (w' : World) : Prop :=
  ∃ (t : ByteArray) (l : List S36) (A : Option Addr) (c : Nat) (b : Bool) (j : Nat), e = .returned (.bool b) ∧ w'.heap[gn]? = some (.cells #[.string nm, .string t, .slice A l.length c] 36 (0, 0)) ∧ l.length ≤ c ∧
    Kd.F k36 w' (fun k => w.heap.size ≤ k) A l.length l ∧ Wr w' w.heap.size A ∧ Rd w0 w' g s j ∧ KeepBut w w' g (some gn) ∧ (match o with | some (t', l', k) => b = true ∧ t = t' ∧ l = l' ∧ j = k | none => b = false)
end Go.Proofs.YtkhjpobhdpcglaaDoor.X
end
section
namespace Go.Proofs.YtkhjpobhdpcglaaDoor.X
open Go.RowKit
set_option linter.unusedVariables false

section
variable {P : Program} {ops : Array Oper} {md : Region.Mode} {Q : Exit → Act → World → Prop}
theorem wpAny_one {i fuel : Nat} {o : Oper} {listed : Array Bool} {a : Act} {w : World} (hr : Region.ready md ops listed = [i]) (ho : ops[i]? = some o)
    (h : ∀ K : Act → World → Prop, Shut (∀ a' w', wpAny P md ops Q fuel (listed.setIfInBounds i true) a' w' → K a' w') → if Region.wanted o (yielded ops a.tmps) = true then Oper.wp P o a w K Q else K (a.put o.dst undef) w) :
    wpAny P md ops Q (fuel + 1) listed a w := by
  refine ⟨fun h0 => ?_, fun j hj => ?_⟩
  · rw [hr] at h0
    cases h0
  · rw [hr] at hj
    have : j = i := by simpa using hj
    subst this
    exact wpOp_step ho (fun K' hK => h K' (fun a w hW => hK a w hW))
theorem wpAny_quiet_from {k fuel : Nat} {l : List Oper} {listed : Array Bool} {a : Act} {w : World} (hs : Region.noSelect ops = true) (hl : ops.toList.drop k = l) (hf : fuel = l.length) (hB : Region.lexFrom md ops l.length k listed = true)
    (h : wpQuiet P ops (fun w' => ∃ n, w' = w.drewN n) (fun a' => ∀ w', (∃ n, w' = w.drewN n) → Q .normal a' w') l a) : wpAny P md ops Q fuel listed a w := by
  subst hf
  refine wpAny_of_quiet (C := fun w' => ∃ n, w' = w.drewN n) (Q := fun a' => ∀ w', (∃ n, w' = w.drewN n) → Q .normal a' w') (fun _ w' hw' h => h w' hw') _ _ _ _ ⟨0, rfl⟩ ?_
  refine wpAnyQ_lex hs l k listed a (fun j => ?_) hB h
  rw [← hl, List.getElem?_drop]
  simp
/-- a region whose first two operations come up one behind the other (the second may be a call that does anything), and whose others only read -/
theorem wp_region_2q {id : Nat} {o0 o1 : Oper} {l : List Oper} {a : Act} {w : World} (hm : P.follows .mixedOrders = true)
    (hr0 : Region.ready .any (o0 :: o1 :: l).toArray (Array.replicate (o0 :: o1 :: l).toArray.size false) = [0])
    (hr1 : Region.ready .any (o0 :: o1 :: l).toArray ((Array.replicate (o0 :: o1 :: l).toArray.size false).setIfInBounds 0 true) = [1])
    (hs : Region.noSelect (o0 :: o1 :: l).toArray = true)
    (hB : Region.lexFrom .any (o0 :: o1 :: l).toArray l.length 2 (((Array.replicate (o0 :: o1 :: l).toArray.size false).setIfInBounds 0 true).setIfInBounds 1 true) = true)
    (h : ∀ K : Act → World → Prop, Shut (∀ a1 w1, (∀ K1 : Act → World → Prop, Shut (∀ a2 w2, wpQuiet P (o0 :: o1 :: l).toArray (fun w3 => ∃ n, w3 = w2.drewN n) (fun a3 => ∀ w3, (∃ n, w3 = w2.drewN n) → Q .normal a3 w3) l a2 → K1 a2 w2) →
        if Region.wanted o1 (yielded (o0 :: o1 :: l).toArray a1.tmps) = true then Oper.wp P o1 a1 w1 K1 Q else K1 (a1.put o1.dst undef) w1) → K a1 w1) →
      if Region.wanted o0 (yielded (o0 :: o1 :: l).toArray a.tmps) = true then Oper.wp P o0 a w.drew K Q else K (a.put o0.dst undef) w.drew) : (Code.region id (o0 :: o1 :: l).toArray true).wp P Q a w := by
  refine wp_region_any hm ?_
  have hsz : (o0 :: o1 :: l).toArray.size = l.length + 1 + 1 := by simp
  rw [show (o0 :: o1 :: l).toArray.size = l.length + 1 + 1 from hsz] at hr0 hr1 hB ⊢
  refine wpAny_one (i := 0) (o := o0) hr0 rfl (fun K hK => h K (fun a1 w1 h1 => hK.out a1 w1 ?_))
  refine wpAny_one (i := 1) (o := o1) hr1 rfl (fun K1 hK1 => h1 K1 (fun a2 w2 h2 => hK1.out a2 w2 ?_))
  exact wpAny_quiet_from (k := 2) (l := l) hs rfl rfl hB h2
/-- one operation of the lexical walk: it isn't wanted -/
theorem quiet_off {C : World → Prop} {Q : Act → Prop} {o : Oper} {rest : List Oper} {a a' : Act} (hw : Region.wanted o (yielded ops a.tmps) = false) (ha : a.put o.dst undef = a')
    (h : wpQuiet P ops C Q rest a') : wpQuiet P ops C Q (o :: rest) a := by
  subst ha
  unfold wpQuiet
  rw [hw]
  exact h
/-- it yields a value -/
theorem quiet_val {Q : Act → Prop} {w : World} {o : Oper} {rest : List Oper} {a a' : Act} {v : Value} (hw : Region.wanted o (yielded ops a.tmps) = true) (hv : ∀ n, (execOp a.eval o).run P (w.drewN n) = .ok (.value v) (w.drewN n))
    (ha : a.put o.dst v = a') (h : wpQuiet P ops (fun w' => ∃ n, w' = w.drewN n) Q rest a') : wpQuiet P ops (fun w' => ∃ n, w' = w.drewN n) Q (o :: rest) a := by
  subst ha
  unfold wpQuiet
  rw [if_pos hw]
  refine ⟨v, ?_, h⟩
  rintro w' ⟨n, rfl⟩
  unfold Oper.quietAt
  rw [hv n]
  exact ⟨rfl, rfl⟩
/-- it yields nothing (a check) -/
theorem quiet_skip {Q : Act → Prop} {w : World} {o : Oper} {rest : List Oper} {a a' : Act} (hw : Region.wanted o (yielded ops a.tmps) = true) (hv : ∀ n, (execOp a.eval o).run P (w.drewN n) = .ok .skip (w.drewN n))
    (ha : a.put o.dst undef = a') (h : wpQuiet P ops (fun w' => ∃ n, w' = w.drewN n) Q rest a') : wpQuiet P ops (fun w' => ∃ n, w' = w.drewN n) Q (o :: rest) a := by
  subst ha
  unfold wpQuiet
  rw [if_pos hw]
  refine ⟨undef, ?_, h⟩
  rintro w' ⟨n, rfl⟩
  unfold Oper.quietAt
  rw [hv n]
  exact ⟨rfl, rfl⟩
/-- it is a call -/
theorem quiet_call {Q : Act → Prop} {w : World} {o : Oper} {rest : List Oper} {a a' : Act} {v : Value} {f : FuncId} {args : Array Value} (hw : Region.wanted o (yielded ops a.tmps) = true) (hv : ∀ n, (execOp a.eval o).run P (w.drewN n) = .ok (.enter f args) (w.drewN n))
    (hc : ∀ n, Calls P f args (w.drewN n) fun e w' => e = .returned v ∧ Go.Proofs.YtkhjpobhdpcglaaDoorW.PrintWords.Drawn0 (w.drewN n) w')
    (ha : a.put o.dst v = a') (h : wpQuiet P ops (fun w' => ∃ n, w' = w.drewN n) Q rest a') : wpQuiet P ops (fun w' => ∃ n, w' = w.drewN n) Q (o :: rest) a := by
  subst ha
  unfold wpQuiet
  rw [if_pos hw]
  refine ⟨v, ?_, h⟩
  rintro w' ⟨n, rfl⟩
  unfold Oper.quietAt
  rw [hv n]
  refine ⟨rfl, (hc n).mono ?_⟩
  rintro e w2 ⟨rfl, ⟨m, rfl⟩⟩
  exact ⟨rfl, n + m, World.drewN_drewN _ _ _⟩
theorem wp_seq_mid {x y : Code} {a : Act} {w : World} (M : Act → World → Prop) (h : ∀ K : Act → World → Prop, (∀ a w, M a w → K a w) → x.wp P (Exit.then K Q) a w) (hy : ∀ a w, M a w → y.wp P Q a w) : (Code.seq x y).wp P Q a w :=
  wp_seq (h _ hy)
end
end Go.Proofs.YtkhjpobhdpcglaaDoor.X
end
section
namespace Go.Proofs.YtkhjpobhdpcglaaDoor.X
open Go.RowKit Go.Proofs.YtkhjpobhdpcglaaDoorW.PrintWords Go.Proofs.YtkhjpobhdpcglaaDoorW.PrintLast Go.Proofs.YtkhjpobhdpcglaaDoorW.PrintMore
set_option linter.unusedVariables false
set_option linter.unusedSimpArgs false

def ContOk (s : ByteArray) (d : Nat) : Prop := ∀ (w0 w : World) (g gn i : Nat) (nm : ByteArray), Rd w0 w g s i → GOK w → 0 < w0.heap.size → w0.heap.size ≤ gn → gn ≠ g → w.heap[gn]? = some (.cells #[.string nm, .string ⟨#[]⟩, .slice none 0 0] 36 (0, 0)) →
      Calls Tryd.prog 95 #[.pointer (some ⟨g, 0, none⟩), .pointer (some ⟨gn, 0, none⟩), .int .i64 (16 - (d : Int))] w (ContPost w0 w g gn s nm (contV (elemV s d) s i))
theorem Rd.alloc {w0 w : World} {g : Nat} {s : ByteArray} {i : Nat} (h : Rd w0 w g s i) (o : Obj) : Rd w0 (w.alloc o) g s i := h.stays (below_alloc (Below.refl w.heap.size w) o)
theorem GOK.keep {w w' : World} {g : Nat} {row : Option Nat} (h : GOK w) (hk : KeepBut w w' g row) (hg : g ≠ 0) (hr : row ≠ some 0) : GOK w' := by
  obtain ⟨m, hm⟩ := h
  have h0 : w'.heap[0]? = w.heap[0]? := hk.2 0 (World.block_lt_of_cell? w _ hm) (fun e => hg e.symm) (fun e => hr e.symm)
  exact ⟨m, by simp only [World.cell?] at hm ⊢; rw [h0]; exact hm⟩
theorem elem_results {T : Array Value} {w : World} {gn : Nat} {x y z : Value} {b : Bool} (h4 : T.getD 4 undef = .pointer (some ⟨gn, 0, none⟩)) (h5 : T.getD 5 undef = .bool b) (hb : w.heap[gn]? = some (.cells #[x, y, z] 36 (0, 0))) :
    (results Tryd.f49 T).run Tryd.prog w = .ok (.tuple #[.agg #[x, y, z], .bool b]) w := by
  rw [results_cell_tmp (p := 4) (u := 5) (ty := 36) rfl, h4, h5]
  have h := run_loadVar_row (P := Tryd.prog) w gn 36 36 #[x, y, z] (0, 0) _ hb Tryd.underlying36 rfl (by kernel_rfl)
  simp [asAddr, h, Result.andThen]
theorem blk_set3 {w : World} {g t : Nat} {a b c a' b' c' : Value} (h : w.heap[g]? = some (.cells #[a, b, c] t (0, 0))) :
    (((w.setCell ⟨g, 0, none⟩ a').setCell ⟨g, 1, none⟩ b').setCell ⟨g, 2, none⟩ c').heap[g]? = some (.cells #[a', b', c'] t (0, 0)) := blk_put (blk_put (blk_put h 0 a' rfl) 1 b' rfl) 2 c' rfl
/-- where a goto wrong stands -/
def ElemJ (w0 w : World) (g gn : Nat) (s : ByteArray) (o : Option (S36 × Nat)) (a' : Act) (w' : World) : Prop :=
  (∃ u0 u1 u2 u3 u5 u6 u7 u8 u9 u10 u11 u12 u13 u14 u15 u16 u17 u18 u19 u20 u21 u22 u23 u24 u25 u26 u27 u28 u29 u30 u31 u32 u33 u34 u35 u36 u37 u38 u39 u40 u41 u42 u43 u44 u45 u46 u47 u48 u49 u50 u51 u52 u53 u54 u55 u56 u57 u58 u59 u60 u61 u62 u63 u64 u65 u66 u67 u68 u69 u70 u71 u72 u73 u74 u75 u76 u77 u78 u79 u80 u81 : Value, a' = { tmps := #[u0, u1, u2, u3, .pointer (some ⟨gn, 0, none⟩), u5, u6, u7, u8, u9, u10, u11, u12, u13, u14, u15, u16, u17, u18, u19, u20, u21, u22, u23, u24, u25, u26, u27, u28, u29, u30, u31, u32, u33, u34, u35, u36, u37, u38, u39, u40, u41, u42, u43, u44, u45, u46, u47, u48, u49, u50, u51, u52, u53, u54, u55, u56, u57, u58, u59, u60, u61, u62, u63, u64, u65, u66, u67, u68, u69, u70, u71, u72, u73, u74, u75, u76, u77, u78, u79, u80, u81], defers := [] }) ∧ (∃ j, Rd w0 w' g s j) ∧ KeepBut w w' g none ∧ (∃ x y z, w'.heap[gn]? = some (.cells #[x, y, z] 36 (0, 0))) ∧ o = none
theorem ElemJ.mk {w0 w : World} {g gn : Nat} {s : ByteArray} {o : Option (S36 × Nat)} {w' : World} {u0 u1 u2 u3 u5 u6 u7 u8 u9 u10 u11 u12 u13 u14 u15 u16 u17 u18 u19 u20 u21 u22 u23 u24 u25 u26 u27 u28 u29 u30 u31 u32 u33 u34 u35 u36 u37 u38 u39 u40 u41 u42 u43 u44 u45 u46 u47 u48 u49 u50 u51 u52 u53 u54 u55 u56 u57 u58 u59 u60 u61 u62 u63 u64 u65 u66 u67 u68 u69 u70 u71 u72 u73 u74 u75 u76 u77 u78 u79 u80 u81 : Value} {j : Nat} {x y z : Value} (h : Rd w0 w' g s j) (hk : KeepBut w w' g none) (hb : w'.heap[gn]? = some (.cells #[x, y, z] 36 (0, 0))) (ho : o = none) :
    ElemJ w0 w g gn s o { tmps := #[u0, u1, u2, u3, .pointer (some ⟨gn, 0, none⟩), u5, u6, u7, u8, u9, u10, u11, u12, u13, u14, u15, u16, u17, u18, u19, u20, u21, u22, u23, u24, u25, u26, u27, u28, u29, u30, u31, u32, u33, u34, u35, u36, u37, u38, u39, u40, u41, u42, u43, u44, u45, u46, u47, u48, u49, u50, u51, u52, u53, u54, u55, u56, u57, u58, u59, u60, u61, u62, u63, u64, u65, u66, u67, u68, u69, u70, u71, u72, u73, u74, u75, u76, u77, u78, u79, u80, u81], defers := [] } w' := ⟨⟨u0, u1, u2, u3, u5, u6, u7, u8, u9, u10, u11, u12, u13, u14, u15, u16, u17, u18, u19, u20, u21, u22, u23, u24, u25, u26, u27, u28, u29, u30, u31, u32, u33, u34, u35, u36, u37, u38, u39, u40, u41, u42, u43, u44, u45, u46, u47, u48, u49, u50, u51, u52, u53, u54, u55, u56, u57, u58, u59, u60, u61, u62, u63, u64, u65, u66, u67, u68, u69, u70, u71, u72, u73, u74, u75, u76, u77, u78, u79, u80, u81, rfl⟩, ⟨j, h⟩, hk, ⟨x, y, z, hb⟩, ho⟩

/-- behind the attributes -/
def ElemM (w0 w : World) (g gn d : Nat) (s nm : ByteArray) (k : Nat) (a' : Act) (w' : World) : Prop :=
  (∃ u2 u3 u5 u6 u7 u8 u9 u10 u11 u12 u13 u14 u15 u16 u17 u18 u19 u20 u21 u22 u23 u24 u25 u26 u27 u28 u29 u30 u31 u32 u33 u34 u35 u36 u37 u38 u39 u40 u41 u42 u43 u44 u45 u46 u47 u48 u49 u50 u51 u52 u53 u54 u55 u56 u57 u58 u59 u60 u61 u62 u63 u64 u65 u66 u67 u68 u69 u70 u71 u72 u73 u74 u75 u76 u77 u78 u79 u80 u81 : Value, a' = { tmps := #[.pointer (some ⟨g, 0, none⟩), .int .i64 (16 - (d : Int)), u2, u3, .pointer (some ⟨gn, 0, none⟩), u5, u6, u7, u8, u9, u10, u11, u12, u13, u14, u15, u16, u17, u18, u19, u20, u21, u22, u23, u24, u25, u26, u27, u28, u29, u30, u31, u32, u33, u34, u35, u36, u37, u38, u39, u40, u41, u42, u43, u44, u45, u46, u47, u48, u49, u50, u51, u52, u53, u54, u55, u56, u57, u58, u59, u60, u61, u62, u63, u64, u65, u66, u67, u68, u69, u70, u71, u72, u73, u74, u75, u76, u77, u78, u79, u80, u81], defers := [] }) ∧ Rd w0 w' g s k ∧ KeepBut w w' g none ∧ w'.heap[gn]? = some (.cells #[.string nm, .string ⟨#[]⟩, .slice none 0 0] 36 (0, 0))
theorem ElemM.mk {w0 w : World} {g gn d : Nat} {s nm : ByteArray} {k : Nat} {w' : World} {u2 u3 u5 u6 u7 u8 u9 u10 u11 u12 u13 u14 u15 u16 u17 u18 u19 u20 u21 u22 u23 u24 u25 u26 u27 u28 u29 u30 u31 u32 u33 u34 u35 u36 u37 u38 u39 u40 u41 u42 u43 u44 u45 u46 u47 u48 u49 u50 u51 u52 u53 u54 u55 u56 u57 u58 u59 u60 u61 u62 u63 u64 u65 u66 u67 u68 u69 u70 u71 u72 u73 u74 u75 u76 u77 u78 u79 u80 u81 : Value} (h : Rd w0 w' g s k) (hk : KeepBut w w' g none) (hb : w'.heap[gn]? = some (.cells #[.string nm, .string ⟨#[]⟩, .slice none 0 0] 36 (0, 0))) :
    ElemM w0 w g gn d s nm k { tmps := #[.pointer (some ⟨g, 0, none⟩), .int .i64 (16 - (d : Int)), u2, u3, .pointer (some ⟨gn, 0, none⟩), u5, u6, u7, u8, u9, u10, u11, u12, u13, u14, u15, u16, u17, u18, u19, u20, u21, u22, u23, u24, u25, u26, u27, u28, u29, u30, u31, u32, u33, u34, u35, u36, u37, u38, u39, u40, u41, u42, u43, u44, u45, u46, u47, u48, u49, u50, u51, u52, u53, u54, u55, u56, u57, u58, u59, u60, u61, u62, u63, u64, u65, u66, u67, u68, u69, u70, u71, u72, u73, u74, u75, u76, u77, u78, u79, u80, u81], defers := [] } w' := ⟨⟨u2, u3, u5, u6, u7, u8, u9, u10, u11, u12, u13, u14, u15, u16, u17, u18, u19, u20, u21, u22, u23, u24, u25, u26, u27, u28, u29, u30, u31, u32, u33, u34, u35, u36, u37, u38, u39, u40, u41, u42, u43, u44, u45, u46, u47, u48, u49, u50, u51, u52, u53, u54, u55, u56, u57, u58, u59, u60, u61, u62, u63, u64, u65, u66, u67, u68, u69, u70, u71, u72, u73, u74, u75, u76, u77, u78, u79, u80, u81, rfl⟩, h, hk, hb⟩
theorem Wr.keep {w w1 : World} {b g : Nat} {A : Option Addr} (h : Wr w b A) (hk : KeepBut w w1 g Option.none) (hg : g < b) : Wr w1 b A := fun ad ha => by
  obtain ⟨g', cells, rfl, hb, hc⟩ := h ad ha
  exact ⟨g', cells, rfl, hb, hk.blk hc (by omega) (by simp)⟩
theorem Wr.far {w : World} {b : Nat} {A : Option Addr} (h : Wr w b A) {p : Addr} (hp : p.block < b) (u : Value) : Wr (w.setCell p u) b A := fun ad ha => by
  obtain ⟨g', cells, rfl, hb, hc⟩ := h ad ha
  exact ⟨g', cells, rfl, hb, (Below.heap_setCell w p u g' (by omega)).trans hc⟩
theorem Wr.lower {w : World} {b b' : Nat} {A : Option Addr} (h : Wr w b A) (hb' : b' ≤ b) : Wr w b' A := fun ad ha => by
  obtain ⟨g', cells, rfl, hb, hc⟩ := h ad ha
  exact ⟨g', cells, rfl, by omega, hc⟩
theorem ba_inj {a b : ByteArray} (h : a.toList = b.toList) : a = b := by
  rw [ByteArray.toList_eq, ByteArray.toList_eq] at h
  obtain ⟨⟨a⟩⟩ := a
  obtain ⟨⟨b⟩⟩ := b
  simpa using h
theorem HasPrefix_calls (s : ByteArray) (j : Nat) (t : ByteArray) (hs : s.size ≤ 1073741824) (ht : t.size ≤ 1024) (w : World) :
    Calls Tryd.prog 89 #[.string (s.extract j s.size), .string t] w fun e w' => e = .returned (.bool (hasP s j t)) ∧ Drawn0 w w' := by
  refine strings_HasPrefix.calls _ _ _ w ?_
  have hsz : (s.extract j s.size).size = s.size - j := by simp
  rw [hasPrefix_f _ _ (by omega) (by omega), hsz]
  rfl

set_option maxHeartbeats 4000000 in
set_option maxRecDepth 1000000 in
theorem element_step {d : Nat} {s : ByteArray} (hc : ContOk s d) (hd16 : d < 16)
    {w0 w : World} {g i : Nat} (h : Rd w0 w g s i) (hg : GOK w) (h0 : 0 < w0.heap.size) :
    Calls Tryd.prog 49 #[.pointer (some ⟨g, 0, none⟩), .int .i64 (16 - (d : Int))] w (ElemPost w0 w g s (elemV s (d + 1) i)) := by
  have HC := Aside0.mk hc
  have hsm := h.small
  have hlt := h.lt
  have hge := h.ge
  obtain ⟨gn, hgn⟩ : ∃ gn, gn = w.heap.size := ⟨_, rfl⟩
  have hgg : gn ≠ g := by omega
  obtain ⟨W0, hW0⟩ : ∃ W0, W0 = w.alloc (.cells #[.string ⟨#[]⟩, .string ⟨#[]⟩, .slice none 0 0] 36 (0, 0)) := ⟨_, rfl⟩
  have HR : Aside0 (Rd w0 W0 g s i) := ⟨by rw [hW0]; exact h.alloc _⟩
  have HK : Aside0 (KeepBut w W0 g none) := ⟨by rw [hW0]; exact keep_alloc (KeepBut.refl w g none) _⟩
  have HB : Aside0 (W0.heap[gn]? = some (.cells #[.string ⟨#[]⟩, .string ⟨#[]⟩, .slice none 0 0] 36 (0, 0))) := ⟨by rw [hW0, hgn]; exact heap_alloc_new w _⟩
  have HG2 : Aside0 (GOK w) := ⟨hg⟩
  have hq16 : decide ((16 : Int) < 16 - (d : Int)) = false := decide_eq_false (by omega)
  clear h hc hg
  go_enter Tryd.func49, Tryd.ntmps49
  go_wp2_with fail
  rw [← hW0, ← hgn]
  have hgw : w.heap.size ≤ gn := by omega
  have hgw0 : w0.heap.size ≤ gn := by have := hge; omega
  have hu36 := Tryd.underlying36
  clear hW0 hgn
  refine wp_scope_jumps 0 (ElemJ w0 w g gn s (elemV s (d + 1) i)) (fun _ _ => 0) rfl ?_ ?_
  case refine_2 =>
    rintro a' w' ⟨⟨u0, u1, u2, u3, u5, u6, u7, u8, u9, u10, u11, u12, u13, u14, u15, u16, u17, u18, u19, u20, u21, u22, u23, u24, u25, u26, u27, u28, u29, u30, u31, u32, u33, u34, u35, u36, u37, u38, u39, u40, u41, u42, u43, u44, u45, u46, u47, u48, u49, u50, u51, u52, u53, u54, u55, u56, u57, u58, u59, u60, u61, u62, u63, u64, u65, u66, u67, u68, u69, u70, u71, u72, u73, u74, u75, u76, u77, u78, u79, u80, u81, rfl⟩, ⟨j, hj⟩, hk, ⟨x, y, z, hb⟩, ho⟩
    have cz0 := blk_cell hb 0
    have cz1 := blk_cell hb 1
    have cz2 := blk_cell hb 2
    have fz0 := blk_frozen hb 0
    have fz1 := blk_frozen hb 1
    have fz2 := blk_frozen hb 2
    have HB := Aside0.mk hb
    clear hb
    go_wp2
    simp only [Exit.jump]
    exact bodyPost_ret (elem_results rfl rfl (x := .string ⟨#[]⟩) (y := .string ⟨#[]⟩) (z := .slice none 0 0) (blk_set3 HB.out)) rfl (ElemPost.no (j := j) ho (((hj.far (p := ⟨gn, 0, none⟩) hgg hgw0 _).far (p := ⟨gn, 1, none⟩) hgg hgw0 _).far (p := ⟨gn, 2, none⟩) hgg hgw0 _) (keep_far (keep_far (keep_far hk (p := ⟨gn, 0, none⟩) hgw _) (p := ⟨gn, 1, none⟩) hgw _) (p := ⟨gn, 2, none⟩) hgw _))
  case refine_1 =>
    go_wp2_with fail
    refine (eat_calls HR.out ⟨#[60]⟩ (by decide)).mono ?_
    rintro e w1 ⟨rfl, h1, hk1⟩
    have hK1 := HK.out.trans hk1 (.inl rfl)
    have hB1 := hk1.blk HB.out hgg (by simp)
    clear hk1
    cases hq1 : hasP s i ⟨#[60]⟩ with
    | false =>
      go_wp2_with fail
      apply wp_goto
      exact ⟨rfl, ElemJ.mk h1 hK1 hB1 (by unfold elemV; rw [if_neg (by rw [hq1]; decide)])⟩
    | true =>
      rw [if_pos hq1] at h1
      go_wp2_with fail
      refine (name_calls (show Rd w0 w1 g s (i + 1) from h1)).mono ?_
      rintro e w2 ⟨rfl, h2, hk2⟩
      have hK2 := hK1.trans hk2 (.inl rfl)
      have hB2 := hk2.blk hB1 hgg (by simp)
      clear hk2 hK1 hB1 h1
      have cz0 := blk_cell hB2 0
      have fz0 := blk_frozen hB2 0
      obtain ⟨nm, hnm⟩ : ∃ nm, nm = s.extract (i + 1) (skip innerV s (i + 1)) := ⟨_, rfl⟩
      rw [← hnm]
      have hE1 : elemV s (d + 1) i = (if nameV nm = true then atV (elemV s d) s nm (skip innerV s (i + 1)) else none) := by
        rw [elemV, if_pos hq1, hnm]
      have HE1 := Aside0.mk hE1
      have hnml : nm.size ≤ 4611686018427387904 := by rw [hnm]; exact ex_le _ _ _ hsm
      obtain ⟨j0, hj0⟩ : ∃ j0, j0 = skip innerV s (i + 1) := ⟨_, rfl⟩
      rw [← hj0] at hE1 h2
      have HE2 := Aside0.mk hE1
      have H2 := Aside0.mk h2
      have HK2 := Aside0.mk hK2
      have HB2 := Aside0.mk hB2
      clear hE1 HE1 hnm hj0 h2 hK2 hB2 hq1 HK HB HR
      go_wp2_with fail
      refine (Name_calls nm hnml _).mono ?_
      rintro e w3 ⟨rfl, ⟨n3, rfl⟩⟩
      have H3 : Aside0 (Rd w0 ((w2.setCell ⟨gn, 0, none⟩ (.string nm)).drewN n3) g s j0) := ⟨(H2.out.far (p := ⟨gn, 0, none⟩) hgg hgw0 _).drewN n3⟩
      have HK3 : Aside0 (KeepBut w ((w2.setCell ⟨gn, 0, none⟩ (.string nm)).drewN n3) g none) := ⟨keep_drewN (keep_far HK2.out (p := ⟨gn, 0, none⟩) hgw _) n3⟩
      have HB3 : Aside0 (((w2.setCell ⟨gn, 0, none⟩ (.string nm)).drewN n3).heap[gn]? = some (.cells #[.string nm, .string ⟨#[]⟩, .slice none 0 0] 36 (0, 0))) := ⟨blk_drewN (blk_put HB2.out 0 (.string nm) rfl) n3⟩
      clear cz0 fz0
      obtain ⟨w3, hw3⟩ : ∃ w3, w3 = (w2.setCell ⟨gn, 0, none⟩ (.string nm)).drewN n3 := ⟨_, rfl⟩
      rw [← hw3] at H3 HK3 HB3 ⊢
      clear hw3 H2 HK2 HB2
      cases hq2 : nameV nm with
      | false =>
        go_wp2_with fail
        apply wp_goto
        exact ⟨rfl, ElemJ.mk H3.out HK3.out HB3.out (by rw [HE2.out, hq2]; rfl)⟩
      | true =>
        have hE3 : elemV s (d + 1) i = atV (elemV s d) s nm j0 := by rw [HE2.out, if_pos hq2]
        have HE3 := Aside0.mk hE3
        clear hE3 HE2 hnml
        go_wp2_with fail
        rename_i Kl hKl
        have hM : ∀ (k : Nat) (a' : Act) (w' : World), attrsV (s.size + 1) s j0 = some k → ElemM w0 w g gn d s nm k a' w' → Kl a' w' := by
          intro k a' w' hat hM
          refine hKl a' w' ?_
          clear hKl Kl H3 HK3 HB3
          obtain ⟨⟨u2, u3, u5, u6, u7, u8, u9, u10, u11, u12, u13, u14, u15, u16, u17, u18, u19, u20, u21, u22, u23, u24, u25, u26, u27, u28, u29, u30, u31, u32, u33, u34, u35, u36, u37, u38, u39, u40, u41, u42, u43, u44, u45, u46, u47, u48, u49, u50, u51, u52, u53, u54, u55, u56, u57, u58, u59, u60, u61, u62, u63, u64, u65, u66, u67, u68, u69, u70, u71, u72, u73, u74, u75, u76, u77, u78, u79, u80, u81, rfl⟩, h4, hk4, hb4⟩ := hM
          have HE4 : Aside0 (elemV s (d + 1) i = restV (elemV s d) s nm k) := ⟨by rw [HE3.out]; unfold atV; rw [hat]⟩
          clear HE3 hat
          go_wp2_with fail
          refine (eat_calls h4 ⟨#[47, 62]⟩ (by decide)).mono ?_
          rintro e w7 ⟨rfl, h7, hk7⟩
          have hK7 := hk4.trans hk7 (.inl rfl)
          have hB7 := hk7.blk hb4 hgg (by simp)
          have HB7 := Aside0.mk hB7
          have HK7 := Aside0.mk hK7
          clear hk7 hk4 hb4 h4 hK7
          have cz0 := blk_cell hB7 0
          have cz1 := blk_cell hB7 1
          have cz2 := blk_cell hB7 2
          have fz0 := blk_frozen hB7 0
          have fz1 := blk_frozen hB7 1
          have fz2 := blk_frozen hB7 2
          clear hB7
          cases hq3 : hasP s k ⟨#[47, 62]⟩ with
          | true =>
            rw [if_pos hq3] at h7
            have HE5 : Aside0 (elemV s (d + 1) i = some (⟨nm, ⟨#[]⟩, []⟩, k + 2)) := ⟨by rw [HE4.out]; unfold restV; rw [if_pos hq3]⟩
            have H7 := Aside0.mk h7
            clear HE4 hq3 h7
            go_wp2
            simp only [Exit.jump]
            exact bodyPost_ret (elem_results rfl rfl (blk_set3 HB7.out)) rfl ⟨⟨nm, ⟨#[]⟩, []⟩, none, 0, true, k + 2, rfl, Nat.le_refl _, fun W _ => Kd.C_nil _ _, Wr.none _ _, (((H7.out.far (p := ⟨gn, 0, none⟩) hgg hgw0 _).far (p := ⟨gn, 1, none⟩) hgg hgw0 _).far (p := ⟨gn, 2, none⟩) hgg hgw0 _), (keep_far (keep_far (keep_far HK7.out (p := ⟨gn, 0, none⟩) hgw _) (p := ⟨gn, 1, none⟩) hgw _) (p := ⟨gn, 2, none⟩) hgw _), by rw [HE5.out]; exact ⟨rfl, rfl, rfl⟩⟩
          | false =>
            rw [if_neg (by rw [hq3]; decide)] at h7
            have HE5 : Aside0 (elemV s (d + 1) i = (if hasP s k ⟨#[62]⟩ = true then (match contV (elemV s d) s (k + 1) with | some (t, kids, m) => endV s nm t kids m | none => none) else none)) := ⟨by rw [HE4.out]; unfold restV; rw [if_neg (by rw [hq3]; decide)]; first | done | rfl⟩
            have H7 := Aside0.mk h7
            clear HE4 hq3 h7
            go_wp2_with fail
            cases hq4 : hasP s k ⟨#[62]⟩ with
            | false =>
              refine start_ (n := 21) (S := fun w_ => w_.cell? ⟨gn, 0, none⟩ = some (.string nm)) (ds := []) #[false, false, false, false, false, false, false, false, false, false, false, false, false, false, false, false, false, false, false, false, false] (by kernel_rfl) rfl rfl ((blk_cell HB7.out 0).trans rfl) (fun hHeld => ?_)
              refine pure_ (i := 0) (N := (some 54)) (v := ?_) (a' := ?_) #[true, false, false, false, false, false, false, false, false, false, false, false, false, false, false, false, false, false, false, false, false] rfl rfl (by kernel_rfl) (fun _ _ _ h => h) (Or.inl ⟨by kernel_rfl, ?_⟩) ?_ ?_
              rotate_left
              · intro w_
                go_simp
                with_reducible rfl
              rotate_left
              · simp only [Act.put, List.setIfInBounds_toArray, List.set_cons_zero, List.set_cons_succ]
                rfl
              refine one_ (i := 1) (N := (some 55)) #[true, true, false, false, false, false, false, false, false, false, false, false, false, false, false, false, false, false, false, false, false] rfl rfl (by kernel_rfl) (by decide) (fun K hK => ?_)
              refine goes_ Tryd.func92 (by kernel_rfl) rfl #[.pointer (some ⟨g, 0, none⟩), .string ⟨#[62]⟩] (by kernel_rfl) rfl rfl (by kernel_rfl) ?_
              refine (eat_calls (H7.out.drewN 1) ⟨#[62]⟩ (by decide)).mono ?_
              rintro e w8 ⟨rfl, h8, hk8⟩
              rw [hq4]
              have HB8 := Aside0.mk (hk8.blk HB7.out hgg (by simp))
              have HK8 := Aside0.mk ((keep_drewN HK7.out 1).trans hk8 (.inl rfl))
              rw [if_neg (by rw [hq4]; decide)] at h8
              refine ⟨_, rfl, ?_⟩
              refine hK.out _ _ ((blk_cell HB8.out 0).trans rfl) (fun hHeld => ?_)
              clear hK K
              refine norm_ (a' := ?_) ?_ ?_
              rotate_left
              · show Act.put _ (some 55) _ = _
                simp only [Act.put, List.setIfInBounds_toArray, List.set_cons_zero, List.set_cons_succ]
                rfl
              refine pure_ (i := 2) (N := (some 56)) (v := ?_) (a' := ?_) #[true, true, true, false, false, false, false, false, false, false, false, false, false, false, false, false, false, false, false, false, false] rfl rfl (by kernel_rfl) (fun _ _ _ h => h) (Or.inl ⟨by kernel_rfl, ?_⟩) ?_ ?_
              rotate_left
              · intro w_
                go_simp
                with_reducible rfl
              rotate_left
              · simp only [Act.put, List.setIfInBounds_toArray, List.set_cons_zero, List.set_cons_succ]
                rfl
              refine pure_ (i := 3) (N := (some 57)) (v := ?_) (a' := ?_) #[true, true, true, true, false, false, false, false, false, false, false, false, false, false, false, false, false, false, false, false, false] rfl rfl (by kernel_rfl) (fun _ _ _ h => h) (Or.inl ⟨by kernel_rfl, ?_⟩) ?_ ?_
              rotate_left
              · intro w_
                go_simp
                with_reducible rfl
              rotate_left
              · simp only [Act.put, List.setIfInBounds_toArray, List.set_cons_zero, List.set_cons_succ]
                rfl
              refine pure_ (i := 4) (N := (some 58)) (v := undef) (a' := ?_) #[true, true, true, true, true, false, false, false, false, false, false, false, false, false, false, false, false, false, false, false, false] rfl rfl (by kernel_rfl) (fun _ _ _ h => h) (Or.inr ⟨by kernel_rfl, rfl⟩) ?_ ?_
              rotate_left
              · simp only [Act.put, List.setIfInBounds_toArray, List.set_cons_zero, List.set_cons_succ]
                rfl
              refine pure_ (i := 5) (N := (some 59)) (v := undef) (a' := ?_) #[true, true, true, true, true, true, false, false, false, false, false, false, false, false, false, false, false, false, false, false, false] rfl rfl (by kernel_rfl) (fun _ _ _ h => h) (Or.inr ⟨by kernel_rfl, rfl⟩) ?_ ?_
              rotate_left
              · simp only [Act.put, List.setIfInBounds_toArray, List.set_cons_zero, List.set_cons_succ]
                rfl
              refine pure_ (i := 6) (N := (some 60)) (v := undef) (a' := ?_) #[true, true, true, true, true, true, true, false, false, false, false, false, false, false, false, false, false, false, false, false, false] rfl rfl (by kernel_rfl) (fun _ _ _ h => h) (Or.inr ⟨by kernel_rfl, rfl⟩) ?_ ?_
              rotate_left
              · simp only [Act.put, List.setIfInBounds_toArray, List.set_cons_zero, List.set_cons_succ]
                rfl
              refine pure_ (i := 7) (N := (some 61)) (v := undef) (a' := ?_) #[true, true, true, true, true, true, true, true, false, false, false, false, false, false, false, false, false, false, false, false, false] rfl rfl (by kernel_rfl) (fun _ _ _ h => h) (Or.inr ⟨by kernel_rfl, rfl⟩) ?_ ?_
              rotate_left
              · simp only [Act.put, List.setIfInBounds_toArray, List.set_cons_zero, List.set_cons_succ]
                rfl
              refine pure_ (i := 8) (N := (some 62)) (v := ?_) (a' := ?_) #[true, true, true, true, true, true, true, true, true, false, false, false, false, false, false, false, false, false, false, false, false] rfl rfl (by kernel_rfl) (fun _ _ _ h => h) (Or.inl ⟨by kernel_rfl, ?_⟩) ?_ ?_
              rotate_left
              · intro w_
                go_simp
                with_reducible rfl
              rotate_left
              · simp only [Act.put, List.setIfInBounds_toArray, List.set_cons_zero, List.set_cons_succ]
                rfl
              refine pure_ (i := 9) (N := (some 63)) (v := ?_) (a' := ?_) #[true, true, true, true, true, true, true, true, true, true, false, false, false, false, false, false, false, false, false, false, false] rfl rfl (by kernel_rfl) (fun _ _ _ h => h) (Or.inl ⟨by kernel_rfl, ?_⟩) ?_ ?_
              rotate_left
              · intro w_
                go_simp
                with_reducible rfl
              rotate_left
              · simp only [Act.put, List.setIfInBounds_toArray, List.set_cons_zero, List.set_cons_succ]
                rfl
              refine pure_ (i := 10) (N := (some 64)) (v := undef) (a' := ?_) #[true, true, true, true, true, true, true, true, true, true, true, false, false, false, false, false, false, false, false, false, false] rfl rfl (by kernel_rfl) (fun _ _ _ h => h) (Or.inr ⟨by kernel_rfl, rfl⟩) ?_ ?_
              rotate_left
              · simp only [Act.put, List.setIfInBounds_toArray, List.set_cons_zero, List.set_cons_succ]
                rfl
              refine pure_ (i := 11) (N := (some 65)) (v := undef) (a' := ?_) #[true, true, true, true, true, true, true, true, true, true, true, true, false, false, false, false, false, false, false, false, false] rfl rfl (by kernel_rfl) (fun _ _ _ h => h) (Or.inr ⟨by kernel_rfl, rfl⟩) ?_ ?_
              rotate_left
              · simp only [Act.put, List.setIfInBounds_toArray, List.set_cons_zero, List.set_cons_succ]
                rfl
              refine pure_ (i := 12) (N := (some 66)) (v := undef) (a' := ?_) #[true, true, true, true, true, true, true, true, true, true, true, true, true, false, false, false, false, false, false, false, false] rfl rfl (by kernel_rfl) (fun _ _ _ h => h) (Or.inr ⟨by kernel_rfl, rfl⟩) ?_ ?_
              rotate_left
              · simp only [Act.put, List.setIfInBounds_toArray, List.set_cons_zero, List.set_cons_succ]
                rfl
              refine pure_ (i := 13) (N := (some 67)) (v := ?_) (a' := ?_) #[true, true, true, true, true, true, true, true, true, true, true, true, true, true, false, false, false, false, false, false, false] rfl rfl (by kernel_rfl) (fun _ _ _ h => h) (Or.inl ⟨by kernel_rfl, ?_⟩) ?_ ?_
              rotate_left
              · intro w_
                go_simp
                with_reducible rfl
              rotate_left
              · simp only [Act.put, List.setIfInBounds_toArray, List.set_cons_zero, List.set_cons_succ]
                rfl
              refine pure_ (i := 14) (N := (some 68)) (v := ?_) (a' := ?_) #[true, true, true, true, true, true, true, true, true, true, true, true, true, true, true, false, false, false, false, false, false] rfl rfl (by kernel_rfl) (fun _ _ _ h => h) (Or.inl ⟨by kernel_rfl, ?_⟩) ?_ ?_
              rotate_left
              · intro w_
                go_simp
                with_reducible rfl
              rotate_left
              · simp only [Act.put, List.setIfInBounds_toArray, List.set_cons_zero, List.set_cons_succ]
                rfl
              refine pure_ (i := 15) (N := (some 69)) (v := undef) (a' := ?_) #[true, true, true, true, true, true, true, true, true, true, true, true, true, true, true, true, false, false, false, false, false] rfl rfl (by kernel_rfl) (fun _ _ _ h => h) (Or.inr ⟨by kernel_rfl, rfl⟩) ?_ ?_
              rotate_left
              · simp only [Act.put, List.setIfInBounds_toArray, List.set_cons_zero, List.set_cons_succ]
                rfl
              refine pure_ (i := 16) (N := (some 70)) (v := undef) (a' := ?_) #[true, true, true, true, true, true, true, true, true, true, true, true, true, true, true, true, true, false, false, false, false] rfl rfl (by kernel_rfl) (fun _ _ _ h => h) (Or.inr ⟨by kernel_rfl, rfl⟩) ?_ ?_
              rotate_left
              · simp only [Act.put, List.setIfInBounds_toArray, List.set_cons_zero, List.set_cons_succ]
                rfl
              refine pure_ (i := 17) (N := (some 71)) (v := undef) (a' := ?_) #[true, true, true, true, true, true, true, true, true, true, true, true, true, true, true, true, true, true, false, false, false] rfl rfl (by kernel_rfl) (fun _ _ _ h => h) (Or.inr ⟨by kernel_rfl, rfl⟩) ?_ ?_
              rotate_left
              · simp only [Act.put, List.setIfInBounds_toArray, List.set_cons_zero, List.set_cons_succ]
                rfl
              refine pure_ (i := 18) (N := (some 72)) (v := undef) (a' := ?_) #[true, true, true, true, true, true, true, true, true, true, true, true, true, true, true, true, true, true, true, false, false] rfl rfl (by kernel_rfl) (fun _ _ _ h => h) (Or.inr ⟨by kernel_rfl, rfl⟩) ?_ ?_
              rotate_left
              · simp only [Act.put, List.setIfInBounds_toArray, List.set_cons_zero, List.set_cons_succ]
                rfl
              refine pure_ (i := 19) (N := (some 73)) (v := undef) (a' := ?_) #[true, true, true, true, true, true, true, true, true, true, true, true, true, true, true, true, true, true, true, true, false] rfl rfl (by kernel_rfl) (fun _ _ _ h => h) (Or.inr ⟨by kernel_rfl, rfl⟩) ?_ ?_
              rotate_left
              · simp only [Act.put, List.setIfInBounds_toArray, List.set_cons_zero, List.set_cons_succ]
                rfl
              refine pure_ (i := 20) (N := (some 74)) (v := ?_) (a' := ?_) #[true, true, true, true, true, true, true, true, true, true, true, true, true, true, true, true, true, true, true, true, true] rfl rfl (by kernel_rfl) (fun _ _ _ h => h) (Or.inl ⟨by kernel_rfl, ?_⟩) ?_ ?_
              rotate_left
              · intro w_
                go_simp
                with_reducible rfl
              rotate_left
              · simp only [Act.put, List.setIfInBounds_toArray, List.set_cons_zero, List.set_cons_succ]
                rfl
              refine done_ (by kernel_rfl) ?_
              go_wp2_with fail
              apply wp_goto
              exact ⟨rfl, ElemJ.mk h8 HK8.out HB8.out (by rw [HE5.out, if_neg (by rw [hq4]; decide)])⟩
            | true =>
              have HE6 : Aside0 (elemV s (d + 1) i = (match contV (elemV s d) s (k + 1) with | some (t, kids, m) => endV s nm t kids m | none => none)) := ⟨by rw [HE5.out, if_pos hq4]⟩
              clear HE5
              cases hcv : contV (elemV s d) s (k + 1) with
              | none =>
                have HE7 : Aside0 (elemV s (d + 1) i = none) := ⟨by rw [HE6.out, hcv]⟩
                refine start_ (n := 21) (S := fun w_ => w_.cell? ⟨gn, 0, none⟩ = some (.string nm)) (ds := []) #[false, false, false, false, false, false, false, false, false, false, false, false, false, false, false, false, false, false, false, false, false] (by kernel_rfl) rfl rfl ((blk_cell HB7.out 0).trans rfl) (fun hHeld => ?_)
                refine pure_ (i := 0) (N := (some 54)) (v := ?_) (a' := ?_) #[true, false, false, false, false, false, false, false, false, false, false, false, false, false, false, false, false, false, false, false, false] rfl rfl (by kernel_rfl) (fun _ _ _ h => h) (Or.inl ⟨by kernel_rfl, ?_⟩) ?_ ?_
                rotate_left
                · intro w_
                  go_simp
                  with_reducible rfl
                rotate_left
                · simp only [Act.put, List.setIfInBounds_toArray, List.set_cons_zero, List.set_cons_succ]
                  rfl
                refine one_ (i := 1) (N := (some 55)) #[true, true, false, false, false, false, false, false, false, false, false, false, false, false, false, false, false, false, false, false, false] rfl rfl (by kernel_rfl) (by decide) (fun K hK => ?_)
                refine goes_ Tryd.func92 (by kernel_rfl) rfl #[.pointer (some ⟨g, 0, none⟩), .string ⟨#[62]⟩] (by kernel_rfl) rfl rfl (by kernel_rfl) ?_
                refine (eat_calls (H7.out.drewN 1) ⟨#[62]⟩ (by decide)).mono ?_
                rintro e w8 ⟨rfl, h8, hk8⟩
                rw [hq4]
                have HB8 := Aside0.mk (hk8.blk HB7.out hgg (by simp))
                have HK8 := Aside0.mk ((keep_drewN HK7.out 1).trans hk8 (.inl rfl))
                rw [if_pos (by rw [hq4])] at h8
                refine ⟨_, rfl, ?_⟩
                refine hK.out _ _ ((blk_cell HB8.out 0).trans rfl) (fun hHeld => ?_)
                clear hK K
                refine norm_ (a' := ?_) ?_ ?_
                rotate_left
                · show Act.put _ (some 55) _ = _
                  simp only [Act.put, List.setIfInBounds_toArray, List.set_cons_zero, List.set_cons_succ]
                  rfl
                refine pure_ (i := 2) (N := (some 56)) (v := ?_) (a' := ?_) #[true, true, true, false, false, false, false, false, false, false, false, false, false, false, false, false, false, false, false, false, false] rfl rfl (by kernel_rfl) (fun _ _ _ h => h) (Or.inl ⟨by kernel_rfl, ?_⟩) ?_ ?_
                rotate_left
                · intro w_
                  go_simp
                  with_reducible rfl
                rotate_left
                · simp only [Act.put, List.setIfInBounds_toArray, List.set_cons_zero, List.set_cons_succ]
                  rfl
                refine pure_ (i := 3) (N := (some 57)) (v := ?_) (a' := ?_) #[true, true, true, true, false, false, false, false, false, false, false, false, false, false, false, false, false, false, false, false, false] rfl rfl (by kernel_rfl) (fun _ _ _ h => h) (Or.inl ⟨by kernel_rfl, ?_⟩) ?_ ?_
                rotate_left
                · intro w_
                  go_simp
                  with_reducible rfl
                rotate_left
                · simp only [Act.put, List.setIfInBounds_toArray, List.set_cons_zero, List.set_cons_succ]
                  rfl
                refine pure_ (i := 4) (N := (some 58)) (v := ?_) (a' := ?_) #[true, true, true, true, true, false, false, false, false, false, false, false, false, false, false, false, false, false, false, false, false] rfl rfl (by kernel_rfl) (fun _ _ _ h => h) (Or.inl ⟨by kernel_rfl, ?_⟩) ?_ ?_
                rotate_left
                · intro w_
                  go_simp
                  with_reducible rfl
                rotate_left
                · simp only [Act.put, List.setIfInBounds_toArray, List.set_cons_zero, List.set_cons_succ]
                  rfl
                refine pure_ (i := 5) (N := (some 59)) (v := ?_) (a' := ?_) #[true, true, true, true, true, true, false, false, false, false, false, false, false, false, false, false, false, false, false, false, false] rfl rfl (by kernel_rfl) (fun _ _ _ h => h) (Or.inl ⟨by kernel_rfl, ?_⟩) ?_ ?_
                rotate_left
                · intro w_
                  go_simp
                  with_reducible rfl
                rotate_left
                · simp only [Act.put, List.setIfInBounds_toArray, List.set_cons_zero, List.set_cons_succ]
                  rfl
                refine one_ (i := 6) (N := (some 60)) #[true, true, true, true, true, true, true, false, false, false, false, false, false, false, false, false, false, false, false, false, false] rfl rfl (by kernel_rfl) (by decide) (fun K hK => ?_)
                refine goes_ Tryd.func95 (by kernel_rfl) rfl #[.pointer (some ⟨g, 0, none⟩), .pointer (some ⟨gn, 0, none⟩), .int .i64 (16 - (d : Int))] (by kernel_rfl) rfl rfl (by kernel_rfl) ?_
                refine (HC.out w0 w8 g gn (k + 1) nm h8 ((HG2.out).keep HK8.out (by omega) (by simp)) h0 hgw0 hgg HB8.out).mono ?_
                rintro e w9 ⟨t0_, l0_, A0, c0, b0, j0_, rfl, hB9, hle0, hF9, hW9, hR9, hk9, hm9⟩
                rw [hcv] at hm9
                obtain rfl : b0 = false := hm9
                have HB9 := Aside0.mk hB9
                have HR9 := Aside0.mk hR9
                have HK9 := Aside0.mk (HK8.out.trans hk9 (.inr ⟨gn, rfl, hgw⟩))
                have HF9 := Aside0.mk hF9
                have HW9 := Aside0.mk hW9
                have hgb : gn < w8.heap.size := blk_lt HB8.out
                have hgb2 : g < w8.heap.size := h8.lt
                have hwb : w.heap.size ≤ w8.heap.size := keep_size HK8.out
                clear hB9 hR9 hk9 hF9 hW9
                refine ⟨_, rfl, ?_⟩
                refine hK.out _ _ ((blk_cell HB9.out 0).trans rfl) (fun hHeld => ?_)
                clear hK K
                refine norm_ (a' := ?_) ?_ ?_
                rotate_left
                · show Act.put _ (some 60) _ = _
                  simp only [Act.put, List.setIfInBounds_toArray, List.set_cons_zero, List.set_cons_succ]
                  rfl
                refine pure_ (i := 7) (N := (some 61)) (v := ?_) (a' := ?_) #[true, true, true, true, true, true, true, true, false, false, false, false, false, false, false, false, false, false, false, false, false] rfl rfl (by kernel_rfl) (fun _ _ _ h => h) (Or.inl ⟨by kernel_rfl, ?_⟩) ?_ ?_
                rotate_left
                · intro w_
                  go_simp
                  with_reducible rfl
                rotate_left
                · simp only [Act.put, List.setIfInBounds_toArray, List.set_cons_zero, List.set_cons_succ]
                  rfl
                refine pure_ (i := 8) (N := (some 62)) (v := ?_) (a' := ?_) #[true, true, true, true, true, true, true, true, true, false, false, false, false, false, false, false, false, false, false, false, false] rfl rfl (by kernel_rfl) (fun _ _ _ h => h) (Or.inl ⟨by kernel_rfl, ?_⟩) ?_ ?_
                rotate_left
                · intro w_
                  go_simp
                  with_reducible rfl
                rotate_left
                · simp only [Act.put, List.setIfInBounds_toArray, List.set_cons_zero, List.set_cons_succ]
                  rfl
                refine pure_ (i := 9) (N := (some 63)) (v := ?_) (a' := ?_) #[true, true, true, true, true, true, true, true, true, true, false, false, false, false, false, false, false, false, false, false, false] rfl rfl (by kernel_rfl) (fun _ _ _ h => h) (Or.inl ⟨by kernel_rfl, ?_⟩) ?_ ?_
                rotate_left
                · intro w_
                  go_simp
                  with_reducible rfl
                rotate_left
                · simp only [Act.put, List.setIfInBounds_toArray, List.set_cons_zero, List.set_cons_succ]
                  rfl
                refine pure_ (i := 10) (N := (some 64)) (v := undef) (a' := ?_) #[true, true, true, true, true, true, true, true, true, true, true, false, false, false, false, false, false, false, false, false, false] rfl rfl (by kernel_rfl) (fun _ _ _ h => h) (Or.inr ⟨by kernel_rfl, rfl⟩) ?_ ?_
                rotate_left
                · simp only [Act.put, List.setIfInBounds_toArray, List.set_cons_zero, List.set_cons_succ]
                  rfl
                refine pure_ (i := 11) (N := (some 65)) (v := undef) (a' := ?_) #[true, true, true, true, true, true, true, true, true, true, true, true, false, false, false, false, false, false, false, false, false] rfl rfl (by kernel_rfl) (fun _ _ _ h => h) (Or.inr ⟨by kernel_rfl, rfl⟩) ?_ ?_
                rotate_left
                · simp only [Act.put, List.setIfInBounds_toArray, List.set_cons_zero, List.set_cons_succ]
                  rfl
                refine pure_ (i := 12) (N := (some 66)) (v := undef) (a' := ?_) #[true, true, true, true, true, true, true, true, true, true, true, true, true, false, false, false, false, false, false, false, false] rfl rfl (by kernel_rfl) (fun _ _ _ h => h) (Or.inr ⟨by kernel_rfl, rfl⟩) ?_ ?_
                rotate_left
                · simp only [Act.put, List.setIfInBounds_toArray, List.set_cons_zero, List.set_cons_succ]
                  rfl
                refine pure_ (i := 13) (N := (some 67)) (v := ?_) (a' := ?_) #[true, true, true, true, true, true, true, true, true, true, true, true, true, true, false, false, false, false, false, false, false] rfl rfl (by kernel_rfl) (fun _ _ _ h => h) (Or.inl ⟨by kernel_rfl, ?_⟩) ?_ ?_
                rotate_left
                · intro w_
                  go_simp
                  with_reducible rfl
                rotate_left
                · simp only [Act.put, List.setIfInBounds_toArray, List.set_cons_zero, List.set_cons_succ]
                  rfl
                refine pure_ (i := 14) (N := (some 68)) (v := ?_) (a' := ?_) #[true, true, true, true, true, true, true, true, true, true, true, true, true, true, true, false, false, false, false, false, false] rfl rfl (by kernel_rfl) (fun _ _ _ h => h) (Or.inl ⟨by kernel_rfl, ?_⟩) ?_ ?_
                rotate_left
                · intro w_
                  go_simp
                  with_reducible rfl
                rotate_left
                · simp only [Act.put, List.setIfInBounds_toArray, List.set_cons_zero, List.set_cons_succ]
                  rfl
                refine pure_ (i := 15) (N := (some 69)) (v := undef) (a' := ?_) #[true, true, true, true, true, true, true, true, true, true, true, true, true, true, true, true, false, false, false, false, false] rfl rfl (by kernel_rfl) (fun _ _ _ h => h) (Or.inr ⟨by kernel_rfl, rfl⟩) ?_ ?_
                rotate_left
                · simp only [Act.put, List.setIfInBounds_toArray, List.set_cons_zero, List.set_cons_succ]
                  rfl
                refine pure_ (i := 16) (N := (some 70)) (v := undef) (a' := ?_) #[true, true, true, true, true, true, true, true, true, true, true, true, true, true, true, true, true, false, false, false, false] rfl rfl (by kernel_rfl) (fun _ _ _ h => h) (Or.inr ⟨by kernel_rfl, rfl⟩) ?_ ?_
                rotate_left
                · simp only [Act.put, List.setIfInBounds_toArray, List.set_cons_zero, List.set_cons_succ]
                  rfl
                refine pure_ (i := 17) (N := (some 71)) (v := undef) (a' := ?_) #[true, true, true, true, true, true, true, true, true, true, true, true, true, true, true, true, true, true, false, false, false] rfl rfl (by kernel_rfl) (fun _ _ _ h => h) (Or.inr ⟨by kernel_rfl, rfl⟩) ?_ ?_
                rotate_left
                · simp only [Act.put, List.setIfInBounds_toArray, List.set_cons_zero, List.set_cons_succ]
                  rfl
                refine pure_ (i := 18) (N := (some 72)) (v := undef) (a' := ?_) #[true, true, true, true, true, true, true, true, true, true, true, true, true, true, true, true, true, true, true, false, false] rfl rfl (by kernel_rfl) (fun _ _ _ h => h) (Or.inr ⟨by kernel_rfl, rfl⟩) ?_ ?_
                rotate_left
                · simp only [Act.put, List.setIfInBounds_toArray, List.set_cons_zero, List.set_cons_succ]
                  rfl
                refine pure_ (i := 19) (N := (some 73)) (v := undef) (a' := ?_) #[true, true, true, true, true, true, true, true, true, true, true, true, true, true, true, true, true, true, true, true, false] rfl rfl (by kernel_rfl) (fun _ _ _ h => h) (Or.inr ⟨by kernel_rfl, rfl⟩) ?_ ?_
                rotate_left
                · simp only [Act.put, List.setIfInBounds_toArray, List.set_cons_zero, List.set_cons_succ]
                  rfl
                refine pure_ (i := 20) (N := (some 74)) (v := ?_) (a' := ?_) #[true, true, true, true, true, true, true, true, true, true, true, true, true, true, true, true, true, true, true, true, true] rfl rfl (by kernel_rfl) (fun _ _ _ h => h) (Or.inl ⟨by kernel_rfl, ?_⟩) ?_ ?_
                rotate_left
                · intro w_
                  go_simp
                  with_reducible rfl
                rotate_left
                · simp only [Act.put, List.setIfInBounds_toArray, List.set_cons_zero, List.set_cons_succ]
                  rfl
                refine done_ (by kernel_rfl) ?_
                go_wp2_with fail
                apply wp_goto
                exact ⟨rfl, ElemJ.mk HR9.out HK9.out HB9.out HE7.out⟩
              | some r =>
                obtain ⟨t0, l0, m0⟩ := r
                have HE7 : Aside0 (elemV s (d + 1) i = endV s nm t0 l0 m0) := ⟨by rw [HE6.out, hcv]⟩
                clear HE6
                cases hq5 : hasP s m0 ⟨#[60, 47]⟩ with
                | false =>
                  refine start_ (n := 21) (S := fun w_ => w_.cell? ⟨gn, 0, none⟩ = some (.string nm)) (ds := []) #[false, false, false, false, false, false, false, false, false, false, false, false, false, false, false, false, false, false, false, false, false] (by kernel_rfl) rfl rfl ((blk_cell HB7.out 0).trans rfl) (fun hHeld => ?_)
                  refine pure_ (i := 0) (N := (some 54)) (v := ?_) (a' := ?_) #[true, false, false, false, false, false, false, false, false, false, false, false, false, false, false, false, false, false, false, false, false] rfl rfl (by kernel_rfl) (fun _ _ _ h => h) (Or.inl ⟨by kernel_rfl, ?_⟩) ?_ ?_
                  rotate_left
                  · intro w_
                    go_simp
                    with_reducible rfl
                  rotate_left
                  · simp only [Act.put, List.setIfInBounds_toArray, List.set_cons_zero, List.set_cons_succ]
                    rfl
                  refine one_ (i := 1) (N := (some 55)) #[true, true, false, false, false, false, false, false, false, false, false, false, false, false, false, false, false, false, false, false, false] rfl rfl (by kernel_rfl) (by decide) (fun K hK => ?_)
                  refine goes_ Tryd.func92 (by kernel_rfl) rfl #[.pointer (some ⟨g, 0, none⟩), .string ⟨#[62]⟩] (by kernel_rfl) rfl rfl (by kernel_rfl) ?_
                  refine (eat_calls (H7.out.drewN 1) ⟨#[62]⟩ (by decide)).mono ?_
                  rintro e w8 ⟨rfl, h8, hk8⟩
                  rw [hq4]
                  have HB8 := Aside0.mk (hk8.blk HB7.out hgg (by simp))
                  have HK8 := Aside0.mk ((keep_drewN HK7.out 1).trans hk8 (.inl rfl))
                  rw [if_pos (by rw [hq4])] at h8
                  refine ⟨_, rfl, ?_⟩
                  refine hK.out _ _ ((blk_cell HB8.out 0).trans rfl) (fun hHeld => ?_)
                  clear hK K
                  refine norm_ (a' := ?_) ?_ ?_
                  rotate_left
                  · show Act.put _ (some 55) _ = _
                    simp only [Act.put, List.setIfInBounds_toArray, List.set_cons_zero, List.set_cons_succ]
                    rfl
                  refine pure_ (i := 2) (N := (some 56)) (v := ?_) (a' := ?_) #[true, true, true, false, false, false, false, false, false, false, false, false, false, false, false, false, false, false, false, false, false] rfl rfl (by kernel_rfl) (fun _ _ _ h => h) (Or.inl ⟨by kernel_rfl, ?_⟩) ?_ ?_
                  rotate_left
                  · intro w_
                    go_simp
                    with_reducible rfl
                  rotate_left
                  · simp only [Act.put, List.setIfInBounds_toArray, List.set_cons_zero, List.set_cons_succ]
                    rfl
                  refine pure_ (i := 3) (N := (some 57)) (v := ?_) (a' := ?_) #[true, true, true, true, false, false, false, false, false, false, false, false, false, false, false, false, false, false, false, false, false] rfl rfl (by kernel_rfl) (fun _ _ _ h => h) (Or.inl ⟨by kernel_rfl, ?_⟩) ?_ ?_
                  rotate_left
                  · intro w_
                    go_simp
                    with_reducible rfl
                  rotate_left
                  · simp only [Act.put, List.setIfInBounds_toArray, List.set_cons_zero, List.set_cons_succ]
                    rfl
                  refine pure_ (i := 4) (N := (some 58)) (v := ?_) (a' := ?_) #[true, true, true, true, true, false, false, false, false, false, false, false, false, false, false, false, false, false, false, false, false] rfl rfl (by kernel_rfl) (fun _ _ _ h => h) (Or.inl ⟨by kernel_rfl, ?_⟩) ?_ ?_
                  rotate_left
                  · intro w_
                    go_simp
                    with_reducible rfl
                  rotate_left
                  · simp only [Act.put, List.setIfInBounds_toArray, List.set_cons_zero, List.set_cons_succ]
                    rfl
                  refine pure_ (i := 5) (N := (some 59)) (v := ?_) (a' := ?_) #[true, true, true, true, true, true, false, false, false, false, false, false, false, false, false, false, false, false, false, false, false] rfl rfl (by kernel_rfl) (fun _ _ _ h => h) (Or.inl ⟨by kernel_rfl, ?_⟩) ?_ ?_
                  rotate_left
                  · intro w_
                    go_simp
                    with_reducible rfl
                  rotate_left
                  · simp only [Act.put, List.setIfInBounds_toArray, List.set_cons_zero, List.set_cons_succ]
                    rfl
                  refine one_ (i := 6) (N := (some 60)) #[true, true, true, true, true, true, true, false, false, false, false, false, false, false, false, false, false, false, false, false, false] rfl rfl (by kernel_rfl) (by decide) (fun K hK => ?_)
                  refine goes_ Tryd.func95 (by kernel_rfl) rfl #[.pointer (some ⟨g, 0, none⟩), .pointer (some ⟨gn, 0, none⟩), .int .i64 (16 - (d : Int))] (by kernel_rfl) rfl rfl (by kernel_rfl) ?_
                  refine (HC.out w0 w8 g gn (k + 1) nm h8 ((HG2.out).keep HK8.out (by omega) (by simp)) h0 hgw0 hgg HB8.out).mono ?_
                  rintro e w9 ⟨t0_, l0_, A0, c0, b0, j0_, rfl, hB9, hle0, hF9, hW9, hR9, hk9, hm9⟩
                  rw [hcv] at hm9
                  obtain ⟨rfl, h1_, h2_, h3_⟩ := hm9
                  obtain rfl := h1_.symm
                  obtain rfl := h2_.symm
                  obtain rfl := h3_.symm
                  have HB9 := Aside0.mk hB9
                  have HR9 := Aside0.mk hR9
                  have HK9 := Aside0.mk (HK8.out.trans hk9 (.inr ⟨gn, rfl, hgw⟩))
                  have HF9 := Aside0.mk hF9
                  have HW9 := Aside0.mk hW9
                  have hgb : gn < w8.heap.size := blk_lt HB8.out
                  have hgb2 : g < w8.heap.size := h8.lt
                  have hwb : w.heap.size ≤ w8.heap.size := keep_size HK8.out
                  clear hB9 hR9 hk9 hF9 hW9
                  refine ⟨_, rfl, ?_⟩
                  refine hK.out _ _ ((blk_cell HB9.out 0).trans rfl) (fun hHeld => ?_)
                  clear hK K
                  refine norm_ (a' := ?_) ?_ ?_
                  rotate_left
                  · show Act.put _ (some 60) _ = _
                    simp only [Act.put, List.setIfInBounds_toArray, List.set_cons_zero, List.set_cons_succ]
                    rfl
                  refine pure_ (i := 7) (N := (some 61)) (v := ?_) (a' := ?_) #[true, true, true, true, true, true, true, true, false, false, false, false, false, false, false, false, false, false, false, false, false] rfl rfl (by kernel_rfl) (fun _ _ _ h => h) (Or.inl ⟨by kernel_rfl, ?_⟩) ?_ ?_
                  rotate_left
                  · intro w_
                    go_simp
                    with_reducible rfl
                  rotate_left
                  · simp only [Act.put, List.setIfInBounds_toArray, List.set_cons_zero, List.set_cons_succ]
                    rfl
                  refine pure_ (i := 8) (N := (some 62)) (v := ?_) (a' := ?_) #[true, true, true, true, true, true, true, true, true, false, false, false, false, false, false, false, false, false, false, false, false] rfl rfl (by kernel_rfl) (fun _ _ _ h => h) (Or.inl ⟨by kernel_rfl, ?_⟩) ?_ ?_
                  rotate_left
                  · intro w_
                    go_simp
                    with_reducible rfl
                  rotate_left
                  · simp only [Act.put, List.setIfInBounds_toArray, List.set_cons_zero, List.set_cons_succ]
                    rfl
                  refine pure_ (i := 9) (N := (some 63)) (v := ?_) (a' := ?_) #[true, true, true, true, true, true, true, true, true, true, false, false, false, false, false, false, false, false, false, false, false] rfl rfl (by kernel_rfl) (fun _ _ _ h => h) (Or.inl ⟨by kernel_rfl, ?_⟩) ?_ ?_
                  rotate_left
                  · intro w_
                    go_simp
                    with_reducible rfl
                  rotate_left
                  · simp only [Act.put, List.setIfInBounds_toArray, List.set_cons_zero, List.set_cons_succ]
                    rfl
                  refine pure_ (i := 10) (N := (some 64)) (v := ?_) (a' := ?_) #[true, true, true, true, true, true, true, true, true, true, true, false, false, false, false, false, false, false, false, false, false] rfl rfl (by kernel_rfl) (fun _ _ _ h => h) (Or.inl ⟨by kernel_rfl, ?_⟩) ?_ ?_
                  rotate_left
                  · intro w_
                    go_simp
                    with_reducible rfl
                  rotate_left
                  · simp only [Act.put, List.setIfInBounds_toArray, List.set_cons_zero, List.set_cons_succ]
                    rfl
                  refine one_ (i := 11) (N := (some 65)) #[true, true, true, true, true, true, true, true, true, true, true, true, false, false, false, false, false, false, false, false, false] rfl rfl (by kernel_rfl) (by decide) (fun K hK => ?_)
                  refine goes_ Tryd.func92 (by kernel_rfl) rfl #[.pointer (some ⟨g, 0, none⟩), .string ⟨#[60, 47]⟩] (by kernel_rfl) rfl rfl (by kernel_rfl) ?_
                  refine (eat_calls HR9.out ⟨#[60, 47]⟩ (by decide)).mono ?_
                  rintro e w10 ⟨rfl, h10, hk10⟩
                  rw [hq5]
                  have HB10 := Aside0.mk (hk10.blk HB9.out hgg (by simp))
                  have HK10 := Aside0.mk (HK9.out.trans hk10 (.inl rfl))
                  have HF10 := Aside0.mk (Kd.F_keep HF9.out hk10 (fun k_ hk_ e_ => by have := hk_; omega))
                  have HW10 := Aside0.mk (HW9.out.keep hk10 (by omega))
                  rw [if_neg (by rw [hq5]; decide)] at h10
                  have H10 := Aside0.mk h10
                  clear h10 hk10
                  refine ⟨_, rfl, ?_⟩
                  refine hK.out _ _ ((blk_cell HB10.out 0).trans rfl) (fun hHeld => ?_)
                  clear hK K
                  refine norm_ (a' := ?_) ?_ ?_
                  rotate_left
                  · show Act.put _ (some 65) _ = _
                    simp only [Act.put, List.setIfInBounds_toArray, List.set_cons_zero, List.set_cons_succ]
                    rfl
                  refine pure_ (i := 12) (N := (some 66)) (v := ?_) (a' := ?_) #[true, true, true, true, true, true, true, true, true, true, true, true, true, false, false, false, false, false, false, false, false] rfl rfl (by kernel_rfl) (fun _ _ _ h => h) (Or.inl ⟨by kernel_rfl, ?_⟩) ?_ ?_
                  rotate_left
                  · intro w_
                    go_simp
                    with_reducible rfl
                  rotate_left
                  · simp only [Act.put, List.setIfInBounds_toArray, List.set_cons_zero, List.set_cons_succ]
                    rfl
                  refine pure_ (i := 13) (N := (some 67)) (v := ?_) (a' := ?_) #[true, true, true, true, true, true, true, true, true, true, true, true, true, true, false, false, false, false, false, false, false] rfl rfl (by kernel_rfl) (fun _ _ _ h => h) (Or.inl ⟨by kernel_rfl, ?_⟩) ?_ ?_
                  rotate_left
                  · intro w_
                    go_simp
                    with_reducible rfl
                  rotate_left
                  · simp only [Act.put, List.setIfInBounds_toArray, List.set_cons_zero, List.set_cons_succ]
                    rfl
                  refine pure_ (i := 14) (N := (some 68)) (v := ?_) (a' := ?_) #[true, true, true, true, true, true, true, true, true, true, true, true, true, true, true, false, false, false, false, false, false] rfl rfl (by kernel_rfl) (fun _ _ _ h => h) (Or.inl ⟨by kernel_rfl, ?_⟩) ?_ ?_
                  rotate_left
                  · intro w_
                    go_simp
                    with_reducible rfl
                  rotate_left
                  · simp only [Act.put, List.setIfInBounds_toArray, List.set_cons_zero, List.set_cons_succ]
                    rfl
                  refine pure_ (i := 15) (N := (some 69)) (v := undef) (a' := ?_) #[true, true, true, true, true, true, true, true, true, true, true, true, true, true, true, true, false, false, false, false, false] rfl rfl (by kernel_rfl) (fun _ _ _ h => h) (Or.inr ⟨by kernel_rfl, rfl⟩) ?_ ?_
                  rotate_left
                  · simp only [Act.put, List.setIfInBounds_toArray, List.set_cons_zero, List.set_cons_succ]
                    rfl
                  refine pure_ (i := 16) (N := (some 70)) (v := undef) (a' := ?_) #[true, true, true, true, true, true, true, true, true, true, true, true, true, true, true, true, true, false, false, false, false] rfl rfl (by kernel_rfl) (fun _ _ _ h => h) (Or.inr ⟨by kernel_rfl, rfl⟩) ?_ ?_
                  rotate_left
                  · simp only [Act.put, List.setIfInBounds_toArray, List.set_cons_zero, List.set_cons_succ]
                    rfl
                  refine pure_ (i := 17) (N := (some 71)) (v := undef) (a' := ?_) #[true, true, true, true, true, true, true, true, true, true, true, true, true, true, true, true, true, true, false, false, false] rfl rfl (by kernel_rfl) (fun _ _ _ h => h) (Or.inr ⟨by kernel_rfl, rfl⟩) ?_ ?_
                  rotate_left
                  · simp only [Act.put, List.setIfInBounds_toArray, List.set_cons_zero, List.set_cons_succ]
                    rfl
                  refine pure_ (i := 18) (N := (some 72)) (v := undef) (a' := ?_) #[true, true, true, true, true, true, true, true, true, true, true, true, true, true, true, true, true, true, true, false, false] rfl rfl (by kernel_rfl) (fun _ _ _ h => h) (Or.inr ⟨by kernel_rfl, rfl⟩) ?_ ?_
                  rotate_left
                  · simp only [Act.put, List.setIfInBounds_toArray, List.set_cons_zero, List.set_cons_succ]
                    rfl
                  refine pure_ (i := 19) (N := (some 73)) (v := undef) (a' := ?_) #[true, true, true, true, true, true, true, true, true, true, true, true, true, true, true, true, true, true, true, true, false] rfl rfl (by kernel_rfl) (fun _ _ _ h => h) (Or.inr ⟨by kernel_rfl, rfl⟩) ?_ ?_
                  rotate_left
                  · simp only [Act.put, List.setIfInBounds_toArray, List.set_cons_zero, List.set_cons_succ]
                    rfl
                  refine pure_ (i := 20) (N := (some 74)) (v := ?_) (a' := ?_) #[true, true, true, true, true, true, true, true, true, true, true, true, true, true, true, true, true, true, true, true, true] rfl rfl (by kernel_rfl) (fun _ _ _ h => h) (Or.inl ⟨by kernel_rfl, ?_⟩) ?_ ?_
                  rotate_left
                  · intro w_
                    go_simp
                    with_reducible rfl
                  rotate_left
                  · simp only [Act.put, List.setIfInBounds_toArray, List.set_cons_zero, List.set_cons_succ]
                    rfl
                  refine done_ (by kernel_rfl) ?_
                  go_wp2_with fail
                  apply wp_goto
                  exact ⟨rfl, ElemJ.mk H10.out HK10.out HB10.out (by rw [HE7.out]; unfold endV; rw [if_neg (by rw [hq5]; decide)])⟩
                | true =>
                  have HE8 : Aside0 (elemV s (d + 1) i = (if s.extract (m0 + 2) (skip innerV s (m0 + 2)) = nm then (if hasP s (skip whiteV s (skip innerV s (m0 + 2))) ⟨#[62]⟩ = true then some (⟨nm, t0, l0⟩, skip whiteV s (skip innerV s (m0 + 2)) + 1) else none) else none)) := ⟨by rw [HE7.out]; unfold endV; rw [if_pos hq5]⟩
                  clear HE7
                  obtain ⟨x2, hx2⟩ : ∃ x2, x2 = s.extract (m0 + 2) (skip innerV s (m0 + 2)) := ⟨_, rfl⟩
                  obtain ⟨j2, hj2⟩ : ∃ j2, j2 = skip innerV s (m0 + 2) := ⟨_, rfl⟩
                  have hE8 := HE8.out
                  rw [← hx2, ← hj2] at hE8
                  have HE9 := Aside0.mk hE8
                  have HX2 := Aside0.mk hx2
                  have HJ2 := Aside0.mk hj2
                  clear HE8 hE8 hx2 hj2
                  by_cases hnx : x2 = nm
                  · have hbx : (x2.toList == nm.toList) = true := by rw [hnx]; simp
                    have HE10 : Aside0 (elemV s (d + 1) i = (if hasP s (skip whiteV s j2) ⟨#[62]⟩ = true then some (⟨nm, t0, l0⟩, skip whiteV s j2 + 1) else none)) := ⟨by rw [HE9.out, if_pos hnx]⟩
                    clear HE9 hnx
                    refine start_ (n := 21) (S := fun w_ => w_.cell? ⟨gn, 0, none⟩ = some (.string nm)) (ds := []) #[false, false, false, false, false, false, false, false, false, false, false, false, false, false, false, false, false, false, false, false, false] (by kernel_rfl) rfl rfl ((blk_cell HB7.out 0).trans rfl) (fun hHeld => ?_)
                    refine pure_ (i := 0) (N := (some 54)) (v := ?_) (a' := ?_) #[true, false, false, false, false, false, false, false, false, false, false, false, false, false, false, false, false, false, false, false, false] rfl rfl (by kernel_rfl) (fun _ _ _ h => h) (Or.inl ⟨by kernel_rfl, ?_⟩) ?_ ?_
                    rotate_left
                    · intro w_
                      go_simp
                      with_reducible rfl
                    rotate_left
                    · simp only [Act.put, List.setIfInBounds_toArray, List.set_cons_zero, List.set_cons_succ]
                      rfl
                    refine one_ (i := 1) (N := (some 55)) #[true, true, false, false, false, false, false, false, false, false, false, false, false, false, false, false, false, false, false, false, false] rfl rfl (by kernel_rfl) (by decide) (fun K hK => ?_)
                    refine goes_ Tryd.func92 (by kernel_rfl) rfl #[.pointer (some ⟨g, 0, none⟩), .string ⟨#[62]⟩] (by kernel_rfl) rfl rfl (by kernel_rfl) ?_
                    refine (eat_calls (H7.out.drewN 1) ⟨#[62]⟩ (by decide)).mono ?_
                    rintro e w8 ⟨rfl, h8, hk8⟩
                    rw [hq4]
                    have HB8 := Aside0.mk (hk8.blk HB7.out hgg (by simp))
                    have HK8 := Aside0.mk ((keep_drewN HK7.out 1).trans hk8 (.inl rfl))
                    rw [if_pos (by rw [hq4])] at h8
                    refine ⟨_, rfl, ?_⟩
                    refine hK.out _ _ ((blk_cell HB8.out 0).trans rfl) (fun hHeld => ?_)
                    clear hK K
                    refine norm_ (a' := ?_) ?_ ?_
                    rotate_left
                    · show Act.put _ (some 55) _ = _
                      simp only [Act.put, List.setIfInBounds_toArray, List.set_cons_zero, List.set_cons_succ]
                      rfl
                    refine pure_ (i := 2) (N := (some 56)) (v := ?_) (a' := ?_) #[true, true, true, false, false, false, false, false, false, false, false, false, false, false, false, false, false, false, false, false, false] rfl rfl (by kernel_rfl) (fun _ _ _ h => h) (Or.inl ⟨by kernel_rfl, ?_⟩) ?_ ?_
                    rotate_left
                    · intro w_
                      go_simp
                      with_reducible rfl
                    rotate_left
                    · simp only [Act.put, List.setIfInBounds_toArray, List.set_cons_zero, List.set_cons_succ]
                      rfl
                    refine pure_ (i := 3) (N := (some 57)) (v := ?_) (a' := ?_) #[true, true, true, true, false, false, false, false, false, false, false, false, false, false, false, false, false, false, false, false, false] rfl rfl (by kernel_rfl) (fun _ _ _ h => h) (Or.inl ⟨by kernel_rfl, ?_⟩) ?_ ?_
                    rotate_left
                    · intro w_
                      go_simp
                      with_reducible rfl
                    rotate_left
                    · simp only [Act.put, List.setIfInBounds_toArray, List.set_cons_zero, List.set_cons_succ]
                      rfl
                    refine pure_ (i := 4) (N := (some 58)) (v := ?_) (a' := ?_) #[true, true, true, true, true, false, false, false, false, false, false, false, false, false, false, false, false, false, false, false, false] rfl rfl (by kernel_rfl) (fun _ _ _ h => h) (Or.inl ⟨by kernel_rfl, ?_⟩) ?_ ?_
                    rotate_left
                    · intro w_
                      go_simp
                      with_reducible rfl
                    rotate_left
                    · simp only [Act.put, List.setIfInBounds_toArray, List.set_cons_zero, List.set_cons_succ]
                      rfl
                    refine pure_ (i := 5) (N := (some 59)) (v := ?_) (a' := ?_) #[true, true, true, true, true, true, false, false, false, false, false, false, false, false, false, false, false, false, false, false, false] rfl rfl (by kernel_rfl) (fun _ _ _ h => h) (Or.inl ⟨by kernel_rfl, ?_⟩) ?_ ?_
                    rotate_left
                    · intro w_
                      go_simp
                      with_reducible rfl
                    rotate_left
                    · simp only [Act.put, List.setIfInBounds_toArray, List.set_cons_zero, List.set_cons_succ]
                      rfl
                    refine one_ (i := 6) (N := (some 60)) #[true, true, true, true, true, true, true, false, false, false, false, false, false, false, false, false, false, false, false, false, false] rfl rfl (by kernel_rfl) (by decide) (fun K hK => ?_)
                    refine goes_ Tryd.func95 (by kernel_rfl) rfl #[.pointer (some ⟨g, 0, none⟩), .pointer (some ⟨gn, 0, none⟩), .int .i64 (16 - (d : Int))] (by kernel_rfl) rfl rfl (by kernel_rfl) ?_
                    refine (HC.out w0 w8 g gn (k + 1) nm h8 ((HG2.out).keep HK8.out (by omega) (by simp)) h0 hgw0 hgg HB8.out).mono ?_
                    rintro e w9 ⟨t0_, l0_, A0, c0, b0, j0_, rfl, hB9, hle0, hF9, hW9, hR9, hk9, hm9⟩
                    rw [hcv] at hm9
                    obtain ⟨rfl, h1_, h2_, h3_⟩ := hm9
                    obtain rfl := h1_.symm
                    obtain rfl := h2_.symm
                    obtain rfl := h3_.symm
                    have HB9 := Aside0.mk hB9
                    have HR9 := Aside0.mk hR9
                    have HK9 := Aside0.mk (HK8.out.trans hk9 (.inr ⟨gn, rfl, hgw⟩))
                    have HF9 := Aside0.mk hF9
                    have HW9 := Aside0.mk hW9
                    have hgb : gn < w8.heap.size := blk_lt HB8.out
                    have hgb2 : g < w8.heap.size := h8.lt
                    have hwb : w.heap.size ≤ w8.heap.size := keep_size HK8.out
                    clear hB9 hR9 hk9 hF9 hW9
                    refine ⟨_, rfl, ?_⟩
                    refine hK.out _ _ ((blk_cell HB9.out 0).trans rfl) (fun hHeld => ?_)
                    clear hK K
                    refine norm_ (a' := ?_) ?_ ?_
                    rotate_left
                    · show Act.put _ (some 60) _ = _
                      simp only [Act.put, List.setIfInBounds_toArray, List.set_cons_zero, List.set_cons_succ]
                      rfl
                    refine pure_ (i := 7) (N := (some 61)) (v := ?_) (a' := ?_) #[true, true, true, true, true, true, true, true, false, false, false, false, false, false, false, false, false, false, false, false, false] rfl rfl (by kernel_rfl) (fun _ _ _ h => h) (Or.inl ⟨by kernel_rfl, ?_⟩) ?_ ?_
                    rotate_left
                    · intro w_
                      go_simp
                      with_reducible rfl
                    rotate_left
                    · simp only [Act.put, List.setIfInBounds_toArray, List.set_cons_zero, List.set_cons_succ]
                      rfl
                    refine pure_ (i := 8) (N := (some 62)) (v := ?_) (a' := ?_) #[true, true, true, true, true, true, true, true, true, false, false, false, false, false, false, false, false, false, false, false, false] rfl rfl (by kernel_rfl) (fun _ _ _ h => h) (Or.inl ⟨by kernel_rfl, ?_⟩) ?_ ?_
                    rotate_left
                    · intro w_
                      go_simp
                      with_reducible rfl
                    rotate_left
                    · simp only [Act.put, List.setIfInBounds_toArray, List.set_cons_zero, List.set_cons_succ]
                      rfl
                    refine pure_ (i := 9) (N := (some 63)) (v := ?_) (a' := ?_) #[true, true, true, true, true, true, true, true, true, true, false, false, false, false, false, false, false, false, false, false, false] rfl rfl (by kernel_rfl) (fun _ _ _ h => h) (Or.inl ⟨by kernel_rfl, ?_⟩) ?_ ?_
                    rotate_left
                    · intro w_
                      go_simp
                      with_reducible rfl
                    rotate_left
                    · simp only [Act.put, List.setIfInBounds_toArray, List.set_cons_zero, List.set_cons_succ]
                      rfl
                    refine pure_ (i := 10) (N := (some 64)) (v := ?_) (a' := ?_) #[true, true, true, true, true, true, true, true, true, true, true, false, false, false, false, false, false, false, false, false, false] rfl rfl (by kernel_rfl) (fun _ _ _ h => h) (Or.inl ⟨by kernel_rfl, ?_⟩) ?_ ?_
                    rotate_left
                    · intro w_
                      go_simp
                      with_reducible rfl
                    rotate_left
                    · simp only [Act.put, List.setIfInBounds_toArray, List.set_cons_zero, List.set_cons_succ]
                      rfl
                    refine one_ (i := 11) (N := (some 65)) #[true, true, true, true, true, true, true, true, true, true, true, true, false, false, false, false, false, false, false, false, false] rfl rfl (by kernel_rfl) (by decide) (fun K hK => ?_)
                    refine goes_ Tryd.func92 (by kernel_rfl) rfl #[.pointer (some ⟨g, 0, none⟩), .string ⟨#[60, 47]⟩] (by kernel_rfl) rfl rfl (by kernel_rfl) ?_
                    refine (eat_calls HR9.out ⟨#[60, 47]⟩ (by decide)).mono ?_
                    rintro e w10 ⟨rfl, h10, hk10⟩
                    rw [hq5]
                    have HB10 := Aside0.mk (hk10.blk HB9.out hgg (by simp))
                    have HK10 := Aside0.mk (HK9.out.trans hk10 (.inl rfl))
                    have HF10 := Aside0.mk (Kd.F_keep HF9.out hk10 (fun k_ hk_ e_ => by have := hk_; omega))
                    have HW10 := Aside0.mk (HW9.out.keep hk10 (by omega))
                    rw [if_pos (by rw [hq5])] at h10
                    have H10 := Aside0.mk h10
                    clear h10 hk10
                    refine ⟨_, rfl, ?_⟩
                    refine hK.out _ _ ((blk_cell HB10.out 0).trans rfl) (fun hHeld => ?_)
                    clear hK K
                    refine norm_ (a' := ?_) ?_ ?_
                    rotate_left
                    · show Act.put _ (some 65) _ = _
                      simp only [Act.put, List.setIfInBounds_toArray, List.set_cons_zero, List.set_cons_succ]
                      rfl
                    refine pure_ (i := 12) (N := (some 66)) (v := ?_) (a' := ?_) #[true, true, true, true, true, true, true, true, true, true, true, true, true, false, false, false, false, false, false, false, false] rfl rfl (by kernel_rfl) (fun _ _ _ h => h) (Or.inl ⟨by kernel_rfl, ?_⟩) ?_ ?_
                    rotate_left
                    · intro w_
                      go_simp
                      with_reducible rfl
                    rotate_left
                    · simp only [Act.put, List.setIfInBounds_toArray, List.set_cons_zero, List.set_cons_succ]
                      rfl
                    refine pure_ (i := 13) (N := (some 67)) (v := ?_) (a' := ?_) #[true, true, true, true, true, true, true, true, true, true, true, true, true, true, false, false, false, false, false, false, false] rfl rfl (by kernel_rfl) (fun _ _ _ h => h) (Or.inl ⟨by kernel_rfl, ?_⟩) ?_ ?_
                    rotate_left
                    · intro w_
                      go_simp
                      with_reducible rfl
                    rotate_left
                    · simp only [Act.put, List.setIfInBounds_toArray, List.set_cons_zero, List.set_cons_succ]
                      rfl
                    refine pure_ (i := 14) (N := (some 68)) (v := ?_) (a' := ?_) #[true, true, true, true, true, true, true, true, true, true, true, true, true, true, true, false, false, false, false, false, false] rfl rfl (by kernel_rfl) (fun _ _ _ h => h) (Or.inl ⟨by kernel_rfl, ?_⟩) ?_ ?_
                    rotate_left
                    · intro w_
                      go_simp
                      with_reducible rfl
                    rotate_left
                    · simp only [Act.put, List.setIfInBounds_toArray, List.set_cons_zero, List.set_cons_succ]
                      rfl
                    refine pure_ (i := 15) (N := (some 69)) (v := ?_) (a' := ?_) #[true, true, true, true, true, true, true, true, true, true, true, true, true, true, true, true, false, false, false, false, false] rfl rfl (by kernel_rfl) (fun _ _ _ h => h) (Or.inl ⟨by kernel_rfl, ?_⟩) ?_ ?_
                    rotate_left
                    · intro w_
                      go_simp
                      with_reducible rfl
                    rotate_left
                    · simp only [Act.put, List.setIfInBounds_toArray, List.set_cons_zero, List.set_cons_succ]
                      rfl
                    refine pure_ (i := 17) (N := (some 71)) (v := ?_) (a' := ?_) #[true, true, true, true, true, true, true, true, true, true, true, true, true, true, true, true, false, true, false, false, false] rfl rfl (by kernel_rfl) (fun _ _ _ h => h) (Or.inl ⟨by kernel_rfl, ?_⟩) ?_ ?_
                    rotate_left
                    · intro w_
                      go_simp
                      with_reducible rfl
                    rotate_left
                    · simp only [Act.put, List.setIfInBounds_toArray, List.set_cons_zero, List.set_cons_succ]
                      rfl
                    refine take_ (i := 18) (N := (some 72)) (v := ?_) (a' := ?_) #[true, true, true, true, true, true, true, true, true, true, true, true, true, true, true, true, false, true, true, false, false] rfl rfl (by kernel_rfl) (fun _ _ _ h => h) (Or.inl ⟨by kernel_rfl, ?_⟩) hHeld ?_ ?_
                    rotate_left
                    · rintro w_ s0
                      go_simp
                      with_reducible rfl
                    rotate_left
                    · simp only [Act.put, List.setIfInBounds_toArray, List.set_cons_zero, List.set_cons_succ]
                      rfl
                    refine one_ (i := 16) (N := (some 70)) #[true, true, true, true, true, true, true, true, true, true, true, true, true, true, true, true, true, true, true, false, false] rfl rfl (by kernel_rfl) (by decide) (fun K hK => ?_)
                    refine goes_ Tryd.func93 (by kernel_rfl) rfl #[.pointer (some ⟨g, 0, none⟩)] (by kernel_rfl) rfl rfl (by kernel_rfl) ?_
                    refine (name_calls (show Rd w0 w10 g s (m0 + 2) from H10.out)).mono ?_
                    rintro e w11 ⟨rfl, h11, hk11⟩
                    rw [← HX2.out]
                    rw [← HJ2.out] at h11
                    have H11 := Aside0.mk h11
                    have HB11 := Aside0.mk (hk11.blk HB10.out hgg (by simp))
                    have HK11 := Aside0.mk (HK10.out.trans hk11 (.inl rfl))
                    have HF11 := Aside0.mk (Kd.F_keep HF10.out hk11 (fun k_ hk_ e_ => by have := hk_; omega))
                    have HW11 := Aside0.mk (HW10.out.keep hk11 (by omega))
                    clear h11 hk11
                    refine ⟨_, rfl, ?_⟩
                    refine hK.out _ _ ((blk_cell HB11.out 0).trans rfl) (fun hHeld => ?_)
                    clear hK K
                    refine norm_ (a' := ?_) ?_ ?_
                    rotate_left
                    · show Act.put _ (some 70) _ = _
                      simp only [Act.put, List.setIfInBounds_toArray, List.set_cons_zero, List.set_cons_succ]
                      rfl
                    refine pure_ (i := 19) (N := (some 73)) (v := ?_) (a' := ?_) #[true, true, true, true, true, true, true, true, true, true, true, true, true, true, true, true, true, true, true, true, false] rfl rfl (by kernel_rfl) (fun _ _ _ h => h) (Or.inl ⟨by kernel_rfl, ?_⟩) ?_ ?_
                    rotate_left
                    · intro w_
                      go_simp
                      with_reducible rfl
                    rotate_left
                    · simp only [Act.put, List.setIfInBounds_toArray, List.set_cons_zero, List.set_cons_succ]
                      rfl
                    refine pure_ (i := 20) (N := (some 74)) (v := ?_) (a' := ?_) #[true, true, true, true, true, true, true, true, true, true, true, true, true, true, true, true, true, true, true, true, true] rfl rfl (by kernel_rfl) (fun _ _ _ h => h) (Or.inl ⟨by kernel_rfl, ?_⟩) ?_ ?_
                    rotate_left
                    · intro w_
                      go_simp
                      with_reducible rfl
                    rotate_left
                    · simp only [Act.put, List.setIfInBounds_toArray, List.set_cons_zero, List.set_cons_succ]
                      rfl
                    refine done_ (by kernel_rfl) ?_
                    go_wp2_with fail
                    refine (space_calls H11.out).mono ?_
                    rintro e w12 ⟨rfl, h12, hk12⟩
                    have HK12 := Aside0.mk (HK11.out.trans hk12 (.inl rfl))
                    have HB12 := Aside0.mk (hk12.blk HB11.out hgg (by simp))
                    have HF12 := Aside0.mk (Kd.F_keep HF11.out hk12 (fun k_ hk_ e_ => by have := hk_; omega))
                    have HW12 := Aside0.mk (HW11.out.keep hk12 (by omega))
                    go_wp2_with fail
                    refine (eat_calls h12 ⟨#[62]⟩ (by decide)).mono ?_
                    rintro e w13 ⟨rfl, h13, hk13⟩
                    have HK13 := Aside0.mk (HK12.out.trans hk13 (.inl rfl))
                    have hB13 := hk13.blk HB12.out hgg (by simp)
                    have HB13 := Aside0.mk hB13
                    have HF13 := Aside0.mk (Kd.F_keep HF12.out hk13 (fun k_ hk_ e_ => by have := hk_; omega))
                    have HW13 := Aside0.mk (HW12.out.keep hk13 (by omega))
                    clear HK11 HB11 HF11 HW11 HK12 HB12 HF12 HW12 hk12 hk13 h12 H11
                    cases hq6 : hasP s (skip whiteV s j2) ⟨#[62]⟩ with
                    | false =>
                      go_wp2_with fail
                      apply wp_goto
                      exact ⟨rfl, ElemJ.mk h13 HK13.out HB13.out (by rw [HE10.out, if_neg (by rw [hq6]; decide)])⟩
                    | true =>
                      have H13 := Aside0.mk h13
                      clear h13
                      have dz0 := blk_cell hB13 0
                      have dz1 := blk_cell hB13 1
                      have dz2 := blk_cell hB13 2
                      have gz0 := blk_frozen hB13 0
                      have gz1 := blk_frozen hB13 1
                      have gz2 := blk_frozen hB13 2
                      clear hB13
                      go_wp2
                      simp only [Exit.jump]
                      refine bodyPost_ret (elem_results rfl rfl (blk_set3 HB13.out)) rfl ⟨⟨nm, t0, l0⟩, A0, c0, true, skip whiteV s j2 + 1, rfl, hle0, ?_, ?_, ?_, ?_, ?_⟩
                      · exact Kd.F_mono (Kd.F_far (Kd.F_far (Kd.F_far HF13.out (p := ⟨gn, 0, none⟩) (fun k_ hk_ e_ => by have := hk_; have e2_ : k_ = gn := e_; omega) _) (p := ⟨gn, 1, none⟩) (fun k_ hk_ e_ => by have := hk_; have e2_ : k_ = gn := e_; omega) _) (p := ⟨gn, 2, none⟩) (fun k_ hk_ e_ => by have := hk_; have e2_ : k_ = gn := e_; omega) _) (fun k_ hk_ => by have := hk_; omega)
                      · exact (((HW13.out.far (p := ⟨gn, 0, none⟩) hgb _).far (p := ⟨gn, 1, none⟩) hgb _).far (p := ⟨gn, 2, none⟩) hgb _).lower (by omega)
                      · have h := H13.out
                        rw [if_pos hq6] at h
                        exact ((h.far (p := ⟨gn, 0, none⟩) hgg hgw0 _).far (p := ⟨gn, 1, none⟩) hgg hgw0 _).far (p := ⟨gn, 2, none⟩) hgg hgw0 _
                      · exact keep_far (keep_far (keep_far HK13.out (p := ⟨gn, 0, none⟩) hgw _) (p := ⟨gn, 1, none⟩) hgw _) (p := ⟨gn, 2, none⟩) hgw _
                      · rw [HE10.out, if_pos hq6]; exact ⟨rfl, rfl, rfl⟩
                  · have hbx : (x2.toList == nm.toList) = false := by rw [beq_eq_false_iff_ne]; exact fun h_ => hnx (ba_inj h_)
                    refine start_ (n := 21) (S := fun w_ => w_.cell? ⟨gn, 0, none⟩ = some (.string nm)) (ds := []) #[false, false, false, false, false, false, false, false, false, false, false, false, false, false, false, false, false, false, false, false, false] (by kernel_rfl) rfl rfl ((blk_cell HB7.out 0).trans rfl) (fun hHeld => ?_)
                    refine pure_ (i := 0) (N := (some 54)) (v := ?_) (a' := ?_) #[true, false, false, false, false, false, false, false, false, false, false, false, false, false, false, false, false, false, false, false, false] rfl rfl (by kernel_rfl) (fun _ _ _ h => h) (Or.inl ⟨by kernel_rfl, ?_⟩) ?_ ?_
                    rotate_left
                    · intro w_
                      go_simp
                      with_reducible rfl
                    rotate_left
                    · simp only [Act.put, List.setIfInBounds_toArray, List.set_cons_zero, List.set_cons_succ]
                      rfl
                    refine one_ (i := 1) (N := (some 55)) #[true, true, false, false, false, false, false, false, false, false, false, false, false, false, false, false, false, false, false, false, false] rfl rfl (by kernel_rfl) (by decide) (fun K hK => ?_)
                    refine goes_ Tryd.func92 (by kernel_rfl) rfl #[.pointer (some ⟨g, 0, none⟩), .string ⟨#[62]⟩] (by kernel_rfl) rfl rfl (by kernel_rfl) ?_
                    refine (eat_calls (H7.out.drewN 1) ⟨#[62]⟩ (by decide)).mono ?_
                    rintro e w8 ⟨rfl, h8, hk8⟩
                    rw [hq4]
                    have HB8 := Aside0.mk (hk8.blk HB7.out hgg (by simp))
                    have HK8 := Aside0.mk ((keep_drewN HK7.out 1).trans hk8 (.inl rfl))
                    rw [if_pos (by rw [hq4])] at h8
                    refine ⟨_, rfl, ?_⟩
                    refine hK.out _ _ ((blk_cell HB8.out 0).trans rfl) (fun hHeld => ?_)
                    clear hK K
                    refine norm_ (a' := ?_) ?_ ?_
                    rotate_left
                    · show Act.put _ (some 55) _ = _
                      simp only [Act.put, List.setIfInBounds_toArray, List.set_cons_zero, List.set_cons_succ]
                      rfl
                    refine pure_ (i := 2) (N := (some 56)) (v := ?_) (a' := ?_) #[true, true, true, false, false, false, false, false, false, false, false, false, false, false, false, false, false, false, false, false, false] rfl rfl (by kernel_rfl) (fun _ _ _ h => h) (Or.inl ⟨by kernel_rfl, ?_⟩) ?_ ?_
                    rotate_left
                    · intro w_
                      go_simp
                      with_reducible rfl
                    rotate_left
                    · simp only [Act.put, List.setIfInBounds_toArray, List.set_cons_zero, List.set_cons_succ]
                      rfl
                    refine pure_ (i := 3) (N := (some 57)) (v := ?_) (a' := ?_) #[true, true, true, true, false, false, false, false, false, false, false, false, false, false, false, false, false, false, false, false, false] rfl rfl (by kernel_rfl) (fun _ _ _ h => h) (Or.inl ⟨by kernel_rfl, ?_⟩) ?_ ?_
                    rotate_left
                    · intro w_
                      go_simp
                      with_reducible rfl
                    rotate_left
                    · simp only [Act.put, List.setIfInBounds_toArray, List.set_cons_zero, List.set_cons_succ]
                      rfl
                    refine pure_ (i := 4) (N := (some 58)) (v := ?_) (a' := ?_) #[true, true, true, true, true, false, false, false, false, false, false, false, false, false, false, false, false, false, false, false, false] rfl rfl (by kernel_rfl) (fun _ _ _ h => h) (Or.inl ⟨by kernel_rfl, ?_⟩) ?_ ?_
                    rotate_left
                    · intro w_
                      go_simp
                      with_reducible rfl
                    rotate_left
                    · simp only [Act.put, List.setIfInBounds_toArray, List.set_cons_zero, List.set_cons_succ]
                      rfl
                    refine pure_ (i := 5) (N := (some 59)) (v := ?_) (a' := ?_) #[true, true, true, true, true, true, false, false, false, false, false, false, false, false, false, false, false, false, false, false, false] rfl rfl (by kernel_rfl) (fun _ _ _ h => h) (Or.inl ⟨by kernel_rfl, ?_⟩) ?_ ?_
                    rotate_left
                    · intro w_
                      go_simp
                      with_reducible rfl
                    rotate_left
                    · simp only [Act.put, List.setIfInBounds_toArray, List.set_cons_zero, List.set_cons_succ]
                      rfl
                    refine one_ (i := 6) (N := (some 60)) #[true, true, true, true, true, true, true, false, false, false, false, false, false, false, false, false, false, false, false, false, false] rfl rfl (by kernel_rfl) (by decide) (fun K hK => ?_)
                    refine goes_ Tryd.func95 (by kernel_rfl) rfl #[.pointer (some ⟨g, 0, none⟩), .pointer (some ⟨gn, 0, none⟩), .int .i64 (16 - (d : Int))] (by kernel_rfl) rfl rfl (by kernel_rfl) ?_
                    refine (HC.out w0 w8 g gn (k + 1) nm h8 ((HG2.out).keep HK8.out (by omega) (by simp)) h0 hgw0 hgg HB8.out).mono ?_
                    rintro e w9 ⟨t0_, l0_, A0, c0, b0, j0_, rfl, hB9, hle0, hF9, hW9, hR9, hk9, hm9⟩
                    rw [hcv] at hm9
                    obtain ⟨rfl, h1_, h2_, h3_⟩ := hm9
                    obtain rfl := h1_.symm
                    obtain rfl := h2_.symm
                    obtain rfl := h3_.symm
                    have HB9 := Aside0.mk hB9
                    have HR9 := Aside0.mk hR9
                    have HK9 := Aside0.mk (HK8.out.trans hk9 (.inr ⟨gn, rfl, hgw⟩))
                    have HF9 := Aside0.mk hF9
                    have HW9 := Aside0.mk hW9
                    have hgb : gn < w8.heap.size := blk_lt HB8.out
                    have hgb2 : g < w8.heap.size := h8.lt
                    have hwb : w.heap.size ≤ w8.heap.size := keep_size HK8.out
                    clear hB9 hR9 hk9 hF9 hW9
                    refine ⟨_, rfl, ?_⟩
                    refine hK.out _ _ ((blk_cell HB9.out 0).trans rfl) (fun hHeld => ?_)
                    clear hK K
                    refine norm_ (a' := ?_) ?_ ?_
                    rotate_left
                    · show Act.put _ (some 60) _ = _
                      simp only [Act.put, List.setIfInBounds_toArray, List.set_cons_zero, List.set_cons_succ]
                      rfl
                    refine pure_ (i := 7) (N := (some 61)) (v := ?_) (a' := ?_) #[true, true, true, true, true, true, true, true, false, false, false, false, false, false, false, false, false, false, false, false, false] rfl rfl (by kernel_rfl) (fun _ _ _ h => h) (Or.inl ⟨by kernel_rfl, ?_⟩) ?_ ?_
                    rotate_left
                    · intro w_
                      go_simp
                      with_reducible rfl
                    rotate_left
                    · simp only [Act.put, List.setIfInBounds_toArray, List.set_cons_zero, List.set_cons_succ]
                      rfl
                    refine pure_ (i := 8) (N := (some 62)) (v := ?_) (a' := ?_) #[true, true, true, true, true, true, true, true, true, false, false, false, false, false, false, false, false, false, false, false, false] rfl rfl (by kernel_rfl) (fun _ _ _ h => h) (Or.inl ⟨by kernel_rfl, ?_⟩) ?_ ?_
                    rotate_left
                    · intro w_
                      go_simp
                      with_reducible rfl
                    rotate_left
                    · simp only [Act.put, List.setIfInBounds_toArray, List.set_cons_zero, List.set_cons_succ]
                      rfl
                    refine pure_ (i := 9) (N := (some 63)) (v := ?_) (a' := ?_) #[true, true, true, true, true, true, true, true, true, true, false, false, false, false, false, false, false, false, false, false, false] rfl rfl (by kernel_rfl) (fun _ _ _ h => h) (Or.inl ⟨by kernel_rfl, ?_⟩) ?_ ?_
                    rotate_left
                    · intro w_
                      go_simp
                      with_reducible rfl
                    rotate_left
                    · simp only [Act.put, List.setIfInBounds_toArray, List.set_cons_zero, List.set_cons_succ]
                      rfl
                    refine pure_ (i := 10) (N := (some 64)) (v := ?_) (a' := ?_) #[true, true, true, true, true, true, true, true, true, true, true, false, false, false, false, false, false, false, false, false, false] rfl rfl (by kernel_rfl) (fun _ _ _ h => h) (Or.inl ⟨by kernel_rfl, ?_⟩) ?_ ?_
                    rotate_left
                    · intro w_
                      go_simp
                      with_reducible rfl
                    rotate_left
                    · simp only [Act.put, List.setIfInBounds_toArray, List.set_cons_zero, List.set_cons_succ]
                      rfl
                    refine one_ (i := 11) (N := (some 65)) #[true, true, true, true, true, true, true, true, true, true, true, true, false, false, false, false, false, false, false, false, false] rfl rfl (by kernel_rfl) (by decide) (fun K hK => ?_)
                    refine goes_ Tryd.func92 (by kernel_rfl) rfl #[.pointer (some ⟨g, 0, none⟩), .string ⟨#[60, 47]⟩] (by kernel_rfl) rfl rfl (by kernel_rfl) ?_
                    refine (eat_calls HR9.out ⟨#[60, 47]⟩ (by decide)).mono ?_
                    rintro e w10 ⟨rfl, h10, hk10⟩
                    rw [hq5]
                    have HB10 := Aside0.mk (hk10.blk HB9.out hgg (by simp))
                    have HK10 := Aside0.mk (HK9.out.trans hk10 (.inl rfl))
                    have HF10 := Aside0.mk (Kd.F_keep HF9.out hk10 (fun k_ hk_ e_ => by have := hk_; omega))
                    have HW10 := Aside0.mk (HW9.out.keep hk10 (by omega))
                    rw [if_pos (by rw [hq5])] at h10
                    have H10 := Aside0.mk h10
                    clear h10 hk10
                    refine ⟨_, rfl, ?_⟩
                    refine hK.out _ _ ((blk_cell HB10.out 0).trans rfl) (fun hHeld => ?_)
                    clear hK K
                    refine norm_ (a' := ?_) ?_ ?_
                    rotate_left
                    · show Act.put _ (some 65) _ = _
                      simp only [Act.put, List.setIfInBounds_toArray, List.set_cons_zero, List.set_cons_succ]
                      rfl
                    refine pure_ (i := 12) (N := (some 66)) (v := ?_) (a' := ?_) #[true, true, true, true, true, true, true, true, true, true, true, true, true, false, false, false, false, false, false, false, false] rfl rfl (by kernel_rfl) (fun _ _ _ h => h) (Or.inl ⟨by kernel_rfl, ?_⟩) ?_ ?_
                    rotate_left
                    · intro w_
                      go_simp
                      with_reducible rfl
                    rotate_left
                    · simp only [Act.put, List.setIfInBounds_toArray, List.set_cons_zero, List.set_cons_succ]
                      rfl
                    refine pure_ (i := 13) (N := (some 67)) (v := ?_) (a' := ?_) #[true, true, true, true, true, true, true, true, true, true, true, true, true, true, false, false, false, false, false, false, false] rfl rfl (by kernel_rfl) (fun _ _ _ h => h) (Or.inl ⟨by kernel_rfl, ?_⟩) ?_ ?_
                    rotate_left
                    · intro w_
                      go_simp
                      with_reducible rfl
                    rotate_left
                    · simp only [Act.put, List.setIfInBounds_toArray, List.set_cons_zero, List.set_cons_succ]
                      rfl
                    refine pure_ (i := 14) (N := (some 68)) (v := ?_) (a' := ?_) #[true, true, true, true, true, true, true, true, true, true, true, true, true, true, true, false, false, false, false, false, false] rfl rfl (by kernel_rfl) (fun _ _ _ h => h) (Or.inl ⟨by kernel_rfl, ?_⟩) ?_ ?_
                    rotate_left
                    · intro w_
                      go_simp
                      with_reducible rfl
                    rotate_left
                    · simp only [Act.put, List.setIfInBounds_toArray, List.set_cons_zero, List.set_cons_succ]
                      rfl
                    refine pure_ (i := 15) (N := (some 69)) (v := ?_) (a' := ?_) #[true, true, true, true, true, true, true, true, true, true, true, true, true, true, true, true, false, false, false, false, false] rfl rfl (by kernel_rfl) (fun _ _ _ h => h) (Or.inl ⟨by kernel_rfl, ?_⟩) ?_ ?_
                    rotate_left
                    · intro w_
                      go_simp
                      with_reducible rfl
                    rotate_left
                    · simp only [Act.put, List.setIfInBounds_toArray, List.set_cons_zero, List.set_cons_succ]
                      rfl
                    refine pure_ (i := 17) (N := (some 71)) (v := ?_) (a' := ?_) #[true, true, true, true, true, true, true, true, true, true, true, true, true, true, true, true, false, true, false, false, false] rfl rfl (by kernel_rfl) (fun _ _ _ h => h) (Or.inl ⟨by kernel_rfl, ?_⟩) ?_ ?_
                    rotate_left
                    · intro w_
                      go_simp
                      with_reducible rfl
                    rotate_left
                    · simp only [Act.put, List.setIfInBounds_toArray, List.set_cons_zero, List.set_cons_succ]
                      rfl
                    refine take_ (i := 18) (N := (some 72)) (v := ?_) (a' := ?_) #[true, true, true, true, true, true, true, true, true, true, true, true, true, true, true, true, false, true, true, false, false] rfl rfl (by kernel_rfl) (fun _ _ _ h => h) (Or.inl ⟨by kernel_rfl, ?_⟩) hHeld ?_ ?_
                    rotate_left
                    · rintro w_ s0
                      go_simp
                      with_reducible rfl
                    rotate_left
                    · simp only [Act.put, List.setIfInBounds_toArray, List.set_cons_zero, List.set_cons_succ]
                      rfl
                    refine one_ (i := 16) (N := (some 70)) #[true, true, true, true, true, true, true, true, true, true, true, true, true, true, true, true, true, true, true, false, false] rfl rfl (by kernel_rfl) (by decide) (fun K hK => ?_)
                    refine goes_ Tryd.func93 (by kernel_rfl) rfl #[.pointer (some ⟨g, 0, none⟩)] (by kernel_rfl) rfl rfl (by kernel_rfl) ?_
                    refine (name_calls (show Rd w0 w10 g s (m0 + 2) from H10.out)).mono ?_
                    rintro e w11 ⟨rfl, h11, hk11⟩
                    rw [← HX2.out]
                    rw [← HJ2.out] at h11
                    have H11 := Aside0.mk h11
                    have HB11 := Aside0.mk (hk11.blk HB10.out hgg (by simp))
                    have HK11 := Aside0.mk (HK10.out.trans hk11 (.inl rfl))
                    have HF11 := Aside0.mk (Kd.F_keep HF10.out hk11 (fun k_ hk_ e_ => by have := hk_; omega))
                    have HW11 := Aside0.mk (HW10.out.keep hk11 (by omega))
                    clear h11 hk11
                    refine ⟨_, rfl, ?_⟩
                    refine hK.out _ _ ((blk_cell HB11.out 0).trans rfl) (fun hHeld => ?_)
                    clear hK K
                    refine norm_ (a' := ?_) ?_ ?_
                    rotate_left
                    · show Act.put _ (some 70) _ = _
                      simp only [Act.put, List.setIfInBounds_toArray, List.set_cons_zero, List.set_cons_succ]
                      rfl
                    refine pure_ (i := 19) (N := (some 73)) (v := ?_) (a' := ?_) #[true, true, true, true, true, true, true, true, true, true, true, true, true, true, true, true, true, true, true, true, false] rfl rfl (by kernel_rfl) (fun _ _ _ h => h) (Or.inl ⟨by kernel_rfl, ?_⟩) ?_ ?_
                    rotate_left
                    · intro w_
                      go_simp
                      with_reducible rfl
                    rotate_left
                    · simp only [Act.put, List.setIfInBounds_toArray, List.set_cons_zero, List.set_cons_succ]
                      rfl
                    refine pure_ (i := 20) (N := (some 74)) (v := ?_) (a' := ?_) #[true, true, true, true, true, true, true, true, true, true, true, true, true, true, true, true, true, true, true, true, true] rfl rfl (by kernel_rfl) (fun _ _ _ h => h) (Or.inl ⟨by kernel_rfl, ?_⟩) ?_ ?_
                    rotate_left
                    · intro w_
                      go_simp
                      with_reducible rfl
                    rotate_left
                    · simp only [Act.put, List.setIfInBounds_toArray, List.set_cons_zero, List.set_cons_succ]
                      rfl
                    refine done_ (by kernel_rfl) ?_
                    go_wp2_with fail
                    apply wp_goto
                    exact ⟨rfl, ElemJ.mk H11.out HK11.out HB11.out (by rw [HE9.out, if_neg hnx])⟩
        clear hKl
        go_loopg [20] (s.size + 1) (fun kq v wr => ∃ j, Aside0 (attrsV kq s j = attrsV (s.size + 1) s j0) ∧ s.size - j < kq ∧ Aside0 (Rd w0 wr g s j) ∧ Aside0 (KeepBut w wr g none) ∧ Aside0 (wr.heap[gn]? = some (.cells #[.string nm, .string ⟨#[]⟩, .slice none 0 0] 36 (0, 0))))
        case atStart => exact ⟨j0, ⟨rfl⟩, by omega, H3, HK3, HB3⟩
        case round =>
          obtain ⟨j, HA, hjk, HRj, HKj, HBj⟩ := hrel
          clear H3 HK3 HB3
          obtain ⟨k1, rfl⟩ : ∃ k1, gk = k1 + 1 := ⟨gk - 1, by omega⟩
          have hA := HA.out
          rw [attrsV] at hA
          obtain ⟨j', hj'⟩ : ∃ j', j' = skip whiteV s j := ⟨_, rfl⟩
          rw [← hj'] at hA
          have HA2 := Aside0.mk hA
          have hjs : j' ≤ s.size := by rw [hj']; exact skip_max HRj.out.le
          have hjj : j ≤ j' := by rw [hj']; exact le_skip _ _ _
          have HJ := Aside0.mk hj'
          clear hA HA hj'
          have p0 : (0 : Int) ≤ (j' : Int) := by omega
          have p1 : (j' : Int) ≤ (s.size : Int) := by omega
          have cA := HRj.out.cell0
          have HSP : ∀ w' : World, w' = wr.drew → Calls Tryd.prog 48 #[.pointer (some ⟨g, 0, none⟩)] w' fun e w' => e = .returned (.bool (decide (j < j'))) ∧ Rd w0 w' g s j' ∧ KeepBut wr w' g none := by
            rintro w' rfl
            have h := space_calls (HRj.out.drewN 1)
            rw [← HJ.out] at h
            exact h
          have HSP' := Aside0.mk HSP
          clear HSP
          have p2 : j' ≤ s.size := hjs
          have hc1 : ∃ c1, c1 = decide (j < j') := ⟨_, rfl⟩
          obtain ⟨c1, hc1⟩ := hc1
          obtain ⟨c2, hc2⟩ : ∃ c2, c2 = hasP s j' ⟨#[47]⟩ := ⟨_, rfl⟩
          obtain ⟨c3, hc3⟩ : ∃ c3, c3 = hasP s j' ⟨#[62]⟩ := ⟨_, rfl⟩
          have HP2 : Aside0 (∀ w' : World, Calls Tryd.prog 89 #[.string (s.extract j' s.size), .string ⟨#[47]⟩] w' fun e w2 => e = .returned (.bool c2) ∧ Drawn0 w' w2) := ⟨fun w' => by rw [hc2]; exact HasPrefix_calls s j' ⟨#[47]⟩ hsm (by decide) w'⟩
          have HP3 : Aside0 (∀ w' : World, Calls Tryd.prog 89 #[.string (s.extract j' s.size), .string ⟨#[62]⟩] w' fun e w2 => e = .returned (.bool c3) ∧ Drawn0 w' w2) := ⟨fun w' => by rw [hc3]; exact HasPrefix_calls s j' ⟨#[62]⟩ hsm (by decide) w'⟩
          have hA := HA2.out
          rw [← hc1, ← hc2, ← hc3] at hA
          have HSP : ∀ w' : World, w' = wr.drew → Calls Tryd.prog 48 #[.pointer (some ⟨g, 0, none⟩)] w' fun e w' => e = .returned (.bool c1) ∧ Rd w0 w' g s j' ∧ KeepBut wr w' g none := by
            rintro w' rfl
            have h := space_calls (HRj.out.drewN 1)
            rw [← HJ.out, ← hc1] at h
            exact h
          have HSP' := Aside0.mk HSP
          have HA3 := Aside0.mk hA
          have HC1 := Aside0.mk hc1
          clear HSP hA hc1 hc2 hc3 HA2
          have hcase : (c1 = false) ∨ (c1 = true ∧ c2 = true) ∨ (c1 = true ∧ c2 = false ∧ c3 = true) ∨ (c1 = true ∧ c2 = false ∧ c3 = false) := by
            cases c1 <;> cases c2 <;> cases c3 <;> simp
          rcases hcase with rfl | ⟨rfl, rfl⟩ | ⟨rfl, rfl, rfl⟩ | ⟨rfl, rfl, rfl⟩
          · go_wp2
            refine wp_region_2q (by kernel_rfl) (by kernel_rfl) (by kernel_rfl) (by kernel_rfl) (by kernel_rfl) (fun K hK => ?_)
            go_simp
            refine hK.out _ _ (fun K1 hK1 => ?_)
            clear hK K
            go_simp
            refine (HSP'.out _ rfl).mono ?_
            rintro e w5 ⟨rfl, h5, hk5⟩
            refine hK1.out _ _ ?_
            clear hK1 K1
            have cA5 := h5.cell0
            have cB5 := h5.cell1
            have H5 := Aside0.mk h5
            have HK5 := Aside0.mk (HKj.out.trans hk5 (.inl rfl))
            have HB5 := Aside0.mk (hk5.blk HBj.out hgg (by simp))
            clear h5 hk5 cA
            repeat (go_big_quiet_step (first | (go_at_call 89; with_reducible refine (HP2.out _).mono ?_; rintro e w2 ⟨rfl, ⟨n7, rfl⟩⟩; exact ⟨rfl, _, World.drewN_drewN _ _ _⟩) | (go_at_call 89; with_reducible refine (HP3.out _).mono ?_; rintro e w2 ⟨rfl, ⟨n7, rfl⟩⟩; exact ⟨rfl, _, World.drewN_drewN _ _ _⟩)))
            refine wpQuiet_nil ?_
            intro _ hw'
            obtain ⟨nq, hw''⟩ := hw'
            subst hw''
            go_wp2
            exact hM j' _ _ (by have := HA3.out; simpa using this.symm) (ElemM.mk (H5.out.drewN _) (keep_drewN HK5.out _) (blk_drewN HB5.out _))
          · go_wp2
            refine wp_region_2q (by kernel_rfl) (by kernel_rfl) (by kernel_rfl) (by kernel_rfl) (by kernel_rfl) (fun K hK => ?_)
            go_simp
            refine hK.out _ _ (fun K1 hK1 => ?_)
            clear hK K
            go_simp
            refine (HSP'.out _ rfl).mono ?_
            rintro e w5 ⟨rfl, h5, hk5⟩
            refine hK1.out _ _ ?_
            clear hK1 K1
            have cA5 := h5.cell0
            have cB5 := h5.cell1
            have H5 := Aside0.mk h5
            have HK5 := Aside0.mk (HKj.out.trans hk5 (.inl rfl))
            have HB5 := Aside0.mk (hk5.blk HBj.out hgg (by simp))
            clear h5 hk5 cA
            repeat (go_big_quiet_step (first | (go_at_call 89; with_reducible refine (HP2.out _).mono ?_; rintro e w2 ⟨rfl, ⟨n7, rfl⟩⟩; exact ⟨rfl, _, World.drewN_drewN _ _ _⟩) | (go_at_call 89; with_reducible refine (HP3.out _).mono ?_; rintro e w2 ⟨rfl, ⟨n7, rfl⟩⟩; exact ⟨rfl, _, World.drewN_drewN _ _ _⟩)))
            refine wpQuiet_nil ?_
            intro _ hw'
            obtain ⟨nq, hw''⟩ := hw'
            subst hw''
            go_wp2
            exact hM j' _ _ (by have := HA3.out; simpa using this.symm) (ElemM.mk (H5.out.drewN _) (keep_drewN HK5.out _) (blk_drewN HB5.out _))
          · go_wp2
            refine wp_region_2q (by kernel_rfl) (by kernel_rfl) (by kernel_rfl) (by kernel_rfl) (by kernel_rfl) (fun K hK => ?_)
            go_simp
            refine hK.out _ _ (fun K1 hK1 => ?_)
            clear hK K
            go_simp
            refine (HSP'.out _ rfl).mono ?_
            rintro e w5 ⟨rfl, h5, hk5⟩
            refine hK1.out _ _ ?_
            clear hK1 K1
            have cA5 := h5.cell0
            have cB5 := h5.cell1
            have H5 := Aside0.mk h5
            have HK5 := Aside0.mk (HKj.out.trans hk5 (.inl rfl))
            have HB5 := Aside0.mk (hk5.blk HBj.out hgg (by simp))
            clear h5 hk5 cA
            repeat (go_big_quiet_step (first | (go_at_call 89; with_reducible refine (HP2.out _).mono ?_; rintro e w2 ⟨rfl, ⟨n7, rfl⟩⟩; exact ⟨rfl, _, World.drewN_drewN _ _ _⟩) | (go_at_call 89; with_reducible refine (HP3.out _).mono ?_; rintro e w2 ⟨rfl, ⟨n7, rfl⟩⟩; exact ⟨rfl, _, World.drewN_drewN _ _ _⟩)))
            refine wpQuiet_nil ?_
            intro _ hw'
            obtain ⟨nq, hw''⟩ := hw'
            subst hw''
            go_wp2
            exact hM j' _ _ (by have := HA3.out; simpa using this.symm) (ElemM.mk (H5.out.drewN _) (keep_drewN HK5.out _) (blk_drewN HB5.out _))
          · go_wp2
            refine wp_region_2q (by kernel_rfl) (by kernel_rfl) (by kernel_rfl) (by kernel_rfl) (by kernel_rfl) (fun K hK => ?_)
            go_simp
            refine hK.out _ _ (fun K1 hK1 => ?_)
            clear hK K
            go_simp
            refine (HSP'.out _ rfl).mono ?_
            rintro e w5 ⟨rfl, h5, hk5⟩
            refine hK1.out _ _ ?_
            clear hK1 K1
            have cA5 := h5.cell0
            have cB5 := h5.cell1
            have H5 := Aside0.mk h5
            have HK5 := Aside0.mk (HKj.out.trans hk5 (.inl rfl))
            have HB5 := Aside0.mk (hk5.blk HBj.out hgg (by simp))
            clear h5 hk5 cA
            repeat (go_big_quiet_step (first | (go_at_call 89; with_reducible refine (HP2.out _).mono ?_; rintro e w2 ⟨rfl, ⟨n7, rfl⟩⟩; exact ⟨rfl, _, World.drewN_drewN _ _ _⟩) | (go_at_call 89; with_reducible refine (HP3.out _).mono ?_; rintro e w2 ⟨rfl, ⟨n7, rfl⟩⟩; exact ⟨rfl, _, World.drewN_drewN _ _ _⟩)))
            refine wpQuiet_nil ?_
            intro _ hw'
            obtain ⟨nq, hw''⟩ := hw'
            subst hw''
            go_wp2_with fail
            refine (attribute_calls (H5.out.drewN _)).mono ?_
            rintro e w6 ⟨b, m, rfl, h6, hk6, hm6⟩
            have H6 := Aside0.mk h6
            have HK6 := Aside0.mk ((keep_drewN HK5.out _).trans hk6 (.inl rfl))
            have HB6 := Aside0.mk (hk6.blk (blk_drewN HB5.out _) hgg (by simp))
            have hm6le := h6.le
            clear h6 hk6 cA5 cB5 H5 HK5 HB5
            have hA3 := HA3.out
            cases hv : attrV s j' with
            | none =>
              rw [hv] at hm6 hA3
              simp only [] at hm6
              subst hm6
              have HN : Aside0 (elemV s (d + 1) i = none) := ⟨by
                rw [HE3.out]
                unfold atV
                rw [← hA3]
                simp⟩
              clear hA3
              go_wp2_with fail
              apply wp_goto
              exact ⟨rfl, ElemJ.mk H6.out HK6.out HB6.out HN.out⟩
            | some m' =>
              have hgt := attrV_gt hv
              rw [hv] at hm6 hA3
              simp only [] at hm6
              obtain ⟨rfl, rfl⟩ := hm6
              have HA4 : Aside0 (attrsV k1 s m = attrsV (s.size + 1) s j0) := ⟨by simpa using hA3⟩
              clear hA3
              go_wp2
              go_roundg k1
              case measure => omega
              case rel => exact ⟨m, HA4, by omega, H6, HK6, HB6⟩
end Go.Proofs.YtkhjpobhdpcglaaDoor.X
end
section
namespace Go.Proofs.YtkhjpobhdpcglaaDoor.X
open Go.RowKit Go.Proofs.YtkhjpobhdpcglaaDoorW.PrintWords Go.Proofs.YtkhjpobhdpcglaaDoorW.PrintLast Go.Proofs.YtkhjpobhdpcglaaDoorW.PrintMore
set_option linter.unusedVariables false
set_option linter.unusedSimpArgs false

/-- a part of a function's code, by its place -/
def codeAt : List Nat → Code → Code
  | 0 :: r, .seq a _ => codeAt r a
  | 1 :: r, .seq _ b => codeAt r b
  | 0 :: r, .cond _ a _ => codeAt r a
  | 1 :: r, .cond _ _ b => codeAt r b
  | 0 :: r, .block _ a => codeAt r a
  | 0 :: r, .loop a => codeAt r a
  | 0 :: r, .scope a => codeAt r a
  | _, c => c
def codeIn (f : Func) (l : List Nat) : Code := codeAt l (f.body.getD .skip)
def ElemOk (s : ByteArray) (d : Nat) : Prop := ∀ (w0 w : World) (g i : Nat), Rd w0 w g s i → GOK w → 0 < w0.heap.size →
      Calls Tryd.prog 49 #[.pointer (some ⟨g, 0, none⟩), .int .i64 (16 - (d : Int) + 1)] w (ElemPost w0 w g s (elemV s d i))
/-- the elements so far, in the block of their own -/
structure KidsAt (w wr : World) (gn : Nat) (nm : ByteArray) (l : List S36) (A : Option Addr) (c : Nat) : Prop where
  blk : wr.heap[gn]? = some (.cells #[.string nm, .string ⟨#[]⟩, .slice A l.length c] 36 (0, 0))
  row : Kd.N k36 36 wr w.heap.size (fun k => w.heap.size ≤ k) (.slice A l.length c) l
  nil : l = [] → A = none ∧ c = 0
theorem keepWeak {w w' : World} {g : Nat} (h : KeepBut w w' g none) (row : Option Nat) : KeepBut w w' g row := ⟨h.1, fun i hi hg _ => h.2 i hi hg (by simp)⟩
theorem KidsAt.wr {w wr : World} {gn : Nat} {nm : ByteArray} {l : List S36} {A : Option Addr} {c : Nat} (h : KidsAt w wr gn nm l A c) : Wr wr w.heap.size A := fun ad hA => by
  subst hA
  obtain ⟨g', rfl⟩ : ∃ g', ad = ⟨g', 0, none⟩ := by
    obtain ⟨_, rows, _, hR, _⟩ := h.row
    exact Kd.R_head hR
  have hb := Kd.N_base h.row g' (by simp [Value.ownBlock])
  obtain ⟨cells, hc⟩ := Kd.N_typed h.row g' (by simp [Value.ownBlock])
  exact ⟨g', cells, rfl, hb, hc⟩
theorem KidsAt.f {w wr : World} {gn : Nat} {nm : ByteArray} {l : List S36} {A : Option Addr} {c : Nat} (h : KidsAt w wr gn nm l A c) : Kd.F k36 wr (fun k => w.heap.size ≤ k) A l.length l := Kd.N_F h.row
theorem KidsAt.le {w wr : World} {gn : Nat} {nm : ByteArray} {l : List S36} {A : Option Addr} {c : Nat} (h : KidsAt w wr gn nm l A c) : l.length ≤ c := (Kd.N_reads' h.row).2.1
theorem KidsAt.drewN {w wr : World} {gn : Nat} {nm : ByteArray} {l : List S36} {A : Option Addr} {c : Nat} (h : KidsAt w wr gn nm l A c) (n : Nat) : KidsAt w (wr.drewN n) gn nm l A c := ⟨blk_drewN h.blk n, Kd.N_drewN h.row n, h.nil⟩
theorem KidsAt.keep {w wr w' : World} {g gn : Nat} {nm : ByteArray} {l : List S36} {A : Option Addr} {c : Nat} (h : KidsAt w wr gn nm l A c) (hk : KeepBut wr w' g none) (hg : g < w.heap.size) (hgn : gn ≠ g) : KidsAt w w' gn nm l A c :=
  ⟨hk.blk h.blk hgn (by simp), Kd.N_keep h.row hk (fun k hk_ e_ => by have := hk_; omega), h.nil⟩
/-- two that may come up, both of ds -/
theorem two_last_ {P : Program} {ops : Array Oper} {Q : Exit → Act → World → Prop} {md : Region.Mode} {S : World → Prop} {ds : List Nat} {i j : Nat} {Ni Nj : Option Tmp} {oi oj : Oper} {fuel : Nat} {l : Array Bool} {a : Act} {w : World} (li lj : Array Bool) (hi : ops[i]? = some oi) (hj : ops[j]? = some oj) (hNi : oi.dst = Ni) (hNj : oj.dst = Nj)
    (hc : (Region.ready md ops l == [i, j] && l.setIfInBounds i true == li && l.setIfInBounds j true == lj) = true) (hdi : i ∈ ds) (hdj : j ∈ ds)
    (h1 : ∀ K : Act → World → Prop, Shut (∀ a' w', wpAnyLast P md ops Q S ds fuel li a' w' → K a' w') → if Region.wanted oi (yielded ops a.tmps) = true then Oper.wp P oi a w K Q else K (a.put Ni undef) w)
    (h2 : ∀ K : Act → World → Prop, Shut (∀ a' w', wpAnyLast P md ops Q S ds fuel lj a' w' → K a' w') → if Region.wanted oj (yielded ops a.tmps) = true then Oper.wp P oj a w K Q else K (a.put Nj undef) w) :
    wpAnyLast P md ops Q S ds (fuel + 1) l a w := by
  subst hNi
  subst hNj
  simp only [Bool.and_eq_true, beq_iff_eq] at hc
  obtain ⟨⟨h3, h4⟩, h5⟩ := hc
  subst h4
  subst h5
  exact wpAnyLast_ready h3 (by simp) (AllReadyL.cons_last hi hdi (fun K hK => h1 K hK) (AllReadyL.cons_last hj hdj (fun K hK => h2 K hK) AllReadyL.nil))
/-- a row of three cells stored in a block -/
theorem store3_run {P : Program} {oi : Oper} {a : Act} {w : World} {p x : Operand} {g o : Nat} {cur : Array Value} {x0 x1 x2 : Value} (hop : oi.op = .store 36 p x) (hp : a.eval p = .pointer (some ⟨g, o, none⟩)) (hx : a.eval x = .agg #[x0, x1, x2]) (hi : (P.info? 36).map (·.size) = some 3)
    (hh : w.heap[g]? = some (.cells cur 36 (0, 0))) (hfit : o + 3 ≤ cur.size) (h0 : x0.oneCell' = true) (h1 : x1.oneCell' = true) (h2 : x2.oneCell' = true) (hc : (Value.agg #[x0, x1, x2]).cells.toList = [x0, x1, x2]) :
    (execOp a.eval oi).run P w = .ok .skip (w.setCells g o [x0, x1, x2]) := by
  have hrun := run_store_run (P := P) (w := w) 36 (.agg #[x0, x1, x2]) [x0, x1, x2] hh hc hi hfit (by intro q hq; simp only [List.mem_cons, List.not_mem_nil, or_false] at hq; rcases hq with rfl | rfl | rfl <;> assumption)
  unfold execOp
  simp only [hop, hp, hx, Sem.run_bind, Sem.run_pure, Result.andThen_ok, hrun]
/-- content's frame -/
def ContFr (g gn d i : Nat) (a' : Act) : Prop := ∃ u : Nat → Value, a' = { tmps := #[.pointer (some ⟨g, 0, none⟩), .pointer (some ⟨gn, 0, none⟩), .int .i64 (16 - (d : Int)), u 3, u 4, u 5, u 6, .int .i64 i, u 8, u 9, u 10, u 11, u 12, u 13, u 14, u 15, u 16, u 17, u 18, u 19, u 20, u 21, u 22, u 23, u 24, u 25, u 26, u 27, u 28, u 29, u 30, u 31, u 32, u 33, u 34, u 35, u 36, u 37, u 38, u 39, u 40, u 41, u 42, u 43, u 44, u 45, u 46, u 47, u 48, u 49, u 50, u 51, u 52, u 53, u 54, u 55, u 56, u 57, u 58, u 59, u 60, u 61, u 62, u 63, u 64, u 65, u 66, u 67, u 68, u 69, u 70, u 71, u 72, u 73, u 74, u 75, u 76, u 77, u 78, u 79, u 80, u 81, u 82, u 83, u 84, u 85, u 86, u 87, u 88, u 89, u 90, u 91, u 92, u 93, u 94, u 95, u 96, u 97, u 98, u 99, u 100, u 101, u 102, u 103, u 104, u 105, u 106, u 107, u 108, u 109, u 110, u 111, u 112, u 113, u 114, u 115, u 116, u 117, u 118, u 119, u 120], defers := [] }
theorem ContFr.mk {g gn d i : Nat} {u3 u4 u5 u6 u8 u9 u10 u11 u12 u13 u14 u15 u16 u17 u18 u19 u20 u21 u22 u23 u24 u25 u26 u27 u28 u29 u30 u31 u32 u33 u34 u35 u36 u37 u38 u39 u40 u41 u42 u43 u44 u45 u46 u47 u48 u49 u50 u51 u52 u53 u54 u55 u56 u57 u58 u59 u60 u61 u62 u63 u64 u65 u66 u67 u68 u69 u70 u71 u72 u73 u74 u75 u76 u77 u78 u79 u80 u81 u82 u83 u84 u85 u86 u87 u88 u89 u90 u91 u92 u93 u94 u95 u96 u97 u98 u99 u100 u101 u102 u103 u104 u105 u106 u107 u108 u109 u110 u111 u112 u113 u114 u115 u116 u117 u118 u119 u120 : Value} : ContFr g gn d i { tmps := #[.pointer (some ⟨g, 0, none⟩), .pointer (some ⟨gn, 0, none⟩), .int .i64 (16 - (d : Int)), u3, u4, u5, u6, .int .i64 i, u8, u9, u10, u11, u12, u13, u14, u15, u16, u17, u18, u19, u20, u21, u22, u23, u24, u25, u26, u27, u28, u29, u30, u31, u32, u33, u34, u35, u36, u37, u38, u39, u40, u41, u42, u43, u44, u45, u46, u47, u48, u49, u50, u51, u52, u53, u54, u55, u56, u57, u58, u59, u60, u61, u62, u63, u64, u65, u66, u67, u68, u69, u70, u71, u72, u73, u74, u75, u76, u77, u78, u79, u80, u81, u82, u83, u84, u85, u86, u87, u88, u89, u90, u91, u92, u93, u94, u95, u96, u97, u98, u99, u100, u101, u102, u103, u104, u105, u106, u107, u108, u109, u110, u111, u112, u113, u114, u115, u116, u117, u118, u119, u120], defers := [] } := ⟨fun k => ([undef, undef, undef, u3, u4, u5, u6, undef, u8, u9, u10, u11, u12, u13, u14, u15, u16, u17, u18, u19, u20, u21, u22, u23, u24, u25, u26, u27, u28, u29, u30, u31, u32, u33, u34, u35, u36, u37, u38, u39, u40, u41, u42, u43, u44, u45, u46, u47, u48, u49, u50, u51, u52, u53, u54, u55, u56, u57, u58, u59, u60, u61, u62, u63, u64, u65, u66, u67, u68, u69, u70, u71, u72, u73, u74, u75, u76, u77, u78, u79, u80, u81, u82, u83, u84, u85, u86, u87, u88, u89, u90, u91, u92, u93, u94, u95, u96, u97, u98, u99, u100, u101, u102, u103, u104, u105, u106, u107, u108, u109, u110, u111, u112, u113, u114, u115, u116, u117, u118, u119, u120] : List Value).getD k undef, rfl⟩
theorem Rd.upto {w0 w w' : World} {g : Nat} {s : ByteArray} {i B : Nat} (h : Rd w0 w g s i) (hb : Below B w w') (hg : g < B) (h0 : w0.heap.size ≤ B) : Rd w0 w' g s i :=
  ⟨⟨(hb.block g hg).trans h.st.1, h.st.2⟩, below_weaken h.below h0 hb, h.le, h.small⟩
theorem N_shape {w : World} {e base : Nat} {ok : Nat → Prop} {v : Value} {l : List S36} (h : Kd.N k36 e w base ok v l) (hl0 : 0 < l.length) : ∃ g' c', v = .slice (some ⟨g', 0, none⟩) l.length c' := by
  obtain ⟨_, rows, hl, ⟨_, inner, ho, hr⟩, _⟩ := h
  rcases ho.2 with ⟨hv, h0⟩ | ⟨g2, cap', cur, hv, _⟩
  · simp_all
  · exact ⟨g2, cap', by rw [hv, hl]⟩
theorem N_cur {w : World} {base : Nat} {ok : Nat → Prop} {g' n c : Nat} {l : List S36} (h : Kd.N k36 36 w base ok (.slice (some ⟨g', 0, none⟩) n c) l) : ∃ cur, w.heap[g']? = some (.cells cur 36 (0, 0)) ∧ n * 3 ≤ cur.size := by
  obtain ⟨_, rows, hl, ⟨_, inner, ho, hr⟩, _⟩ := h
  rcases ho.2 with ⟨hv, _⟩ | ⟨g2, cap', cur, hv, hb, hh, hnc, hcm, hcs, ht⟩
  · cases hv
  injection hv with ha hn hc
  injection ha with ha
  injection ha with hg'
  subst hg'
  subst hc
  refine ⟨cur, hh, ?_⟩
  have h3 : rows.length * 3 ≤ c * 3 := Nat.mul_le_mul_right _ hnc
  have h4 : cur.size = c * 3 := hcs
  omega
/-- an element more in the row, and the row's slice in the element: in either order -/
theorem kids_put {w w8 : World} {gn g' c' : Nat} {nm : ByteArray} {l : List S36} {n : S36} {A1 : Option Addr} {d1 b5 : Nat} {x : Value}
    (hgn : gn < w.heap.size) (hb : w8.heap[gn]? = some (.cells #[.string nm, .string ⟨#[]⟩, x] 36 (0, 0)))
    (hN : Kd.N k36 36 w8 w.heap.size (fun k => w.heap.size ≤ k) (.slice (some ⟨g', 0, none⟩) (l.length + 1) c') (l ++ [z36]))
    (hle : n.f2.length ≤ d1) (hF : Kd.F k36 w8 (fun k => b5 ≤ k ∧ k ≠ g') A1 n.f2.length n.f2) (hb5 : w.heap.size ≤ b5) :
    (∃ cur, w8.heap[g']? = some (.cells cur 36 (0, 0)) ∧ l.length * 3 + 3 ≤ cur.size) ∧ gn ≠ g' ∧
    (KidsAt w ((w8.setCells g' (l.length * 3) [.string n.f0, .string n.f1, .slice A1 n.f2.length d1]).setCell ⟨gn, 2, none⟩ (.slice (some ⟨g', 0, none⟩) (l.length + 1) c')) gn nm (l ++ [n]) (some ⟨g', 0, none⟩) c') ∧
    (KidsAt w ((w8.setCell ⟨gn, 2, none⟩ (.slice (some ⟨g', 0, none⟩) (l.length + 1) c')).setCells g' (l.length * 3) [.string n.f0, .string n.f1, .slice A1 n.f2.length d1]) gn nm (l ++ [n]) (some ⟨g', 0, none⟩) c') ∧
    (∀ {w0 : World} {g m : Nat} {s : ByteArray}, Rd w0 w8 g s m → KeepBut w w8 g (some gn) → gn ≠ g → w0.heap.size ≤ gn → g < w.heap.size → (Rd w0 ((w8.setCells g' (l.length * 3) [.string n.f0, .string n.f1, .slice A1 n.f2.length d1]).setCell ⟨gn, 2, none⟩ (.slice (some ⟨g', 0, none⟩) (l.length + 1) c')) g s m ∧ KeepBut w ((w8.setCells g' (l.length * 3) [.string n.f0, .string n.f1, .slice A1 n.f2.length d1]).setCell ⟨gn, 2, none⟩ (.slice (some ⟨g', 0, none⟩) (l.length + 1) c')) g (some gn)) ∧ Rd w0 ((w8.setCell ⟨gn, 2, none⟩ (.slice (some ⟨g', 0, none⟩) (l.length + 1) c')).setCells g' (l.length * 3) [.string n.f0, .string n.f1, .slice A1 n.f2.length d1]) g s m ∧ KeepBut w ((w8.setCell ⟨gn, 2, none⟩ (.slice (some ⟨g', 0, none⟩) (l.length + 1) c')).setCells g' (l.length * 3) [.string n.f0, .string n.f1, .slice A1 n.f2.length d1]) g (some gn)) := by
  have hbase := Kd.N_base hN g' (by simp [Value.ownBlock])
  have hne : gn ≠ g' := by omega
  have hset : (l ++ [z36]).set l.length n = l ++ [n] := by
    rw [List.set_append_right _ _ (Nat.le_refl _)]
    simp
  have hlen : (l ++ [n]).length = l.length + 1 := by simp
  have seg : ∀ W, Kd.N k36 36 W w.heap.size (fun k => w.heap.size ≤ k) (.slice (some ⟨g', 0, none⟩) (l.length + 1) c') (l ++ [z36]) → Kd.F k36 W (fun k => b5 ≤ k ∧ k ≠ g') A1 n.f2.length n.f2 →
      Kd.N k36 36 (W.setCells g' (l.length * 3) [.string n.f0, .string n.f1, .slice A1 n.f2.length d1]) w.heap.size (fun k => w.heap.size ≤ k) (.slice (some ⟨g', 0, none⟩) (l.length + 1) c') (l ++ [n]) ∧ W.grownBy (W.setCells g' (l.length * 3) [.string n.f0, .string n.f1, .slice A1 n.f2.length d1]) (some g') := by
    intro W h1 h2
    have hK : Kd.FK k36 W (fun k => b5 ≤ k ∧ k ≠ g') n [.string n.f0, .string n.f1, .slice A1 n.f2.length d1] := k36_mkF W _ n hle h2
    obtain ⟨c, hc1, _, hc2, _⟩ := Kd.N_elem h1 z36 (l.length : Int) (by omega) (by omega)
    have h3 := Kd.N_seg h1 (l.length : Int) (by omega) (by omega) (c := c) (seg := [.string n.f0, .string n.f1, .slice A1 n.f2.length d1]) (j := 0) hc1 hc2 (by show 0 + 3 ≤ 3; omega) (x' := n)
      (okp := fun k => b5 ≤ k ∧ k ≠ g') (by
        have : c.drop (0 + ([.string n.f0, .string n.f1, .slice A1 n.f2.length d1] : List Value).length) = [] := List.drop_of_length_le (by rw [hc1]; exact Nat.le_refl 3)
        rw [this]
        simpa using hK) (fun k hk => ⟨by omega, hk.2⟩)
    have h4 : ((l.length : Int).toNat * k36.sz + 0) = l.length * 3 := rfl
    rw [h4, Int.toNat_natCast, hset] at h3
    exact h3
  obtain ⟨cur, hcur, hsz⟩ := N_cur hN
  have hnl : ∀ (W : World) (A : Option Addr) (c : Nat) (nm' : ByteArray), l ++ [n] = [] → A = Option.none ∧ c = 0 := fun _ _ _ _ h => by simp at h
  have hba : ∀ k, w.heap.size ≤ k → k ≠ gn := fun k hk he => by omega
  have hbb : ∀ k, (b5 ≤ k ∧ k ≠ g') → k ≠ gn := fun k hk he => by omega
  obtain ⟨s1, s2⟩ := seg w8 hN hF
  obtain ⟨s3, s4⟩ := seg (w8.setCell ⟨gn, 2, none⟩ (.slice (some ⟨g', 0, none⟩) (l.length + 1) c')) (Kd.N_far (p := ⟨gn, 2, none⟩) hN hba _) (Kd.F_step hF (fun k hk _ => Below.heap_setCell w8 ⟨gn, 2, none⟩ _ k (hbb k hk)))
  have b1 : (w8.setCells g' (l.length * 3) [.string n.f0, .string n.f1, .slice A1 n.f2.length d1]).heap[gn]? = some (.cells #[.string nm, .string ⟨#[]⟩, x] 36 (0, 0)) := blk_grown hb s2 (by intro h; injection h with h; omega)
  have b2 : (w8.setCell ⟨gn, 2, none⟩ (.slice (some ⟨g', 0, none⟩) (l.length + 1) c')).heap[gn]? = some (.cells #[.string nm, .string ⟨#[]⟩, .slice (some ⟨g', 0, none⟩) (l.length + 1) c'] 36 (0, 0)) := blk_put hb 2 _ rfl
  refine ⟨⟨cur, hcur, by omega⟩, hne, ⟨?_, ?_, fun h => by simp at h⟩, ⟨?_, ?_, fun h => by simp at h⟩, ?_⟩
  · rw [hlen]
    exact blk_put b1 2 _ rfl
  · rw [hlen]
    exact Kd.N_far (p := ⟨gn, 2, none⟩) s1 hba _
  · rw [hlen]
    exact blk_grown b2 s4 (by intro h; injection h with h; omega)
  · rw [hlen]
    exact s3
  · intro w0 g m s hR hK hgg h0 hg
    have hw : w.heap.size ≤ w8.heap.size := hK.1
    have below : ∀ {W W' : World}, W.grownBy W' (some g') → w.heap.size ≤ W.heap.size → Below w.heap.size W W' := fun h hw_ => pw_below_grown (Below.refl _ _) (some g') hw_ h (fun k hk => by injection hk with hk; omega)
    have keepg : ∀ {W W' : World}, W.grownBy W' (some g') → KeepBut w W g (some gn) → KeepBut w W' g (some gn) := fun h hk_ => ⟨Nat.le_trans hk_.1 h.size, fun i hi h1 h2 => (h.block i (Nat.lt_of_lt_of_le hi hk_.1) (by intro he; injection he with he; omega)).trans (hk_.2 i hi h1 h2)⟩
    have keepc : ∀ {W : World} (u : Value), KeepBut w W g (some gn) → KeepBut w (W.setCell ⟨gn, 2, none⟩ u) g (some gn) := fun u hk_ => ⟨by rw [World.size_setCell]; exact hk_.1, fun i hi h1 h2 => (Below.heap_setCell _ ⟨gn, 2, none⟩ u i (fun he => h2 (by rw [he]))).trans (hk_.2 i hi h1 h2)⟩
    refine ⟨⟨?_, keepc _ (keepg s2 hK)⟩, ?_, keepg s4 (keepc _ hK)⟩
    · exact (hR.upto (below s2 hw) hg (by omega)).far (p := ⟨gn, 2, none⟩) hgg h0 _
    · exact (hR.far (p := ⟨gn, 2, none⟩) hgg h0 _).upto (below s4 (by rw [World.size_setCell]; exact hw)) hg (by omega)

end Go.Proofs.YtkhjpobhdpcglaaDoor.X
end
section
namespace Go.Proofs.YtkhjpobhdpcglaaDoor.X
open Go.RowKit Go.Proofs.YtkhjpobhdpcglaaDoorW.PrintWords Go.Proofs.YtkhjpobhdpcglaaDoorW.PrintLast Go.Proofs.YtkhjpobhdpcglaaDoorW.PrintMore
set_option linter.unusedVariables false
set_option linter.unusedSimpArgs false

theorem info36c : (Tryd.prog.info? 36).map (fun i => (i.zero, i.size, i.bytes)) = some (some (.agg #[.string ⟨#[]⟩, .string ⟨#[]⟩, .slice none 0 0]), 3, 56) := by kernel_rfl
set_option maxHeartbeats 4000000 in
set_option maxRecDepth 1000000 in
theorem cont_r7 {Q : Exit → Act → World → Prop} {w0 w w5 w7 : World} {g gn gk i d m c d1 : Nat} {s nm : ByteArray} {l : List S36} {A A1 : Option Addr} {n : S36} {u3 u4 u5 u6 u9 u10 u11 u12 u13 u14 u15 u16 u17 u18 u19 u20 u21 u22 u23 u24 u25 u26 u27 u28 u29 u30 u31 u32 u33 u34 u35 u36 u37 u38 u39 u40 u41 u42 u43 u44 u45 u46 u47 u48 u49 u50 u51 u52 u53 u54 u55 u56 u57 u58 u59 u60 u61 u62 u63 u64 u65 u66 u67 u68 u69 u70 u71 u72 u73 u74 u75 u76 u77 u78 u79 u80 u81 u82 u83 u84 u85 u86 u87 u88 u89 u90 u91 u92 u93 u94 u95 u96 u97 u98 u99 u100 u101 u102 u103 u104 u105 u106 u107 u108 u109 u110 u111 u112 u113 u114 u115 u116 u117 u118 u119 u120 : Value}
    (hp : ∀ c (N : Option Tmp) v a w, Q (.panic c) (a.put N v) w → Q (.panic c) a w) (hR : Rd w0 w7 g s m) (hK : KeepBut w w7 g (some gn)) (hA : KidsAt w w7 gn nm l A c) (hb : w7.heap[gk]? = some (.cells #[.string n.f0, .string n.f1, .slice A1 n.f2.length d1] 36 (0, 0))) (hle : n.f2.length ≤ d1)
    (hF : Kd.F k36 w7 (fun k => w5.heap.size ≤ k) A1 n.f2.length n.f2) (hv : ∀ k, (Value.slice A l.length c).ownBlock = some k → k < w5.heap.size) (hgn : gn < w.heap.size) (hgk : w5.heap.size ≤ gk) (hw5 : w.heap.size ≤ w5.heap.size) (hgg : gn ≠ g) (hg : g < w.heap.size) (hgw0 : w0.heap.size ≤ gn) (hlen : l.length ≤ 1073741824)
    (hQ : ∀ (a' : Act) (w' : World) (A' : Option Addr) (c' : Nat), ContFr g gn d i a' → Rd w0 w' g s m → KeepBut w w' g (some gn) → KidsAt w w' gn nm (l ++ [n]) A' c' → Q .normal a' w') :
    (codeIn Tryd.f95 [1, 1, 1, 0, 0, 0, 1, 0, 1, 1, 0]).wp Tryd.prog Q { tmps := #[.pointer (some ⟨g, 0, none⟩), .pointer (some ⟨gn, 0, none⟩), .int .i64 (16 - (d : Int)), u3, u4, u5, u6, .int .i64 i, .pointer (some ⟨gk, 0, none⟩), u9, u10, u11, u12, u13, u14, u15, u16, u17, u18, u19, u20, u21, u22, u23, u24, u25, u26, u27, u28, u29, u30, u31, u32, u33, u34, u35, u36, u37, u38, u39, u40, u41, u42, u43, u44, u45, u46, u47, u48, u49, u50, u51, u52, u53, u54, u55, u56, u57, u58, u59, u60, u61, u62, u63, u64, u65, u66, u67, u68, u69, u70, u71, u72, u73, u74, u75, u76, u77, u78, u79, u80, u81, u82, u83, u84, u85, u86, u87, u88, u89, u90, u91, u92, u93, u94, u95, u96, u97, u98, u99, u100, u101, u102, u103, u104, u105, u106, u107, u108, u109, u110, u111, u112, u113, u114, u115, u116, u117, u118, u119, u120], defers := [] } w7 := by
  have hK0 : KeepBut w w7.drew g (some gn) := hK
  simp only [codeIn, Tryd.f95, Option.getD_some, codeAt]
  refine start_ (n := 13) (S := fun W => W.heap[gn]? = some (.cells #[.string nm, .string ⟨#[]⟩, .slice A l.length c] 36 (0, 0)) ∧ W.heap[gk]? = some (.cells #[.string n.f0, .string n.f1, .slice A1 n.f2.length d1] 36 (0, 0))) (ds := [7, 9, 12]) #[false, false, false, false, false, false, false, false, false, false, false, false, false] (by kernel_rfl) rfl rfl ⟨hA.blk, hb⟩ (fun hHeld => ?_)
  refine pure_ (i := 0) (N := (some 51)) (v := ?_) (a' := ?_) #[true, false, false, false, false, false, false, false, false, false, false, false, false] rfl rfl (by kernel_rfl) (fun c_ _ w_ h_ => hp c_ _ _ _ w_ h_) (Or.inl ⟨by kernel_rfl, ?_⟩) ?_ ?_
  rotate_left
  · intro w_
    go_simp
    with_reducible rfl
  rotate_left
  · simp only [Act.put, List.setIfInBounds_toArray, List.set_cons_zero, List.set_cons_succ]
    rfl
  refine pure_ (i := 1) (N := (some 52)) (v := ?_) (a' := ?_) #[true, true, false, false, false, false, false, false, false, false, false, false, false] rfl rfl (by kernel_rfl) (fun c_ _ w_ h_ => hp c_ _ _ _ w_ h_) (Or.inl ⟨by kernel_rfl, ?_⟩) ?_ ?_
  rotate_left
  · intro w_
    go_simp
    with_reducible rfl
  rotate_left
  · simp only [Act.put, List.setIfInBounds_toArray, List.set_cons_zero, List.set_cons_succ]
    rfl
  refine pure_ (i := 2) (N := (some 53)) (v := ?_) (a' := ?_) #[true, true, true, false, false, false, false, false, false, false, false, false, false] rfl rfl (by kernel_rfl) (fun c_ _ w_ h_ => hp c_ _ _ _ w_ h_) (Or.inl ⟨by kernel_rfl, ?_⟩) ?_ ?_
  rotate_left
  · intro w_
    go_simp
    with_reducible rfl
  rotate_left
  · simp only [Act.put, List.setIfInBounds_toArray, List.set_cons_zero, List.set_cons_succ]
    rfl
  refine take_ (i := 3) (N := some 54) (v := ?_) (a' := ?_) #[true, true, true, true, false, false, false, false, false, false, false, false, false] rfl rfl (by kernel_rfl) (fun c_ _ w_ h_ => hp c_ _ _ _ w_ h_) (Or.inl ⟨by kernel_rfl, ?_⟩) hHeld ?_ ?_
  rotate_left
  · rintro w_ ⟨sA, sB⟩
    have s0 := blk_cell sA 2
    go_simp
    with_reducible rfl
  rotate_left
  · simp only [Act.put, List.setIfInBounds_toArray, List.set_cons_zero, List.set_cons_succ]
    rfl
  refine take_ (i := 4) (N := some 55) (v := ?_) (a' := ?_) #[true, true, true, true, true, false, false, false, false, false, false, false, false] rfl rfl (by kernel_rfl) (fun c_ _ w_ h_ => hp c_ _ _ _ w_ h_) (Or.inl ⟨by kernel_rfl, ?_⟩) hHeld ?_ ?_
  rotate_left
  · rintro w_ ⟨sA, sB⟩
    have s0 := blk_cell sB 0
    have s1 := blk_cell sB 1
    have s2 := blk_cell sB 2
    go_simp
    with_reducible rfl
  rotate_left
  · simp only [Act.put, List.setIfInBounds_toArray, List.set_cons_zero, List.set_cons_succ]
    rfl
  refine pure_ (i := 5) (N := (some 56)) (v := ?_) (a' := ?_) #[true, true, true, true, true, true, false, false, false, false, false, false, false] rfl rfl (by kernel_rfl) (fun c_ _ w_ h_ => hp c_ _ _ _ w_ h_) (Or.inl ⟨by kernel_rfl, ?_⟩) ?_ ?_
  rotate_left
  · intro w_
    go_simp
    with_reducible rfl
  rotate_left
  · simp only [Act.put, List.setIfInBounds_toArray, List.set_cons_zero, List.set_cons_succ]
    rfl
  refine one_ (i := 6) (N := some 57) #[true, true, true, true, true, true, true, false, false, false, false, false, false] rfl rfl (by kernel_rfl) (by decide) (fun K hK => ?_)
  refine value_ (v := .slice (some ⟨w7.drew.heap.size, 0, none⟩) 1 1) (w1 := w7.drew.alloc (.cells [Value.string ⟨#[]⟩, .string ⟨#[]⟩, .slice none 0 0].toArray 36)) (by kernel_rfl) rfl (by go_simp) ?_
  refine hK.out _ _ ⟨blk_alloc hHeld.1 _, blk_alloc hHeld.2 _⟩ (fun hHeld2 => ?_)
  clear hK K
  refine norm_ (a' := ?_) ?_ ?_
  rotate_left
  · show Act.put _ (some 57) _ = _
    simp only [Act.put, List.setIfInBounds_toArray, List.set_cons_zero, List.set_cons_succ]
    rfl
  refine last_ (i := 7) (N := some 58) #[true, true, true, true, true, true, true, true, false, false, false, false, false] rfl rfl (by kernel_rfl) (by decide) (fun K hK => ?_)
  refine Kd.N_append_step k36 (w0 := w7.drew) w.heap.size (by kernel_rfl) (.tmp 54) (.tmp 57) 34 36 _ 56 rfl Tryd.underlying34 info36c rfl (by decide) (by decide) (.slice A l.length c) l z36 _ (fun k => w.heap.size ≤ k) (fun _ => False) rfl rfl ?z1 (fun k hk => hk.elim) (fun k hk => by have := hK0.1; omega) hA.row (Below.refl _ _) hK0.1 (by omega) ?_
  case z1 => exact k36_mkF _ _ z36 (Nat.le_refl 0) (fun W_ _ => Kd.C_nil _ _)
  intro v1 w8 hN8 hB8 hG8 hat8
  refine hK.out _ _ ?_
  clear hK K
  obtain ⟨g', c', hv1⟩ := N_shape hN8 (by simp)
  rw [show (l ++ [z36]).length = l.length + 1 by simp] at hv1
  subst hv1
  have hF8 : Kd.F k36 w8 (fun k => w5.heap.size ≤ k ∧ k ≠ g') A1 n.f2.length n.f2 := by
    refine Kd.F_mono (Kd.F_step (Kd.F_bound (W := w7.drew) hF) (fun k hk hlt => hG8.block k hlt (fun he => ?_))) (fun k hk => ⟨hk.1, fun he => ?_⟩)
    · have := hv k he.symm
      omega
    · subst he
      rcases hat8 with h1 | ⟨b, h1, h2⟩
      · rw [show (Value.slice (some ⟨k, 0, none⟩) (l.length + 1) c').ownBlock = some k from by simp [Value.ownBlock]] at h1
        have := hv k h1.symm
        omega
      · rw [show (Value.slice (some ⟨k, 0, none⟩) (l.length + 1) c').ownBlock = some k from by simp [Value.ownBlock]] at h1
        injection h1 with h1
        have := hk.2
        omega
  have hb8 : w8.heap[gn]? = some (.cells #[.string nm, .string ⟨#[]⟩, .slice A l.length c] 36 (0, 0)) := blk_grown hHeld.1 hG8 (fun he => by
    have := Kd.N_base hA.row gn he.symm
    omega)
  have hR8 : Rd w0 w8 g s m := (show Rd w0 w7.drew g s m from hR.drewN 1).upto hB8 hg (by omega)
  have hK8 : KeepBut w w8 g (some gn) := ⟨Nat.le_trans hK0.1 hG8.size, fun i_ hi h1 h2 => (hB8.block i_ hi).trans (hK0.2 i_ hi h1 h2)⟩
  obtain ⟨⟨cur, hcur, hsz⟩, hne, hX1, hX2, hY⟩ := kids_put hgn hb8 hN8 hle hF8 hw5
  obtain ⟨⟨hRa, hKa⟩, hRb, hKb⟩ := hY hR8 hK8 hgg hgw0 hg
  refine norm_ (a' := ?_) ?_ ?_
  rotate_left
  · show Act.put _ (some 58) _ = _
    simp only [Act.put, List.setIfInBounds_toArray, List.set_cons_zero, List.set_cons_succ]
    rfl
  clear hHeld2 hHeld hat8 hB8 hY
  have hll : (l.length : Int) < (l.length : Int) + 1 := by omega
  refine pure_ (i := 8) (N := (some 59)) (v := ?_) (a' := ?_) #[true, true, true, true, true, true, true, true, true, false, false, false, false] rfl rfl (by kernel_rfl) (fun c_ _ w_ h_ => hp c_ _ _ _ w_ h_) (Or.inl ⟨by kernel_rfl, ?_⟩) ?_ ?_
  rotate_left
  · intro w_
    go_simp
    with_reducible rfl
  rotate_left
  · simp only [Act.put, List.setIfInBounds_toArray, List.set_cons_zero, List.set_cons_succ]
    rfl
  refine pure_ (i := 10) (N := (some 60)) (v := ?_) (a' := ?_) #[true, true, true, true, true, true, true, true, true, false, true, false, false] rfl rfl (by kernel_rfl) (fun c_ _ w_ h_ => hp c_ _ _ _ w_ h_) (Or.inl ⟨by kernel_rfl, ?_⟩) ?_ ?_
  rotate_left
  · intro w_
    go_simp
    with_reducible rfl
  rotate_left
  · simp only [Act.put, List.setIfInBounds_toArray, List.set_cons_zero, List.set_cons_succ]
    rfl
  refine pure_ (i := 11) (N := (some 61)) (v := ?_) (a' := ?_) #[true, true, true, true, true, true, true, true, true, false, true, true, false] rfl rfl (by kernel_rfl) (fun c_ _ w_ h_ => hp c_ _ _ _ w_ h_) (Or.inl ⟨by kernel_rfl, ?_⟩) ?_ ?_
  rotate_left
  · intro w_
    go_simp
    with_reducible rfl
  rotate_left
  · simp only [Act.put, List.setIfInBounds_toArray, List.set_cons_zero, List.set_cons_succ]
    rfl
  refine two_last_ (i := 9) (j := 12) (Ni := none) (Nj := none) #[true, true, true, true, true, true, true, true, true, true, true, true, false] #[true, true, true, true, true, true, true, true, true, false, true, true, true] rfl rfl rfl rfl (by kernel_rfl) (by decide) (by decide) (fun K hK => ?_) (fun K hK => ?_)
  · refine skip_ (w1 := w8.setCells g' (l.length * 3) [.string n.f0, .string n.f1, .slice A1 n.f2.length d1]) (by kernel_rfl) rfl (store3_run rfl rfl rfl (by kernel_rfl) hcur hsz rfl rfl rfl rfl) ?_
    refine hK.out _ _ ?_
    clear hK K
    refine last_ (i := 12) (N := none) #[true, true, true, true, true, true, true, true, true, true, true, true, true] rfl rfl (by kernel_rfl) (by decide) (fun K hK => ?_)
    have hg_ : (w8.setCells g' (l.length * 3) [.string n.f0, .string n.f1, .slice A1 n.f2.length d1]).heap[gn]? = some (.cells #[.string nm, .string ⟨#[]⟩, .slice A l.length c] 36 (0, 0)) := (setCells_far _ _ gn hne).trans hb8
    refine skip_ (w1 := (w8.setCells g' (l.length * 3) [.string n.f0, .string n.f1, .slice A1 n.f2.length d1]).setCell ⟨gn, 2, none⟩ (.slice (some ⟨g', 0, none⟩) (l.length + 1) c')) (by kernel_rfl) rfl (by have s0 := blk_cell hg_ 2; have s1 := blk_frozen hg_ 2; go_simp) ?_
    refine hK.out _ _ ?_
    refine done_ (by kernel_rfl) ?_
    exact hQ _ _ _ _ ContFr.mk hRa hKa hX1
  · refine skip_ (w1 := w8.setCell ⟨gn, 2, none⟩ (.slice (some ⟨g', 0, none⟩) (l.length + 1) c')) (by kernel_rfl) rfl (by have s0 := blk_cell hb8 2; have s1 := blk_frozen hb8 2; go_simp) ?_
    refine hK.out _ _ ?_
    clear hK K
    refine last_ (i := 9) (N := none) #[true, true, true, true, true, true, true, true, true, true, true, true, true] rfl rfl (by kernel_rfl) (by decide) (fun K hK => ?_)
    have hg_ : (w8.setCell ⟨gn, 2, none⟩ (.slice (some ⟨g', 0, none⟩) (l.length + 1) c')).heap[g']? = some (.cells cur 36 (0, 0)) := (Below.heap_setCell w8 ⟨gn, 2, none⟩ _ g' (by intro he; exact hne he.symm)).trans hcur
    refine skip_ (w1 := (w8.setCell ⟨gn, 2, none⟩ (.slice (some ⟨g', 0, none⟩) (l.length + 1) c')).setCells g' (l.length * 3) [.string n.f0, .string n.f1, .slice A1 n.f2.length d1]) (by kernel_rfl) rfl (store3_run rfl rfl rfl (by kernel_rfl) hg_ hsz rfl rfl rfl rfl) ?_
    refine hK.out _ _ ?_
    refine done_ (by kernel_rfl) ?_
    exact hQ _ _ _ _ ContFr.mk hRb hKb hX2

end Go.Proofs.YtkhjpobhdpcglaaDoor.X
end
section
namespace Go.Proofs.YtkhjpobhdpcglaaDoor.X
open Go.RowKit Go.Proofs.YtkhjpobhdpcglaaDoorW.PrintWords Go.Proofs.YtkhjpobhdpcglaaDoorW.PrintLast Go.Proofs.YtkhjpobhdpcglaaDoorW.PrintMore
set_option linter.unusedVariables false
set_option linter.unusedSimpArgs false

/-- the loop's relation -/
def ContI (w0 w : World) (g gn i d : Nat) (s nm : ByteArray) (j0 : Nat) (kq : Nat) (a' : Act) (w' : World) : Prop :=
  ContFr g gn d i a' ∧ ∃ (j : Nat) (l : List S36) (A : Option Addr) (c : Nat), kidsV (elemV s d) kq s j l = kidsV (elemV s d) (s.size + 1) s j0 [] ∧ s.size - j < kq ∧ l.length + kq = s.size + 1 ∧ Rd w0 w' g s j ∧ KeepBut w w' g (some gn) ∧ KidsAt w w' gn nm l A c
theorem ContI.mk {w0 w : World} {g gn i d : Nat} {s nm : ByteArray} {j0 kq : Nat} {w' : World} {u3 u4 u5 u6 u8 u9 u10 u11 u12 u13 u14 u15 u16 u17 u18 u19 u20 u21 u22 u23 u24 u25 u26 u27 u28 u29 u30 u31 u32 u33 u34 u35 u36 u37 u38 u39 u40 u41 u42 u43 u44 u45 u46 u47 u48 u49 u50 u51 u52 u53 u54 u55 u56 u57 u58 u59 u60 u61 u62 u63 u64 u65 u66 u67 u68 u69 u70 u71 u72 u73 u74 u75 u76 u77 u78 u79 u80 u81 u82 u83 u84 u85 u86 u87 u88 u89 u90 u91 u92 u93 u94 u95 u96 u97 u98 u99 u100 u101 u102 u103 u104 u105 u106 u107 u108 u109 u110 u111 u112 u113 u114 u115 u116 u117 u118 u119 u120 : Value} {j : Nat} {l : List S36} {A : Option Addr} {c : Nat} (h1 : kidsV (elemV s d) kq s j l = kidsV (elemV s d) (s.size + 1) s j0 []) (h2 : s.size - j < kq) (h2' : l.length + kq = s.size + 1) (h3 : Rd w0 w' g s j) (h4 : KeepBut w w' g (some gn)) (h5 : KidsAt w w' gn nm l A c) :
    ContI w0 w g gn i d s nm j0 kq { tmps := #[.pointer (some ⟨g, 0, none⟩), .pointer (some ⟨gn, 0, none⟩), .int .i64 (16 - (d : Int)), u3, u4, u5, u6, .int .i64 i, u8, u9, u10, u11, u12, u13, u14, u15, u16, u17, u18, u19, u20, u21, u22, u23, u24, u25, u26, u27, u28, u29, u30, u31, u32, u33, u34, u35, u36, u37, u38, u39, u40, u41, u42, u43, u44, u45, u46, u47, u48, u49, u50, u51, u52, u53, u54, u55, u56, u57, u58, u59, u60, u61, u62, u63, u64, u65, u66, u67, u68, u69, u70, u71, u72, u73, u74, u75, u76, u77, u78, u79, u80, u81, u82, u83, u84, u85, u86, u87, u88, u89, u90, u91, u92, u93, u94, u95, u96, u97, u98, u99, u100, u101, u102, u103, u104, u105, u106, u107, u108, u109, u110, u111, u112, u113, u114, u115, u116, u117, u118, u119, u120], defers := [] } w' := ⟨ContFr.mk, j, l, A, c, h1, h2, h2', h3, h4, h5⟩
set_option maxHeartbeats 4000000 in
set_option maxRecDepth 1000000 in
theorem cont_round {Q : Exit → Act → World → Prop} {w0 w wr : World} {g gn i d j0 gk0 : Nat} {s nm : ByteArray} {a' : Act} (hp : ∀ c (N : Option Tmp) v a w, Q (.panic c) (a.put N v) w → Q (.panic c) a w) (he : ElemOk s d) (hpos : ∀ i n m, elemV s d i = some (n, m) → i < m) (hd16 : d ≤ 16) (hsm : s.size ≤ 1073741824)
    (hgg : gn ≠ g) (hglt : g < w.heap.size) (hgnlt : gn < w.heap.size) (h0 : 0 < w0.heap.size) (hgw0 : w0.heap.size ≤ gn) (hgw : w0.heap.size ≤ g) (hG : GOK w) (hI : ContI w0 w g gn i d s nm j0 (gk0 + 1) a' wr)
    (hNX : ∀ a' w', ContI w0 w g gn i d s nm j0 gk0 a' w' → Q .normal a' w')
    (hX : ∀ l j a' w', kidsV (elemV s d) (s.size + 1) s j0 [] = some (l, j) → ContFr g gn d i a' → Rd w0 w' g s j → KeepBut w w' g (some gn) → ∀ {A c}, KidsAt w w' gn nm l A c → Q (.exit 0) a' w')
    (hB : ∀ l A c j a' w', kidsV (elemV s d) (s.size + 1) s j0 [] = none → ContFr g gn d i a' → a'.tmps.getD 6 undef = .bool false → Rd w0 w' g s j → KeepBut w w' g (some gn) → KidsAt w w' gn nm l A c → Q .ret a' w') :
    (codeIn Tryd.f95 [1, 1, 1, 0, 0, 0]).wp Tryd.prog Q a' wr := by
  obtain ⟨⟨u, rfl⟩, j, l, A, c, HA0, hjk, hln, HRj0, HKj0, HKa0⟩ := hI
  have HE := Aside0.mk he
  have HP := Aside0.mk hpos
  have HG0 := Aside0.mk hG
  have HNX := Aside0.mk hNX
  have HX := Aside0.mk hX
  have HB := Aside0.mk hB
  have HA := Aside0.mk HA0
  have HRj := Aside0.mk HRj0
  have HKj := Aside0.mk HKj0
  have HKa := Aside0.mk HKa0
  have HLN := Aside0.mk hln
  have HPP := Aside0.mk hp
  have hwd : IntKind.i64.wrap (16 - (d : Int) + 1) = 16 - (d : Int) + 1 := by simp [IntKind.wrap_i64]; omega
  have hu36 := Tryd.underlying36
  clear he hpos hG hNX hX hB HA0 hln HRj0 HKj0 HKa0 hp
  have hA := HA.out
  rw [kidsV] at hA
  have hjs := HRj.out.le
  obtain ⟨c1, hc1⟩ : ∃ c1, c1 = hasP s j ⟨#[60]⟩ := ⟨_, rfl⟩
  obtain ⟨c2, hc2⟩ : ∃ c2, c2 = hasP s j ⟨#[60, 47]⟩ := ⟨_, rfl⟩
  have HP1 : Aside0 (∀ w' : World, Calls Tryd.prog 89 #[.string (s.extract j s.size), .string ⟨#[60]⟩] w' fun e w2 => e = .returned (.bool c1) ∧ Drawn0 w' w2) := ⟨fun w' => by rw [hc1]; exact HasPrefix_calls s j ⟨#[60]⟩ hsm (by decide) w'⟩
  have HP2 : Aside0 (∀ w' : World, Calls Tryd.prog 89 #[.string (s.extract j s.size), .string ⟨#[60, 47]⟩] w' fun e w2 => e = .returned (.bool c2) ∧ Drawn0 w' w2) := ⟨fun w' => by rw [hc2]; exact HasPrefix_calls s j ⟨#[60, 47]⟩ hsm (by decide) w'⟩
  rw [← hc1, ← hc2] at hA
  have HA3 := Aside0.mk hA
  clear hA hc1 hc2 HA
  have p0 : (0 : Int) ≤ (j : Int) := by omega
  have p1 : (j : Int) ≤ (s.size : Int) := by omega
  have cA := HRj.out.cell0
  have cB := HRj.out.cell1
  have hcase : (c1 = false) ∨ (c1 = true ∧ c2 = true) ∨ (c1 = true ∧ c2 = false) := by
    cases c1 <;> cases c2 <;> simp
  simp only [codeIn, Tryd.f95, Option.getD_some, codeAt]
  rcases hcase with rfl | ⟨rfl, rfl⟩ | ⟨rfl, rfl⟩
  · go_wp2
    refine wp_region_quiet_lit (by kernel_rfl) (by kernel_rfl) ?_
    repeat (go_big_quiet_step (first | (go_at_call 89; with_reducible refine (HP1.out _).mono ?_; rintro e w2 ⟨rfl, ⟨n7, rfl⟩⟩; exact ⟨rfl, _, World.drewN_drewN _ _ _⟩) | (go_at_call 89; with_reducible refine (HP2.out _).mono ?_; rintro e w2 ⟨rfl, ⟨n7, rfl⟩⟩; exact ⟨rfl, _, World.drewN_drewN _ _ _⟩)))
    refine wpQuiet_nil ?_
    intro _ hw'
    obtain ⟨nq, hw''⟩ := hw'
    subst hw''
    go_wp2
    exact HX.out l j _ _ (by have := HA3.out; simpa using this.symm) ContFr.mk (HRj.out.drewN _) (keep_drewN HKj.out _) (HKa.out.drewN _)
  · go_wp2
    refine wp_region_quiet_lit (by kernel_rfl) (by kernel_rfl) ?_
    repeat (go_big_quiet_step (first | (go_at_call 89; with_reducible refine (HP1.out _).mono ?_; rintro e w2 ⟨rfl, ⟨n7, rfl⟩⟩; exact ⟨rfl, _, World.drewN_drewN _ _ _⟩) | (go_at_call 89; with_reducible refine (HP2.out _).mono ?_; rintro e w2 ⟨rfl, ⟨n7, rfl⟩⟩; exact ⟨rfl, _, World.drewN_drewN _ _ _⟩)))
    refine wpQuiet_nil ?_
    intro _ hw'
    obtain ⟨nq, hw''⟩ := hw'
    subst hw''
    go_wp2
    exact HX.out l j _ _ (by have := HA3.out; simpa using this.symm) ContFr.mk (HRj.out.drewN _) (keep_drewN HKj.out _) (HKa.out.drewN _)
  · go_wp2
    refine wp_region_quiet_lit (by kernel_rfl) (by kernel_rfl) ?_
    repeat (go_big_quiet_step (first | (go_at_call 89; with_reducible refine (HP1.out _).mono ?_; rintro e w2 ⟨rfl, ⟨n7, rfl⟩⟩; exact ⟨rfl, _, World.drewN_drewN _ _ _⟩) | (go_at_call 89; with_reducible refine (HP2.out _).mono ?_; rintro e w2 ⟨rfl, ⟨n7, rfl⟩⟩; exact ⟨rfl, _, World.drewN_drewN _ _ _⟩)))
    refine wpQuiet_nil ?_
    intro _ hw'
    obtain ⟨nq, hw''⟩ := hw'
    subst hw''
    go_wp2_with fail
    have HGj : Aside0 (GOK (wr.drewN nq)) := ⟨HG0.out.keep (keep_drewN HKj.out nq) (by omega) (by intro e_; injection e_ with e_; omega)⟩
    have H5 : Aside0 (Rd w0 (wr.drewN nq) g s j) := ⟨HRj.out.drewN nq⟩
    have HK5 : Aside0 (KeepBut w (wr.drewN nq) g (some gn)) := ⟨keep_drewN HKj.out nq⟩
    have HA5 : Aside0 (KidsAt w (wr.drewN nq) gn nm l A c) := ⟨HKa.out.drewN nq⟩
    obtain ⟨w5, hw5⟩ : ∃ w5, w5 = wr.drewN nq := ⟨_, rfl⟩
    rw [← hw5] at HGj H5 HK5 HA5 ⊢
    clear hw5 HRj HKj HKa cA cB
    refine (HE.out w0 w5 g j H5.out HGj.out h0).mono ?_
    rintro e w6 ⟨n, A1, d1, b1, m, rfl, hle1, hF1, hW1, hR1, hk1, hm1⟩
    have hw56 : w5.heap.size ≤ w6.heap.size := hk1.1
    have hww5 : w.heap.size ≤ w5.heap.size := HK5.out.1
    obtain ⟨gk, hgk⟩ : ∃ gk, gk = w6.heap.size := ⟨_, rfl⟩
    obtain ⟨w7, hw7⟩ : ∃ w7, w7 = w6.alloc (.cells #[.string n.f0, .string n.f1, .slice A1 n.f2.length d1] 36 (0, 0)) := ⟨_, rfl⟩
    have hb67 : Below w6.heap.size w6 w7 := by
      rw [hw7]
      exact below_alloc (Below.refl _ _) _
    have HBk : Aside0 (w7.heap[gk]? = some (.cells #[.string n.f0, .string n.f1, .slice A1 n.f2.length d1] 36 (0, 0))) := ⟨by rw [hw7, hgk]; exact heap_alloc_new w6 _⟩
    have H7 : Aside0 (Rd w0 w7 g s m) := ⟨hR1.stays hb67⟩
    have HK67 : KeepBut w5 w7 g none := hk1.trans (KeepBut.of_below hb67 g none) (.inl rfl)
    have HK7 : Aside0 (KeepBut w w7 g (some gn)) := ⟨HK5.out.trans (keepWeak HK67 _) (.inl rfl)⟩
    have HA7 : Aside0 (KidsAt w w7 gn nm l A c) := ⟨HA5.out.keep HK67 (by omega) hgg⟩
    have HF7 : Aside0 (Kd.F k36 w7 (fun k => w5.heap.size ≤ k) A1 n.f2.length n.f2) := ⟨Kd.F_below hF1 hb67⟩
    have hv5 : ∀ k_, (Value.slice A l.length c).ownBlock = some k_ → k_ < w5.heap.size := Kd.N_lt HA5.out.row
    have HV5 := Aside0.mk hv5
    clear hv5
    have HW56 := Aside0.mk hw56
    have HWW5 := Aside0.mk hww5
    have HW7 := Aside0.mk hw7
    have HGK := Aside0.mk hgk
    have HLE1 := Aside0.mk hle1
    have hgkn : gk ≠ gn := by omega
    have hgkg : gk ≠ g := by omega
    clear HA5 HK5 H5 HGj HK67 hR1 hk1 hF1 hW1 hw56 hww5 hb67 hw7 hgk hle1
    cases hev : elemV s d j with
    | none =>
      rw [hev] at hm1
      obtain rfl : b1 = false := hm1
      have HN : Aside0 (kidsV (elemV s d) (s.size + 1) s j0 [] = none) := ⟨by
        rw [← HA3.out, hev]
        rfl⟩
      go_wp2
      rw [← HGK.out, ← HW7.out]
      exact HB.out l A c m _ _ HN.out ContFr.mk rfl H7.out HK7.out HA7.out
    | some r =>
      obtain ⟨n0, m0⟩ := r
      rw [hev] at hm1
      obtain ⟨rfl, h1_, h2_⟩ := hm1
      obtain rfl := h1_.symm
      obtain rfl := h2_.symm
      have hgt := HP.out _ _ _ hev
      have hmle := H7.out.le
      have HA6 : Aside0 (kidsV (elemV s d) gk0 s (skip whiteV s m0) (l ++ [n0]) = kidsV (elemV s d) (s.size + 1) s j0 []) := ⟨by
        have := HA3.out
        rw [hev] at this
        simpa using this⟩
      clear hev HA3
      go_wp2
      rw [← HGK.out, ← HW7.out]
      refine cont_r7 (fun c_ _ _ _ w_ h_ => HPP.out c_ _ _ _ w_ h_) H7.out HK7.out HA7.out HBk.out HLE1.out HF7.out HV5.out hgnlt (by have := HGK.out; have := HW56.out; omega) HWW5.out hgg hglt hgw0 (by have := HLN.out; omega) ?_
      intro a' w8 A8 c8 hFr H8 HK8 HA8
      obtain ⟨u_, rfl⟩ := hFr
      clear H7 HK7 HA7 HBk HF7 HGK HW7
      go_wp2_with fail
      refine (space_calls H8).mono ?_
      rintro e w9 ⟨rfl, H9, hk9⟩
      go_wp2
      exact HNX.out _ _ (ContI.mk HA6.out (by have := le_skip whiteV s m0; omega) (by have := HLN.out; rw [List.length_append]; simp; omega) H9 (HK8.trans (keepWeak hk9 _) (.inl rfl)) (HA8.keep hk9 hglt hgg))
end Go.Proofs.YtkhjpobhdpcglaaDoor.X
end
