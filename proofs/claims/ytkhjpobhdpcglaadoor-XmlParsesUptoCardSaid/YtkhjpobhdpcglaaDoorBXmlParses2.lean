/- XmlParses: part 2 of what its proof leans on. -/
import Derived.Shelf.Strings.Builder1
import Derived.Shelf.Strings.Builder2
import Derived.Shelf.Small.Utf8
import Derived.Shelf.Small.Strs
import Derived.Shelf.Small.Wraps
import Derived.Shelf.Strings.BuilderF
import Derived.Shelf.Strings.BuilderK
import Derived.Shelf.Utf8.RuneCount
import Derived.Shelf.Strconv.Itoa0
import Derived.Shelf.Strconv.Itoa1
import Derived.Shelf.LaysM
import Derived.Shelf.Strconv.Itoa2
import Derived.Shelf.Strconv.Itoa3
import Derived.Shelf.Strings.Search1
import Derived.Shelf.Strings.Search2
import Derived.Shelf.Strings.Search3
import Derived.Shelf.Strings.Cut
import Derived.Shelf.Strings.Count
import Derived.Shelf.Strings.Shaped
import Derived.Shelf.Strings.Prefix
import Derived.Shelf.Strings.Split
import Derived.Shelf.Strings.Replace
import Derived.Shelf.Strings.SplitShaped
import Derived.Shelf.Strings.Runes
import Derived.Shelf.Strings.RuneCount
import Derived.Shelf.Strings.IndexAny
import Derived.Shelf.Strings.AsciiSet
import Derived.Shelf.Strings.IndexAnyAll
import Derived.Shelf.Unicode.DecodeSlow
import Derived.Test.YtkhjpobhdpcglaaDoorProg
import Derived.Lib.OthersKept
import Derived.WalkSmall
import Derived.Deep.RegionHeld3
import Derived.Lib.Builder
import Derived.Lib.AppendStr
import Derived.Lib.UnsafeStr
import Derived.Laws.Externs
import Derived.Laws.IdiomCopy
import Derived.Lib.Replace
import Derived.Lib.CountLaws
import Derived.Lib.ReplaceLaws
import Derived.Deep.QuietTactic
import Derived.Test.YtkhjpobhdpcglaaDoorBXmlParses1
set_option linter.unusedVariables false
set_option linter.unusedSimpArgs false
section
namespace Go.Proofs.YtkhjpobhdpcglaaDoor.X
open Go.RowKit Go.Proofs.YtkhjpobhdpcglaaDoorW.PrintWords Go.Proofs.YtkhjpobhdpcglaaDoorW.PrintLast Go.Proofs.YtkhjpobhdpcglaaDoorW.PrintMore
attribute [local go_sem] max2_int min2_int max_two min_two max_three min_three max_four min_four
def q11_.f (s0_0 : ByteArray) (s0_1 : Int) (a1 : ByteArray) : Option (Bool × ByteArray × Int) := if 0 ≤ s0_1 then (if s0_1 ≤ (s0_0.size : Int) then ((q4_.f (s0_0.extract (s0_1 : Int).toNat s0_0.size) a1).bind fun t101 => (if t101 = true then (some (true, s0_0, wrap64 (s0_1 + (a1.size : Int)))) else (some (false, s0_0, s0_1)))) else (none)) else (none)
set_option maxHeartbeats 8000000 in
set_option maxRecDepth 100000 in
theorem q11_.calls (g : Nat) (s0_0 : ByteArray) (s0_1 : Int) (a1 : ByteArray) (r1 : Bool) (r2 : ByteArray) (r3 : Int) (w0 w : World) (hI : IsS91 w0 w g s0_0 s0_1) (hB : Below w0.heap.size w0 w) (h : q11_.f s0_0 s0_1 a1 = some (r1, r2, r3)) :
    Calls Tryd.prog 92 #[.pointer (some ⟨g, 0, none⟩), .string a1] w fun e w' => e = .returned (.bool r1) ∧ IsS91 w0 w' g r2 r3 ∧ Below w0.heap.size w0 w' ∧ KeepBut w w' g none := by
  have HI0 := Aside0.mk hI
  have HK := Aside0.mk (KeepBut.refl w g none)
  have HL := Aside0.mk hB.size
  clear hI
  have HW0 := Aside0.mk hB.size
  have HB := Aside0.mk hB
  clear hB
  have H : (if 0 ≤ s0_1 then (if s0_1 ≤ (s0_0.size : Int) then ((q4_.f (s0_0.extract (s0_1 : Int).toNat s0_0.size) a1).bind fun t101 => (if t101 = true then (some (true, s0_0, wrap64 (s0_1 + (a1.size : Int)))) else (some (false, s0_0, s0_1)))) else (none)) else (none)) = some (r1, r2, r3) := h
  clear h
  by_cases c3 : 0 ≤ s0_1
  · rw [if_pos c3] at H
    have c3b0 := eq_true c3
    have c3b1 : decide (0 ≤ s0_1) = true := decide_eq_true c3
    clear c3
    by_cases c4 : s0_1 ≤ (s0_0.size : Int)
    · rw [if_pos c4] at H
      have c4b0 := eq_true c4
      have c4b1 : decide (s0_1 ≤ (s0_0.size : Int)) = true := decide_eq_true c4
      clear c4
      replace H := Option.bind_eq_some_iff.mp H
      obtain ⟨t101, A50, H⟩ := H
      replace H : (if t101 = true then (some (true, s0_0, wrap64 (s0_1 + (a1.size : Int)))) else (some (false, s0_0, s0_1))) = some (r1, r2, r3) := H
      have A5 := Aside0.mk A50
      clear A50
      by_cases c6 : t101 = true
      · subst c6
        have H1 : (some (true, s0_0, wrap64 (s0_1 + (a1.size : Int)))) = some (r1, r2, r3) := by rw [if_pos rfl] at H; exact H
        clear H
        have H := H1
        clear H1
        simp only [Option.some.injEq, Prod.mk.injEq] at H
        obtain ⟨rfl, rfl, rfl⟩ := H
        obtain ⟨HGz7, hgz7⟩ := HI0.out
        have hcz7_0 := cellS91_0 HGz7
        have hcz7_1 := cellS91_1 HGz7
        have hfz7_0 := blk_frozen HGz7 0
        have hfz7_1 := blk_frozen HGz7 1
        clear HGz7 hgz7
        go_enter Tryd.func92, Tryd.ntmps92
        go_wp2_with (first | (go_at_call 89; (with_reducible refine (q4_.calls (s0_0.extract (s0_1 : Int).toNat s0_0.size) a1 true _ A5.out).mono ?_); rintro e w' ⟨rfl, ⟨nd, rfl⟩⟩; (try first | exact ⟨rfl, _, World.drewN_drewN _ _ _⟩ | exact ⟨rfl, _, Eq.trans (World.drewN_drewN _ _ _) (congrArg (World.drewN _) (Nat.add_assoc _ _ _))⟩)))
        repeat (go_quiet (first | (go_at_call 89; (with_reducible refine (q4_.calls (s0_0.extract (s0_1 : Int).toNat s0_0.size) a1 true _ A5.out).mono ?_); rintro e w' ⟨rfl, ⟨nd, rfl⟩⟩; (try first | exact ⟨rfl, _, World.drewN_drewN _ _ _⟩ | exact ⟨rfl, _, Eq.trans (World.drewN_drewN _ _ _) (congrArg (World.drewN _) (Nat.add_assoc _ _ _))⟩))); try go_wp2_with (first | (go_at_call 89; (with_reducible refine (q4_.calls (s0_0.extract (s0_1 : Int).toNat s0_0.size) a1 true _ A5.out).mono ?_); rintro e w' ⟨rfl, ⟨nd, rfl⟩⟩; (try first | exact ⟨rfl, _, World.drewN_drewN _ _ _⟩ | exact ⟨rfl, _, Eq.trans (World.drewN_drewN _ _ _) (congrArg (World.drewN _) (Nat.add_assoc _ _ _))⟩))))
        go_ret
        exact ⟨by first | rfl | (simp [errW_none, errW_some] <;> rfl) | (simp [*, errW_none, errW_some] <;> rfl), by repeat (first | (with_reducible first | exact HI0.out | apply IsS91.alloc | apply IsS91.drewN | apply IsS91.drew | apply IsS91.set_0 | apply IsS91.set_1) | exact HI0.out), by repeat (first | (with_reducible first | exact HB.out | apply below_alloc | apply pw_below_drewN | apply below_drew1 | refine below_set ?_ (IsS91.ge HI0.out)) | exact HB.out), by repeat (first | (with_reducible first | exact HK.out | apply KeepBut.set_ | apply keep_drewN | apply keep_drew | apply keep_alloc) | exact HK.out)⟩
      · replace c6 := Bool.eq_false_iff.mpr c6
        subst c6
        have H1 : (some (false, s0_0, s0_1)) = some (r1, r2, r3) := by rw [if_neg (show ¬ (false = true) by decide)] at H; exact H
        clear H
        have H := H1
        clear H1
        simp only [Option.some.injEq, Prod.mk.injEq] at H
        obtain ⟨rfl, rfl, rfl⟩ := H
        obtain ⟨HGz8, hgz8⟩ := HI0.out
        have hcz8_0 := cellS91_0 HGz8
        have hcz8_1 := cellS91_1 HGz8
        have hfz8_0 := blk_frozen HGz8 0
        have hfz8_1 := blk_frozen HGz8 1
        clear HGz8 hgz8
        go_enter Tryd.func92, Tryd.ntmps92
        go_wp2_with (first | (go_at_call 89; (with_reducible refine (q4_.calls (s0_0.extract (s0_1 : Int).toNat s0_0.size) a1 false _ A5.out).mono ?_); rintro e w' ⟨rfl, ⟨nd, rfl⟩⟩; (try first | exact ⟨rfl, _, World.drewN_drewN _ _ _⟩ | exact ⟨rfl, _, Eq.trans (World.drewN_drewN _ _ _) (congrArg (World.drewN _) (Nat.add_assoc _ _ _))⟩)))
        repeat (go_quiet (first | (go_at_call 89; (with_reducible refine (q4_.calls (s0_0.extract (s0_1 : Int).toNat s0_0.size) a1 false _ A5.out).mono ?_); rintro e w' ⟨rfl, ⟨nd, rfl⟩⟩; (try first | exact ⟨rfl, _, World.drewN_drewN _ _ _⟩ | exact ⟨rfl, _, Eq.trans (World.drewN_drewN _ _ _) (congrArg (World.drewN _) (Nat.add_assoc _ _ _))⟩))); try go_wp2_with (first | (go_at_call 89; (with_reducible refine (q4_.calls (s0_0.extract (s0_1 : Int).toNat s0_0.size) a1 false _ A5.out).mono ?_); rintro e w' ⟨rfl, ⟨nd, rfl⟩⟩; (try first | exact ⟨rfl, _, World.drewN_drewN _ _ _⟩ | exact ⟨rfl, _, Eq.trans (World.drewN_drewN _ _ _) (congrArg (World.drewN _) (Nat.add_assoc _ _ _))⟩))))
        go_ret
        exact ⟨by first | rfl | (simp [errW_none, errW_some] <;> rfl) | (simp [*, errW_none, errW_some] <;> rfl), by repeat (first | (with_reducible first | exact HI0.out | apply IsS91.alloc | apply IsS91.drewN | apply IsS91.drew | apply IsS91.set_0 | apply IsS91.set_1) | exact HI0.out), by repeat (first | (with_reducible first | exact HB.out | apply below_alloc | apply pw_below_drewN | apply below_drew1 | refine below_set ?_ (IsS91.ge HI0.out)) | exact HB.out), by repeat (first | (with_reducible first | exact HK.out | apply KeepBut.set_ | apply keep_drewN | apply keep_drew | apply keep_alloc) | exact HK.out)⟩
    · rw [if_neg c4] at H
      exact absurd H (by simp)
  · rw [if_neg c3] at H
    exact absurd H (by simp)
end Go.Proofs.YtkhjpobhdpcglaaDoor.X
end
section
namespace Go.Proofs.YtkhjpobhdpcglaaDoor.X
open Go.RowKit Go.Proofs.YtkhjpobhdpcglaaDoorW.PrintWords Go.Proofs.YtkhjpobhdpcglaaDoorW.PrintLast Go.Proofs.YtkhjpobhdpcglaaDoorW.PrintMore
def runTo (p : Int → Bool) (s : ByteArray) : Nat → Nat → Nat
  | 0, i => i
  | b + 1, i => if i < s.size ∧ p (bt s i) = true then runTo p s b (i + 1) else i
def skip (p : Int → Bool) (s : ByteArray) (i : Nat) : Nat := runTo p s (s.size - i) i
theorem runTo_le (p : Int → Bool) (s : ByteArray) : ∀ b i, i ≤ s.size → i ≤ runTo p s b i ∧ runTo p s b i ≤ s.size
  | 0, i, h => ⟨Nat.le_refl _, h⟩
  | b + 1, i, h => by
    unfold runTo
    split
    · rename_i hh
      have := runTo_le p s b (i + 1) (by omega)
      omega
    · exact ⟨Nat.le_refl _, h⟩
theorem skip_le (p : Int → Bool) (s : ByteArray) (i : Nat) (h : i ≤ s.size) : i ≤ skip p s i ∧ skip p s i ≤ s.size := runTo_le p s _ i h
theorem skip_in {p : Int → Bool} {s : ByteArray} {i : Nat} (h : i < s.size) (hp : p (bt s i) = true) : skip p s i = skip p s (i + 1) := by
  unfold skip
  have : s.size - i = (s.size - (i + 1)) + 1 := by omega
  rw [this, runTo, if_pos ⟨h, hp⟩]
theorem skip_out {p : Int → Bool} {s : ByteArray} {i : Nat} (h : ¬ (i < s.size ∧ p (bt s i) = true)) : skip p s i = i := by
  unfold skip
  cases s.size - i with
  | zero => rfl
  | succ b => rw [runTo, if_neg h]
def whiteV (c : Int) : Bool := c == 32 || c == 9 || c == 10 || c == 13
theorem white_f (c : Int) : q8_.f c = some (whiteV c) := by
  unfold q8_.f whiteV
  repeat' split
  all_goals simp_all
def hasP (s : ByteArray) (i : Nat) (t : ByteArray) : Bool := decide (t.size ≤ s.size - i) && ((s.extract i s.size).extract 0 t.size).toList == t.toList
theorem wrap64_small (i : Nat) (h : i ≤ 4611686018427387904) : wrap64 ((i : Int) + 1) = ((i + 1 : Nat) : Int) := by unfold wrap64; omega
theorem space_l (s : ByteArray) (hs : s.size ≤ 4611686018427387904) (from_ : Int) : ∀ (k i : Nat), i ≤ s.size → s.size - i < k →
    q9_.l0 k from_ s i = some (decide (from_ < (skip whiteV s i : Int)), s, (skip whiteV s i : Int)) := by
  intro k
  induction k with
  | zero => intro i _ h; omega
  | succ k ih =>
    intro i hi hk
    simp only [q9_.l0]
    by_cases hlt : i < s.size
    · rw [if_pos (by omega), if_pos (by omega), white_f]
      simp only [Option.bind_some]
      cases hw : whiteV (bt s i) with
      | true =>
        simp only [if_true]
        rw [wrap64_small i (by omega), ih (i + 1) (by omega) (by omega), skip_in hlt hw]
      | false =>
        simp only [Bool.false_eq_true, if_false]
        rw [skip_out (by rw [hw]; simp)]
    · rw [if_neg (by omega), skip_out (by omega)]
theorem name_l (s : ByteArray) (hs : s.size ≤ 4611686018427387904) (i0 : Nat) : ∀ (k i : Nat), i0 ≤ i → i ≤ s.size → s.size - i < k →
    q10_.l0 k i0 s i = some (s.extract i0 (skip innerV s i), s, (skip innerV s i : Int)) := by
  intro k
  induction k with
  | zero => intro i _ _ h; omega
  | succ k ih =>
    intro i h0 hi hk
    simp only [q10_.l0]
    by_cases hlt : i < s.size
    · rw [if_pos (by omega), if_pos (by omega), inner_f]
      simp only [Option.bind_some]
      cases hw : innerV (bt s i) with
      | true =>
        simp only [if_true]
        rw [wrap64_small i (by omega), ih (i + 1) (by omega) (by omega) (by omega), skip_in hlt hw]
      | false =>
        simp only [Bool.false_eq_true, if_false]
        rw [skip_out (by rw [hw]; simp), if_pos (by omega), if_pos (by omega), if_pos (by omega)]
        simp
    · rw [if_neg (by omega), skip_out (by omega), if_pos (by omega), if_pos (by omega), if_pos (by omega)]
      simp
theorem eat_f (s : ByteArray) (hs : s.size ≤ 4611686018427387904) (i : Nat) (hi : i ≤ s.size) (t : ByteArray) (ht : t.size ≤ 1024) :
    q11_.f s i t = some (hasP s i t, s, (((if hasP s i t = true then i + t.size else i) : Nat) : Int)) := by
  have hsz : (s.extract i s.size).size = s.size - i := by simp
  unfold q11_.f
  rw [if_pos (by omega), if_pos (by omega), Int.toNat_natCast, hasPrefix_f _ _ (by omega) (by omega), hsz]
  simp only [Option.bind_some]
  change (if hasP s i t = true then _ else _) = _
  cases h : hasP s i t with
  | true =>
    simp only [if_true]
    have : wrap64 ((i : Int) + (t.size : Int)) = ((i + t.size : Nat) : Int) := by
      have h2 : t.size ≤ s.size - i := of_decide_eq_true ((Bool.and_eq_true _ _).mp h).1
      unfold wrap64; omega
    rw [this]
  | false => simp
theorem hasP_le {s : ByteArray} {i : Nat} {t : ByteArray} (h : hasP s i t = true) : t.size ≤ s.size - i := of_decide_eq_true ((Bool.and_eq_true _ _).mp h).1
structure Rd (w0 w : World) (g : Nat) (s : ByteArray) (i : Nat) : Prop where
  st : IsS91 w0 w g s i
  below : Below w0.heap.size w0 w
  le : i ≤ s.size
  small : s.size ≤ 1073741824
theorem space_calls {w0 w : World} {g : Nat} {s : ByteArray} {i : Nat} (h : Rd w0 w g s i) :
    Calls Tryd.prog 48 #[.pointer (some ⟨g, 0, none⟩)] w fun e w' => e = .returned (.bool (decide (i < skip whiteV s i))) ∧ Rd w0 w' g s (skip whiteV s i) ∧ KeepBut w w' g none := by
  have hsp := space_l s (by have := h.small; omega) (i : Int) (s.size + 1) i h.le (by omega)
  refine (q9_.calls (s.size + 1) g s i _ _ _ w0 w h.st h.below hsp).mono ?_
  rintro e w' ⟨rfl, h1, h2, h3⟩
  exact ⟨by simp, ⟨h1, h2, (skip_le _ _ _ h.le).2, h.small⟩, h3⟩
theorem name_calls {w0 w : World} {g : Nat} {s : ByteArray} {i : Nat} (h : Rd w0 w g s i) :
    Calls Tryd.prog 93 #[.pointer (some ⟨g, 0, none⟩)] w fun e w' => e = .returned (.string (s.extract i (skip innerV s i))) ∧ Rd w0 w' g s (skip innerV s i) ∧ KeepBut w w' g none := by
  have hsp := name_l s (by have := h.small; omega) i (s.size + 1) i (Nat.le_refl _) h.le (by omega)
  refine (q10_.calls (s.size + 1) g s i _ _ _ w0 w h.st h.below hsp).mono ?_
  rintro e w' ⟨rfl, h1, h2, h3⟩
  exact ⟨rfl, ⟨h1, h2, (skip_le _ _ _ h.le).2, h.small⟩, h3⟩
theorem eat_calls {w0 w : World} {g : Nat} {s : ByteArray} {i : Nat} (h : Rd w0 w g s i) (t : ByteArray) (ht : t.size ≤ 1024) :
    Calls Tryd.prog 92 #[.pointer (some ⟨g, 0, none⟩), .string t] w fun e w' => e = .returned (.bool (hasP s i t)) ∧ Rd w0 w' g s (if hasP s i t = true then i + t.size else i) ∧ KeepBut w w' g none := by
  have hsp := eat_f s (by have := h.small; omega) i h.le t ht
  refine (q11_.calls g s i t _ _ _ w0 w h.st h.below hsp).mono ?_
  rintro e w' ⟨rfl, h1, h2, h3⟩
  refine ⟨rfl, ⟨h1, h2, ?_, h.small⟩, h3⟩
  have := h.le
  split
  · rename_i h4; have := hasP_le h4; omega
  · exact h.le
theorem Rd.cell0 {w0 w : World} {g : Nat} {s : ByteArray} {i : Nat} (h : Rd w0 w g s i) : w.cell? ⟨g, 0, none⟩ = some (.string s) := cellS91_0 h.st.1
theorem Rd.cell1 {w0 w : World} {g : Nat} {s : ByteArray} {i : Nat} (h : Rd w0 w g s i) : w.cell? ⟨g, 1, none⟩ = some (.int .i64 i) := cellS91_1 h.st.1
theorem Rd.frozen {w0 w : World} {g : Nat} {s : ByteArray} {i : Nat} (h : Rd w0 w g s i) (j : Nat) : w.frozen? ⟨g, j, none⟩ = false := blk_frozen h.st.1 j
theorem Rd.drewN {w0 w : World} {g : Nat} {s : ByteArray} {i : Nat} (h : Rd w0 w g s i) (n : Nat) : Rd w0 (w.drewN n) g s i := ⟨h.st.drewN n, pw_below_drewN h.below n, h.le, h.small⟩
theorem Rd.lt {w0 w : World} {g : Nat} {s : ByteArray} {i : Nat} (h : Rd w0 w g s i) : g < w.heap.size := h.st.lt
theorem Rd.ge {w0 w : World} {g : Nat} {s : ByteArray} {i : Nat} (h : Rd w0 w g s i) : w0.heap.size ≤ g := h.st.ge
theorem Rd.stays {w0 w w' : World} {g : Nat} {s : ByteArray} {i : Nat} (h : Rd w0 w g s i) (hb : Below w.heap.size w w') : Rd w0 w' g s i := ⟨h.st.below hb, below_then h.below h.below.size hb, h.le, h.small⟩
theorem Rd.move {w0 w : World} {g : Nat} {s : ByteArray} {i : Nat} (h : Rd w0 w g s i) (j : Nat) (hj : j ≤ s.size) : Rd w0 (w.setCell ⟨g, 1, none⟩ (.int .i64 j)) g s j :=
  ⟨h.st.set_1 j, h.below.setCell (p := ⟨g, 1, none⟩) h.ge _, hj, h.small⟩
theorem Rd.far {w0 w : World} {g : Nat} {s : ByteArray} {i : Nat} (h : Rd w0 w g s i) {p : Addr} (hp : p.block ≠ g) (hge : w0.heap.size ≤ p.block) (u : Value) : Rd w0 (w.setCell p u) g s i :=
  ⟨h.st.far (fun e => hp e.symm) u, h.below.setCell hge _, h.le, h.small⟩
end Go.Proofs.YtkhjpobhdpcglaaDoor.X
end
section
namespace Go.Proofs
open Go.Shelf
def Tryd.lays170_ren : Go.Shelf.Ren := ⟨fun | 170 => 68 | n => n, fun | 70 => 97 | 3 => 3 | 0 => 0 | 72 => 99 | 37 => 22 | 5 => 5 | n => n, fun | n => n⟩
theorem Tryd.lays170 : Go.Proofs.Lays.n170 Tryd.prog Tryd.lays170_ren := {
  mixed := by kernel_rfl
  f170 := Tryd.func68.trans (congrArg some (by kernel_rfl))
  t0 := Tryd.underlying0
  a0 := Tryd.isAgg0
  z0 := Tryd.sizeOf0
  v0 := Tryd.zeroValue0
  t3 := Tryd.underlying3
  a3 := Tryd.isAgg3
  z3 := Tryd.sizeOf3
  v3 := Tryd.zeroValue3
  t37 := Tryd.underlying22
  a37 := Tryd.isAgg22
  z37 := Tryd.sizeOf22
  v37 := Tryd.zeroValue22
  t70 := Tryd.underlying97
  a70 := Tryd.isAgg97
  z70 := Tryd.sizeOf97
  v70 := Tryd.zeroValue97
  t72 := Tryd.underlying99
  a72 := Tryd.isAgg99
  z72 := Tryd.sizeOf99
  v72 := Tryd.zeroValue99 }
open Go.RowKit in
theorem Tryd.Builder_Len (B b : Nat) (bs : List Value) (w : World) (h : Lib.IsBuilder 99 5 B b bs w) :
    Calls Tryd.prog 68 #[.pointer (some ⟨b, 0, none⟩)] w fun e w' => e = .returned (.int .i64 bs.length) ∧ w' = w := Any.Builder_Len Tryd.lays170 B b bs w h
def Tryd.lays169_ren : Go.Shelf.Ren := ⟨fun | 169 => 57 | n => n, fun | 70 => 97 | 9 => 9 | 0 => 0 | 72 => 99 | 37 => 22 | 127 => 126 | 3 => 3 | 5 => 5 | n => n, fun | n => n⟩
theorem Tryd.lays169 : Go.Proofs.Lays.n169 Tryd.prog Tryd.lays169_ren := {
  mixed := by kernel_rfl
  f169 := Tryd.func57.trans (congrArg some (by kernel_rfl))
  t0 := Tryd.underlying0
  a0 := Tryd.isAgg0
  z0 := Tryd.sizeOf0
  v0 := Tryd.zeroValue0
  t3 := Tryd.underlying3
  a3 := Tryd.isAgg3
  z3 := Tryd.sizeOf3
  v3 := Tryd.zeroValue3
  t9 := Tryd.underlying9
  a9 := Tryd.isAgg9
  z9 := Tryd.sizeOf9
  v9 := Tryd.zeroValue9
  t37 := Tryd.underlying22
  a37 := Tryd.isAgg22
  z37 := Tryd.sizeOf22
  v37 := Tryd.zeroValue22
  t70 := Tryd.underlying97
  a70 := Tryd.isAgg97
  z70 := Tryd.sizeOf97
  v70 := Tryd.zeroValue97
  t72 := Tryd.underlying99
  a72 := Tryd.isAgg99
  z72 := Tryd.sizeOf99
  v72 := Tryd.zeroValue99
  t127 := Tryd.underlying126
  a127 := Tryd.isAgg126
  z127 := Tryd.sizeOf126
  v127 := Tryd.zeroValue126 }
theorem Tryd.Builder_Extra_169 : Builder.Extra Tryd.prog Tryd.lays169_ren := {
  sizeBuilder := by kernel_rfl
  liesBuilder := by kernel_rfl
  t5 := Tryd.underlying5
  a5 := Tryd.isAgg5
  z5 := Tryd.sizeOf5
  v5 := Tryd.zeroValue5
  infoByte := by kernel_rfl
  cellsByte := by kernel_rfl
  sizeByte := by kernel_rfl
  neB5 := by decide }
open Go.RowKit in
theorem Tryd.Builder_String (B b : Nat) (l : List UInt8) (w : World) (h : Lib.IsBuilder 99 5 B b (Lib.byteCells l) w) (h0 : l ≠ []) :
    Calls Tryd.prog 57 #[.pointer (some ⟨b, 0, none⟩)] w fun e w' => e = .returned (.string ⟨l.toArray⟩) ∧ Below B w w' := Any.Builder_String Tryd.lays169 Tryd.Builder_Extra_169 B b l w h h0
open Go.RowKit in
theorem Tryd.Builder_String_any (B b : Nat) (l : List UInt8) (w : World) (h : Lib.IsBuilder 99 5 B b (Lib.byteCells l) w) (hBw : B ≤ w.heap.size) :
    Calls Tryd.prog 57 #[.pointer (some ⟨b, 0, none⟩)] w fun e w' => e = .returned (.string ⟨l.toArray⟩) ∧ Below B w w' := Any.Builder_String_any Tryd.lays169 Tryd.Builder_Extra_169 B b l w h hBw
def Tryd.lays119_ren : Go.Shelf.Ren := ⟨fun | 119 => 171 | n => n, fun | 21 => 21 | 4 => 4 | n => n, fun | n => n⟩
theorem Tryd.lays119 : Go.Proofs.Lays.n119 Tryd.prog Tryd.lays119_ren := {
  mixed := by kernel_rfl
  f119 := Tryd.func171.trans (congrArg some (by kernel_rfl))
  t4 := Tryd.underlying4
  a4 := Tryd.isAgg4
  z4 := Tryd.sizeOf4
  v4 := Tryd.zeroValue4
  t21 := Tryd.underlying21
  a21 := Tryd.isAgg21
  z21 := Tryd.sizeOf21
  v21 := Tryd.zeroValue21 }
theorem Tryd.utf8_ValidRune (r : Int) (w : World) :
    Calls Tryd.prog 171 #[.int .i32 r] w fun e w' => e = .returned (.bool (Lib.validRune r)) ∧ w' = w := Any.utf8_ValidRune Tryd.lays119 r w
def Tryd.lays137_ren : Go.Shelf.Ren := ⟨fun | 137 => 113 | 217 => 140 | 266 => 156 | n => n, fun | 9 => 9 | 5 => 5 | 3 => 3 | n => n, fun | n => n⟩
theorem Tryd.lays137 : Go.Proofs.Lays.n137 Tryd.prog Tryd.lays137_ren := {
  mixed := by kernel_rfl
  f137 := Tryd.func113.trans (congrArg some (by kernel_rfl))
  f217 := Tryd.func140.trans (congrArg some (by kernel_rfl))
  f266 := Tryd.func156.trans (congrArg some (by kernel_rfl))
  t3 := Tryd.underlying3
  a3 := Tryd.isAgg3
  z3 := Tryd.sizeOf3
  v3 := Tryd.zeroValue3
  t5 := Tryd.underlying5
  a5 := Tryd.isAgg5
  z5 := Tryd.sizeOf5
  v5 := Tryd.zeroValue5
  t9 := Tryd.underlying9
  a9 := Tryd.isAgg9
  z9 := Tryd.sizeOf9
  v9 := Tryd.zeroValue9 }
open Go.RowKit in
theorem Tryd.strings_IndexByte (s : ByteArray) (c : Int) (w : World) :
    Calls Tryd.prog 113 #[.string s, .int .u8 c] w fun e w' => e = .returned (.int .i64 (Lib.indexByte s.data.toList c.toNat.toUInt8)) ∧ w' = w := Any.strings_IndexByte Tryd.lays137 s c w
def Tryd.lays219_ren : Go.Shelf.Ren := ⟨fun | 219 => 129 | 217 => 140 | 225 => 148 | 224 => 149 | 267 => 150 | 266 => 156 | 314 => 160 | n => n, fun | 9 => 9 | 3 => 3 | 4 => 4 | 5 => 5 | 46 => 156 | 146 => 159 | 51 => 158 | n => n, fun | 1 => 0 | n => n⟩
theorem Tryd.lays219 : Go.Proofs.Lays.n219 Tryd.prog Tryd.lays219_ren := {
  mixed := by kernel_rfl
  f217 := Tryd.func140.trans (congrArg some (by kernel_rfl))
  f219 := Tryd.func129.trans (congrArg some (by kernel_rfl))
  f224 := Tryd.func149.trans (congrArg some (by kernel_rfl))
  f225 := Tryd.func148.trans (congrArg some (by kernel_rfl))
  f266 := Tryd.func156.trans (congrArg some (by kernel_rfl))
  f267 := Tryd.func150.trans (congrArg some (by kernel_rfl))
  f314 := Tryd.func160.trans (congrArg some (by kernel_rfl))
  t3 := Tryd.underlying3
  a3 := Tryd.isAgg3
  z3 := Tryd.sizeOf3
  v3 := Tryd.zeroValue3
  t4 := Tryd.underlying4
  a4 := Tryd.isAgg4
  z4 := Tryd.sizeOf4
  v4 := Tryd.zeroValue4
  t5 := Tryd.underlying5
  a5 := Tryd.isAgg5
  z5 := Tryd.sizeOf5
  v5 := Tryd.zeroValue5
  t9 := Tryd.underlying9
  a9 := Tryd.isAgg9
  z9 := Tryd.sizeOf9
  v9 := Tryd.zeroValue9
  t46 := Tryd.underlying156
  a46 := Tryd.isAgg156
  z46 := Tryd.sizeOf156
  v46 := Tryd.zeroValue156
  t51 := Tryd.underlying158
  a51 := Tryd.isAgg158
  z51 := Tryd.sizeOf158
  v51 := Tryd.zeroValue158
  t146 := Tryd.underlying159
  a146 := Tryd.isAgg159
  z146 := Tryd.sizeOf159
  v146 := Tryd.zeroValue159
  g1 := by kernel_rfl }
open Go.RowKit Go.Lib in
theorem Tryd.stringslite_Index_one (s : ByteArray) (c : UInt8) (w : World) :
    Calls Tryd.prog 129 #[.string s, .string ⟨#[c]⟩] w fun e w' => e = .returned (.int .i64 (Lib.indexByte s.data.toList c)) ∧ w' = w := Any.stringslite_Index_one Tryd.lays219 s c w
def Tryd.lays143_ren : Go.Shelf.Ren := ⟨fun | 143 => 90 | 219 => 129 | 217 => 140 | 225 => 148 | 224 => 149 | 267 => 150 | 266 => 156 | 314 => 160 | n => n, fun | 9 => 9 | 3 => 3 | 4 => 4 | 5 => 5 | 46 => 156 | 146 => 159 | 51 => 158 | n => n, fun | 1 => 0 | n => n⟩
theorem Tryd.lays143 : Go.Proofs.Lays.n143 Tryd.prog Tryd.lays143_ren := {
  mixed := by kernel_rfl
  f143 := Tryd.func90.trans (congrArg some (by kernel_rfl))
  f217 := Tryd.func140.trans (congrArg some (by kernel_rfl))
  f219 := Tryd.func129.trans (congrArg some (by kernel_rfl))
  f224 := Tryd.func149.trans (congrArg some (by kernel_rfl))
  f225 := Tryd.func148.trans (congrArg some (by kernel_rfl))
  f266 := Tryd.func156.trans (congrArg some (by kernel_rfl))
  f267 := Tryd.func150.trans (congrArg some (by kernel_rfl))
  f314 := Tryd.func160.trans (congrArg some (by kernel_rfl))
  t3 := Tryd.underlying3
  a3 := Tryd.isAgg3
  z3 := Tryd.sizeOf3
  v3 := Tryd.zeroValue3
  t4 := Tryd.underlying4
  a4 := Tryd.isAgg4
  z4 := Tryd.sizeOf4
  v4 := Tryd.zeroValue4
  t5 := Tryd.underlying5
  a5 := Tryd.isAgg5
  z5 := Tryd.sizeOf5
  v5 := Tryd.zeroValue5
  t9 := Tryd.underlying9
  a9 := Tryd.isAgg9
  z9 := Tryd.sizeOf9
  v9 := Tryd.zeroValue9
  t46 := Tryd.underlying156
  a46 := Tryd.isAgg156
  z46 := Tryd.sizeOf156
  v46 := Tryd.zeroValue156
  t51 := Tryd.underlying158
  a51 := Tryd.isAgg158
  z51 := Tryd.sizeOf158
  v51 := Tryd.zeroValue158
  t146 := Tryd.underlying159
  a146 := Tryd.isAgg159
  z146 := Tryd.sizeOf159
  v146 := Tryd.zeroValue159
  g1 := by kernel_rfl }
open Go.RowKit Go.Lib in
theorem Tryd.strings_Index (s sub : ByteArray) (m : Int) (w : World) (hs : s.size < 4294967281) (hm : w.cell? ⟨0, 0, none⟩ = some (.int .i64 m)) :
    Calls Tryd.prog 90 #[.string s, .string sub] w fun e w' => e = .returned (.int .i64 (Lib.index s.data.toList sub.data.toList)) ∧ w' = w := Any.strings_Index Tryd.lays143 s sub m w hs hm
def Tryd.lays145_ren : Go.Shelf.Ren := ⟨fun | 145 => 55 | 220 => 104 | 219 => 129 | 217 => 140 | 225 => 148 | 224 => 149 | 267 => 150 | 266 => 156 | 314 => 160 | n => n, fun | 9 => 9 | 4 => 4 | 59 => 100 | 3 => 3 | 5 => 5 | 46 => 156 | 146 => 159 | 51 => 158 | n => n, fun | 1 => 0 | n => n⟩
theorem Tryd.lays145 : Go.Proofs.Lays.n145 Tryd.prog Tryd.lays145_ren := {
  mixed := by kernel_rfl
  f145 := Tryd.func55.trans (congrArg some (by kernel_rfl))
  f217 := Tryd.func140.trans (congrArg some (by kernel_rfl))
  f219 := Tryd.func129.trans (congrArg some (by kernel_rfl))
  f220 := Tryd.func104.trans (congrArg some (by kernel_rfl))
  f224 := Tryd.func149.trans (congrArg some (by kernel_rfl))
  f225 := Tryd.func148.trans (congrArg some (by kernel_rfl))
  f266 := Tryd.func156.trans (congrArg some (by kernel_rfl))
  f267 := Tryd.func150.trans (congrArg some (by kernel_rfl))
  f314 := Tryd.func160.trans (congrArg some (by kernel_rfl))
  t3 := Tryd.underlying3
  a3 := Tryd.isAgg3
  z3 := Tryd.sizeOf3
  v3 := Tryd.zeroValue3
  t4 := Tryd.underlying4
  a4 := Tryd.isAgg4
  z4 := Tryd.sizeOf4
  v4 := Tryd.zeroValue4
  t5 := Tryd.underlying5
  a5 := Tryd.isAgg5
  z5 := Tryd.sizeOf5
  v5 := Tryd.zeroValue5
  t9 := Tryd.underlying9
  a9 := Tryd.isAgg9
  z9 := Tryd.sizeOf9
  v9 := Tryd.zeroValue9
  t46 := Tryd.underlying156
  a46 := Tryd.isAgg156
  z46 := Tryd.sizeOf156
  v46 := Tryd.zeroValue156
  t51 := Tryd.underlying158
  a51 := Tryd.isAgg158
  z51 := Tryd.sizeOf158
  v51 := Tryd.zeroValue158
  t59 := Tryd.underlying100
  a59 := Tryd.isAgg100
  z59 := Tryd.sizeOf100
  v59 := Tryd.zeroValue100
  t146 := Tryd.underlying159
  a146 := Tryd.isAgg159
  z146 := Tryd.sizeOf159
  v146 := Tryd.zeroValue159
  g1 := by kernel_rfl }
open Go.RowKit Go.Lib in
theorem Tryd.strings_Cut (s sep : ByteArray) (m : Int) (w : World) (hs : s.size < 4294967281) (hm : w.cell? ⟨0, 0, none⟩ = some (.int .i64 m)) :
    Calls Tryd.prog 55 #[.string s, .string sep] w fun e w' => e = .returned (.tuple #[.string ⟨(Lib.cut s.data.toList sep.data.toList).1.toArray⟩, .string ⟨(Lib.cut s.data.toList sep.data.toList).2.1.toArray⟩, .bool (Lib.cut s.data.toList sep.data.toList).2.2]) ∧ ∃ n, w' = w.drewN n := Any.strings_Cut Tryd.lays145 s sep m w hs hm
def Tryd.lays206_ren : Go.Shelf.Ren := ⟨fun | 206 => 128 | n => n, fun | 9 => 9 | 4 => 4 | 3 => 3 | n => n, fun | n => n⟩
theorem Tryd.lays206 : Go.Proofs.Lays.n206 Tryd.prog Tryd.lays206_ren := {
  mixed := by kernel_rfl
  f206 := Tryd.func128.trans (congrArg some (by kernel_rfl))
  t3 := Tryd.underlying3
  a3 := Tryd.isAgg3
  z3 := Tryd.sizeOf3
  v3 := Tryd.zeroValue3
  t4 := Tryd.underlying4
  a4 := Tryd.isAgg4
  z4 := Tryd.sizeOf4
  v4 := Tryd.zeroValue4
  t9 := Tryd.underlying9
  a9 := Tryd.isAgg9
  z9 := Tryd.sizeOf9
  v9 := Tryd.zeroValue9 }
open Go.RowKit Go.Lib in
theorem Tryd.stringslite_HasPrefix (s p : ByteArray) (w : World) :
    Calls Tryd.prog 128 #[.string s, .string p] w fun e w' => e = .returned (.bool (Lib.hasPrefix s.data.toList p.data.toList)) ∧ w' = w := Any.stringslite_HasPrefix Tryd.lays206 s p w
def Tryd.lays99_ren : Go.Shelf.Ren := ⟨fun | 99 => 89 | 206 => 128 | n => n, fun | 9 => 9 | 4 => 4 | 3 => 3 | n => n, fun | n => n⟩
theorem Tryd.lays99 : Go.Proofs.Lays.n99 Tryd.prog Tryd.lays99_ren := {
  mixed := by kernel_rfl
  f99 := Tryd.func89.trans (congrArg some (by kernel_rfl))
  f206 := Tryd.func128.trans (congrArg some (by kernel_rfl))
  t3 := Tryd.underlying3
  a3 := Tryd.isAgg3
  z3 := Tryd.sizeOf3
  v3 := Tryd.zeroValue3
  t4 := Tryd.underlying4
  a4 := Tryd.isAgg4
  z4 := Tryd.sizeOf4
  v4 := Tryd.zeroValue4
  t9 := Tryd.underlying9
  a9 := Tryd.isAgg9
  z9 := Tryd.sizeOf9
  v9 := Tryd.zeroValue9 }
open Go.RowKit Go.Lib in
theorem Tryd.strings_HasPrefix (s p : ByteArray) (w : World) :
    Calls Tryd.prog 89 #[.string s, .string p] w fun e w' => e = .returned (.bool (Lib.hasPrefix s.data.toList p.data.toList)) ∧ w' = w := Any.strings_HasPrefix Tryd.lays99 s p w
def Tryd.lays155_ren : Go.Shelf.Ren := ⟨fun | 155 => 54 | 154 => 103 | 138 => 131 | 165 => 132 | 143 => 90 | 166 => 56 | 197 => 133 | 169 => 57 | 195 => 152 | 218 => 153 | 240 => 105 | 241 => 154 | 219 => 129 | 260 => 155 | 276 => 134 | 277 => 165 | 217 => 140 | 225 => 148 | 224 => 149 | 267 => 150 | 266 => 156 | 314 => 160 | n => n, fun | 9 => 9 | 3 => 3 | 4 => 4 | 72 => 99 | 0 => 0 | 76 => 104 | 105 => 145 | 21 => 21 | 5 => 5 | 70 => 97 | 20 => 20 | 37 => 22 | 75 => 103 | 127 => 126 | 164 => 147 | 46 => 156 | 119 => 167 | 139 => 170 | 138 => 169 | 146 => 159 | 51 => 158 | 80 => 81 | n => n, fun | 1 => 0 | 3 => 1 | 4 => 2 | n => n⟩
theorem Tryd.lays155 : Go.Proofs.Lays.n155 Tryd.prog Tryd.lays155_ren := {
  mixed := by kernel_rfl
  f138 := Tryd.func131.trans (congrArg some (by kernel_rfl))
  f143 := Tryd.func90.trans (congrArg some (by kernel_rfl))
  f154 := Tryd.func103.trans (congrArg some (by kernel_rfl))
  f155 := Tryd.func54.trans (congrArg some (by kernel_rfl))
  f165 := Tryd.func132.trans (congrArg some (by kernel_rfl))
  f166 := Tryd.func56.trans (congrArg some (by kernel_rfl))
  f169 := Tryd.func57.trans (congrArg some (by kernel_rfl))
  f195 := Tryd.func152.trans (congrArg some (by kernel_rfl))
  f197 := Tryd.func133.trans (congrArg some (by kernel_rfl))
  f217 := Tryd.func140.trans (congrArg some (by kernel_rfl))
  f218 := Tryd.func153.trans (congrArg some (by kernel_rfl))
  f219 := Tryd.func129.trans (congrArg some (by kernel_rfl))
  f224 := Tryd.func149.trans (congrArg some (by kernel_rfl))
  f225 := Tryd.func148.trans (congrArg some (by kernel_rfl))
  f240 := Tryd.func105.trans (congrArg some (by kernel_rfl))
  f241 := Tryd.func154.trans (congrArg some (by kernel_rfl))
  f260 := Tryd.func155.trans (congrArg some (by kernel_rfl))
  f266 := Tryd.func156.trans (congrArg some (by kernel_rfl))
  f267 := Tryd.func150.trans (congrArg some (by kernel_rfl))
  f276 := Tryd.func134.trans (congrArg some (by kernel_rfl))
  f277 := Tryd.func165.trans (congrArg some (by kernel_rfl))
  f314 := Tryd.func160.trans (congrArg some (by kernel_rfl))
  t0 := Tryd.underlying0
  a0 := Tryd.isAgg0
  z0 := Tryd.sizeOf0
  v0 := Tryd.zeroValue0
  t3 := Tryd.underlying3
  a3 := Tryd.isAgg3
  z3 := Tryd.sizeOf3
  v3 := Tryd.zeroValue3
  t4 := Tryd.underlying4
  a4 := Tryd.isAgg4
  z4 := Tryd.sizeOf4
  v4 := Tryd.zeroValue4
  t5 := Tryd.underlying5
  a5 := Tryd.isAgg5
  z5 := Tryd.sizeOf5
  v5 := Tryd.zeroValue5
  t9 := Tryd.underlying9
  a9 := Tryd.isAgg9
  z9 := Tryd.sizeOf9
  v9 := Tryd.zeroValue9
  t20 := Tryd.underlying20
  a20 := Tryd.isAgg20
  z20 := Tryd.sizeOf20
  v20 := Tryd.zeroValue20
  t21 := Tryd.underlying21
  a21 := Tryd.isAgg21
  z21 := Tryd.sizeOf21
  v21 := Tryd.zeroValue21
  t37 := Tryd.underlying22
  a37 := Tryd.isAgg22
  z37 := Tryd.sizeOf22
  v37 := Tryd.zeroValue22
  t46 := Tryd.underlying156
  a46 := Tryd.isAgg156
  z46 := Tryd.sizeOf156
  v46 := Tryd.zeroValue156
  t51 := Tryd.underlying158
  a51 := Tryd.isAgg158
  z51 := Tryd.sizeOf158
  v51 := Tryd.zeroValue158
  t70 := Tryd.underlying97
  a70 := Tryd.isAgg97
  z70 := Tryd.sizeOf97
  v70 := Tryd.zeroValue97
  t72 := Tryd.underlying99
  a72 := Tryd.isAgg99
  z72 := Tryd.sizeOf99
  v72 := Tryd.zeroValue99
  t75 := Tryd.underlying103
  a75 := Tryd.isAgg103
  z75 := Tryd.sizeOf103
  v75 := Tryd.zeroValue103
  t76 := Tryd.underlying104
  a76 := Tryd.isAgg104
  z76 := Tryd.sizeOf104
  v76 := Tryd.zeroValue104
  t105 := Tryd.underlying145
  a105 := Tryd.isAgg145
  z105 := Tryd.sizeOf145
  v105 := Tryd.zeroValue145
  t119 := Tryd.underlying167
  a119 := Tryd.isAgg167
  z119 := Tryd.sizeOf167
  t127 := Tryd.underlying126
  a127 := Tryd.isAgg126
  z127 := Tryd.sizeOf126
  v127 := Tryd.zeroValue126
  t138 := Tryd.underlying169
  a138 := Tryd.isAgg169
  z138 := Tryd.sizeOf169
  v138 := Tryd.zeroValue169
  t139 := Tryd.underlying170
  a139 := Tryd.isAgg170
  z139 := Tryd.sizeOf170
  v139 := Tryd.zeroValue170
  t146 := Tryd.underlying159
  a146 := Tryd.isAgg159
  z146 := Tryd.sizeOf159
  v146 := Tryd.zeroValue159
  t164 := Tryd.underlying147
  a164 := Tryd.isAgg147
  z164 := Tryd.sizeOf147
  v164 := Tryd.zeroValue147
  g1 := by kernel_rfl
  g3 := by kernel_rfl
  g4 := by kernel_rfl }
theorem Tryd.Builder_Extra_155 : Builder.Extra Tryd.prog Tryd.lays155_ren := {
  sizeBuilder := by kernel_rfl
  liesBuilder := by kernel_rfl
  t5 := Tryd.underlying5
  a5 := Tryd.isAgg5
  z5 := Tryd.sizeOf5
  v5 := Tryd.zeroValue5
  infoByte := by kernel_rfl
  cellsByte := by kernel_rfl
  sizeByte := by kernel_rfl
  neB5 := by decide }
open Go.RowKit Go.Lib in
theorem Tryd.strings_ReplaceAll (s old new : ByteArray) (m : Int) (w : World) (hs : s.size < 4294967281) (hm : w.cell? ⟨0, 0, none⟩ = some (.int .i64 m)) (h1 : 1 ≤ old.size) (hlen : s.size + Lib.countB s old * new.size ≤ 140737488355328) :
    Calls Tryd.prog 54 #[.string s, .string old, .string new] w fun e w' =>
      e = .returned (.string ⟨(Lib.replaceAll s.data.toList old.data.toList new.data.toList).toArray⟩) ∧ Below w.heap.size w w' := Any.strings_ReplaceAll Tryd.lays155 Tryd.Builder_Extra_155 s old new m w hs hm h1 hlen
def Tryd.lays152_ren : Go.Shelf.Ren := ⟨fun | 152 => 161 | 137 => 113 | 119 => 171 | 224 => 149 | 225 => 148 | 217 => 140 | 266 => 156 | n => n, fun | 9 => 9 | 21 => 21 | 3 => 3 | 4 => 4 | 5 => 5 | 0 => 0 | 46 => 156 | n => n, fun | n => n⟩
theorem Tryd.lays152 : Go.Proofs.Lays.n152 Tryd.prog Tryd.lays152_ren := {
  mixed := by kernel_rfl
  f119 := Tryd.func171.trans (congrArg some (by kernel_rfl))
  f137 := Tryd.func113.trans (congrArg some (by kernel_rfl))
  f152 := Tryd.func161.trans (congrArg some (by kernel_rfl))
  f217 := Tryd.func140.trans (congrArg some (by kernel_rfl))
  f224 := Tryd.func149.trans (congrArg some (by kernel_rfl))
  f225 := Tryd.func148.trans (congrArg some (by kernel_rfl))
  f266 := Tryd.func156.trans (congrArg some (by kernel_rfl))
  t0 := Tryd.underlying0
  a0 := Tryd.isAgg0
  z0 := Tryd.sizeOf0
  v0 := Tryd.zeroValue0
  t3 := Tryd.underlying3
  a3 := Tryd.isAgg3
  z3 := Tryd.sizeOf3
  v3 := Tryd.zeroValue3
  t4 := Tryd.underlying4
  a4 := Tryd.isAgg4
  z4 := Tryd.sizeOf4
  v4 := Tryd.zeroValue4
  t5 := Tryd.underlying5
  a5 := Tryd.isAgg5
  z5 := Tryd.sizeOf5
  v5 := Tryd.zeroValue5
  t9 := Tryd.underlying9
  a9 := Tryd.isAgg9
  z9 := Tryd.sizeOf9
  v9 := Tryd.zeroValue9
  t21 := Tryd.underlying21
  a21 := Tryd.isAgg21
  z21 := Tryd.sizeOf21
  v21 := Tryd.zeroValue21
  t46 := Tryd.underlying156
  a46 := Tryd.isAgg156
  z46 := Tryd.sizeOf156
  v46 := Tryd.zeroValue156 }
open Go.RowKit Go.Lib in
theorem Tryd.strings_IndexRune_ascii (s : ByteArray) (r : Int) (w : World) (h0 : 0 ≤ r) (h1 : r < 128) :
    Calls Tryd.prog 161 #[.string s, .int .i32 r] w fun e w' => e = .returned (.int .i64 (Lib.indexByte s.data.toList r.toNat.toUInt8)) ∧ w' = w := Any.strings_IndexRune_ascii Tryd.lays152 s r w h0 h1
def Tryd.lays226_ren : Go.Shelf.Ren := ⟨fun | 226 => 162 | n => n, fun | 3 => 3 | 4 => 4 | n => n, fun | n => n⟩
theorem Tryd.lays226 : Go.Proofs.Lays.n226 Tryd.prog Tryd.lays226_ren := {
  mixed := by kernel_rfl
  f226 := Tryd.func162.trans (congrArg some (by kernel_rfl))
  t3 := Tryd.underlying3
  a3 := Tryd.isAgg3
  z3 := Tryd.sizeOf3
  v3 := Tryd.zeroValue3
  t4 := Tryd.underlying4
  a4 := Tryd.isAgg4
  z4 := Tryd.sizeOf4
  v4 := Tryd.zeroValue4 }
open Go.RowKit Go.Lib in
theorem Tryd.strings_shouldUseASCIISet (n : Int) (w : World) :
    Calls Tryd.prog 162 #[.int .i64 n] w fun e w' => e = .returned (.bool (decide (8 < n))) ∧ w' = w := Any.strings_shouldUseASCIISet Tryd.lays226 n w
def Tryd.lays153_ren : Go.Shelf.Ren := ⟨fun | 153 => 151 | 152 => 161 | 226 => 162 | 227 => 163 | 228 => 164 | 137 => 113 | 119 => 171 | 224 => 149 | 225 => 148 | 217 => 140 | 266 => 156 | n => n, fun | 9 => 9 | 3 => 3 | 4 => 4 | 5 => 5 | 21 => 21 | 117 => 164 | 116 => 163 | 0 => 0 | 46 => 156 | 124 => 177 | n => n, fun | n => n⟩
theorem Tryd.lays153 : Go.Proofs.Lays.n153 Tryd.prog Tryd.lays153_ren := {
  mixed := by kernel_rfl
  f119 := Tryd.func171.trans (congrArg some (by kernel_rfl))
  f137 := Tryd.func113.trans (congrArg some (by kernel_rfl))
  f152 := Tryd.func161.trans (congrArg some (by kernel_rfl))
  f153 := Tryd.func151.trans (congrArg some (by kernel_rfl))
  f217 := Tryd.func140.trans (congrArg some (by kernel_rfl))
  f224 := Tryd.func149.trans (congrArg some (by kernel_rfl))
  f225 := Tryd.func148.trans (congrArg some (by kernel_rfl))
  f226 := Tryd.func162.trans (congrArg some (by kernel_rfl))
  f227 := Tryd.func163.trans (congrArg some (by kernel_rfl))
  f228 := Tryd.func164.trans (congrArg some (by kernel_rfl))
  f266 := Tryd.func156.trans (congrArg some (by kernel_rfl))
  t0 := Tryd.underlying0
  a0 := Tryd.isAgg0
  z0 := Tryd.sizeOf0
  v0 := Tryd.zeroValue0
  t3 := Tryd.underlying3
  a3 := Tryd.isAgg3
  z3 := Tryd.sizeOf3
  v3 := Tryd.zeroValue3
  t4 := Tryd.underlying4
  a4 := Tryd.isAgg4
  z4 := Tryd.sizeOf4
  v4 := Tryd.zeroValue4
  t5 := Tryd.underlying5
  a5 := Tryd.isAgg5
  z5 := Tryd.sizeOf5
  v5 := Tryd.zeroValue5
  t9 := Tryd.underlying9
  a9 := Tryd.isAgg9
  z9 := Tryd.sizeOf9
  v9 := Tryd.zeroValue9
  t21 := Tryd.underlying21
  a21 := Tryd.isAgg21
  z21 := Tryd.sizeOf21
  v21 := Tryd.zeroValue21
  t46 := Tryd.underlying156
  a46 := Tryd.isAgg156
  z46 := Tryd.sizeOf156
  v46 := Tryd.zeroValue156
  t116 := Tryd.underlying163
  a116 := Tryd.isAgg163
  z116 := Tryd.sizeOf163
  t117 := Tryd.underlying164
  a117 := Tryd.isAgg164
  z117 := Tryd.sizeOf164
  v117 := Tryd.zeroValue164
  t124 := Tryd.underlying177
  a124 := Tryd.isAgg177
  z124 := Tryd.sizeOf177
  v124 := Tryd.zeroValue177 }
open Go.RowKit Go.Lib in
theorem Tryd.strings_IndexAny_long (hv116 : ∀ w, (zeroValue 163).run Tryd.prog w = .ok (.agg (Array.replicate 256 (.bool false))) w) (s chars : ByteArray) (w : World) (h2 : 2 ≤ chars.size) (h8 : 8 < s.size) (hs : s.size < 4294967281) (hcs : chars.size < 4294967281) (hascii : ∀ (j : Nat) b, chars.data.toList[j]? = some b → b.toNat < 128) :
    Calls Tryd.prog 151 #[.string s, .string chars] w fun e w' => e = .returned (.int .i64 (Lib.indexAny s.data.toList chars.data.toList)) ∧ w' = ((w.alloc (.cells (Lib.setCells chars.data.toList) 163)).alloc (.cells (Lib.setCells chars.data.toList) 163)) := Any.strings_IndexAny_long Tryd.lays153 hv116 (by kernel_rfl) s chars w h2 h8 hs hcs hascii
def Tryd.lays150_ren : Go.Shelf.Ren := ⟨fun | 150 => 130 | 153 => 151 | 152 => 161 | 226 => 162 | 227 => 163 | 228 => 164 | 137 => 113 | 119 => 171 | 224 => 149 | 225 => 148 | 217 => 140 | 266 => 156 | n => n, fun | 9 => 9 | 4 => 4 | 3 => 3 | 5 => 5 | 21 => 21 | 117 => 164 | 116 => 163 | 0 => 0 | 46 => 156 | 124 => 177 | n => n, fun | n => n⟩
theorem Tryd.lays150 : Go.Proofs.Lays.n150 Tryd.prog Tryd.lays150_ren := {
  mixed := by kernel_rfl
  f119 := Tryd.func171.trans (congrArg some (by kernel_rfl))
  f137 := Tryd.func113.trans (congrArg some (by kernel_rfl))
  f150 := Tryd.func130.trans (congrArg some (by kernel_rfl))
  f152 := Tryd.func161.trans (congrArg some (by kernel_rfl))
  f153 := Tryd.func151.trans (congrArg some (by kernel_rfl))
  f217 := Tryd.func140.trans (congrArg some (by kernel_rfl))
  f224 := Tryd.func149.trans (congrArg some (by kernel_rfl))
  f225 := Tryd.func148.trans (congrArg some (by kernel_rfl))
  f226 := Tryd.func162.trans (congrArg some (by kernel_rfl))
  f227 := Tryd.func163.trans (congrArg some (by kernel_rfl))
  f228 := Tryd.func164.trans (congrArg some (by kernel_rfl))
  f266 := Tryd.func156.trans (congrArg some (by kernel_rfl))
  t0 := Tryd.underlying0
  a0 := Tryd.isAgg0
  z0 := Tryd.sizeOf0
  v0 := Tryd.zeroValue0
  t3 := Tryd.underlying3
  a3 := Tryd.isAgg3
  z3 := Tryd.sizeOf3
  v3 := Tryd.zeroValue3
  t4 := Tryd.underlying4
  a4 := Tryd.isAgg4
  z4 := Tryd.sizeOf4
  v4 := Tryd.zeroValue4
  t5 := Tryd.underlying5
  a5 := Tryd.isAgg5
  z5 := Tryd.sizeOf5
  v5 := Tryd.zeroValue5
  t9 := Tryd.underlying9
  a9 := Tryd.isAgg9
  z9 := Tryd.sizeOf9
  v9 := Tryd.zeroValue9
  t21 := Tryd.underlying21
  a21 := Tryd.isAgg21
  z21 := Tryd.sizeOf21
  v21 := Tryd.zeroValue21
  t46 := Tryd.underlying156
  a46 := Tryd.isAgg156
  z46 := Tryd.sizeOf156
  v46 := Tryd.zeroValue156
  t116 := Tryd.underlying163
  a116 := Tryd.isAgg163
  z116 := Tryd.sizeOf163
  t117 := Tryd.underlying164
  a117 := Tryd.isAgg164
  z117 := Tryd.sizeOf164
  v117 := Tryd.zeroValue164
  t124 := Tryd.underlying177
  a124 := Tryd.isAgg177
  z124 := Tryd.sizeOf177
  v124 := Tryd.zeroValue177 }
open Go.RowKit Go.Lib in
theorem Tryd.strings_ContainsAny (hv116 : ∀ w, (zeroValue 163).run Tryd.prog w = .ok (.agg (Array.replicate 256 (.bool false))) w) (s chars : ByteArray) (w : World) (hs : s.size < 4294967281) (hcs : chars.size < 4294967281) (has : ∀ (j : Nat) b, s.data.toList[j]? = some b → b.toNat < 128) (hac : ∀ (j : Nat) b, chars.data.toList[j]? = some b → b.toNat < 128) :
    Calls Tryd.prog 130 #[.string s, .string chars] w fun e w' => e = .returned (.bool (Lib.containsAny s.data.toList chars.data.toList)) ∧ Below w.heap.size w w' := Any.strings_ContainsAny Tryd.lays150 hv116 (by kernel_rfl) s chars w hs hcs has hac
end Go.Proofs
end
section
namespace Go.Proofs.YtkhjpobhdpcglaaDoor.X
open Go.RowKit Go.Proofs.YtkhjpobhdpcglaaDoorW.PrintWords Go.Proofs.YtkhjpobhdpcglaaDoorW.PrintLast Go.Proofs.YtkhjpobhdpcglaaDoorW.PrintMore
abbrev ltamp : ByteArray := ⟨#[60, 38]⟩
theorem enc2 (c : Nat) (h1 : Lib.validRune c = true) (hc : 128 ≤ c) (h8 : c < 2048) : Utf8.encode (c : Int) = ⟨#[UInt8.ofNat (192 + c / 64), UInt8.ofNat (128 + c % 64)]⟩ := by
  have hv : Utf8.valid (c : Int) = true := by simp [Utf8.valid]; omega
  have h0 : ¬ c < 128 := by omega
  simp [Utf8.encode, hv, h0, h8]
theorem enc3 (c : Nat) (h1 : Lib.validRune c = true) (h8 : 2048 ≤ c) : ∃ x y z l, Utf8.encode (c : Int) = ⟨(x :: y :: z :: l).toArray⟩ ∧ l.length ≤ 1 := by
  have hv : Utf8.valid (c : Int) = true := by
    simp [Lib.validRune] at h1
    simp [Utf8.valid]; omega
  have h0 : ¬ c < 128 := by omega
  have h2 : ¬ c < 2048 := by omega
  by_cases h3 : c < 65536
  · exact ⟨_, _, _, [], by simp [Utf8.encode, hv, h0, h2, h3]; exact ⟨rfl, rfl, rfl⟩, by simp⟩
  · exact ⟨_, _, _, [_], by simp [Utf8.encode, hv, h0, h2, h3]; exact ⟨rfl, rfl, rfl, rfl⟩, by simp⟩
set_option maxHeartbeats 1000000 in
set_option maxRecDepth 1000000 in
theorem IndexRune_fffd (w : World) :
    Calls Tryd.prog 161 #[.string ltamp, .int .i32 65533] w fun e w' => e = .returned (.int .i64 (-1)) ∧ Below w.heap.size w w' := by
  go_enter Tryd.func161, Tryd.ntmps161
  go_wp2
  go_loopw [] (fun w' => ∃ (pos : Nat), w' = w.iter ltamp pos ∧ pos ≤ 2) (fun w' => 2 - w'.iterPos w.heap.size)
  case atStart => exact ⟨0, rfl, by omega⟩
  case round =>
    obtain ⟨pos, rfl, hps⟩ := hrel
    by_cases hp : pos < 2
    · have hnx : ∀ ty, (Instr.next (.pointer (some ⟨w.heap.size, 0, none⟩)) true ty).run Tryd.prog (w.iter ltamp pos) = _ := fun ty => run_next_any w ltamp pos ty hp
      have hd : Utf8.decode ltamp pos = (if pos = 0 then 60 else 38, 1) := by
        rcases (show pos = 0 ∨ pos = 1 by omega) with rfl | rfl <;> rfl
      rw [hd] at hnx
      have hne : (((if pos = 0 then 60 else 38 : Nat) : Int) == 65533) = false := by split <;> rfl
      clear hd
      go_wp2
      go_roundw
      case rel => exact ⟨pos + 1, rfl, by omega⟩
      case measure => rw [World.iterPos_iter, World.iterPos_iter]; omega
    · have hnx : ∀ ty, (Instr.next (.pointer (some ⟨w.heap.size, 0, none⟩)) true ty).run Tryd.prog (w.iter ltamp pos) = _ := fun ty => run_next_end w ltamp pos ty hp
      go_wp2
      go_ret
      exact ⟨rfl, below_alloc (Below.refl _ _) _⟩
set_option maxHeartbeats 1000000 in
set_option maxRecDepth 1000000 in
theorem IndexRune_bad (c : Nat) (hc : 128 ≤ c) (h1 : Lib.validRune c = false) (hne : ((c : Int) == 65533) = false) (w : World) :
    Calls Tryd.prog 161 #[.string ltamp, .int .i32 c] w fun e w' => e = .returned (.int .i64 (-1)) ∧ Below w.heap.size w w' := by
  have H1 := Lib.hid h1
  clear h1
  have h2 : decide ((c : Int) < 128) = false := by simp; omega
  go_enter Tryd.func161, Tryd.ntmps161
  go_wp2_with (go_at_call 171; refine (Tryd.utf8_ValidRune _ _).mono ?_; rw [H1.out]; rintro e w' ⟨rfl, rfl⟩)
  go_ret
  exact ⟨rfl, Below.refl _ _⟩
set_option maxHeartbeats 1000000 in
set_option maxRecDepth 1000000 in
theorem IndexRune_two (c : Nat) (hc : 128 ≤ c) (h1 : Lib.validRune c = true) (h8 : c < 2048) (w : World) :
    Calls Tryd.prog 161 #[.string ltamp, .int .i32 c] w fun e w' => e = .returned (.int .i64 (-1)) ∧ Below w.heap.size w w' := by
  have HE := Lib.hid (enc2 c h1 hc h8)
  have H1 := Lib.hid h1
  clear h1
  have h2 : decide ((c : Int) < 128) = false := by simp; omega
  have hne : ((c : Int) == 65533) = false := by simp; omega
  go_enter Tryd.func161, Tryd.ntmps161
  go_wp2_with (go_at_call 171; refine (Tryd.utf8_ValidRune _ _).mono ?_; rw [H1.out]; rintro e w' ⟨rfl, rfl⟩)
  go_step3
  have henc := HE.out
  have hbyte : ∀ v : UInt8, v = UInt8.ofNat (128 + c % 64) → ((ltamp[1].toNat : Int) != (v.toNat : Int)) = true := by
    intro v hv
    subst hv
    have : (UInt8.ofNat (128 + c % 64)).toNat = 128 + c % 64 := by
      simp; omega
    rw [this]; show ((38 : Int) != _) = true; simp; omega
  obtain ⟨u, hu⟩ : ∃ u, u = UInt8.ofNat (192 + c / 64) := ⟨_, rfl⟩
  obtain ⟨v, hv⟩ : ∃ v, v = UInt8.ofNat (128 + c % 64) := ⟨_, rfl⟩
  rw [← hu, ← hv] at henc
  have hb : ((ltamp[1].toNat : Int) != (((⟨#[u, v]⟩ : ByteArray)[1]'(Nat.lt_succ_self 1)).toNat : Int)) = true := hbyte v hv
  clear hbyte hu hv
  have hib : ∀ x, Lib.indexByte [] x = -1 := fun _ => rfl
  go_wp2
  refine wp_loop_rounds 1 ?_
  rw [rounds_succ]
  go_wp2
  go_step3
  go_wp2
  go_quiet (fail)
  go_wp2
  go_quiet ((go_at_call 113; refine (Tryd.strings_IndexByte _ _ _).mono ?_; rintro e w2 ⟨rfl, rfl⟩; first | exact ⟨rfl, _, rfl⟩ | exact ⟨rfl, 0, rfl⟩ | trace_state))
  go_wp2
  simp only [Exit.then, Exit.inBlock, Exit.noGoto_ret]
  go_ret
  exact ⟨rfl, pw_below_drewN (Below.refl _ _) _⟩
set_option maxHeartbeats 1000000 in
set_option maxRecDepth 1000000 in
theorem IndexRune_more (c : Nat) (hc : 2048 ≤ c) (h1 : Lib.validRune c = true) (hne : ((c : Int) == 65533) = false) (w : World) :
    Calls Tryd.prog 161 #[.string ltamp, .int .i32 c] w fun e w' => e = .returned (.int .i64 (-1)) ∧ Below w.heap.size w w' := by
  obtain ⟨x, y, z, l, he, hl⟩ := enc3 c h1 hc
  have HE := Lib.hid he
  have H1 := Lib.hid h1
  clear h1 he
  have h2 : decide ((c : Int) < 128) = false := by simp; omega
  go_enter Tryd.func161, Tryd.ntmps161
  go_wp2_with (go_at_call 171; refine (Tryd.utf8_ValidRune _ _).mono ?_; rw [H1.out]; rintro e w' ⟨rfl, rfl⟩)
  go_step3
  have henc := HE.out
  go_wp2
  refine wp_loop_rounds 1 ?_
  rw [rounds_succ]
  have hlt : decide ((l.length : Int) + 1 + 1 < 2) = false := by simp; omega
  go_wp2
  rw [Exit.noGoto_ret]
  go_ret
  exact ⟨rfl, Below.refl _ _⟩
theorem IndexRune_high (c : Nat) (hc : 128 ≤ c) (w : World) :
    Calls Tryd.prog 161 #[.string ltamp, .int .i32 c] w fun e w' => e = .returned (.int .i64 (-1)) ∧ Below w.heap.size w w' := by
  by_cases h : c = 65533
  · subst h; exact IndexRune_fffd w
  · have hne : ((c : Int) == 65533) = false := by simp; omega
    cases hv : Lib.validRune (c : Int) with
    | false => exact IndexRune_bad c hc hv hne w
    | true =>
      by_cases h8 : c < 2048
      · exact IndexRune_two c hc hv h8 w
      · exact IndexRune_more c (by omega) hv hne w
theorem IndexRune_low (c : Nat) (hc : c < 128) (w : World) :
    Calls Tryd.prog 161 #[.string ltamp, .int .i32 c] w fun e w' => e = .returned (.int .i64 (if c = 60 then 0 else if c = 38 then 1 else -1)) ∧ Below w.heap.size w w' := by
  refine (Tryd.strings_IndexRune_ascii ltamp c w (by omega) (by omega)).mono ?_
  rintro e w' ⟨rfl, rfl⟩
  refine ⟨?_, Below.refl _ _⟩
  congr 2
  show Lib.indexByte [60, 38] ((c : Int).toNat.toUInt8) = _
  have e1 : ∀ n : Nat, n < 256 → ((60 : UInt8) == n.toUInt8) = decide (n = 60) := fun n hn => by
    rw [Bool.eq_iff_iff]; simp [← UInt8.toNat_inj, Nat.toUInt8]; omega
  have e2 : ∀ n : Nat, n < 256 → ((38 : UInt8) == n.toUInt8) = decide (n = 38) := fun n hn => by
    rw [Bool.eq_iff_iff]; simp [← UInt8.toNat_inj, Nat.toUInt8]; omega
  simp only [Int.toNat_natCast, Lib.indexByte, e1 c (by omega), e2 c (by omega), decide_eq_true_eq]
  split
  · rfl
  · split <;> rfl
def isMark (c : Nat) : Bool := c == 60 || c == 38
def anyB (s : ByteArray) : Nat → Nat → Bool
  | 0, _ => false
  | b + 1, pos => if pos < s.size then (if isMark (Utf8.decode s pos).1 then true else anyB s b (pos + (Utf8.decode s pos).2)) else false
theorem anyB_end (s : ByteArray) (b pos : Nat) (h : ¬ pos < s.size) : anyB s b pos = false := by
  cases b with
  | zero => rfl
  | succ b => simp [anyB, h]
def irune (c : Nat) : Int := if c < 128 then (if c = 60 then 0 else if c = 38 then 1 else -1) else -1
theorem IndexRune_amp (c : Nat) (w : World) :
    Calls Tryd.prog 161 #[.string ltamp, .int .i32 c] w fun e w' => e = .returned (.int .i64 (irune c)) ∧ Below w.heap.size w w' := by
  unfold irune
  by_cases h : c < 128
  · rw [if_pos h]; exact IndexRune_low c h w
  · rw [if_neg h]; exact IndexRune_high c (by omega) w
theorem irune_mark (c : Nat) : decide (0 ≤ irune c) = isMark c := by
  unfold irune isMark
  by_cases h : c < 128
  · rw [if_pos h]
    by_cases h1 : c = 60
    · simp [h1]
    · by_cases h2 : c = 38
      · simp [h2]
      · simp [h1, h2]
  · rw [if_neg h]
    have h1 : ¬ c = 60 := by omega
    have h2 : ¬ c = 38 := by omega
    simp [h1, h2]
set_option maxHeartbeats 1000000 in
set_option maxRecDepth 1000000 in
theorem IndexAny_short (s : ByteArray) (hs : s.size ≤ 8) (w : World) :
    Calls Tryd.prog 151 #[.string s, .string ltamp] w fun e w' => (∃ i : Int, e = .returned (.int .i64 i) ∧ decide (0 ≤ i) = anyB s s.size 0) ∧ Below w.heap.size w w' := by
  have h8 : decide ((s.size : Int) > 8) = false := by simp; omega
  have h9 : decide (8 < (s.size : Int)) = false := by simp; omega
  go_enter Tryd.func151, Tryd.ntmps151
  go_wp2_with (go_at_call 162; refine (Tryd.strings_shouldUseASCIISet _ _).mono ?_; rw [h9]; rintro e w2 ⟨rfl, hw2⟩; obtain rfl := hw2.symm)
  go_loopw [] (fun wr => ∃ (pos b : Nat), Aside0 (wr.heap[w.heap.size]? = some (.stringIter s pos)) ∧ Aside0 (anyB s b pos = anyB s s.size 0) ∧ s.size ≤ pos + b ∧ Below w.heap.size w wr) (fun wr => s.size - wr.iterPos w.heap.size)
  case atStart => exact ⟨0, s.size, ⟨World.iter_heap _ _ _⟩, ⟨rfl⟩, by omega, below_alloc (Below.refl _ _) _⟩
  case round =>
    obtain ⟨pos, b, HI, HC, hb, hbel⟩ := hrel
    have hsz := hbel.size
    by_cases hp : pos < s.size
    · have hnx : ∀ ty, (Instr.next (.pointer (some ⟨w.heap.size, 0, none⟩)) true ty).run Tryd.prog wr = _ := fun ty => Lib.run_next_any_at wr w.heap.size s pos ty HI.out hp
      have hwd := width_pos s pos hp
      obtain ⟨b, rfl⟩ : ∃ b', b = b' + 1 := ⟨b - 1, by omega⟩
      have HI2 := Aside0.mk (Lib.iterAt_heap wr w.heap.size s pos (pos + (Utf8.decode s pos).2) HI.out)
      have hb2 := Lib.below_iterAt hbel (Nat.le_refl _) s (pos + (Utf8.decode s pos).2)
      have HP := Aside0.mk (iterPos_of HI.out)
      have HM := Aside0.mk (irune_mark (Utf8.decode s pos).1)
      cases hm : isMark (Utf8.decode s pos).1 with
      | true =>
        have hd : decide (0 ≤ irune (Utf8.decode s pos).1) = true := by rw [HM.out, hm]
        have HM1 := Aside0.mk hm
        clear hm
        go_wp2_with (go_at_call 161; refine (IndexRune_amp _ _).mono ?_; rintro e w2 ⟨rfl, hb3⟩)
        go_ret
        have hC := HC.out
        simp only [anyB, if_pos hp, HM1.out, if_true] at hC
        exact ⟨⟨_, rfl, by rw [← hC]; simp⟩, below_then hb2 (by rw [Lib.iterAt_size]; exact hsz) hb3⟩
      | false =>
        have hd : decide (0 ≤ irune (Utf8.decode s pos).1) = false := by rw [HM.out, hm]
        have HM1 := Aside0.mk hm
        clear hm
        go_wp2_with (go_at_call 161; refine (IndexRune_amp _ _).mono ?_; rintro e w2 ⟨rfl, hb3⟩)
        have HI3 := Aside0.mk ((hb3.block w.heap.size (by rw [Lib.iterAt_size]; exact (Array.getElem?_eq_some_iff.1 HI.out).1)).trans HI2.out)
        go_roundw
        case rel => exact ⟨pos + (Utf8.decode s pos).2, b, HI3, ⟨by rw [← HC.out]; simp [anyB, hp, HM1.out]⟩, by omega, below_then hb2 (by rw [Lib.iterAt_size]; exact hsz) hb3⟩
        case measure => rw [iterPos_of HI3.out, HP.out]; omega
    · have hnx : ∀ ty, (Instr.next (.pointer (some ⟨w.heap.size, 0, none⟩)) true ty).run Tryd.prog wr = _ := fun ty => Lib.run_next_end_at wr w.heap.size s pos ty HI.out hp
      go_wp2
      go_ret
      have hC := HC.out
      rw [anyB_end s b pos hp] at hC
      exact ⟨⟨_, rfl, by rw [← hC]; rfl⟩, hbel⟩
theorem zero163 : ∀ w, (zeroValue 163).run Tryd.prog w = .ok (.agg (Array.replicate 256 (.bool false))) w := fun _ => by kernel_rfl
def hasMark (s : ByteArray) : Bool := s.data.toList.any fun b => b == 60 || b == 38
def q12_.f (a0 a1 : ByteArray) : Option Bool := if a1.data.toList = [60, 38] ∧ a0.size < 4294967281 then some (hasMark a0) else none
theorem indexAny_iff (l : List UInt8) : 0 ≤ Lib.indexAny l [60, 38] ↔ (l.any fun b => b == 60 || b == 38) = true := by
  induction l with
  | nil => simp [Lib.indexAny]
  | cons b l ih =>
    have hge := Lib.indexAny_ge [60, 38] l
    rw [List.any_cons, Bool.or_eq_true, ← ih]
    have hun : Lib.indexAny (b :: l) [60, 38] = (if ([60, 38] : List UInt8).contains b = true then 0 else if (Lib.indexAny l [60, 38] == -1) = true then -1 else Lib.indexAny l [60, 38] + 1) := rfl
    rw [hun]
    clear hun
    have hcb : (([60, 38] : List UInt8).contains b = true) ↔ ((b == 60 || b == 38) = true) := by simp
    by_cases hb : (b == 60 || b == 38) = true
    · rw [if_pos (hcb.2 hb)]; simp [hb]
    · rw [if_neg (fun h => hb (hcb.1 h))]
      by_cases h1 : Lib.indexAny l [60, 38] = -1
      · rw [if_pos (by simpa using h1)]; simp [hb, h1]
      · rw [if_neg (by simpa using h1)]
        simp only [hb, Bool.false_eq_true, false_or]
        omega
theorem indexAny_mark (s : ByteArray) : decide (0 ≤ Lib.indexAny s.data.toList [60, 38]) = hasMark s := by
  rw [Bool.eq_iff_iff, decide_eq_true_iff]
  exact indexAny_iff _
theorem decode_tail (s : ByteArray) (pos : Nat) (h : pos < s.size) : pos + (Utf8.decode s pos).2 ≤ s.size ∧ (∀ j, 1 ≤ j → j < (Utf8.decode s pos).2 → 128 ≤ (s.get! (pos + j)).toNat) ∧ ((s.get! pos).toNat < 128 → Utf8.decode s pos = ((s.get! pos).toNat, 1)) ∧ (128 ≤ (s.get! pos).toNat → 128 ≤ (Utf8.decode s pos).1) := by
  simp only [Utf8.decode, Nat.add_zero]
  refine ⟨?_, ?_, ?_, ?_⟩
  · repeat' split
    all_goals simp_all
    all_goals omega
  · intro j h1 h2
    revert h2
    repeat' split
    all_goals intro h2
    all_goals try (simp at h2; omega)
    · have hj : j = 1 := by simp at h2; omega
      subst hj; simp_all; omega
    · have hj : j = 1 ∨ j = 2 := by simp at h2; omega
      rcases hj with rfl | rfl <;> (simp_all; omega)
    · have hj : j = 1 ∨ j = 2 ∨ j = 3 := by simp at h2; omega
      rcases hj with rfl | rfl | rfl <;> (simp_all; omega)
  · intro hl
    simp [hl]
  · intro hl
    have : ¬ (s.get! pos).toNat < 128 := by omega
    simp only [this, if_false]
    repeat' split
    all_goals simp_all [Utf8.runeError]
    all_goals omega
theorem get!_list (s : ByteArray) (i : Nat) (h : i < s.size) : s.data.toList[i]? = some (s.get! i) := by
  obtain ⟨⟨l⟩⟩ := s
  have h' : i < l.length := h
  have : (ByteArray.mk ⟨l⟩).get! i = l[i] := by
    show (Array.mk l)[i]! = _
    simp [getElem!_pos, h']
  rw [this]
  simp [h']
theorem anyB_from (s : ByteArray) : ∀ (b pos : Nat), pos ≤ s.size → s.size ≤ pos + b → anyB s b pos = (s.data.toList.drop pos).any fun x => x == 60 || x == 38
  | 0, pos, h, hb => by
    have : s.data.toList.drop pos = [] := List.drop_of_length_le (by simp; omega)
    rw [this]; rfl
  | b + 1, pos, h, hb => by
    by_cases hp : pos < s.size
    · have hw := width_pos s pos hp
      obtain ⟨t1, t2, t3, t4⟩ := decode_tail s pos hp
      have ih := anyB_from s b (pos + (Utf8.decode s pos).2) t1 (by omega)
      have hlen : pos + (Utf8.decode s pos).2 ≤ s.data.toList.length := by simpa using t1
      have hsplit : s.data.toList.drop pos = (s.data.toList.drop pos).take (Utf8.decode s pos).2 ++ s.data.toList.drop (pos + (Utf8.decode s pos).2) := by
        rw [← List.drop_drop, List.take_append_drop]
      have hmark : ((s.data.toList.drop pos).take (Utf8.decode s pos).2).any (fun x => x == 60 || x == 38) = isMark (Utf8.decode s pos).1 := by
        rw [Bool.eq_iff_iff, List.any_eq_true]
        constructor
        · rintro ⟨x, hx, hxm⟩
          obtain ⟨j, hj, hxe⟩ := List.getElem_of_mem hx
          have hj2 : j < (Utf8.decode s pos).2 := by simp at hj; omega
          have hxv : x = s.get! (pos + j) := by
            have h1 : s.data.toList[pos + j]? = some x := by
              have := List.getElem?_eq_getElem hj
              rw [hxe] at this
              simpa [List.getElem?_take, List.getElem?_drop, hj2] using this
            rw [get!_list s (pos + j) (by omega)] at h1
            exact (Option.some.inj h1).symm
          have hx128 : x.toNat < 128 := by
            simp at hxm
            rcases hxm with rfl | rfl <;> decide
          rcases Nat.eq_zero_or_pos j with rfl | hj0
          · have h0 : (s.get! pos).toNat < 128 := by rw [Nat.add_zero] at hxv; rw [← hxv]; exact hx128
            rw [t3 h0]
            rw [Nat.add_zero] at hxv
            rw [← hxv]
            simp at hxm
            rcases hxm with rfl | rfl <;> rfl
          · have := t2 j hj0 hj2
            rw [← hxv] at this
            omega
        · intro hm
          have h0 : (s.get! pos).toNat < 128 := by
            apply Classical.byContradiction
            intro hge
            have := t4 (by omega)
            simp [isMark] at hm
            omega
          rw [t3 h0] at hm ⊢
          refine ⟨s.get! pos, ?_, ?_⟩
          · have : s.data.toList.drop pos = s.get! pos :: s.data.toList.drop (pos + 1) := by
              have hl : pos < s.data.toList.length := by simpa using hp
              rw [List.drop_eq_getElem_cons hl]
              congr 1
              have := get!_list s pos hp
              rw [List.getElem?_eq_getElem hl] at this
              exact Option.some.inj this
            rw [this]; simp
          · simp [isMark] at hm
            simp only [Bool.or_eq_true, beq_iff_eq]
            rcases hm with hm | hm
            · left; exact UInt8.toNat_inj.1 hm
            · right; exact UInt8.toNat_inj.1 hm
      rw [anyB, if_pos hp, hsplit, List.any_append, hmark, ih]
      cases isMark (Utf8.decode s pos).1 <;> simp
    · have : s.data.toList.drop pos = [] := List.drop_of_length_le (by simp; omega)
      rw [this, anyB, if_neg hp]; rfl
theorem anyB_eq (s : ByteArray) : anyB s s.size 0 = hasMark s := by
  rw [anyB_from s s.size 0 (by omega) (by omega)]; rfl
set_option maxHeartbeats 1000000 in
theorem IndexAny_amp (s : ByteArray) (hs : s.size < 4294967281) (w : World) :
    Calls Tryd.prog 151 #[.string s, .string ltamp] w fun e w' => (∃ i : Int, e = .returned (.int .i64 i) ∧ decide (0 ≤ i) = hasMark s) ∧ Below w.heap.size w w' := by
  by_cases h8 : s.size ≤ 8
  · refine (IndexAny_short s h8 w).mono ?_
    rintro e w' ⟨⟨i, rfl, hi⟩, hb⟩
    exact ⟨⟨i, rfl, hi.trans (anyB_eq s)⟩, hb⟩
  · refine (Tryd.strings_IndexAny_long zero163 s ltamp w (by decide) (by omega) hs (by decide) (by intro j b hb; rcases j with _ | _ | j <;> simp at hb <;> subst hb <;> decide)).mono ?_
    rintro e w' ⟨rfl, rfl⟩
    exact ⟨⟨_, rfl, indexAny_mark s⟩, below_alloc (below_alloc (Below.refl _ _) _) _⟩
set_option maxHeartbeats 1000000 in
theorem q12_.calls (a0 a1 : ByteArray) (r : Bool) (w : World) (h : q12_.f a0 a1 = some r) :
    Calls Tryd.prog 130 #[.string a0, .string a1] w fun e w' => e = .returned (.bool r) ∧ Below w.heap.size w w' := by
  unfold q12_.f at h
  split at h
  case isFalse => cases h
  rename_i hh
  obtain ⟨h1, h2⟩ := hh
  obtain rfl : a1 = ltamp := by
    obtain ⟨⟨l⟩⟩ := a1
    simp at h1
    subst h1
    rfl
  simp only [Option.some.injEq] at h
  have H := Aside0.mk h
  clear h h1
  go_enter Tryd.func130, Tryd.ntmps130
  go_wp2_with fail
  refine (IndexAny_amp a0 h2 _).mono ?_
  rintro e w' ⟨⟨i, rfl, hi⟩, hb⟩
  have HI := Aside0.mk hi
  clear hi
  go_wp2
  go_ret
  exact ⟨by rw [← H.out, ← HI.out]; rfl, hb⟩
def q13_.f (a0 : ByteArray) (a1 : Int) : Option Int := some (Lib.indexByte a0.data.toList a1.toNat.toUInt8)
theorem q13_.calls (a0 : ByteArray) (a1 : Int) (r : Int) (w : World) (h : q13_.f a0 a1 = some r) :
    Calls Tryd.prog 113 #[.string a0, .int .u8 a1] w fun e w' => e = .returned (.int .i64 r) ∧ Drawn0 w w' := by
  refine (Tryd.strings_IndexByte a0 a1 w).mono ?_
  rintro e w' ⟨rfl, rfl⟩
  simp only [q13_.f, Option.some.injEq] at h
  subst h
  exact ⟨rfl, Drawn0.refl _⟩
def cutAt (s : ByteArray) (i : Int) : ByteArray × ByteArray × Bool := if 0 ≤ i then (s.extract 0 i.toNat, s.extract (i.toNat + 1) s.size, true) else (s, ⟨#[]⟩, false)
theorem indexByte_lt (c : UInt8) : ∀ l : List UInt8, Lib.indexByte l c < l.length ∨ Lib.indexByte l c = -1
  | [] => .inr rfl
  | b :: l => by
    have hun : Lib.indexByte (b :: l) c = (if (b == c) = true then 0 else if (Lib.indexByte l c == -1) = true then -1 else Lib.indexByte l c + 1) := rfl
    rw [hun]
    clear hun
    split
    · left; simp
    · split
      · right; rfl
      · have := indexByte_lt c l
        rename_i h
        simp at h
        left
        simp only [List.length_cons]
        omega
set_option maxHeartbeats 1000000 in
set_option maxRecDepth 100000 in
theorem slite_Cut_one (s : ByteArray) (c : UInt8) (hs : s.size ≤ 9223372036854775806) (w : World) :
    Calls Tryd.prog 104 #[.string s, .string ⟨#[c]⟩] w fun e w' => e = .returned (.tuple #[.string (cutAt s (Lib.indexByte s.data.toList c)).1, .string (cutAt s (Lib.indexByte s.data.toList c)).2.1, .bool (cutAt s (Lib.indexByte s.data.toList c)).2.2]) ∧ Drawn0 w w' := by
  have hlt := indexByte_lt c s.data.toList
  have hge := Lib.indexByte_ge s.data.toList c
  have hlen : s.data.toList.length = s.size := by simp
  rw [hlen] at hlt
  clear hlen
  obtain ⟨i, hi⟩ : ∃ i, i = Lib.indexByte s.data.toList c := ⟨_, rfl⟩
  rw [← hi] at hlt hge ⊢
  have HI := Aside0.mk hi
  clear hi
  by_cases h0 : 0 ≤ i
  · have h1 : i < s.size := by omega
    obtain ⟨n, rfl⟩ : ∃ n : Nat, i = n := ⟨i.toNat, by omega⟩
    have hn : n < s.size := by omega
    have hw : IntKind.i64.wrap ((n : Int) + 1) = (n : Int) + 1 := by simp [IntKind.wrap_i64]; omega
    have hc : cutAt s (n : Int) = (s.extract 0 n, s.extract (n + 1) s.size, true) := by unfold cutAt; rw [if_pos h0]; simp
    rw [hc]
    clear hlt hge hc h0
    have h0 : decide (0 ≤ (n : Int)) = true := by simp
    go_enter Tryd.func104, Tryd.ntmps104
    go_wp2_with (go_at_call 129; refine (Tryd.stringslite_Index_one s c _).mono ?_; rw [← HI.out]; rintro e w' ⟨rfl, hw'⟩; obtain rfl := hw'.symm)
    go_quiet (fail)
    go_wp2
    go_ret3
    exact ⟨rfl, ⟨⟨_, rfl⟩⟩⟩
  · have hm : i = -1 := by omega
    subst hm
    have hc : cutAt s (-1) = (s, ⟨#[]⟩, false) := by unfold cutAt; rw [if_neg (by omega)]
    rw [hc]
    clear hlt hge hc
    go_enter Tryd.func104, Tryd.ntmps104
    go_wp2_with (go_at_call 129; refine (Tryd.stringslite_Index_one s c _).mono ?_; rw [← HI.out]; rintro e w' ⟨rfl, hw'⟩; obtain rfl := hw'.symm)
    go_ret3
    exact ⟨rfl, Drawn0.refl _⟩
def q14_.f (a0 a1 : ByteArray) : Option (ByteArray × ByteArray × Bool) := if a0.size ≤ 9223372036854775806 then (match a1.data.toList with | [c] => some (cutAt a0 (Lib.indexByte a0.data.toList c)) | _ => none) else none
set_option maxRecDepth 100000 in
theorem q14_.calls (a0 a1 : ByteArray) (r1 : ByteArray) (r2 : ByteArray) (r3 : Bool) (w : World) (h : q14_.f a0 a1 = some (r1, r2, r3)) :
    Calls Tryd.prog 55 #[.string a0, .string a1] w fun e w' => e = .returned (.tuple #[.string r1, .string r2, .bool r3]) ∧ Drawn0 w w' := by
  unfold q14_.f at h
  split at h
  case isFalse => cases h
  rename_i hs
  split at h
  case h_2 => cases h
  rename_i c hc
  obtain rfl : a1 = ⟨#[c]⟩ := by
    obtain ⟨⟨l⟩⟩ := a1
    simp at hc
    subst hc
    rfl
  have h1 := Option.some.inj h
  have H := Aside0.mk h1
  clear h h1 hc
  go_enter Tryd.func55, Tryd.ntmps55
  go_wp2_with (go_at_call 104; refine (slite_Cut_one a0 c hs _).mono ?_; rw [H.out]; rintro e w' ⟨rfl, hw'⟩)
  go_ret3
  exact ⟨rfl, hw'⟩
def GOK (w : World) : Prop := ∃ m : Int, w.cell? ⟨0, 0, none⟩ = some (.int .i64 m)
theorem GOK.lt {w : World} (h : GOK w) : 0 < w.heap.size := by
  obtain ⟨m, hm⟩ := h
  exact World.block_lt_of_cell? w _ hm
theorem GOK.below {w w' : World} {B : Nat} (h : GOK w) (hb : Below B w w') (hB : 0 < B) : GOK w' := by
  obtain ⟨m, hm⟩ := h
  exact ⟨m, (hb.cell (p := ⟨0, 0, none⟩) hB).trans hm⟩
theorem GOK.drewN {w : World} (h : GOK w) (n : Nat) : GOK (w.drewN n) := h
theorem GOK.setCell {w : World} (h : GOK w) {p : Addr} (hp : p.block ≠ 0) (u : Value) : GOK (w.setCell p u) := by
  obtain ⟨m, hm⟩ := h
  exact ⟨m, (World.cell?_setCell_other w p ⟨0, 0, none⟩ u (fun e => hp (by rw [e]))).trans hm⟩
theorem Index_any (s sub : ByteArray) (w : World) (hg : GOK w) (hs : s.size < 4294967281) :
    Calls Tryd.prog 90 #[.string s, .string sub] w fun e w' => e = .returned (.int .i64 (Lib.index s.data.toList sub.data.toList)) ∧ Drawn0 w w' := by
  obtain ⟨m, hm⟩ := hg
  refine (Tryd.strings_Index s sub m w hs hm).mono ?_
  rintro e w' ⟨rfl, rfl⟩
  exact ⟨rfl, Drawn0.refl _⟩
theorem ReplaceAll_any (s old new : ByteArray) (w : World) (hg : GOK w) (hs : s.size < 4294967281) (h1 : 1 ≤ old.size) (hlen : s.size + Lib.countB s old * new.size ≤ 140737488355328) :
    Calls Tryd.prog 54 #[.string s, .string old, .string new] w fun e w' => e = .returned (.string ⟨(Lib.replaceAll s.data.toList old.data.toList new.data.toList).toArray⟩) ∧ Below w.heap.size w w' := by
  obtain ⟨m, hm⟩ := hg
  exact Tryd.strings_ReplaceAll s old new m w hs hm h1 hlen
def attr4 (s : ByteArray) (j : Nat) : Option Nat :=
  if j = s.size then none
  else if (bt s j == 34 || bt s j == 39) = true then
    (if Lib.indexByte (s.extract (j + 1) s.size).data.toList (bt s j).toNat.toUInt8 < 0 then none
     else if hasMark (s.extract (j + 1) (j + 1 + (Lib.indexByte (s.extract (j + 1) s.size).data.toList (bt s j).toNat.toUInt8).toNat)) = true then none
     else some (j + (Lib.indexByte (s.extract (j + 1) s.size).data.toList (bt s j).toNat.toUInt8).toNat + 2))
  else none
def attr3 (s : ByteArray) (j : Nat) : Option Nat := if hasP s (skip whiteV s j) ⟨#[61]⟩ = true then attr4 s (skip whiteV s (skip whiteV s j + 1)) else none
def attr2 (s : ByteArray) (j : Nat) : Option Nat :=
  if hasP s j ⟨#[58]⟩ = true then (if nameV (s.extract (j + 1) (skip innerV s (j + 1))) = true then attr3 s (skip innerV s (j + 1)) else none) else attr3 s j
def attrV (s : ByteArray) (i : Nat) : Option Nat := if nameV (s.extract i (skip innerV s i)) = true then attr2 s (skip innerV s i) else none
def AttrPost (w0 w : World) (g : Nat) (s : ByteArray) (o : Option Nat) (e : Ending) (w' : World) : Prop :=
  ∃ (b : Bool) (j : Nat), e = .returned (.bool b) ∧ Rd w0 w' g s j ∧ KeepBut w w' g none ∧ (match o with | some k => b = true ∧ j = k | none => b = false)
theorem AttrPost.no {w0 w w' : World} {g : Nat} {s : ByteArray} {o : Option Nat} {j : Nat} (ho : o = none) (h : Rd w0 w' g s j) (hk : KeepBut w w' g none) : AttrPost w0 w g s o (.returned (.bool false)) w' := ⟨false, j, rfl, h, hk, by rw [ho]⟩
theorem Name_calls (t : ByteArray) (ht : t.size ≤ 4611686018427387904) (w : World) :
    Calls Tryd.prog 23 #[.string t] w fun e w' => e = .returned (.bool (nameV t)) ∧ Drawn0 w w' := q2_.calls t _ w (by rw [q2_.f, if_pos ht])
theorem ex_le (s : ByteArray) (i j : Nat) (hs : s.size ≤ 1073741824) : (s.extract i j).size ≤ 4611686018427387904 := by simp; omega
set_option maxHeartbeats 4000000 in
set_option maxRecDepth 1000000 in
theorem attribute_calls {w0 w : World} {g : Nat} {s : ByteArray} {i : Nat} (h : Rd w0 w g s i) :
    Calls Tryd.prog 94 #[.pointer (some ⟨g, 0, none⟩)] w (AttrPost w0 w g s (attrV s i)) := by
  have HR := Aside0.mk h
  have hsm := h.small
  clear h
  go_enter Tryd.func94, Tryd.ntmps94
  go_wp2_with fail
  refine (name_calls HR.out).mono ?_
  rintro e w1 ⟨rfl, h1, hk1⟩
  go_wp2_with fail
  refine (Name_calls _ (ex_le _ _ _ hsm) _).mono ?_
  rintro e w2 ⟨rfl, ⟨n1, rfl⟩⟩
  cases hn : nameV (s.extract i (skip innerV s i)) with
  | false =>
    go_wp2
    go_ret
    exact AttrPost.no (by unfold attrV; rw [hn]; rfl) (h1.drewN _) hk1
  | true =>
    go_wp2_with fail
    refine (eat_calls (h1.drewN n1) ⟨#[58]⟩ (by decide)).mono ?_
    rintro e w2 ⟨rfl, h2, hk2⟩
    cases hc : hasP s (skip innerV s i) ⟨#[58]⟩ with
    | false =>
      rw [if_neg (by rw [hc]; decide)] at h2
      go_wp2_with fail
      refine (space_calls h2).mono ?_
      rintro e w3 ⟨rfl, h3, hk3⟩
      go_wp2_with fail
      refine (eat_calls h3 ⟨#[61]⟩ (by decide)).mono ?_
      rintro e w4 ⟨rfl, h4, hk4⟩
      cases he : hasP s (skip whiteV s (skip innerV s i)) ⟨#[61]⟩ with
      | false =>
        go_wp2
        go_ret
        rw [if_neg (by rw [he]; decide)] at h4
        exact AttrPost.no (by unfold attrV attr2; rw [hn, hc]; simp only [if_true, Bool.false_eq_true, if_false]; unfold attr3; rw [he]; rfl) h4 ((((keep_drewN hk1 n1).trans hk2 (.inl rfl)).trans hk3 (.inl rfl)).trans hk4 (.inl rfl))
      | true =>
        rw [if_pos he] at h4
        go_wp2_with fail
        refine (space_calls h4).mono ?_
        rintro e w5 ⟨rfl, h5, hk5⟩
        have hK5 : KeepBut w w5 g none := ((((keep_drewN hk1 n1).trans hk2 (.inl rfl)).trans hk3 (.inl rfl)).trans hk4 (.inl rfl)).trans hk5 (.inl rfl)
        have hA3 : attrV s i = attr4 s (skip whiteV s (skip whiteV s (skip innerV s i) + 1)) := by unfold attrV attr2; rw [hn, hc]; simp only [if_true, Bool.false_eq_true, if_false]; unfold attr3; rw [he]; rfl
        have h5' : Rd w0 w5 g s (skip whiteV s (skip whiteV s (skip innerV s i) + 1)) := h5
        obtain ⟨j, hj⟩ : ∃ j, j = skip whiteV s (skip whiteV s (skip innerV s i) + 1) := ⟨_, rfl⟩
        rw [← hj] at h5' hA3
        have HA := Aside0.mk hA3
        have H5 := Aside0.mk h5'
        have HK := Aside0.mk hK5
        have hjle := h5'.le
        clear h5 hj h4 h3 hk3 hk4 hk5 he hA3 h5' hK5 h2 h1 hk1 hk2 hn hc
        have cA := H5.out.cell0
        have cB := H5.out.cell1
        have fB := H5.out.frozen 1
        by_cases hend : j = s.size
        · have hq : ((j : Int) == (s.size : Int)) = true := by simp [hend]
          have hq2 : (j == s.size) = true := by simp [hend]
          have HN : Aside0 (attrV s i = none) := ⟨by rw [HA.out]; unfold attr4; rw [if_pos hend]⟩
          clear hend
          go_wp2
          go_quiet (fail)
          go_wp2
          go_ret
          exact AttrPost.no HN.out (H5.out.drewN _) (keep_drewN HK.out _)
        · have hlt : j < s.size := by omega
          have hq : ((j : Int) == (s.size : Int)) = false := beq_eq_false_iff_ne.2 (by omega)
          have hq2 : (j == s.size) = false := beq_eq_false_iff_ne.2 hend
          have hA4 := HA.out
          unfold attr4 at hA4
          rw [if_neg hend] at hA4
          have HA4 := Aside0.mk hA4
          clear hA4 HA hend
          have p0 : (0 : Int) ≤ (j : Int) := by omega
          have p1 : (j : Int) < (s.size : Int) := by omega
          have hx5 : ∀ h : j < s.size, ((s[j]'h).toNat : Int) = bt s j := fun h => by simp [bt, h]
          have hw1 : IntKind.i64.wrap ((j : Int) + 1) = (j : Int) + 1 := by simp [IntKind.wrap_i64]; omega
          have hbr := bt_range s j
          obtain ⟨m, hm⟩ : ∃ m, m = bt s j := ⟨_, rfl⟩
          rw [← hm] at hbr HA4
          simp only [← hm] at hx5
          have HM := Aside0.mk hm
          clear hm
          obtain ⟨ix, hix⟩ : ∃ ix, ix = Lib.indexByte (s.extract (j + 1) s.size).data.toList m.toNat.toUInt8 := ⟨_, rfl⟩
          rw [← hix] at HA4
          have hge := Lib.indexByte_ge (s.extract (j + 1) s.size).data.toList m.toNat.toUInt8
          have hub := indexByte_lt m.toNat.toUInt8 (s.extract (j + 1) s.size).data.toList
          rw [← hix] at hge hub
          have hlen : (s.extract (j + 1) s.size).data.toList.length = s.size - (j + 1) := by simp
          rw [hlen] at hub
          have HX := Aside0.mk hix
          clear hix hlen
          have hor : ((m != 34) = false ∨ ((m != 34) = true ∧ (m != 39) = false)) ∨ ((m != 34) = true ∧ (m != 39) = true) := by
            cases m != 34 <;> cases m != 39 <;> simp
          rcases hor with hm | ⟨hm1, hm2⟩
          · have hmk : (m == 34 || m == 39) = true := by
              rcases hm with h | ⟨_, h⟩
              · have : m = 34 := by simpa using h
                simp [this]
              · have : m = 39 := by simpa using h
                simp [this]
            have hA5 := HA4.out
            rw [if_pos hmk] at hA5
            have HA5 := Aside0.mk hA5
            clear hA5 hmk HA4
            rcases hm with hm1 | ⟨hm1, hm2⟩
            all_goals
              go_wp2
              go_quiet (fail)
              go_wp2
              go_quiet (fail)
              go_wp2
              go_quiet ((go_at_call 113; (with_reducible refine (Tryd.strings_IndexByte _ _ _).mono ?_); rw [← HX.out]; rintro e w2 ⟨rfl, rfl⟩; first | exact ⟨rfl, _, rfl⟩ | exact ⟨rfl, 0, rfl⟩))
              by_cases hneg : ix < 0
              · have hd : decide (ix < 0) = true := by simpa using hneg
                have HN : Aside0 (attrV s i = none) := ⟨by rw [HA5.out, if_pos hneg]⟩
                clear hneg
                go_wp2
                go_quiet (fail)
                go_wp2
                go_ret
                exact AttrPost.no HN.out (((H5.out.drewN _).drewN _).drewN _) (keep_drewN (keep_drewN (keep_drewN HK.out _) _) _)
              · have hd : decide (ix < 0) = false := by simpa using hneg
                have hA6 := HA5.out
                rw [if_neg hneg] at hA6
                have HA6 := Aside0.mk hA6
                clear hA6 HA5
                obtain ⟨n, rfl⟩ : ∃ n : Nat, ix = n := ⟨ix.toNat, by omega⟩
                have hn2 : j + 1 + n < s.size := by omega
                have hw2 : IntKind.i64.wrap ((j : Int) + 1 + (n : Int)) = (j : Int) + 1 + (n : Int) := by simp [IntKind.wrap_i64]; omega
                have hw3 : IntKind.i64.wrap ((n : Int) + 2) = (n : Int) + 2 := by simp [IntKind.wrap_i64]; omega
                have hw4 : IntKind.i64.wrap ((j : Int) + ((n : Int) + 2)) = (j : Int) + ((n : Int) + 2) := by simp [IntKind.wrap_i64]; omega
                clear hneg hub hge
                obtain ⟨mk, hmk⟩ : ∃ mk, mk = hasMark (s.extract (j + 1) (j + 1 + n)) := ⟨_, rfl⟩
                have hA7 := HA6.out
                rw [Int.toNat_natCast, ← hmk] at hA7
                have HA7 := Aside0.mk hA7
                have HCA : Aside0 (q12_.f (s.extract (j + 1) (j + 1 + n)) ⟨#[60, 38]⟩ = some mk) := ⟨by rw [q12_.f, if_pos ⟨rfl, by simp; omega⟩, hmk]⟩
                clear hmk hA7 HA6
                have H6 := H5.out
                have q0 : (0 : Int) ≤ (j : Int) + 1 := by omega
                have q1 : (j : Int) + 1 ≤ (j : Int) + 1 + (n : Int) := by omega
                have q2 : (j : Int) + 1 + (n : Int) ≤ (s.size : Int) := by omega
                have q3 : ((j : Int) + 1).toNat = j + 1 := by omega
                have q4 : ((j : Int) + 1 + (n : Int)).toNat = j + 1 + n := by omega
                cases mk with
                | true =>
                  go_wp2
                  go_region_held3 (fun w' => w'.cell? ⟨g, 0, none⟩ = some (.string s) ∧ w'.cell? ⟨g, 1, none⟩ = some (.int .i64 j)) (first | go_keep | exact ⟨pw_cell_below hb7 cA, pw_cell_below hb7 cB⟩) (first | (go_at_call 130; (with_reducible refine (q12_.calls _ _ true _ HCA.out).mono ?_); rintro e w7 ⟨rfl, hb7⟩))
                  go_wp2
                  go_ret
                  exact AttrPost.no (by rw [HA7.out]; rfl) ((H6.drewN _).stays hb7) (KeepBut.trans (keep_drewN HK.out _) (KeepBut.of_below hb7 g none) (.inl rfl))
                | false =>
                  go_wp2
                  go_region_held3 (fun w' => w'.cell? ⟨g, 0, none⟩ = some (.string s) ∧ w'.cell? ⟨g, 1, none⟩ = some (.int .i64 j)) (first | go_keep | exact ⟨pw_cell_below hb7 cA, pw_cell_below hb7 cB⟩) (first | (go_at_call 130; (with_reducible refine (q12_.calls _ _ false _ HCA.out).mono ?_); rintro e w7 ⟨rfl, hb7⟩))
                  have H7 : Rd w0 w7 g s j := (H6.drewN _).stays hb7
                  have HK7 : KeepBut w w7 g none := KeepBut.trans (keep_drewN HK.out _) (KeepBut.of_below hb7 g none) (.inl rfl)
                  have H7s := Aside0.mk H7
                  have HK7s := Aside0.mk HK7
                  have cC := H7.cell0
                  have cD := H7.cell1
                  have fD := H7.frozen 1
                  clear H7 HK7
                  go_wp2
                  go_ret
                  have e2 : (j : Int) + ((n : Int) + 2) = ((j + n + 2 : Nat) : Int) := by omega
                  rw [e2]
                  exact ⟨true, j + n + 2, rfl, H7s.out.move _ (by omega), HK7s.out.set_ _ _, by rw [HA7.out]; simp⟩
          · have hmk : (m == 34 || m == 39) = false := by
              simp at hm1 hm2
              simp [hm1, hm2]
            have hA5 := HA4.out
            rw [if_neg (by rw [hmk]; decide)] at hA5
            have HN := Aside0.mk hA5
            clear hA5 hmk HA4 hub hge
            go_wp2
            go_quiet (fail)
            go_wp2
            go_quiet (fail)
            go_wp2
            go_ret
            exact AttrPost.no HN.out (H5.out.drewN _) (keep_drewN HK.out _)
    | true =>
      rw [if_pos hc] at h2
      have h2' : Rd w0 w2 g s (skip innerV s i + 1) := h2
      clear h2
      go_wp2_with fail
      refine (name_calls h2').mono ?_
      rintro e w2b ⟨rfl, h2b, hk2b⟩
      go_wp2_with fail
      refine (Name_calls _ (ex_le _ _ _ hsm) _).mono ?_
      rintro e w2c ⟨rfl, ⟨n2, rfl⟩⟩
      cases hn2 : nameV (s.extract (skip innerV s i + 1) (skip innerV s (skip innerV s i + 1))) with
      | false =>
        go_wp2
        go_ret
        exact AttrPost.no (by unfold attrV attr2; rw [hn, hc]; simp only [if_true]; rw [hn2]; rfl) (h2b.drewN _) (keep_drewN (((keep_drewN hk1 n1).trans hk2 (.inl rfl)).trans hk2b (.inl rfl)) n2)
      | true =>
        go_wp2_with fail
        refine (space_calls (h2b.drewN n2)).mono ?_
        rintro e w3 ⟨rfl, h3, hk3⟩
        go_wp2_with fail
        refine (eat_calls h3 ⟨#[61]⟩ (by decide)).mono ?_
        rintro e w4 ⟨rfl, h4, hk4⟩
        cases he : hasP s (skip whiteV s (skip innerV s (skip innerV s i + 1))) ⟨#[61]⟩ with
        | false =>
          go_wp2
          go_ret
          rw [if_neg (by rw [he]; decide)] at h4
          exact AttrPost.no (by unfold attrV attr2; rw [hn, hc]; simp only [if_true]; rw [hn2]; simp only [if_true]; unfold attr3; rw [he]; rfl) h4 (((keep_drewN (((keep_drewN hk1 n1).trans hk2 (.inl rfl)).trans hk2b (.inl rfl)) n2).trans hk3 (.inl rfl)).trans hk4 (.inl rfl))
        | true =>
          rw [if_pos he] at h4
          go_wp2_with fail
          refine (space_calls h4).mono ?_
          rintro e w5 ⟨rfl, h5, hk5⟩
          have hK5 : KeepBut w w5 g none := (((keep_drewN (((keep_drewN hk1 n1).trans hk2 (.inl rfl)).trans hk2b (.inl rfl)) n2).trans hk3 (.inl rfl)).trans hk4 (.inl rfl)).trans hk5 (.inl rfl)
          have hA3 : attrV s i = attr4 s (skip whiteV s (skip whiteV s (skip innerV s (skip innerV s i + 1)) + 1)) := by unfold attrV attr2; rw [hn, hc]; simp only [if_true]; rw [hn2]; simp only [if_true]; unfold attr3; rw [he]; rfl
          have h5' : Rd w0 w5 g s (skip whiteV s (skip whiteV s (skip innerV s (skip innerV s i + 1)) + 1)) := h5
          obtain ⟨j, hj⟩ : ∃ j, j = skip whiteV s (skip whiteV s (skip innerV s (skip innerV s i + 1)) + 1) := ⟨_, rfl⟩
          rw [← hj] at h5' hA3
          have HA := Aside0.mk hA3
          have H5 := Aside0.mk h5'
          have HK := Aside0.mk hK5
          have hjle := h5'.le
          clear h5 hj h4 h3 hk3 hk4 hk5 he hA3 h5' hK5 h2b h2' h1 hk1 hk2 hk2b hn hc hn2
          have cA := H5.out.cell0
          have cB := H5.out.cell1
          have fB := H5.out.frozen 1
          by_cases hend : j = s.size
          · have hq : ((j : Int) == (s.size : Int)) = true := by simp [hend]
            have hq2 : (j == s.size) = true := by simp [hend]
            have HN : Aside0 (attrV s i = none) := ⟨by rw [HA.out]; unfold attr4; rw [if_pos hend]⟩
            clear hend
            go_wp2
            go_quiet (fail)
            go_wp2
            go_ret
            exact AttrPost.no HN.out (H5.out.drewN _) (keep_drewN HK.out _)
          · have hlt : j < s.size := by omega
            have hq : ((j : Int) == (s.size : Int)) = false := beq_eq_false_iff_ne.2 (by omega)
            have hq2 : (j == s.size) = false := beq_eq_false_iff_ne.2 hend
            have hA4 := HA.out
            unfold attr4 at hA4
            rw [if_neg hend] at hA4
            have HA4 := Aside0.mk hA4
            clear hA4 HA hend
            have p0 : (0 : Int) ≤ (j : Int) := by omega
            have p1 : (j : Int) < (s.size : Int) := by omega
            have hx5 : ∀ h : j < s.size, ((s[j]'h).toNat : Int) = bt s j := fun h => by simp [bt, h]
            have hw1 : IntKind.i64.wrap ((j : Int) + 1) = (j : Int) + 1 := by simp [IntKind.wrap_i64]; omega
            have hbr := bt_range s j
            obtain ⟨m, hm⟩ : ∃ m, m = bt s j := ⟨_, rfl⟩
            rw [← hm] at hbr HA4
            simp only [← hm] at hx5
            have HM := Aside0.mk hm
            clear hm
            obtain ⟨ix, hix⟩ : ∃ ix, ix = Lib.indexByte (s.extract (j + 1) s.size).data.toList m.toNat.toUInt8 := ⟨_, rfl⟩
            rw [← hix] at HA4
            have hge := Lib.indexByte_ge (s.extract (j + 1) s.size).data.toList m.toNat.toUInt8
            have hub := indexByte_lt m.toNat.toUInt8 (s.extract (j + 1) s.size).data.toList
            rw [← hix] at hge hub
            have hlen : (s.extract (j + 1) s.size).data.toList.length = s.size - (j + 1) := by simp
            rw [hlen] at hub
            have HX := Aside0.mk hix
            clear hix hlen
            have hor : ((m != 34) = false ∨ ((m != 34) = true ∧ (m != 39) = false)) ∨ ((m != 34) = true ∧ (m != 39) = true) := by
              cases m != 34 <;> cases m != 39 <;> simp
            rcases hor with hm | ⟨hm1, hm2⟩
            · have hmk : (m == 34 || m == 39) = true := by
                rcases hm with h | ⟨_, h⟩
                · have : m = 34 := by simpa using h
                  simp [this]
                · have : m = 39 := by simpa using h
                  simp [this]
              have hA5 := HA4.out
              rw [if_pos hmk] at hA5
              have HA5 := Aside0.mk hA5
              clear hA5 hmk HA4
              rcases hm with hm1 | ⟨hm1, hm2⟩
              all_goals
                go_wp2
                go_quiet (fail)
                go_wp2
                go_quiet (fail)
                go_wp2
                go_quiet ((go_at_call 113; (with_reducible refine (Tryd.strings_IndexByte _ _ _).mono ?_); rw [← HX.out]; rintro e w2 ⟨rfl, rfl⟩; first | exact ⟨rfl, _, rfl⟩ | exact ⟨rfl, 0, rfl⟩))
                by_cases hneg : ix < 0
                · have hd : decide (ix < 0) = true := by simpa using hneg
                  have HN : Aside0 (attrV s i = none) := ⟨by rw [HA5.out, if_pos hneg]⟩
                  clear hneg
                  go_wp2
                  go_quiet (fail)
                  go_wp2
                  go_ret
                  exact AttrPost.no HN.out (((H5.out.drewN _).drewN _).drewN _) (keep_drewN (keep_drewN (keep_drewN HK.out _) _) _)
                · have hd : decide (ix < 0) = false := by simpa using hneg
                  have hA6 := HA5.out
                  rw [if_neg hneg] at hA6
                  have HA6 := Aside0.mk hA6
                  clear hA6 HA5
                  obtain ⟨n, rfl⟩ : ∃ n : Nat, ix = n := ⟨ix.toNat, by omega⟩
                  have hn2 : j + 1 + n < s.size := by omega
                  have hw2 : IntKind.i64.wrap ((j : Int) + 1 + (n : Int)) = (j : Int) + 1 + (n : Int) := by simp [IntKind.wrap_i64]; omega
                  have hw3 : IntKind.i64.wrap ((n : Int) + 2) = (n : Int) + 2 := by simp [IntKind.wrap_i64]; omega
                  have hw4 : IntKind.i64.wrap ((j : Int) + ((n : Int) + 2)) = (j : Int) + ((n : Int) + 2) := by simp [IntKind.wrap_i64]; omega
                  clear hneg hub hge
                  obtain ⟨mk, hmk⟩ : ∃ mk, mk = hasMark (s.extract (j + 1) (j + 1 + n)) := ⟨_, rfl⟩
                  have hA7 := HA6.out
                  rw [Int.toNat_natCast, ← hmk] at hA7
                  have HA7 := Aside0.mk hA7
                  have HCA : Aside0 (q12_.f (s.extract (j + 1) (j + 1 + n)) ⟨#[60, 38]⟩ = some mk) := ⟨by rw [q12_.f, if_pos ⟨rfl, by simp; omega⟩, hmk]⟩
                  clear hmk hA7 HA6
                  have H6 := H5.out
                  have q0 : (0 : Int) ≤ (j : Int) + 1 := by omega
                  have q1 : (j : Int) + 1 ≤ (j : Int) + 1 + (n : Int) := by omega
                  have q2 : (j : Int) + 1 + (n : Int) ≤ (s.size : Int) := by omega
                  have q3 : ((j : Int) + 1).toNat = j + 1 := by omega
                  have q4 : ((j : Int) + 1 + (n : Int)).toNat = j + 1 + n := by omega
                  cases mk with
                  | true =>
                    go_wp2
                    go_region_held3 (fun w' => w'.cell? ⟨g, 0, none⟩ = some (.string s) ∧ w'.cell? ⟨g, 1, none⟩ = some (.int .i64 j)) (first | go_keep | exact ⟨pw_cell_below hb7 cA, pw_cell_below hb7 cB⟩) (first | (go_at_call 130; (with_reducible refine (q12_.calls _ _ true _ HCA.out).mono ?_); rintro e w7 ⟨rfl, hb7⟩))
                    go_wp2
                    go_ret
                    exact AttrPost.no (by rw [HA7.out]; rfl) ((H6.drewN _).stays hb7) (KeepBut.trans (keep_drewN HK.out _) (KeepBut.of_below hb7 g none) (.inl rfl))
                  | false =>
                    go_wp2
                    go_region_held3 (fun w' => w'.cell? ⟨g, 0, none⟩ = some (.string s) ∧ w'.cell? ⟨g, 1, none⟩ = some (.int .i64 j)) (first | go_keep | exact ⟨pw_cell_below hb7 cA, pw_cell_below hb7 cB⟩) (first | (go_at_call 130; (with_reducible refine (q12_.calls _ _ false _ HCA.out).mono ?_); rintro e w7 ⟨rfl, hb7⟩))
                    have H7 : Rd w0 w7 g s j := (H6.drewN _).stays hb7
                    have HK7 : KeepBut w w7 g none := KeepBut.trans (keep_drewN HK.out _) (KeepBut.of_below hb7 g none) (.inl rfl)
                    have H7s := Aside0.mk H7
                    have HK7s := Aside0.mk HK7
                    have cC := H7.cell0
                    have cD := H7.cell1
                    have fD := H7.frozen 1
                    clear H7 HK7
                    go_wp2
                    go_ret
                    have e2 : (j : Int) + ((n : Int) + 2) = ((j + n + 2 : Nat) : Int) := by omega
                    rw [e2]
                    exact ⟨true, j + n + 2, rfl, H7s.out.move _ (by omega), HK7s.out.set_ _ _, by rw [HA7.out]; simp⟩
            · have hmk : (m == 34 || m == 39) = false := by
                simp at hm1 hm2
                simp [hm1, hm2]
              have hA5 := HA4.out
              rw [if_neg (by rw [hmk]; decide)] at hA5
              have HN := Aside0.mk hA5
              clear hA5 hmk HA4 hub hge
              go_wp2
              go_quiet (fail)
              go_wp2
              go_quiet (fail)
              go_wp2
              go_ret
              exact AttrPost.no HN.out (H5.out.drewN _) (keep_drewN HK.out _)
end Go.Proofs.YtkhjpobhdpcglaaDoor.X
end
section
namespace Go.Proofs.YtkhjpobhdpcglaaDoor.X
open Go.RowKit
theorem infoBld : (Tryd.prog.info? 99).map (·.size) = some 2 := by kernel_rfl
theorem infoU8 : (Tryd.prog.info? 5).map (fun i => (i.zero, i.size, i.bytes)) = some (some (.int .u8 0), 1, 1) := by kernel_rfl
theorem liesBld : liesAt Tryd.prog Tryd.prog.depth 99 (2 / Tryd.prog.cellsOf 99) 0 99 1 = true := by kernel_rfl
abbrev Bld (B b : Nat) (l : List UInt8) (w : World) : Prop := Lib.IsBuilder 99 5 B b (Lib.byteCells l) w
set_option maxHeartbeats 1000000 in
set_option maxRecDepth 100000 in
theorem copyCheck_used (b : Nat) (w : World) (h0 : w.cell? ⟨b, 0, none⟩ = some (.pointer (some ⟨b, 0, none⟩))) :
    Calls Tryd.prog 105 #[.pointer (some ⟨b, 0, none⟩)] w fun e w' => e = .returned (.tuple #[]) ∧ w' = w := by
  obtain ⟨j, hj, _⟩ := Option.map_eq_some_iff.1 infoBld
  go_enter Tryd.func105, Tryd.ntmps105
  go_wp2
  rw [Lib.run_neq_ptr_same w _ Tryd.underlying97 hj]
  go_wp2
  go_end0
  exact ⟨rfl, rfl⟩
set_option maxHeartbeats 1000000 in
set_option maxRecDepth 100000 in
theorem copyCheck_fresh (b : Nat) (w : World) (h0 : w.cell? ⟨b, 0, none⟩ = some (.pointer none)) (hsh : w.shape? b = some (99, 2)) (hfz : w.frozen? ⟨b, 0, none⟩ = false) :
    Calls Tryd.prog 105 #[.pointer (some ⟨b, 0, none⟩)] w fun e w' => e = .returned (.tuple #[]) ∧ w' = w.setCell ⟨b, 0, none⟩ (.pointer (some ⟨b, 0, none⟩)) := by
  obtain ⟨j, hj, hjs⟩ := Option.map_eq_some_iff.1 infoBld
  go_enter Tryd.func105, Tryd.ntmps105
  go_wp2
  rw [Lib.run_to_unsafe w ⟨b, 0, none⟩ Tryd.underlying97 Tryd.underlying147 hj (by rw [hjs]; decide) hsh (Nat.zero_lt_succ 1)]
  simp only [Result.andThen]
  rw [Oper.upon_value]
  go_wp2
  rw [run_callFunc_extern Tryd.func134 (by kernel_rfl) (by kernel_rfl) (by kernel_rfl) (e := Extern.AbiNoEscape.same) (by kernel_rfl)]
  rw [Lib.run_noEscape]
  simp only [Result.andThen]
  rw [Oper.upon_value]
  go_wp2
  rw [Lib.run_from_unsafe w ⟨b, 0, none⟩ Tryd.underlying147 Tryd.underlying97 hj hsh liesBld]
  simp only [Result.andThen]
  rw [Oper.upon_value]
  go_wp2
  go_end0
  exact ⟨rfl, rfl⟩
theorem copyCheck_any (B b : Nat) (bs : List Value) (w : World) (h : Lib.IsBuilder 99 5 B b bs w) :
    Calls Tryd.prog 105 #[.pointer (some ⟨b, 0, none⟩)] w fun e w' => e = .returned (.tuple #[]) ∧ (Lib.BuilderAt 99 5 B b (.pointer (some ⟨b, 0, none⟩)) bs w' ∧ Below B w w') := by
  rcases h with h | h
  · refine (copyCheck_fresh b w h.cell0 h.shape h.frozen0).mono ?_
    rintro e w' ⟨rfl, rfl⟩
    exact ⟨rfl, h.used _, (Below.refl B w).setCell (p := ⟨b, 0, none⟩) h.1 _⟩
  · refine (copyCheck_used b w h.cell0).mono ?_
    rintro e w' ⟨rfl, rfl⟩
    exact ⟨rfl, h, Below.refl B _⟩
theorem byteCells_app (l m : List UInt8) : Lib.byteCells (l ++ m) = Lib.byteCells l ++ Lib.byteCells m := by simp [Lib.byteCells]
theorem strCells_eq (s : ByteArray) : Lib.strCells s = Lib.byteCells s.data.toList := by simp [Lib.strCells, Lib.byteCells]
set_option maxHeartbeats 2000000 in
set_option maxRecDepth 100000 in
theorem Builder_WriteString (B b : Nat) (l : List UInt8) (s : ByteArray) (w : World) (h : Bld B b l w) (hlen : l.length + s.size ≤ 140737488355328) (hBw : B ≤ w.heap.size) :
    Calls Tryd.prog 56 #[.pointer (some ⟨b, 0, none⟩), .string s] w fun e w' => e = .returned (.tuple #[.int .i64 s.size, .nilIface]) ∧ Bld B b (l ++ s.data.toList) w' ∧ Below B w w' := by
  obtain ⟨i0, hi, hz0, hz1, hz2⟩ := info_parts infoU8
  have hl0 := Lib.byteCells_length l
  have HL := Lib.hid hl0
  clear hl0
  go_enter Tryd.func56, Tryd.ntmps56
  go_wp2_with (go_at_call 105; refine (copyCheck_any B b (Lib.byteCells l) _ h).mono ?_)
  rintro e w1 ⟨rfl, h1, hb1⟩
  obtain ⟨hB, v, hbk, hown, hne⟩ := h1
  have c0 : w1.cell? ⟨b, 0, none⟩ = some (.pointer (some ⟨b, 0, none⟩)) := by rw [Lib.cell_of_heap hbk]; rfl
  have c1 : w1.cell? ⟨b, 1, none⟩ = some v := by rw [Lib.cell_of_heap hbk]; rfl
  go_wp2_with (at_builtin; refine Lib.wpList_append_own_string _ rfl _ _ 22 9 rfl B 5 i0 Tryd.underlying22 Tryd.underlying9 hi hz0 hz1 hz2 _ _ _ rfl hown s rfl ?c3 ?c4 ?c5 ?_)
  case c3 => rw [HL.out]; unfold maxLen; omega
  case c4 => rw [HL.out]; omega
  case c5 => have := hb1.size; omega
  intro v' w2 hown' hgrow _
  have hlt : b < w1.heap.size := by
    rcases Nat.lt_or_ge b w1.heap.size with h' | h'
    · exact h'
    · simp [Array.getElem?_eq_none h'] at hbk
  have hb2 : w2.heap[b]? = some (.cells #[.pointer (some ⟨b, 0, none⟩), v] 99 (0, 0)) := by
    rw [hgrow.block b hlt (fun e => hne e.symm)]
    exact hbk
  have d0 : w2.cell? ⟨b, 0, none⟩ = some (.pointer (some ⟨b, 0, none⟩)) := by rw [Lib.cell_of_heap hb2]; rfl
  have d1 : w2.cell? ⟨b, 1, none⟩ = some v := by rw [Lib.cell_of_heap hb2]; rfl
  have f1 : w2.frozen? ⟨b, 1, none⟩ = false := Lib.frozen_of_heap hb2 1
  obtain ⟨ao, n', cap, rfl⟩ : ∃ ao n' cap, v' = .slice ao n' cap := by
    rcases hown'.2 with ⟨hv, _⟩ | ⟨g, cap, cur, hv, _⟩
    · exact ⟨_, _, _, hv⟩
    · exact ⟨_, _, _, hv⟩
  go_wp2
  go_ret2
  refine ⟨rfl, Or.inr ?_, ?_⟩
  · rw [byteCells_app, ← strCells_eq]
    exact Lib.BuilderAt.put (T := 99) (e := 5) hB hb2 (bs' := Lib.byteCells l ++ Lib.strCells s) (by simpa [Lib.strCells_length] using hown') (by decide)
  · exact (hb1.grown hgrow (by have := hb1.size; omega) (fun k hk => (hown.lt k hk).1)).setCell (p := ⟨b, 1, none⟩) hB _
set_option maxHeartbeats 2000000 in
set_option maxRecDepth 100000 in
theorem Builder_WriteByte (B b : Nat) (l : List UInt8) (c : Int) (w : World) (h : Bld B b l w) (hc : 0 ≤ c ∧ c < 256) (hlen : l.length + 1 ≤ 140737488355328) (hBw : B ≤ w.heap.size) :
    Calls Tryd.prog 65 #[.pointer (some ⟨b, 0, none⟩), .int .u8 c] w fun e w' => e = .returned .nilIface ∧ Bld B b (l ++ [c.toNat.toUInt8]) w' ∧ Below B w w' := by
  obtain ⟨i0, hi, hz0, hz1, hz2⟩ := info_parts infoU8
  have hl0 := Lib.byteCells_length l
  have HL := Lib.hid hl0
  clear hl0
  go_enter Tryd.func65, Tryd.ntmps65
  go_wp2_with (go_at_call 105; refine (copyCheck_any B b (Lib.byteCells l) _ h).mono ?_)
  rintro e w1 ⟨rfl, h1, hb1⟩
  obtain ⟨hB, v, hbk, hown, hne⟩ := h1
  have c0 : w1.cell? ⟨b, 0, none⟩ = some (.pointer (some ⟨b, 0, none⟩)) := by rw [Lib.cell_of_heap hbk]; rfl
  have c1 : w1.cell? ⟨b, 1, none⟩ = some v := by rw [Lib.cell_of_heap hbk]; rfl
  go_wp2_with (at_builtin; refine wpList_append_own _ rfl _ _ 22 rfl B 5 i0 (.int .u8 0) 1 1 Tryd.underlying22 hi hz0 hz1 hz2 rfl (by decide) _ _ _ rfl (hown.alloc _) ⟨w1.heap.size, 0, none⟩ 1 1 [.int .u8 c] rfl rfl ?c1 ?c2 ?c3 ?c4 ?c5 ?_)
  case c1 =>
    intro j u hj
    match j, hj with
    | 0, hj => simp at hj; subst hj; simp [Addr.add]
  case c2 => intro u hu; simp at hu; subst hu; rfl
  case c3 => rw [HL.out]; unfold maxLen; omega
  case c4 => rw [HL.out]; omega
  case c5 => have := hb1.size; simp; omega
  intro v' w2 hown' hgrow _
  have hlt : b < w1.heap.size := by
    rcases Nat.lt_or_ge b w1.heap.size with h' | h'
    · exact h'
    · simp [Array.getElem?_eq_none h'] at hbk
  have hb2 : w2.heap[b]? = some (.cells #[.pointer (some ⟨b, 0, none⟩), v] 99 (0, 0)) := by
    rw [hgrow.block b (by simp; omega) (fun e => hne e.symm), Lib.alloc_old w1 _ b hlt]
    exact hbk
  have d0 : w2.cell? ⟨b, 0, none⟩ = some (.pointer (some ⟨b, 0, none⟩)) := by rw [Lib.cell_of_heap hb2]; rfl
  have d1 : w2.cell? ⟨b, 1, none⟩ = some v := by rw [Lib.cell_of_heap hb2]; rfl
  have f1 : w2.frozen? ⟨b, 1, none⟩ = false := Lib.frozen_of_heap hb2 1
  obtain ⟨ao, n', cap, rfl⟩ : ∃ ao n' cap, v' = .slice ao n' cap := by
    rcases hown'.2 with ⟨hv, _⟩ | ⟨g, cap, cur, hv, _⟩
    · exact ⟨_, _, _, hv⟩
    · exact ⟨_, _, _, hv⟩
  go_wp2
  go_ret
  have hcc : Lib.byteCells [c.toNat.toUInt8] = [.int .u8 c] := by
    simp [Lib.byteCells]; omega
  refine ⟨rfl, Or.inr ?_, ?_⟩
  · rw [byteCells_app, hcc]
    exact Lib.BuilderAt.put (T := 99) (e := 5) hB hb2 (bs' := Lib.byteCells l ++ [.int .u8 c]) (by simpa using hown') (by decide)
  · exact ((hb1.alloc (by have := hb1.size; omega) _).grown hgrow (by have := hb1.size; simp; omega) (fun k hk => (hown.lt k hk).1)).setCell (p := ⟨b, 1, none⟩) hB _
theorem Bld.fresh (w : World) : Bld w.heap.size w.heap.size [] (w.alloc (.cells #[.pointer none, .slice none 0 0] 99)) := Lib.fresh_isBuilder _ _ w
theorem Bld.drewN {B b : Nat} {l : List UInt8} {w : World} (h : Bld B b l w) (n : Nat) : Bld B b l (w.drewN n) := h
theorem BuilderAt_below {T e : TypeId} {B b : Nat} {p : Value} {bs : List Value} {w w' : World} (h : Lib.BuilderAt T e B b p bs w) (hb : Below w.heap.size w w') : Lib.BuilderAt T e B b p bs w' := by
  have hlt := h.lt
  obtain ⟨hB, v, hbk, hown, hne⟩ := h
  exact ⟨hB, v, (hb.block b hlt).trans hbk, Go.Proofs.YtkhjpobhdpcglaaDoorW.PrintWords.pw_own_below hown hb, hne⟩
theorem Bld.below {B b : Nat} {l : List UInt8} {w w' : World} (h : Bld B b l w) (hb : Below w.heap.size w w') : Bld B b l w' := by
  rcases h with h | h
  · exact .inl (BuilderAt_below h hb)
  · exact .inr (BuilderAt_below h hb)
theorem Builder_String (B b : Nat) (l : List UInt8) (w : World) (h : Bld B b l w) (hBw : B ≤ w.heap.size) :
    Calls Tryd.prog 57 #[.pointer (some ⟨b, 0, none⟩)] w fun e w' => e = .returned (.string ⟨l.toArray⟩) ∧ Below B w w' := Tryd.Builder_String_any B b l w h hBw
theorem Builder_Len (B b : Nat) (l : List UInt8) (w : World) (h : Bld B b l w) :
    Calls Tryd.prog 68 #[.pointer (some ⟨b, 0, none⟩)] w fun e w' => e = .returned (.int .i64 l.length) ∧ w' = w := by
  have := Tryd.Builder_Len B b _ w h
  rwa [Lib.byteCells_length] at this
end Go.Proofs.YtkhjpobhdpcglaaDoor.X
end
section
namespace Go.Proofs.YtkhjpobhdpcglaaDoor.X
open Go.RowKit Go.Proofs.YtkhjpobhdpcglaaDoorW.PrintWords Go.Proofs.YtkhjpobhdpcglaaDoorW.PrintLast Go.Proofs.YtkhjpobhdpcglaaDoorW.PrintMore
def digV (base : Int) (c : Nat) : Option Int :=
  if 48 ≤ c ∧ c ≤ 57 then some ((c : Int) - 48)
  else if base = 16 ∧ 97 ≤ c ∧ c ≤ 102 then some ((c : Int) - 97 + 10)
  else if base = 16 ∧ 65 ≤ c ∧ c ≤ 70 then some ((c : Int) - 65 + 10)
  else none
def numB (s : ByteArray) (base : Int) : Nat → Nat → Int → Option Int
  | 0, _, n => some n
  | b + 1, pos, n => if pos < s.size then (match digV base (Utf8.decode s pos).1 with | some d => numB s base b (pos + (Utf8.decode s pos).2) (n * base + d) | none => none) else some n
theorem numB_end (s : ByteArray) (base : Int) (b pos : Nat) (n : Int) (h : ¬ pos < s.size) : numB s base b pos n = some n := by
  cases b with
  | zero => rfl
  | succ b => simp [numB, h]
def numT (s : ByteArray) : Int × ByteArray := if q4_.f s ⟨#[120]⟩ = some true then (16, s.extract 1 s.size) else (10, s)
def okN (n : Int) : Bool := decide (n ≤ 1114111) && (legB (Utf8.encode n) (Utf8.encode n).size 0 && (cntB (Utf8.encode n) (Utf8.encode n).size 0 0).2) && !((Utf8.encode n).toList == [239, 191, 189]) || n == 65533
def numV (s : ByteArray) : Int × Bool :=
  if (numT s).2.size < 1 ∨ 7 < (numT s).2.size then (0, false)
  else match numB (numT s).2 (numT s).1 (numT s).2.size 0 0 with
    | none => (0, false)
    | some n => (n, okN n)
theorem pow16 (k : Nat) (h : k ≤ 6) : (16 : Int) ^ k ≤ 16777216 := by
  have : k = 0 ∨ k = 1 ∨ k = 2 ∨ k = 3 ∨ k = 4 ∨ k = 5 ∨ k = 6 := by omega
  rcases this with rfl | rfl | rfl | rfl | rfl | rfl | rfl <;> decide
theorem enc_size (n : Int) : (Utf8.encode n).size ≤ 4 := by
  simp only [Utf8.encode]
  repeat' split
  all_goals simp [ByteArray.size]
theorem numB_step {s : ByteArray} {base : Int} {b pos : Nat} {n d : Int} (hp : pos < s.size) (hd : digV base (Utf8.decode s pos).1 = some d) : numB s base (b + 1) pos n = numB s base b (pos + (Utf8.decode s pos).2) (n * base + d) := by
  simp only [numB, if_pos hp, hd]
theorem numB_stop {s : ByteArray} {base : Int} {b pos : Nat} {n : Int} (hp : pos < s.size) (hd : digV base (Utf8.decode s pos).1 = none) : numB s base (b + 1) pos n = none := by
  simp only [numB, if_pos hp, hd]
theorem dig1 {base : Int} {c : Nat} (h1 : 48 ≤ c) (h2 : c ≤ 57) : digV base c = some ((c : Int) - 48) := by unfold digV; rw [if_pos ⟨h1, h2⟩]
theorem dig2 {c : Nat} (h1 : 97 ≤ c) (h2 : c ≤ 102) : digV 16 c = some ((c : Int) - 97 + 10) := by unfold digV; rw [if_neg (by omega), if_pos ⟨rfl, h1, h2⟩]
theorem dig3 {c : Nat} (h1 : 65 ≤ c) (h2 : c ≤ 70) : digV 16 c = some ((c : Int) - 65 + 10) := by unfold digV; rw [if_neg (by omega), if_neg (by omega), if_pos ⟨rfl, h1, h2⟩]
theorem digNo {base : Int} {c : Nat} (h1 : c < 48 ∨ 57 < c) (h2 : c < 97 ∨ 102 < c) (h3 : c < 65 ∨ 70 < c) : digV base c = none := by unfold digV; rw [if_neg (by omega), if_neg (by omega), if_neg (by omega)]
theorem digNo10 {c : Nat} (h1 : c < 48 ∨ 57 < c) : digV 10 c = none := by unfold digV; rw [if_neg (by omega), if_neg (by omega), if_neg (by omega)]
theorem bound16 {n x : Int} {k : Nat} (h0 : 0 ≤ n) (h : n < 16 ^ k) (hx : x ≤ n * 16 + 15) (_h1 : 0 ≤ x) : x < 16 ^ (k + 1) := by
  have e : (16 : Int) ^ (k + 1) = 16 ^ k * 16 := Int.pow_succ ..
  omega
set_option maxHeartbeats 4000000 in
set_option maxRecDepth 1000000 in
theorem number_16 (a0 : ByteArray) (r1 : Int) (r2 : Bool) (w : World) (hx : q4_.f a0 ⟨#[120]⟩ = some true) (hs : a0.size ≤ 4611686018427387904) (h : numV a0 = (r1, r2)) :
    Calls Tryd.prog 106 #[.string a0] w fun e w' => e = .returned (.tuple #[.int .i32 r1, .bool r2]) ∧ Below w.heap.size w w' := by
  have HX := Aside0.mk hx
  have h1 : (1 : Int) ≤ (a0.size : Int) := by
    rw [hasPrefix_f _ _ (by decide) (by omega)] at hx
    have h2 := ((Bool.and_eq_true _ _).mp (Option.some.inj hx)).1
    have h3 : 1 ≤ a0.size := of_decide_eq_true h2
    omega
  have hT : numT a0 = (16, a0.extract 1 a0.size) := by unfold numT; rw [if_pos hx]
  unfold numV at h
  rw [hT] at h
  clear hT
  obtain ⟨t, ht⟩ : ∃ t, t = a0.extract 1 a0.size := ⟨_, rfl⟩
  simp only [← ht] at h
  have HT := Aside0.mk ht
  have H := Aside0.mk h
  clear h hx ht
  by_cases hc1 : t.size < 1
  · have hb1 : decide ((t.size : Int) < 1) = true := by simp; omega
    have hc : (t.size < 1 ∨ 7 < t.size) := .inl hc1
    go_enter Tryd.func106, Tryd.ntmps106
    go_wp2_with (go_at_call 89; refine (q4_.calls a0 ⟨#[120]⟩ true _ HX.out).mono ?_; rintro e w' ⟨rfl, ⟨nd, rfl⟩⟩)
    go_quiet (fail)
    rw [← HT.out]
    go_wp2
    go_ret2
    have H1 := H.out
    rw [if_pos hc] at H1
    simp only [Prod.mk.injEq] at H1
    obtain ⟨rfl, rfl⟩ := H1
    exact ⟨rfl, pw_below_drewN (Below.refl _ _) _⟩
  · have hb1 : decide ((t.size : Int) < 1) = false := by simp; omega
    by_cases hc2 : 7 < t.size
    · have hb1 : decide ((t.size : Int) < 1) = false := by simp; omega
      have hb2 : decide (7 < (t.size : Int)) = true := by simp; omega
      have hc : (t.size < 1 ∨ 7 < t.size) := .inr hc2
      go_enter Tryd.func106, Tryd.ntmps106
      go_wp2_with (go_at_call 89; refine (q4_.calls a0 ⟨#[120]⟩ true _ HX.out).mono ?_; rintro e w' ⟨rfl, ⟨nd, rfl⟩⟩)
      go_quiet (fail)
      rw [← HT.out]
      go_wp2
      go_ret2
      have H1 := H.out
      rw [if_pos hc] at H1
      simp only [Prod.mk.injEq] at H1
      obtain ⟨rfl, rfl⟩ := H1
      exact ⟨rfl, pw_below_drewN (Below.refl _ _) _⟩
    · have hb2 : decide (7 < (t.size : Int)) = false := by simp; omega
      have hc : ¬ (t.size < 1 ∨ 7 < t.size) := by omega
      have H2 : Aside0 ((match numB t 16 t.size 0 0 with | none => ((0 : Int), false) | some n => (n, okN n)) = (r1, r2)) := by
        have H1 := H.out
        rw [if_neg hc] at H1
        exact ⟨H1⟩
      have hs7 : t.size ≤ 7 := by omega
      clear H hc
      go_enter Tryd.func106, Tryd.ntmps106
      go_wp2_with (go_at_call 89; refine (q4_.calls a0 ⟨#[120]⟩ true _ HX.out).mono ?_; rintro e w' ⟨rfl, ⟨nd, rfl⟩⟩)
      go_quiet (fail)
      rw [← HT.out]
      go_wp2
      obtain ⟨m0, hm0⟩ : ∃ m0 : Nat, m0 = m0 := ⟨0, rfl⟩
      clear hm0
      go_loopw [5, 7] (fun v c w' => ∃ (pos b k m : Nat) (n : Int), w' = (w.drewN m).iter t pos ∧ v = .int .i32 n ∧ Aside0 (numB t 16 b pos n = numB t 16 t.size 0 0) ∧ t.size ≤ pos + b ∧ k ≤ pos ∧ 0 ≤ n ∧ n < 16 ^ k) (fun _ _ w' => t.size - w'.iterPos w.heap.size)
      case atStart => exact ⟨0, t.size, 0, _, 0, rfl, rfl, ⟨rfl⟩, by omega, by omega, by omega, by simp⟩
      case round =>
        obtain ⟨pos, b, k, m, n, rfl, rfl, HC, hb, hk, hn0, hn⟩ := hrel
        by_cases hp : pos < t.size
        · have hnx : ∀ ty, (Instr.next (.pointer (some ⟨w.heap.size, 0, none⟩)) true ty).run Tryd.prog ((w.drewN m).iter t pos) = _ := fun ty => run_next_any (w.drewN m) t pos ty hp
          have hwd := width_pos t pos hp
          obtain ⟨b, rfl⟩ : ∃ b', b = b' + 1 := ⟨b - 1, by omega⟩
          have hn16 : n < 16777216 := Int.lt_of_lt_of_le hn (pow16 k (by omega))
          go_wp2
          all_goals first
          | (go_roundw
             case rel =>
               first
               | exact ⟨pos + (Utf8.decode t pos).2, b, k + 1, m, _, rfl, rfl, ⟨by rw [← HC.out, numB_step hp (dig1 (by omega) (by omega))]; congr 1; omega⟩, by omega, by omega, by omega, bound16 hn0 hn (by omega) (by omega)⟩
               | exact ⟨pos + (Utf8.decode t pos).2, b, k + 1, m, _, rfl, rfl, ⟨by rw [← HC.out, numB_step hp (dig2 (by omega) (by omega))]; congr 1; omega⟩, by omega, by omega, by omega, bound16 hn0 hn (by omega) (by omega)⟩
               | exact ⟨pos + (Utf8.decode t pos).2, b, k + 1, m, _, rfl, rfl, ⟨by rw [← HC.out, numB_step hp (dig3 (by omega) (by omega))]; congr 1; omega⟩, by omega, by omega, by omega, bound16 hn0 hn (by omega) (by omega)⟩
             case measure =>
               show t.size - ((w.drewN m).iter t _).iterPos (w.drewN m).heap.size < t.size - ((w.drewN m).iter t _).iterPos (w.drewN m).heap.size
               rw [World.iterPos_iter, World.iterPos_iter]; omega)
          | (have hC := HC.out
             rw [numB_stop hp (by first | exact digNo (by omega) (by omega) (by omega) | exact digNo10 (by omega))] at hC
             have H3 := H2.out
             rw [← hC] at H3
             simp only [Prod.mk.injEq] at H3
             obtain ⟨rfl, rfl⟩ := H3
             go_ret2
             exact ⟨rfl, below_alloc (pw_below_drewN (Below.refl _ _) _) _⟩)
        · have hnx : ∀ ty, (Instr.next (.pointer (some ⟨w.heap.size, 0, none⟩)) true ty).run Tryd.prog ((w.drewN m).iter t pos) = _ := fun ty => run_next_end (w.drewN m) t pos ty hp
          have hC := HC.out
          rw [numB_end t 16 b pos n hp] at hC
          have H3 := H2.out
          rw [← hC] at H3
          simp only [Prod.mk.injEq] at H3
          obtain ⟨rfl, hok⟩ := H3
          unfold okN at hok
          have he4 := enc_size n
          obtain ⟨L, hL⟩ : ∃ L, L = (legB (Utf8.encode n) (Utf8.encode n).size 0 && (cntB (Utf8.encode n) (Utf8.encode n).size 0 0).2) := ⟨_, rfl⟩
          have HL := Aside0.mk (show q6_.f (Utf8.encode n) = some L by rw [hL, q6_.f, if_pos (by omega)])
          rw [← hL] at hok
          clear hC hL he4
          cases h5 : (n == 65533) <;> cases hE : ((Utf8.encode n).toList == [239, 191, 189]) <;> by_cases hA : n ≤ 1114111 <;> cases L
          all_goals
            first
            | (have hA1 : decide (n ≤ 1114111) = true := decide_eq_true hA
               simp only [hA1, hE, h5, Bool.and_true, Bool.and_false, Bool.or_true, Bool.or_false, Bool.true_and, Bool.false_and, Bool.not_true, Bool.not_false] at hok
               obtain rfl := hok
               clear hA
               go_wp2_with (go_at_call 46; refine (q6_.calls _ _ _ HL.out).mono ?_; rintro e w' ⟨rfl, hb1⟩)
               go_ret2
               exact ⟨rfl, below_then (below_alloc (pw_below_drewN (Below.refl _ _) _) _) (by simp [World.iter]) hb1⟩)
            | (have hA1 : decide (n ≤ 1114111) = false := decide_eq_false hA
               simp only [hA1, hE, h5, Bool.and_true, Bool.and_false, Bool.or_true, Bool.or_false, Bool.true_and, Bool.false_and, Bool.not_true, Bool.not_false] at hok
               obtain rfl := hok
               clear hA
               go_wp2
               go_ret2
               exact ⟨rfl, below_alloc (pw_below_drewN (Below.refl _ _) _) _⟩)
set_option maxHeartbeats 4000000 in
set_option maxRecDepth 1000000 in
theorem number_10 (a0 : ByteArray) (r1 : Int) (r2 : Bool) (w : World) (hx : q4_.f a0 ⟨#[120]⟩ = some false) (hs : a0.size ≤ 4611686018427387904) (h : numV a0 = (r1, r2)) :
    Calls Tryd.prog 106 #[.string a0] w fun e w' => e = .returned (.tuple #[.int .i32 r1, .bool r2]) ∧ Below w.heap.size w w' := by
  have HX := Aside0.mk hx
  have hT : numT a0 = (10, a0) := by unfold numT; rw [if_neg (by rw [hx]; simp)]
  unfold numV at h
  rw [hT] at h
  simp only [] at h
  clear hT
  have H := Aside0.mk h
  clear h hx
  by_cases hc1 : a0.size < 1
  · have hb1 : decide ((a0.size : Int) < 1) = true := by simp; omega
    have hc : (a0.size < 1 ∨ 7 < a0.size) := .inl hc1
    go_enter Tryd.func106, Tryd.ntmps106
    go_wp2_with (go_at_call 89; refine (q4_.calls a0 ⟨#[120]⟩ false _ HX.out).mono ?_; rintro e w' ⟨rfl, ⟨nd, rfl⟩⟩)
    go_ret2
    have H1 := H.out
    rw [if_pos hc] at H1
    simp only [Prod.mk.injEq] at H1
    obtain ⟨rfl, rfl⟩ := H1
    exact ⟨rfl, pw_below_drewN (Below.refl _ _) _⟩
  · have hb1 : decide ((a0.size : Int) < 1) = false := by simp; omega
    by_cases hc2 : 7 < a0.size
    · have hb1 : decide ((a0.size : Int) < 1) = false := by simp; omega
      have hb2 : decide (7 < (a0.size : Int)) = true := by simp; omega
      have hc : (a0.size < 1 ∨ 7 < a0.size) := .inr hc2
      go_enter Tryd.func106, Tryd.ntmps106
      go_wp2_with (go_at_call 89; refine (q4_.calls a0 ⟨#[120]⟩ false _ HX.out).mono ?_; rintro e w' ⟨rfl, ⟨nd, rfl⟩⟩)
      go_ret2
      have H1 := H.out
      rw [if_pos hc] at H1
      simp only [Prod.mk.injEq] at H1
      obtain ⟨rfl, rfl⟩ := H1
      exact ⟨rfl, pw_below_drewN (Below.refl _ _) _⟩
    · have hb2 : decide (7 < (a0.size : Int)) = false := by simp; omega
      have hc : ¬ (a0.size < 1 ∨ 7 < a0.size) := by omega
      have H2 : Aside0 ((match numB a0 10 a0.size 0 0 with | none => ((0 : Int), false) | some n => (n, okN n)) = (r1, r2)) := by
        have H1 := H.out
        rw [if_neg hc] at H1
        exact ⟨H1⟩
      have hs7 : a0.size ≤ 7 := by omega
      clear H hc
      go_enter Tryd.func106, Tryd.ntmps106
      go_wp2_with (go_at_call 89; refine (q4_.calls a0 ⟨#[120]⟩ false _ HX.out).mono ?_; rintro e w' ⟨rfl, ⟨nd, rfl⟩⟩)
      obtain ⟨m0, hm0⟩ : ∃ m0 : Nat, m0 = m0 := ⟨0, rfl⟩
      clear hm0
      go_loopw [5, 7] (fun v c w' => ∃ (pos b k m : Nat) (n : Int), w' = (w.drewN m).iter a0 pos ∧ v = .int .i32 n ∧ Aside0 (numB a0 10 b pos n = numB a0 10 a0.size 0 0) ∧ a0.size ≤ pos + b ∧ k ≤ pos ∧ 0 ≤ n ∧ n < 16 ^ k) (fun _ _ w' => a0.size - w'.iterPos w.heap.size)
      case atStart => exact ⟨0, a0.size, 0, _, 0, rfl, rfl, ⟨rfl⟩, by omega, by omega, by omega, by simp⟩
      case round =>
        obtain ⟨pos, b, k, m, n, rfl, rfl, HC, hb, hk, hn0, hn⟩ := hrel
        by_cases hp : pos < a0.size
        · have hnx : ∀ ty, (Instr.next (.pointer (some ⟨w.heap.size, 0, none⟩)) true ty).run Tryd.prog ((w.drewN m).iter a0 pos) = _ := fun ty => run_next_any (w.drewN m) a0 pos ty hp
          have hwd := width_pos a0 pos hp
          obtain ⟨b, rfl⟩ : ∃ b', b = b' + 1 := ⟨b - 1, by omega⟩
          have hn16 : n < 16777216 := Int.lt_of_lt_of_le hn (pow16 k (by omega))
          go_wp2
          all_goals first
          | (go_roundw
             case rel =>
               first
               | exact ⟨pos + (Utf8.decode a0 pos).2, b, k + 1, m, _, rfl, rfl, ⟨by rw [← HC.out, numB_step hp (dig1 (by omega) (by omega))]; congr 1; omega⟩, by omega, by omega, by omega, bound16 hn0 hn (by omega) (by omega)⟩
               | exact ⟨pos + (Utf8.decode a0 pos).2, b, k + 1, m, _, rfl, rfl, ⟨by rw [← HC.out, numB_step hp (dig2 (by omega) (by omega))]; congr 1; omega⟩, by omega, by omega, by omega, bound16 hn0 hn (by omega) (by omega)⟩
               | exact ⟨pos + (Utf8.decode a0 pos).2, b, k + 1, m, _, rfl, rfl, ⟨by rw [← HC.out, numB_step hp (dig3 (by omega) (by omega))]; congr 1; omega⟩, by omega, by omega, by omega, bound16 hn0 hn (by omega) (by omega)⟩
             case measure =>
               show a0.size - ((w.drewN m).iter a0 _).iterPos (w.drewN m).heap.size < a0.size - ((w.drewN m).iter a0 _).iterPos (w.drewN m).heap.size
               rw [World.iterPos_iter, World.iterPos_iter]; omega)
          | (have hC := HC.out
             rw [numB_stop hp (by first | exact digNo (by omega) (by omega) (by omega) | exact digNo10 (by omega))] at hC
             have H3 := H2.out
             rw [← hC] at H3
             simp only [Prod.mk.injEq] at H3
             obtain ⟨rfl, rfl⟩ := H3
             go_ret2
             exact ⟨rfl, below_alloc (pw_below_drewN (Below.refl _ _) _) _⟩)
        · have hnx : ∀ ty, (Instr.next (.pointer (some ⟨w.heap.size, 0, none⟩)) true ty).run Tryd.prog ((w.drewN m).iter a0 pos) = _ := fun ty => run_next_end (w.drewN m) a0 pos ty hp
          have hC := HC.out
          rw [numB_end a0 10 b pos n hp] at hC
          have H3 := H2.out
          rw [← hC] at H3
          simp only [Prod.mk.injEq] at H3
          obtain ⟨rfl, hok⟩ := H3
          unfold okN at hok
          have he4 := enc_size n
          obtain ⟨L, hL⟩ : ∃ L, L = (legB (Utf8.encode n) (Utf8.encode n).size 0 && (cntB (Utf8.encode n) (Utf8.encode n).size 0 0).2) := ⟨_, rfl⟩
          have HL := Aside0.mk (show q6_.f (Utf8.encode n) = some L by rw [hL, q6_.f, if_pos (by omega)])
          rw [← hL] at hok
          clear hC hL he4
          cases h5 : (n == 65533) <;> cases hE : ((Utf8.encode n).toList == [239, 191, 189]) <;> by_cases hA : n ≤ 1114111 <;> cases L
          all_goals
            first
            | (have hA1 : decide (n ≤ 1114111) = true := decide_eq_true hA
               simp only [hA1, hE, h5, Bool.and_true, Bool.and_false, Bool.or_true, Bool.or_false, Bool.true_and, Bool.false_and, Bool.not_true, Bool.not_false] at hok
               obtain rfl := hok
               clear hA
               go_wp2_with (go_at_call 46; refine (q6_.calls _ _ _ HL.out).mono ?_; rintro e w' ⟨rfl, hb1⟩)
               go_ret2
               exact ⟨rfl, below_then (below_alloc (pw_below_drewN (Below.refl _ _) _) _) (by simp [World.iter]) hb1⟩)
            | (have hA1 : decide (n ≤ 1114111) = false := decide_eq_false hA
               simp only [hA1, hE, h5, Bool.and_true, Bool.and_false, Bool.or_true, Bool.or_false, Bool.true_and, Bool.false_and, Bool.not_true, Bool.not_false] at hok
               obtain rfl := hok
               clear hA
               go_wp2
               go_ret2
               exact ⟨rfl, below_alloc (pw_below_drewN (Below.refl _ _) _) _⟩)
def q15_.f (a0 : ByteArray) : Option (Int × Bool) := if a0.size ≤ 4611686018427387904 then some (numV a0) else none
theorem q15_.calls (a0 : ByteArray) (r1 : Int) (r2 : Bool) (w : World) (h : q15_.f a0 = some (r1, r2)) :
    Calls Tryd.prog 106 #[.string a0] w fun e w' => e = .returned (.tuple #[.int .i32 r1, .bool r2]) ∧ Below w.heap.size w w' := by
  unfold q15_.f at h
  split at h
  case isFalse => cases h
  rename_i hs
  have hv := Option.some.inj h
  cases hx : q4_.f a0 ⟨#[120]⟩ with
  | none => rw [hasPrefix_f _ _ (by decide) (by omega)] at hx; cases hx
  | some b =>
    cases b with
    | true => exact number_16 a0 r1 r2 w hx hs hv
    | false => exact number_10 a0 r1 r2 w hx hs hv
def signV (s : ByteArray) : ByteArray × Bool :=
  if s.toList = [97, 109, 112] then (⟨#[38]⟩, true)
  else if s.toList = [108, 116] then (⟨#[60]⟩, true)
  else if s.toList = [103, 116] then (⟨#[62]⟩, true)
  else if s.toList = [113, 117, 111, 116] then (⟨#[34]⟩, true)
  else if s.toList = [97, 112, 111, 115] then (⟨#[39]⟩, true)
  else if q4_.f s ⟨#[35]⟩ = some true then (Utf8.encode (numV (s.extract 1 s.size)).1, (numV (s.extract 1 s.size)).2)
  else (⟨#[]⟩, false)
def q16_.f (a0 : ByteArray) : Option (ByteArray × Bool) := if a0.size ≤ 4611686018427387904 then some (signV a0) else none
set_option maxHeartbeats 4000000 in
set_option maxRecDepth 1000000 in
theorem q16_.calls (a0 : ByteArray) (r1 : ByteArray) (r2 : Bool) (w : World) (h : q16_.f a0 = some (r1, r2)) :
    Calls Tryd.prog 58 #[.string a0] w fun e w' => e = .returned (.tuple #[.string r1, .bool r2]) ∧ Below w.heap.size w w' := by
  unfold q16_.f at h
  split at h
  case isFalse => cases h
  rename_i hs
  have hv := Option.some.inj h
  clear h
  unfold signV at hv
  by_cases h1 : a0.toList = [97, 109, 112]
  · have e1 : (a0.toList == [97, 109, 112]) = true := by simp [h1]
    rw [if_pos h1] at hv; obtain ⟨rfl, rfl⟩ := Prod.mk.inj hv
    clear h1 hv
    go_enter Tryd.func58, Tryd.ntmps58
    go_wp2
    go_ret2
    exact ⟨rfl, Below.refl _ _⟩
  have e1 : (a0.toList == [97, 109, 112]) = false := by simp [h1]
  rw [if_neg h1] at hv
  clear h1
  by_cases h1 : a0.toList = [108, 116]
  · have e2 : (a0.toList == [108, 116]) = true := by simp [h1]
    rw [if_pos h1] at hv; obtain ⟨rfl, rfl⟩ := Prod.mk.inj hv
    clear h1 hv
    go_enter Tryd.func58, Tryd.ntmps58
    go_wp2
    go_ret2
    exact ⟨rfl, Below.refl _ _⟩
  have e2 : (a0.toList == [108, 116]) = false := by simp [h1]
  rw [if_neg h1] at hv
  clear h1
  by_cases h1 : a0.toList = [103, 116]
  · have e3 : (a0.toList == [103, 116]) = true := by simp [h1]
    rw [if_pos h1] at hv; obtain ⟨rfl, rfl⟩ := Prod.mk.inj hv
    clear h1 hv
    go_enter Tryd.func58, Tryd.ntmps58
    go_wp2
    go_ret2
    exact ⟨rfl, Below.refl _ _⟩
  have e3 : (a0.toList == [103, 116]) = false := by simp [h1]
  rw [if_neg h1] at hv
  clear h1
  by_cases h1 : a0.toList = [113, 117, 111, 116]
  · have e4 : (a0.toList == [113, 117, 111, 116]) = true := by simp [h1]
    rw [if_pos h1] at hv; obtain ⟨rfl, rfl⟩ := Prod.mk.inj hv
    clear h1 hv
    go_enter Tryd.func58, Tryd.ntmps58
    go_wp2
    go_ret2
    exact ⟨rfl, Below.refl _ _⟩
  have e4 : (a0.toList == [113, 117, 111, 116]) = false := by simp [h1]
  rw [if_neg h1] at hv
  clear h1
  by_cases h1 : a0.toList = [97, 112, 111, 115]
  · have e5 : (a0.toList == [97, 112, 111, 115]) = true := by simp [h1]
    rw [if_pos h1] at hv; obtain ⟨rfl, rfl⟩ := Prod.mk.inj hv
    clear h1 hv
    go_enter Tryd.func58, Tryd.ntmps58
    go_wp2
    go_ret2
    exact ⟨rfl, Below.refl _ _⟩
  have e5 : (a0.toList == [97, 112, 111, 115]) = false := by simp [h1]
  rw [if_neg h1] at hv
  clear h1
  by_cases h1 : q4_.f a0 ⟨#[35]⟩ = some true
  · rw [if_pos h1] at hv
    obtain ⟨rfl, rfl⟩ := Prod.mk.inj hv
    have HX := Aside0.mk h1
    have h0 : (1 : Int) ≤ (a0.size : Int) := by
      rw [hasPrefix_f _ _ (by decide) (by omega)] at h1
      have h2 := ((Bool.and_eq_true _ _).mp (Option.some.inj h1)).1
      have h3 : 1 ≤ a0.size := of_decide_eq_true h2
      omega
    have HN : Aside0 (q15_.f (a0.extract 1 a0.size) = some ((numV (a0.extract 1 a0.size)).1, (numV (a0.extract 1 a0.size)).2)) := ⟨by rw [q15_.f, if_pos (by simp; omega)]⟩
    clear h1 hv
    go_enter Tryd.func58, Tryd.ntmps58
    go_wp2_with (first | (go_at_call 89; refine (q4_.calls a0 ⟨#[35]⟩ true _ HX.out).mono ?_; rintro e w' ⟨rfl, ⟨nd, rfl⟩⟩) | (go_at_call 106; refine (q15_.calls _ _ _ _ HN.out).mono ?_; rintro e w' ⟨rfl, hb1⟩))
    go_ret2
    exact ⟨rfl, below_then (pw_below_drewN (Below.refl _ _) _) (Nat.le_refl _) hb1⟩
  · rw [if_neg h1] at hv
    obtain ⟨rfl, rfl⟩ := Prod.mk.inj hv
    have HX : Aside0 (q4_.f a0 ⟨#[35]⟩ = some false) := by
      rw [hasPrefix_f _ _ (by decide) (by omega)] at h1 ⊢
      refine ⟨?_⟩
      congr 1
      exact Bool.eq_false_iff.mpr (fun h => h1 (by rw [h]))
    clear h1 hv
    go_enter Tryd.func58, Tryd.ntmps58
    go_wp2_with (first | (go_at_call 89; refine (q4_.calls a0 ⟨#[35]⟩ false _ HX.out).mono ?_; rintro e w' ⟨rfl, ⟨nd, rfl⟩⟩))
    go_ret2
    exact ⟨rfl, pw_below_drewN (Below.refl _ _) _⟩
end Go.Proofs.YtkhjpobhdpcglaaDoor.X
end
section
namespace Go.Proofs.YtkhjpobhdpcglaaDoor.X
section
variable {old new : List UInt8}
theorem rep_miss {s : List UInt8} (h : Lib.index s old = -1) : Lib.replaceAll s old new = s := by
  unfold Lib.replaceAll Lib.replace
  split
  · rfl
  · unfold Lib.replaceNum
    rw [if_pos (.inl (by decide)), Lib.count_miss h]; rfl
theorem rep_hit {s : List UInt8} {i : Nat} (hne : old ≠ []) (hon : (old == new) = false) (h : Lib.index s old = i) :
    Lib.replaceAll s old new = s.take i ++ new ++ Lib.replaceAll (s.drop (i + old.length)) old new := by
  unfold Lib.replaceAll Lib.replace
  rw [if_neg (by rw [hon]; decide), if_neg (by rw [hon]; decide)]
  unfold Lib.replaceNum
  rw [if_pos (.inl (by decide)), if_pos (.inl (by decide)), Lib.count_hit hne h, Nat.add_comm, Lib.replaceK_hit old new _ s i h]
theorem rep_nil (hne : old ≠ []) : Lib.replaceAll [] old new = [] := rep_miss (by
  unfold Lib.index
  cases old with
  | nil => exact absurd rfl hne
  | cons a t => rfl)
theorem rep_pre {b : UInt8} {l : List UInt8} (hne : old ≠ []) (hon : (old == new) = false) (h : old.isPrefixOf (b :: l) = true) :
    Lib.replaceAll (b :: l) old new = new ++ Lib.replaceAll ((b :: l).drop old.length) old new := by
  have hi : Lib.index (b :: l) old = ((0 : Nat) : Int) := by
    have hun : Lib.index (b :: l) old = (if old.isPrefixOf (b :: l) then 0 else if Lib.index l old == -1 then -1 else Lib.index l old + 1) := rfl
    rw [hun, if_pos h]; rfl
  rw [rep_hit hne hon hi]
  simp
theorem rep_cons {b : UInt8} {l : List UInt8} (hne : old ≠ []) (hon : (old == new) = false) (h : old.isPrefixOf (b :: l) = false) :
    Lib.replaceAll (b :: l) old new = b :: Lib.replaceAll l old new := by
  have hun : Lib.index (b :: l) old = (if old.isPrefixOf (b :: l) then 0 else if Lib.index l old == -1 then -1 else Lib.index l old + 1) := rfl
  rw [if_neg (by rw [h]; decide)] at hun
  by_cases hm : Lib.index l old = -1
  · rw [if_pos (by simp [hm])] at hun
    rw [rep_miss hun, rep_miss hm]
  · rw [if_neg (by simpa using hm)] at hun
    have hge := Lib.index_ge l old
    obtain ⟨j, hj⟩ : ∃ j : Nat, Lib.index l old = j := ⟨(Lib.index l old).toNat, by omega⟩
    have hun2 : Lib.index (b :: l) old = ((j + 1 : Nat) : Int) := by rw [hun, hj]; rfl
    rw [rep_hit hne hon hun2, rep_hit hne hon hj]
    have : j + 1 + old.length = (j + old.length) + 1 := by omega
    rw [this]
    simp
end
def crlf : List UInt8 → List UInt8
  | [] => []
  | b :: l => if b = 13 ∧ l.head? = some 10 then crlf l else b :: crlf l
def cr (l : List UInt8) : List UInt8 := l.map fun b => if b = 13 then 10 else b
theorem rep_crlf : ∀ l : List UInt8, Lib.replaceAll l [13, 10] [10] = crlf l
  | [] => rep_nil (by simp)
  | b :: l => by
    by_cases h : b = 13 ∧ l.head? = some 10
    · obtain ⟨rfl, h2⟩ := h
      cases l with
      | nil => cases h2
      | cons c t =>
        simp at h2
        subst h2
        rw [rep_pre (by simp) rfl (by rfl)]
        simp only [List.length_cons, List.length_nil, List.drop_succ_cons, List.drop_zero]
        rw [rep_crlf t]
        simp [crlf]
    · rw [rep_cons (by simp) rfl (by
        cases l with
        | nil => simp [List.isPrefixOf]
        | cons c t =>
          simp [List.isPrefixOf]
          simp at h
          intro e; exact fun e2 => h e.symm e2.symm), rep_crlf l]
      simp [crlf, h]
theorem rep_cr : ∀ l : List UInt8, Lib.replaceAll l [13] [10] = cr l
  | [] => rep_nil (by simp)
  | b :: l => by
    by_cases h : b = 13
    · subst h
      rw [rep_pre (by simp) rfl (by rfl)]
      simp only [List.length_cons, List.length_nil, List.drop_succ_cons, List.drop_zero]
      rw [rep_cr l]
      simp [cr]
    · rw [rep_cons (by simp) rfl (by simp [List.isPrefixOf]; exact fun e => h e.symm), rep_cr l]
      simp [cr, h]
theorem crlf_len : ∀ l : List UInt8, (crlf l).length ≤ l.length
  | [] => by simp [crlf]
  | b :: l => by
    have := crlf_len l
    simp only [crlf]
    split <;> simp <;> omega
theorem cr_len (l : List UInt8) : (cr l).length = l.length := by simp [cr]
def norm (l : List UInt8) : List UInt8 := cr (crlf l)
theorem norm_len (l : List UInt8) : (norm l).length ≤ l.length := by unfold norm; rw [cr_len]; exact crlf_len l
theorem count_le1 (s old : List UInt8) : Lib.count s old ≤ s.length + 1 := Lib.count_le s old
end Go.Proofs.YtkhjpobhdpcglaaDoor.X
end
section
namespace Go.Proofs.YtkhjpobhdpcglaaDoor.X
open Go.RowKit Go.Proofs.YtkhjpobhdpcglaaDoorW.PrintWords Go.Proofs.YtkhjpobhdpcglaaDoorW.PrintLast Go.Proofs.YtkhjpobhdpcglaaDoorW.PrintMore
def unB : Nat → ByteArray → List UInt8 → Option (List UInt8)
  | 0, _, _ => none
  | k + 1, s, acc =>
    let c := cutAt s (Lib.indexByte s.data.toList 38)
    if c.2.2 = true then
      let d := cutAt c.2.1 (Lib.indexByte c.2.1.data.toList 59)
      if d.2.2 = true then (if (signV d.1).2 = true then unB k d.2.1 (acc ++ c.1.data.toList ++ (signV d.1).1.data.toList) else none) else none
    else some (acc ++ c.1.data.toList)
def unV (s : ByteArray) : ByteArray × Bool :=
  match unB (s.size + 1) ⟨(norm s.data.toList).toArray⟩ [] with
  | some l => (⟨l.toArray⟩, true)
  | none => (⟨#[]⟩, false)
def q17_.f (a0 : ByteArray) : Option (ByteArray × Bool) := if a0.size ≤ 1073741824 then some (unV a0) else none
theorem signV_len (s : ByteArray) : (signV s).1.data.toList.length ≤ 4 := by
  unfold signV
  repeat' split
  all_goals simp
  exact enc_size _
theorem cutAt_len (s : ByteArray) (c : UInt8) : (cutAt s (Lib.indexByte s.data.toList c)).1.size ≤ s.size ∧ (cutAt s (Lib.indexByte s.data.toList c)).2.1.size ≤ s.size ∧
    ((cutAt s (Lib.indexByte s.data.toList c)).2.2 = true → (cutAt s (Lib.indexByte s.data.toList c)).1.size + (cutAt s (Lib.indexByte s.data.toList c)).2.1.size + 1 = s.size) := by
  have hlt := indexByte_lt c s.data.toList
  have hge := Lib.indexByte_ge s.data.toList c
  have hlen : s.data.toList.length = s.size := by simp
  rw [hlen] at hlt
  unfold cutAt
  split
  · simp; omega
  · exact ⟨Nat.le_refl _, Nat.zero_le _, fun h => by cases h⟩
set_option maxHeartbeats 4000000 in
set_option maxRecDepth 1000000 in
theorem q17_.calls (a0 : ByteArray) (r1 : ByteArray) (r2 : Bool) (w : World) (hg : GOK w) (h : q17_.f a0 = some (r1, r2)) :
    Calls Tryd.prog 21 #[.string a0] w fun e w' => e = .returned (.tuple #[.string r1, .bool r2]) ∧ Below w.heap.size w w' := by
  unfold q17_.f at h
  split at h
  case isFalse => cases h
  rename_i hs
  have hv := Option.some.inj h
  have HV := Aside0.mk hv
  have HG := Aside0.mk hg
  clear h hv hg
  have hsz : a0.data.toList.length = a0.size := by simp
  have HS := Aside0.mk hsz
  clear hsz
  go_enter Tryd.func21, Tryd.ntmps21
  go_wp2_with fail
  refine (ReplaceAll_any a0 ⟨#[13, 10]⟩ ⟨#[10]⟩ _ HG.out (by omega) (by decide) (by
    have := count_le1 a0.data.toList [13, 10]
    have h2 : Lib.countB a0 ⟨#[13, 10]⟩ ≤ a0.size + 1 := by rw [HS.out] at this; exact this
    have h3 : (⟨#[10]⟩ : ByteArray).size = 1 := rfl
    rw [h3]; omega)).mono ?_
  rintro e w1 ⟨rfl, hb1⟩
  simp only [rep_crlf]
  go_wp2_with fail
  refine (ReplaceAll_any ⟨(crlf a0.data.toList).toArray⟩ ⟨#[13]⟩ ⟨#[10]⟩ _ (HG.out.below hb1 HG.out.lt) (by
    have := crlf_len a0.data.toList
    simp only [ByteArray.size, List.size_toArray]; have := HS.out; omega) (by decide) (by
    have := count_le1 (crlf a0.data.toList) [13]
    have h1 := crlf_len a0.data.toList
    have h2 : Lib.countB ⟨(crlf a0.data.toList).toArray⟩ ⟨#[13]⟩ ≤ (crlf a0.data.toList).length + 1 := this
    have h3 : (⟨#[10]⟩ : ByteArray).size = 1 := rfl
    have h4 : (⟨(crlf a0.data.toList).toArray⟩ : ByteArray).size = (crlf a0.data.toList).length := by simp [ByteArray.size]
    have h5 := HS.out
    rw [h3, h4]; omega)).mono ?_
  rintro e w2 ⟨rfl, hb2⟩
  simp only [rep_cr]
  obtain ⟨s0, hs0⟩ : ∃ s0 : ByteArray, s0 = ⟨(norm a0.data.toList).toArray⟩ := ⟨_, rfl⟩
  have hn0 : s0.size ≤ a0.size := by
    rw [hs0]
    have := norm_len a0.data.toList
    have h5 := HS.out
    simp only [ByteArray.size, List.size_toArray] at h5 ⊢
    omega
  have hsv : (⟨(cr (crlf a0.data.toList)).toArray⟩ : ByteArray) = s0 := hs0.symm
  rw [hsv]
  have HU : Aside0 (∃ R, unB (a0.size + 1) s0 [] = R ∧ (match R with | some l => ((⟨l.toArray⟩ : ByteArray), true) | none => (⟨#[]⟩, false)) = (r1, r2)) := ⟨_, rfl, by
    have := HV.out
    unfold unV at this
    rw [hs0]; exact this⟩
  clear hsv hs0 HV HS
  obtain ⟨R, hU, hR⟩ := HU.out
  have HU1 := Aside0.mk hU
  have HR := Aside0.mk hR
  clear hU hR HU
  have hbw : Below w.heap.size w w2 := below_then hb1 hb1.size hb2
  have hz2 := hbw.size
  clear hb1 hb2
  go_wp2
  go_loopw [0] (fun v wr => ∃ (cur : ByteArray) (acc : List UInt8) (k : Nat), v = .string cur ∧ Aside0 (unB k cur acc = R) ∧ cur.size < k ∧ acc.length + 4 * cur.size ≤ 4 * a0.size ∧ Aside0 (Bld w2.heap.size w2.heap.size acc wr) ∧ Below w2.heap.size w2 wr) (fun v _ => match v with | .string s => s.size | _ => 0)
  case atStart => exact ⟨s0, [], a0.size + 1, rfl, HU1, by omega, by simp; omega, ⟨Bld.fresh w2⟩, below_alloc (Below.refl _ _) _⟩
  case round =>
    obtain ⟨cur, acc, k, rfl, HC, hk, hacc, HB, hbel⟩ := hrel
    have hsz := hbel.size
    obtain ⟨k, rfl⟩ : ∃ k', k = k' + 1 := ⟨k - 1, by omega⟩
    obtain ⟨l1, l2, l3⟩ := cutAt_len cur 38
    obtain ⟨c1, c2, c3, hc⟩ : ∃ c1 c2 c3, cutAt cur (Lib.indexByte cur.data.toList 38) = (c1, c2, c3) := ⟨_, _, _, rfl⟩
    obtain ⟨d1, d2, d3, hd⟩ : ∃ d1 d2 d3, cutAt c2 (Lib.indexByte c2.data.toList 59) = (d1, d2, d3) := ⟨_, _, _, rfl⟩
    obtain ⟨m1, m2, m3⟩ := cutAt_len c2 59
    have hC := HC.out
    simp only [unB, hc, hd] at hC
    rw [hc] at l1 l2 l3
    rw [hd] at m1 m2 m3
    simp only [] at l1 l2 l3 m1 m2 m3 hC
    have HC1 := Aside0.mk hC
    have HK1 : Aside0 (q14_.f cur ⟨#[38]⟩ = some (c1, c2, c3)) := ⟨by rw [q14_.f, if_pos (by omega)]; simp only []; rw [hc]⟩
    have HK2 : Aside0 (q14_.f c2 ⟨#[59]⟩ = some (d1, d2, d3)) := ⟨by rw [q14_.f, if_pos (by omega)]; simp only []; rw [hd]⟩
    clear hC hc hd HC
    have HBd : ∀ n, Bld w2.heap.size w2.heap.size acc (wr.drewN n) := fun n => HB.out.drewN n
    have hszd : ∀ n, w2.heap.size ≤ (wr.drewN n).heap.size := fun n => hsz
    have hroom : acc.length + c1.size ≤ 140737488355328 := by omega
    cases c3 with
    | false =>
      have hC := HC1.out
      simp only [Bool.false_eq_true, if_false] at hC
      subst hC
      have hR := HR.out
      simp only [Prod.mk.injEq] at hR
      obtain ⟨rfl, rfl⟩ := hR
      go_wp2_with (first | (go_at_call 55; (with_reducible refine (q14_.calls cur ⟨#[38]⟩ c1 c2 false _ HK1.out).mono ?_); rintro e w' ⟨rfl, ⟨nd, rfl⟩⟩) | (go_at_call 56; (with_reducible refine (Builder_WriteString w2.heap.size w2.heap.size acc c1 _ (HBd _) hroom (hszd _)).mono ?_); rintro e w3 ⟨rfl, hB3, hb3⟩) | (go_at_call 57; refine (Builder_String w2.heap.size w2.heap.size (acc ++ c1.data.toList) _ (by exact hB3) (by have := hb3.size; exact Nat.le_trans hsz this)).mono ?_; rintro e w4 ⟨rfl, hb4⟩))
      go_ret2
      exact ⟨rfl, below_then hbw hz2 ((pw_below_drewN hbel _).trans (hb3.trans hb4))⟩
    | true =>
      have hl3 := l3 rfl
      clear l3
      cases d3 with
      | false =>
        have hC := HC1.out
        simp only [if_true, Bool.false_eq_true, if_false] at hC
        subst hC
        have hR := HR.out
        simp only [Prod.mk.injEq] at hR
        obtain ⟨rfl, rfl⟩ := hR
        go_wp2_with (first | (go_at_call 55; (with_reducible refine (q14_.calls cur ⟨#[38]⟩ c1 c2 true _ HK1.out).mono ?_); rintro e w' ⟨rfl, ⟨nd, rfl⟩⟩) | (go_at_call 56; (with_reducible refine (Builder_WriteString w2.heap.size w2.heap.size acc c1 _ (HBd _) hroom (hszd _)).mono ?_); rintro e w3 ⟨rfl, hB3, hb3⟩) | (go_at_call 55; (with_reducible refine (q14_.calls c2 ⟨#[59]⟩ d1 d2 false _ HK2.out).mono ?_); rintro e w' ⟨rfl, ⟨nd2, rfl⟩⟩))
        go_ret2
        exact ⟨rfl, below_then hbw hz2 (pw_below_drewN ((pw_below_drewN hbel _).trans hb3) _)⟩
      | true =>
        have hm3 := m3 rfl
        clear m3
        obtain ⟨t1, t2, ht⟩ : ∃ t1 t2, signV d1 = (t1, t2) := ⟨_, _, rfl⟩
        have ht4 := signV_len d1
        rw [ht] at ht4
        simp only [] at ht4
        have ht5 : t1.size ≤ 4 := by have : t1.data.toList.length = t1.size := by simp
                                     omega
        clear ht4
        have HSG : Aside0 (q16_.f d1 = some (t1, t2)) := ⟨by rw [q16_.f, if_pos (by omega), ht]⟩
        have hC := HC1.out
        simp only [if_true, ht] at hC
        have HC2 := Aside0.mk hC
        clear hC ht HC1
        cases t2 with
        | false =>
          have hC := HC2.out
          simp only [Bool.false_eq_true, if_false] at hC
          subst hC
          have hR := HR.out
          simp only [Prod.mk.injEq] at hR
          obtain ⟨rfl, rfl⟩ := hR
          go_wp2_with (first | (go_at_call 55; (with_reducible refine (q14_.calls cur ⟨#[38]⟩ c1 c2 true _ HK1.out).mono ?_); rintro e w' ⟨rfl, ⟨nd, rfl⟩⟩) | (go_at_call 56; (with_reducible refine (Builder_WriteString w2.heap.size w2.heap.size acc c1 _ (HBd _) hroom (hszd _)).mono ?_); rintro e w3 ⟨rfl, hB3, hb3⟩) | (go_at_call 55; (with_reducible refine (q14_.calls c2 ⟨#[59]⟩ d1 d2 true _ HK2.out).mono ?_); rintro e w' ⟨rfl, ⟨nd2, rfl⟩⟩) | (go_at_call 58; refine (q16_.calls d1 t1 false _ HSG.out).mono ?_; rintro e w5 ⟨rfl, hb5⟩))
          go_ret2
          exact ⟨rfl, below_then hbw hz2 ((pw_below_drewN ((pw_below_drewN hbel _).trans hb3) _).trans (hb5.mono (Nat.le_trans hsz hb3.size)))⟩
        | true =>
          have hC := HC2.out
          simp only [if_true] at hC
          have HC3 := Aside0.mk hC
          clear hC HC2
          go_wp2_with (first | (go_at_call 55; (with_reducible refine (q14_.calls cur ⟨#[38]⟩ c1 c2 true _ HK1.out).mono ?_); rintro e w' ⟨rfl, ⟨nd, rfl⟩⟩) | (go_at_call 56; (with_reducible refine (Builder_WriteString w2.heap.size w2.heap.size acc c1 _ (HBd _) hroom (hszd _)).mono ?_); rintro e w3 ⟨rfl, hB3, hb3⟩) | (go_at_call 55; (with_reducible refine (q14_.calls c2 ⟨#[59]⟩ d1 d2 true _ HK2.out).mono ?_); rintro e w' ⟨rfl, ⟨nd2, rfl⟩⟩) | (go_at_call 58; (with_reducible refine (q16_.calls d1 t1 true _ HSG.out).mono ?_); rintro e w5 ⟨rfl, hb5⟩))
          have hB5 : Bld w2.heap.size w2.heap.size (acc ++ c1.data.toList) w5 := (hB3.drewN nd2).below hb5
          have hroom5 : (acc ++ c1.data.toList).length + t1.size ≤ 140737488355328 := by
            have : c1.data.toList.length = c1.size := by simp
            rw [List.length_append]; omega
          have hsz5 : w2.heap.size ≤ w5.heap.size := Nat.le_trans (Nat.le_trans hsz hb3.size) hb5.size
          refine (Builder_WriteString w2.heap.size w2.heap.size (acc ++ c1.data.toList) t1 _ hB5 hroom5 hsz5).mono ?_
          rintro e w6 ⟨rfl, hB6, hb6⟩
          have hlen6 : (acc ++ c1.data.toList ++ t1.data.toList).length = acc.length + c1.size + t1.size := by
            have e1 : c1.data.toList.length = c1.size := by simp
            have e2 : t1.data.toList.length = t1.size := by simp
            rw [List.length_append, List.length_append, e1, e2]
          have HL6 := Aside0.mk hlen6
          clear hlen6
          go_wp2
          go_roundw
          case rel => exact ⟨d2, acc ++ c1.data.toList ++ t1.data.toList, k, rfl, HC3, by omega, by rw [HL6.out]; omega, ⟨hB6⟩, (pw_below_drewN ((pw_below_drewN hbel _).trans hb3) _).trans ((hb5.mono (Nat.le_trans hsz hb3.size)).trans hb6)⟩
          case measure => simp only []; omega
def attrsV : Nat → ByteArray → Nat → Option Nat
  | 0, _, _ => none
  | k + 1, s, i =>
    if (decide (i < skip whiteV s i) && !hasP s (skip whiteV s i) ⟨#[47]⟩ && !hasP s (skip whiteV s i) ⟨#[62]⟩) = true then (match attrV s (skip whiteV s i) with | some m => attrsV k s m | none => none)
    else some (skip whiteV s i)
def kidsV (E : Nat → Option (S36 × Nat)) : Nat → ByteArray → Nat → List S36 → Option (List S36 × Nat)
  | 0, _, _, _ => none
  | k + 1, s, j, acc =>
    if (hasP s j ⟨#[60]⟩ && !hasP s j ⟨#[60, 47]⟩) = true then (match E j with | some (n, m) => kidsV E k s (skip whiteV s m) (acc ++ [n]) | none => none)
    else some (acc, j)
def textV (s : ByteArray) (i : Nat) (kids : List S36) (m : Nat) : Option (ByteArray × List S36 × Nat) :=
  if 0 < kids.length then some (⟨#[]⟩, kids, m)
  else if Lib.indexByte (s.extract i s.size).data.toList 60 < 0 then none
  else if (unV (s.extract i (i + (Lib.indexByte (s.extract i s.size).data.toList 60).toNat))).2 = true then some ((unV (s.extract i (i + (Lib.indexByte (s.extract i s.size).data.toList 60).toNat))).1, [], i + (Lib.indexByte (s.extract i s.size).data.toList 60).toNat)
  else none
def contW (s : ByteArray) (i : Nat) (o : Option (List S36 × Nat)) : Option (ByteArray × List S36 × Nat) :=
  match o with
  | some (kids, m) => textV s i kids m
  | none => none
def contV (E : Nat → Option (S36 × Nat)) (s : ByteArray) (i : Nat) : Option (ByteArray × List S36 × Nat) := contW s i (kidsV E (s.size + 1) s (skip whiteV s i) [])
def endV (s nm : ByteArray) (t : ByteArray) (kids : List S36) (m : Nat) : Option (S36 × Nat) :=
  if hasP s m ⟨#[60, 47]⟩ = true then
    (if s.extract (m + 2) (skip innerV s (m + 2)) = nm then
      (if hasP s (skip whiteV s (skip innerV s (m + 2))) ⟨#[62]⟩ = true then some (⟨nm, t, kids⟩, skip whiteV s (skip innerV s (m + 2)) + 1) else none)
    else none)
  else none
def restV (E : Nat → Option (S36 × Nat)) (s nm : ByteArray) (k : Nat) : Option (S36 × Nat) :=
  if hasP s k ⟨#[47, 62]⟩ = true then some (⟨nm, ⟨#[]⟩, []⟩, k + 2)
  else if hasP s k ⟨#[62]⟩ = true then (match contV E s (k + 1) with | some (t, kids, m) => endV s nm t kids m | none => none)
  else none
def atV (E : Nat → Option (S36 × Nat)) (s nm : ByteArray) (j : Nat) : Option (S36 × Nat) :=
  match attrsV (s.size + 1) s j with | some k => restV E s nm k | none => none
def elemV (s : ByteArray) : Nat → Nat → Option (S36 × Nat)
  | 0, _ => none
  | d + 1, i =>
    if hasP s i ⟨#[60]⟩ = true then
      (if nameV (s.extract (i + 1) (skip innerV s (i + 1))) = true then atV (elemV s d) s (s.extract (i + 1) (skip innerV s (i + 1))) (skip innerV s (i + 1)) else none)
    else none
theorem runTo_ge (p : Int → Bool) (s : ByteArray) : ∀ b i, i ≤ runTo p s b i
  | 0, i => Nat.le_refl _
  | b + 1, i => by
    unfold runTo
    split
    · have := runTo_ge p s b (i + 1)
      omega
    · exact Nat.le_refl _
theorem le_skip (p : Int → Bool) (s : ByteArray) (i : Nat) : i ≤ skip p s i := runTo_ge p s _ i
theorem skip_max {p : Int → Bool} {s : ByteArray} {i : Nat} (h : i ≤ s.size) : skip p s i ≤ s.size := (skip_le p s i h).2
theorem attr4_gt {s : ByteArray} {j m : Nat} (h : attr4 s j = some m) : j < m := by
  unfold attr4 at h
  repeat' split at h
  all_goals first | (cases h; done) | (injection h with h; omega)
theorem attr3_gt {s : ByteArray} {j m : Nat} (h : attr3 s j = some m) : j < m := by
  unfold attr3 at h
  split at h
  · have h1 := attr4_gt h
    have h2 := le_skip whiteV s j
    have h3 := le_skip whiteV s (skip whiteV s j + 1)
    omega
  · cases h
theorem attr2_gt {s : ByteArray} {j m : Nat} (h : attr2 s j = some m) : j < m := by
  unfold attr2 at h
  repeat' split at h
  · have h1 := attr3_gt h
    have h2 := le_skip innerV s (j + 1)
    omega
  · cases h
  · exact attr3_gt h
theorem attrV_gt {s : ByteArray} {j m : Nat} (h : attrV s j = some m) : j < m := by
  unfold attrV at h
  split at h
  · have h1 := attr2_gt h
    have h2 := le_skip innerV s j
    omega
  · cases h
def Wr (w : World) (b : Nat) (A : Option Addr) : Prop := ∀ ad, A = some ad → ∃ g cells, ad = ⟨g, 0, none⟩ ∧ b ≤ g ∧ w.heap[g]? = some (.cells cells 36 (0, 0))
def ElemPost (w0 w : World) (g : Nat) (s : ByteArray) (o : Option (S36 × Nat)) (e : Ending) (w' : World) : Prop :=
  ∃ (n : S36) (A : Option Addr) (c : Nat) (b : Bool) (j : Nat), e = .returned (.tuple #[.agg #[.string n.f0, .string n.f1, .slice A n.f2.length c], .bool b]) ∧ n.f2.length ≤ c ∧
    Kd.F k36 w' (fun k => w.heap.size ≤ k) A n.f2.length n.f2 ∧ Wr w' w.heap.size A ∧ Rd w0 w' g s j ∧ KeepBut w w' g none ∧ (match o with | some (m, k) => b = true ∧ n = m ∧ j = k | none => b = false)
theorem Wr.none (w : World) (b : Nat) : Wr w b none := fun ad h => by cases h
theorem ElemPost.no {w0 w w' : World} {g : Nat} {s : ByteArray} {o : Option (S36 × Nat)} {j : Nat} (ho : o = none) (h : Rd w0 w' g s j) (hk : KeepBut w w' g none) : ElemPost w0 w g s o (.returned (.tuple #[.agg #[.string ⟨#[]⟩, .string ⟨#[]⟩, .slice none 0 0], .bool false])) w' :=
  ⟨z36, none, 0, false, j, rfl, Nat.le_refl _, fun W _ => Kd.C_nil _ _, Wr.none _ _, h, hk, by rw [ho]⟩
def ContPost (w0 w : World) (g gn : Nat) (s nm : ByteArray) (o : Option (ByteArray × List S36 × Nat)) (e : Ending) (w' : World) : Prop :=
  ∃ (t : ByteArray) (l : List S36) (A : Option Addr) (c : Nat) (b : Bool) (j : Nat), e = .returned (.bool b) ∧ w'.heap[gn]? = some (.cells #[.string nm, .string t, .slice A l.length c] 36 (0, 0)) ∧ l.length ≤ c ∧
    Kd.F k36 w' (fun k => w.heap.size ≤ k) A l.length l ∧ Wr w' w.heap.size A ∧ Rd w0 w' g s j ∧ KeepBut w w' g (some gn) ∧ (match o with | some (t', l', k) => b = true ∧ t = t' ∧ l = l' ∧ j = k | none => b = false)
end Go.Proofs.YtkhjpobhdpcglaaDoor.X
end
section
namespace Go.Proofs.YtkhjpobhdpcglaaDoor.X
open Go.RowKit
section
variable {P : Program} {ops : Array Oper} {md : Region.Mode} {Q : Exit → Act → World → Prop}
theorem wpAny_one {i fuel : Nat} {o : Oper} {listed : Array Bool} {a : Act} {w : World} (hr : Region.ready md ops listed = [i]) (ho : ops[i]? = some o)
    (h : ∀ K : Act → World → Prop, Shut (∀ a' w', wpAny P md ops Q fuel (listed.setIfInBounds i true) a' w' → K a' w') → if Region.wanted o (yielded ops a.tmps) = true then Oper.wp P o a w K Q else K (a.put o.dst undef) w) :
    wpAny P md ops Q (fuel + 1) listed a w := by
  refine ⟨fun h0 => ?_, fun j hj => ?_⟩
  · rw [hr] at h0
    cases h0
  · rw [hr] at hj
    have : j = i := by simpa using hj
    subst this
    exact wpOp_step ho (fun K' hK => h K' (fun a w hW => hK a w hW))
theorem wpAny_quiet_from {k fuel : Nat} {l : List Oper} {listed : Array Bool} {a : Act} {w : World} (hs : Region.noSelect ops = true) (hl : ops.toList.drop k = l) (hf : fuel = l.length) (hB : Region.lexFrom md ops l.length k listed = true)
    (h : wpQuiet P ops (fun w' => ∃ n, w' = w.drewN n) (fun a' => ∀ w', (∃ n, w' = w.drewN n) → Q .normal a' w') l a) : wpAny P md ops Q fuel listed a w := by
  subst hf
  refine wpAny_of_quiet (C := fun w' => ∃ n, w' = w.drewN n) (Q := fun a' => ∀ w', (∃ n, w' = w.drewN n) → Q .normal a' w') (fun _ w' hw' h => h w' hw') _ _ _ _ ⟨0, rfl⟩ ?_
  refine wpAnyQ_lex hs l k listed a (fun j => ?_) hB h
  rw [← hl, List.getElem?_drop]
  simp
theorem wp_region_2q {id : Nat} {o0 o1 : Oper} {l : List Oper} {a : Act} {w : World} (hm : P.follows .mixedOrders = true)
    (hr0 : Region.ready .any (o0 :: o1 :: l).toArray (Array.replicate (o0 :: o1 :: l).toArray.size false) = [0])
    (hr1 : Region.ready .any (o0 :: o1 :: l).toArray ((Array.replicate (o0 :: o1 :: l).toArray.size false).setIfInBounds 0 true) = [1])
    (hs : Region.noSelect (o0 :: o1 :: l).toArray = true)
    (hB : Region.lexFrom .any (o0 :: o1 :: l).toArray l.length 2 (((Array.replicate (o0 :: o1 :: l).toArray.size false).setIfInBounds 0 true).setIfInBounds 1 true) = true)
    (h : ∀ K : Act → World → Prop, Shut (∀ a1 w1, (∀ K1 : Act → World → Prop, Shut (∀ a2 w2, wpQuiet P (o0 :: o1 :: l).toArray (fun w3 => ∃ n, w3 = w2.drewN n) (fun a3 => ∀ w3, (∃ n, w3 = w2.drewN n) → Q .normal a3 w3) l a2 → K1 a2 w2) →
        if Region.wanted o1 (yielded (o0 :: o1 :: l).toArray a1.tmps) = true then Oper.wp P o1 a1 w1 K1 Q else K1 (a1.put o1.dst undef) w1) → K a1 w1) →
      if Region.wanted o0 (yielded (o0 :: o1 :: l).toArray a.tmps) = true then Oper.wp P o0 a w.drew K Q else K (a.put o0.dst undef) w.drew) : (Code.region id (o0 :: o1 :: l).toArray true).wp P Q a w := by
  refine wp_region_any hm ?_
  have hsz : (o0 :: o1 :: l).toArray.size = l.length + 1 + 1 := by simp
  rw [show (o0 :: o1 :: l).toArray.size = l.length + 1 + 1 from hsz] at hr0 hr1 hB ⊢
  refine wpAny_one (i := 0) (o := o0) hr0 rfl (fun K hK => h K (fun a1 w1 h1 => hK.out a1 w1 ?_))
  refine wpAny_one (i := 1) (o := o1) hr1 rfl (fun K1 hK1 => h1 K1 (fun a2 w2 h2 => hK1.out a2 w2 ?_))
  exact wpAny_quiet_from (k := 2) (l := l) hs rfl rfl hB h2
end
end Go.Proofs.YtkhjpobhdpcglaaDoor.X
end
