/- XmlParses: part 5 of what its proof leans on. -/
import Derived.Test.YtkhjpobhdpcglaaDoorBXmlParses1
import Derived.Test.YtkhjpobhdpcglaaDoorBXmlParses2
import Derived.Test.YtkhjpobhdpcglaaDoorBXmlParses3
import Derived.Test.YtkhjpobhdpcglaaDoorBXmlParses4
set_option linter.unusedVariables false
set_option linter.unusedSimpArgs false
section
namespace Go.Proofs.YtkhjpobhdpcglaaDoor.X
open Go.RowKit Go.Proofs.YtkhjpobhdpcglaaDoorW.PrintWords Go.Proofs.YtkhjpobhdpcglaaDoorW.PrintLast Go.Proofs.YtkhjpobhdpcglaaDoorW.PrintMore
def cutR (c : UInt8) : List UInt8 → Option (List UInt8 × List UInt8)
  | [] => none
  | b :: l => if b = c then some ([], l) else (cutR c l).map fun p => (b :: p.1, p.2)
theorem cutR_some {c : UInt8} : ∀ {l a r : List UInt8}, cutR c l = some (a, r) → l = a ++ c :: r ∧ c ∉ a
  | [], a, r, h => by cases h
  | b :: l, a, r, h => by
    unfold cutR at h
    split at h
    · rename_i hb
      injection h with h
      injection h with h1 h2
      subst h1
      subst h2
      subst hb
      exact ⟨rfl, by simp⟩
    · rename_i hb
      obtain ⟨⟨a', r'⟩, h1, h2⟩ := Option.map_eq_some_iff.1 h
      injection h2 with h2 h3
      subst h2
      subst h3
      obtain ⟨h4, h5⟩ := cutR_some h1
      refine ⟨by rw [h4]; rfl, ?_⟩
      simp only [List.mem_cons, not_or]
      exact ⟨fun h => hb h.symm, h5⟩
theorem cutR_none {c : UInt8} : ∀ {l : List UInt8}, cutR c l = none → c ∉ l
  | [], h => by simp
  | b :: l, h => by
    unfold cutR at h
    split at h
    · cases h
    · rename_i hb
      simp only [Option.map_eq_none_iff] at h
      simp only [List.mem_cons, not_or]
      exact ⟨fun h => hb h.symm, cutR_none h⟩
theorem cutR_mk {c : UInt8} : ∀ {a : List UInt8} (r : List UInt8), c ∉ a → cutR c (a ++ c :: r) = some (a, r)
  | [], r, h => by simp [cutR]
  | b :: a, r, h => by
    simp only [List.mem_cons, not_or] at h
    rw [List.cons_append, cutR, if_neg (fun e => h.1 e.symm), cutR_mk r h.2]
    rfl
theorem cutR_no {c : UInt8} : ∀ {l : List UInt8}, c ∉ l → cutR c l = none
  | [], h => rfl
  | b :: l, h => by
    simp only [List.mem_cons, not_or] at h
    rw [cutR, if_neg (fun e => h.1 e.symm), cutR_no h.2]
    rfl
theorem index_cut (c : UInt8) : ∀ l : List UInt8, Lib.indexByte l c = match cutR c l with | some (a, _) => (a.length : Int) | none => -1
  | [] => rfl
  | b :: l => by
    have hun : Lib.indexByte (b :: l) c = (if (b == c) = true then 0 else if (Lib.indexByte l c == -1) = true then -1 else Lib.indexByte l c + 1) := rfl
    have ih := index_cut c l
    rw [hun, cutR]
    by_cases hb : b = c
    · subst hb
      simp
    · have h1 : (b == c) = false := by simpa using hb
      rw [h1, if_neg hb]
      simp only [Bool.false_eq_true, if_false]
      cases hc : cutR c l with
      | none =>
        rw [hc] at ih
        simp only at ih
        rw [ih]
        rfl
      | some p =>
        obtain ⟨a, r⟩ := p
        rw [hc] at ih
        simp only at ih
        rw [ih]
        have : ((a.length : Int) == -1) = false := by simp
        rw [this]
        simp
theorem cutAt_R (l : List UInt8) (c : UInt8) : cutAt ⟨l.toArray⟩ (Lib.indexByte l c) = match cutR c l with | some (a, r) => (⟨a.toArray⟩, ⟨r.toArray⟩, true) | none => (⟨l.toArray⟩, ⟨#[]⟩, false) := by
  rw [index_cut]
  unfold cutAt
  cases hc : cutR c l with
  | none =>
    simp only
    rw [if_neg (by omega)]
  | some p =>
    obtain ⟨a, r⟩ := p
    obtain ⟨h1, h2⟩ := cutR_some hc
    simp only
    rw [if_pos (by omega), Int.toNat_natCast]
    have hl : (⟨l.toArray⟩ : ByteArray).data.toList = l := by simp
    have e1 : (⟨l.toArray⟩ : ByteArray).extract 0 a.length = ⟨a.toArray⟩ := by
      apply ba_ext
      rw [ext_list, hl, h1]
      simp
    have e2 : (⟨l.toArray⟩ : ByteArray).extract (a.length + 1) (⟨l.toArray⟩ : ByteArray).size = ⟨r.toArray⟩ := by
      apply ba_ext
      rw [ext_end, hl, h1]
      simp [List.drop_append]
    rw [e1, e2]
def entL (a : List UInt8) : List UInt8 × Bool := ((entV ⟨a.toArray⟩).1.data.toList, (entV ⟨a.toArray⟩).2)
def refU : Nat → List UInt8 → Option (List UInt8)
  | 0, _ => some []
  | n + 1, [] => some []
  | n + 1, b :: t =>
    if b = 13 then (refU n (if t.head? = some 10 then t.tail else t)).map fun l => 10 :: l
    else if b = 38 then (match cutR 59 t with | none => none | some (a, r) => if (entL a).2 = true then (refU n r).map fun l => (entL a).1 ++ l else none)
    else (refU n t).map fun l => b :: l
theorem refU_nil (n : Nat) : refU n [] = some [] := by cases n <;> rfl
theorem refU_fuel : ∀ (n m : Nat) (l : List UInt8), l.length ≤ n → l.length ≤ m → refU n l = refU m l := by
  intro n
  induction n with
  | zero =>
    intro m l hn hm
    have : l = [] := List.eq_nil_of_length_eq_zero (by omega)
    subst this
    rw [refU_nil, refU_nil]
  | succ n ih =>
    intro m l hn hm
    cases l with
    | nil => rw [refU_nil, refU_nil]
    | cons b t =>
      simp only [List.length_cons] at hn hm
      obtain ⟨m, rfl⟩ : ∃ x, m = x + 1 := ⟨m - 1, by omega⟩
      unfold refU
      by_cases h1 : b = 13
      · rw [if_pos h1, if_pos h1]
        have hlen : (if t.head? = some 10 then t.tail else t).length ≤ t.length := by
          split
          · simp
          · exact Nat.le_refl _
        rw [ih m _ (by omega) (by omega)]
      · rw [if_neg h1, if_neg h1]
        by_cases h2 : b = 38
        · rw [if_pos h2, if_pos h2]
          cases hc : cutR 59 t with
          | none => rfl
          | some p =>
            obtain ⟨a, r⟩ := p
            have h3 := (cutR_some hc).1
            have h4 : r.length ≤ t.length := by rw [h3]; simp; omega
            simp only
            rw [ih m r (by omega) (by omega)]
        · rw [if_neg h2, if_neg h2, ih m t (by omega) (by omega)]
theorem crlf_app {c : UInt8} (h10 : c ≠ 10) : ∀ (a t : List UInt8), crlf (a ++ c :: t) = crlf a ++ crlf (c :: t)
  | [], t => rfl
  | b :: a, t => by
    have hh : ((a ++ c :: t).head? = some 10) ↔ (a.head? = some 10) := by
      cases a with
      | nil => simp [h10]
      | cons x a => simp
    rw [List.cons_append, crlf, crlf]
    by_cases hb : b = 13 ∧ a.head? = some 10
    · rw [if_pos ⟨hb.1, hh.2 hb.2⟩, if_pos hb, crlf_app h10 a t]
    · rw [if_neg (fun h => hb ⟨h.1, hh.1 h.2⟩), if_neg hb, crlf_app h10 a t]
      rfl
theorem norm_app {c : UInt8} (h10 : c ≠ 10) (h13 : c ≠ 13) (a t : List UInt8) : norm (a ++ c :: t) = norm a ++ c :: norm t := by
  unfold norm
  rw [crlf_app h10, crlf, if_neg (fun h => h13 h.1)]
  simp [cr, h13]
theorem crlf_mem {c : UInt8} : ∀ {l : List UInt8}, c ∈ crlf l → c ∈ l
  | [], h => h
  | b :: l, h => by
    unfold crlf at h
    split at h
    · exact List.mem_cons_of_mem _ (crlf_mem h)
    · rcases List.mem_cons.1 h with h | h
      · exact List.mem_cons.2 (.inl h)
      · exact List.mem_cons_of_mem _ (crlf_mem h)
theorem norm_mem {c : UInt8} (h10 : c ≠ 10) {l : List UInt8} (h : c ∈ norm l) : c ∈ l := by
  unfold norm cr at h
  obtain ⟨x, hx, hxc⟩ := List.mem_map.1 h
  split at hxc
  · exact absurd hxc.symm h10
  · subst hxc
    exact crlf_mem hx
theorem crlf_plain : ∀ {l : List UInt8}, (13 : UInt8) ∉ l → crlf l = l
  | [], h => rfl
  | b :: l, h => by
    simp only [List.mem_cons, not_or] at h
    rw [crlf, if_neg (fun e => h.1 e.1.symm), crlf_plain h.2]
theorem norm_plain {l : List UInt8} (h : (13 : UInt8) ∉ l) : norm l = l := by
  unfold norm
  rw [crlf_plain h]
  unfold cr
  conv => rhs; rw [← List.map_id l]
  apply List.map_congr_left
  intro b hb
  have : b ≠ 13 := fun e => h (e ▸ hb)
  simp [this]
theorem crlf_10 : ∀ {l : List UInt8}, (10 : UInt8) ∈ l → (10 : UInt8) ∈ crlf l
  | [], h => h
  | b :: l, h => by
    unfold crlf
    split
    · rename_i hb
      rcases List.mem_cons.1 h with h | h
      · exact absurd (h.trans hb.1) (by decide)
      · exact crlf_10 h
    · rcases List.mem_cons.1 h with h | h
      · exact List.mem_cons.2 (.inl h)
      · exact List.mem_cons_of_mem _ (crlf_10 h)
theorem crlf_13 : ∀ {l : List UInt8}, (13 : UInt8) ∈ l → (13 : UInt8) ∈ crlf l ∨ (10 : UInt8) ∈ crlf l
  | [], h => .inl h
  | b :: l, h => by
    unfold crlf
    split
    · rename_i hb
      right
      apply crlf_10
      cases l with
      | nil => simp at hb
      | cons x l => simp at hb; simp [hb.2]
    · rcases List.mem_cons.1 h with h | h
      · exact .inl (List.mem_cons.2 (.inl h))
      · rcases crlf_13 h with h | h
        · exact .inl (List.mem_cons_of_mem _ h)
        · exact .inr (List.mem_cons_of_mem _ h)
theorem norm_13 {l : List UInt8} (h : (13 : UInt8) ∈ l) : (10 : UInt8) ∈ norm l := by
  unfold norm cr
  rcases crlf_13 h with h | h
  · exact List.mem_map.2 ⟨13, h, by simp⟩
  · exact List.mem_map.2 ⟨10, h, by simp⟩
theorem numL_bad {base : Int} {x : UInt8} (hx : digV base x.toNat = none) : ∀ {l : List UInt8} {n : Int}, x ∈ l → numL base l n = none
  | b :: l, n, h => by
    unfold numL
    rcases List.mem_cons.1 h with h | h
    · subst h
      rw [hx]
    · cases digV base b.toNat with
      | none => rfl
      | some d => exact numL_bad hx h
theorem numW_bad {base : Int} {x : UInt8} (hx : digV base x.toNat = none) {t : ByteArray} (h : x ∈ t.data.toList) : (numW base t).2 = false := by
  unfold numW
  split
  · rfl
  · rw [numB_l t base t.size 0 0 (by omega), List.drop_zero, numL_bad hx h]
theorem sign_bad {x : UInt8} (hx : x = 10 ∨ x = 13) {l : List UInt8} (hl : l.length ≤ 1073741824) (h : x ∈ l) : (signV ⟨l.toArray⟩).2 = false := by
  have hd : ∀ base : Int, digV base x.toNat = none := fun base => by
    rcases hx with rfl | rfl
    · exact digNo (.inl (by decide)) (.inl (by decide)) (.inl (by decide))
    · exact digNo (.inl (by decide)) (.inl (by decide)) (.inl (by decide))
  have hlist : (⟨l.toArray⟩ : ByteArray).data.toList = l := by simp
  have hsz : (⟨l.toArray⟩ : ByteArray).size = l.length := by rw [size_list, hlist]
  have no : ∀ t : List UInt8, x ∉ t → ¬ (⟨l.toArray⟩ : ByteArray).toList = t := fun t ht e => by
    rw [ByteArray.toList_eq, hlist] at e
    exact ht (e ▸ h)
  unfold signV
  rw [if_neg (no _ (by rcases hx with rfl | rfl <;> decide)), if_neg (no _ (by rcases hx with rfl | rfl <;> decide)), if_neg (no _ (by rcases hx with rfl | rfl <;> decide)), if_neg (no _ (by rcases hx with rfl | rfl <;> decide)), if_neg (no _ (by rcases hx with rfl | rfl <;> decide))]
  rw [hp_list _ _ (by omega) (by decide), hlist]
  cases l with
  | nil => cases h
  | cons a r =>
    by_cases ha : a = 35
    · subst ha
      have hr : x ∈ r := by
        rcases List.mem_cons.1 h with h | h
        · rcases hx with rfl | rfl <;> exact absurd h (by decide)
        · exact h
      rw [if_pos (by simp [List.isPrefixOf])]
      simp only
      rw [numV_W]
      have hx1 : ((⟨(35 :: r).toArray⟩ : ByteArray).extract 1 (⟨(35 :: r).toArray⟩ : ByteArray).size).data.toList = r := by rw [ext_end, hlist]; rfl
      unfold numT
      rw [hp_list _ _ (by rw [size_list, hx1]; simp at hl; omega) (by decide), hx1]
      split
      · rename_i hp
        refine numW_bad (hd _) ?_
        simp only
        rw [ext_end, hx1]
        cases r with
        | nil => cases hr
        | cons b r =>
          rcases List.mem_cons.1 hr with h2 | h2
          · subst h2
            exfalso
            simp [List.isPrefixOf] at hp
            rcases hx with rfl | rfl <;> exact absurd hp (by decide)
          · exact h2
      · refine numW_bad (hd _) ?_
        rw [hx1]
        exact hr
    · have ha2 : ((35 : UInt8) == a) = false := by simpa using fun h : 35 = a => ha h.symm
      rw [if_neg (by simp [List.isPrefixOf, ha2])]
theorem refU_run {t : List UInt8} (ht : t = [] ∨ t.head? = some 38) : ∀ (n : Nat) (p : List UInt8), (38 : UInt8) ∉ p → (p ++ t).length ≤ n → refU n (p ++ t) = (refU t.length t).map fun l => norm p ++ l := by
  have hne : t.head? ≠ some 10 := by
    rcases ht with rfl | h
    · simp
    · rw [h]; decide
  intro n
  induction n using Nat.strongRecOn with
  | _ n ih =>
    intro p hp hn
    cases p with
    | nil =>
      rw [List.nil_append, refU_fuel n t.length t (by simpa using hn) (Nat.le_refl _)]
      cases refU t.length t <;> rfl
    | cons b p =>
      simp only [List.mem_cons, not_or] at hp
      simp only [List.cons_append, List.length_cons] at hn
      obtain ⟨n, rfl⟩ : ∃ x, n = x + 1 := ⟨n - 1, by omega⟩
      rw [List.cons_append, refU]
      by_cases hb : b = 13
      · subst hb
        rw [if_pos rfl]
        cases p with
        | nil =>
          rw [List.nil_append, if_neg hne, refU_fuel n t.length t (by simpa using hn) (Nat.le_refl _)]
          cases refU t.length t <;> rfl
        | cons x p =>
          simp only [List.mem_cons, not_or] at hp
          rw [List.cons_append, List.head?_cons, List.tail_cons]
          by_cases hx : x = 10
          · subst hx
            rw [if_pos rfl, ih n (by omega) p hp.2.2 (by simp at hn ⊢; omega)]
            have hnm : norm (13 :: 10 :: p) = 10 :: norm p := by
              unfold norm
              rw [crlf, if_pos ⟨rfl, rfl⟩, crlf, if_neg (fun h => absurd h.1 (by decide))]
              simp [cr]
            rw [hnm]
            cases refU t.length t <;> rfl
          · rw [if_neg (by simpa using hx)]
            have := ih n (by omega) (x :: p) (by simp only [List.mem_cons, not_or]; exact hp.2) (by simpa using hn)
            rw [List.cons_append] at this
            rw [this]
            have hnm : norm (13 :: x :: p) = 10 :: norm (x :: p) := by
              unfold norm
              rw [crlf, if_neg (fun h => hx (by simpa using h.2))]
              simp [cr]
            rw [hnm]
            cases refU t.length t <;> rfl
      · rw [if_neg hb, if_neg (fun e => hp.1 e.symm), ih n (by omega) p hp.2 (by omega)]
        have hnm : norm (b :: p) = b :: norm p := by
          unfold norm
          rw [crlf, if_neg (fun h => hb h.1)]
          simp [cr, hb]
        rw [hnm]
        cases refU t.length t <;> rfl
theorem unB_ref : ∀ (n : Nat) (l : List UInt8) (k : Nat) (acc : List UInt8), l.length ≤ n → l.length < k → l.length ≤ 1073741824 → unB k ⟨(norm l).toArray⟩ acc = (refU n l).map fun x => acc ++ x := by
  intro n
  induction n using Nat.strongRecOn with
  | _ n ih =>
    intro l k acc hn hk hb
    obtain ⟨k, rfl⟩ : ∃ x, k = x + 1 := ⟨k - 1, by omega⟩
    have hlist : ∀ x : List UInt8, (⟨x.toArray⟩ : ByteArray).data.toList = x := fun x => by simp
    unfold unB
    simp only [hlist, cutAt_R]
    cases hc : cutR 38 l with
    | none =>
      have h1 := cutR_none hc
      have h2 : cutR 38 (norm l) = none := cutR_no (fun h => h1 (norm_mem (by decide) h))
      have h3 := refU_run (t := []) (.inl rfl) n l h1 (by simpa using hn)
      rw [List.append_nil] at h3
      rw [h3, h2]
      simp [refU_nil, hlist]
    | some p =>
      obtain ⟨pre, rest⟩ := p
      obtain ⟨rfl, hpre⟩ := cutR_some hc
      have hlen : (pre ++ 38 :: rest).length = pre.length + rest.length + 1 := by simp; omega
      rw [norm_app (by decide) (by decide), cutR_mk _ (fun h => hpre (norm_mem (by decide) h))]
      simp only [if_true]
      rw [refU_run (t := 38 :: rest) (.inr rfl) n pre hpre hn]
      have hr : refU (38 :: rest).length (38 :: rest) = (match cutR 59 rest with | none => none | some (a, r) => if (entL a).2 = true then (refU rest.length r).map fun l => (entL a).1 ++ l else none) := by
        rw [List.length_cons, refU, if_neg (by decide), if_pos rfl]
      rw [hr]
      simp only [hlist, cutAt_R]
      cases hd : cutR 59 rest with
      | none =>
        have h1 := cutR_none hd
        rw [cutR_no (fun h => h1 (norm_mem (by decide) h))]
        rfl
      | some q =>
        obtain ⟨a, r⟩ := q
        obtain ⟨rfl, ha⟩ := cutR_some hd
        have hlen2 : (a ++ 59 :: r).length = a.length + r.length + 1 := by simp; omega
        rw [norm_app (by decide) (by decide), cutR_mk _ (fun h => ha (norm_mem (by decide) h))]
        simp only [if_true]
        by_cases h13 : (13 : UInt8) ∈ a
        · have e1 : (signV ⟨(norm a).toArray⟩).2 = false := sign_bad (.inl rfl) (by have := norm_len a; omega) (norm_13 h13)
          have e2 : (entL a).2 = false := by
            unfold entL entV
            rw [sign_bad (.inr rfl) (by omega) h13]
            rfl
          rw [e1, e2]
          rfl
        · rw [norm_plain h13]
          have e2 : (entL a).2 = (signV ⟨a.toArray⟩).2 := by
            unfold entL entV
            cases (signV ⟨a.toArray⟩).2 <;> rfl
          rw [e2]
          cases hs : (signV ⟨a.toArray⟩).2 with
          | false => rfl
          | true =>
            have e3 : (entL a).1 = (signV ⟨a.toArray⟩).1.data.toList := by
              unfold entL entV
              rw [hs]
              rfl
            simp only [if_true]
            rw [e3, ih r.length (by omega) r k _ (Nat.le_refl _) (by omega) (by omega), refU_fuel (a ++ 59 :: r).length r.length r (by omega) (Nat.le_refl _)]
            cases refU r.length r with
            | none => rfl
            | some x => simp
theorem unV_ref (s : ByteArray) (hs : s.size ≤ 1073741824) : unV s = match refU s.size s.data.toList with | some l => (⟨l.toArray⟩, true) | none => (⟨#[]⟩, false) := by
  unfold unV
  rw [unB_ref s.size s.data.toList (s.size + 1) [] (by rw [← size_list]; exact Nat.le_refl _) (by rw [← size_list]; omega) (by rw [← size_list]; exact hs)]
  cases refU s.size s.data.toList <;> rfl
theorem cut_l (t : ByteArray) (ht : t.size ≤ 1073741824) : ∀ (r i k : Nat), r + i = t.size → r < k → (59 : UInt8) ∉ t.data.toList.take i →
    q30_.l0 k t 59 (i : Int) = some (match cutR 59 (t.data.toList.drop i) with | some (a, q) => (⟨(t.data.toList.take i ++ a).toArray⟩, ⟨q.toArray⟩, true) | none => (t, ⟨#[]⟩, false)) := by
  intro r
  induction r with
  | zero =>
    intro i k hi hk hno
    obtain ⟨k, rfl⟩ : ∃ m, k = m + 1 := ⟨k - 1, by omega⟩
    simp only [q30_.l0]
    rw [if_neg (by omega), List.drop_of_length_le (by rw [← size_list]; omega)]
    rfl
  | succ r ih =>
    intro i k hi hk hno
    obtain ⟨k, rfl⟩ : ∃ m, k = m + 1 := ⟨k - 1, by omega⟩
    have hil : i < t.size := by omega
    have hbt := bt_get t i hil
    simp only [q30_.l0]
    rw [if_pos (by omega), if_pos (by omega), drop_get t i hil, cutR]
    by_cases hc : bt t (i : Int) = 59
    · have hc2 : t[i] = 59 := u8_yes (n := 59) (by omega) (by rw [← hbt]; simpa using hc)
      rw [if_pos hc, if_pos hc2, w64 i (by omega), if_pos (by omega), if_pos (by omega), if_pos (by omega)]
      have e1 : t.extract 0 (i : Int).toNat = ⟨(t.data.toList.take i ++ []).toArray⟩ := by
        apply ba_ext
        rw [ext_list]
        simp
      have e2 : t.extract ((i + 1 : Nat) : Int).toNat t.size = ⟨(t.data.toList.drop (i + 1)).toArray⟩ := by
        apply ba_ext
        rw [Int.toNat_natCast, ext_end]
      rw [e1, e2]
    · have hc2 : ¬ t[i] = 59 := fun h => hc (by rw [hbt, h]; rfl)
      have hno2 : (59 : UInt8) ∉ t.data.toList.take (i + 1) := by
        rw [take_snoc t i hil]
        simp only [List.mem_append, List.mem_singleton, not_or]
        exact ⟨hno, fun h => hc2 h.symm⟩
      rw [if_neg hc, if_neg hc2, w64 i (by omega), ih (i + 1) k (by omega) (by omega) hno2]
      cases cutR 59 (t.data.toList.drop (i + 1)) with
      | none => rfl
      | some p =>
        obtain ⟨a, q⟩ := p
        simp only [Option.map_some]
        rw [take_snoc t i hil]
        simp
theorem cut_f (t : ByteArray) (ht : t.size ≤ 1073741824) (k : Nat) (hk : t.size < k) : q30_.f k t 59 = some (match cutR 59 t.data.toList with | some (a, q) => (⟨a.toArray⟩, ⟨q.toArray⟩, true) | none => (t, ⟨#[]⟩, false)) := by
  unfold q30_.f
  have := cut_l t ht t.size 0 k (by omega) hk (by simp)
  simpa using this
theorem entV_len (s : ByteArray) : (entV s).1.size ≤ 4 := by
  unfold entV
  split
  · rw [size_list]; exact signV_len s
  · decide
theorem wrap_add {x y : Nat} (h : x + y ≤ 4611686018427387904) : wrap64 ((x : Int) + (y : Int)) = ((x + y : Nat) : Int) := by unfold wrap64; omega
theorem amp_arith {j n k al ql sz ac e : Nat} (hlen : sz - (j + 1) = al + (ql + 1)) (hj : n + 1 + j = sz) (hk : n + 1 + sz + 25 ≤ k + 1) (ha : ac ≤ 4 * j) (he : e ≤ 4) (hs : sz ≤ 1073741824) :
    j + 1 + al ≤ 4611686018427387904 ∧ n - (al + 1) < n + 1 ∧ n - (al + 1) + (j + 1 + al + 1) = sz ∧ n - (al + 1) + sz + 25 ≤ k ∧ ac + e ≤ 4 * (j + 1 + al + 1) ∧ ql ≤ n - (al + 1) ∧ ql ≤ n ∧ j + 1 + al + 1 = (j + 1) + (al + 1) := by omega
set_option maxHeartbeats 2000000 in
theorem refU_l (s : ByteArray) (hs : s.size ≤ 1073741824) : ∀ (n j k : Nat) (acc : ByteArray), n + j = s.size → n + s.size + 25 ≤ k → acc.size ≤ 4 * j →
    q31_.l0 k s acc (j : Int) = some (match refU n (s.data.toList.drop j) with | some l => (⟨(acc.data.toList ++ l).toArray⟩, true) | none => (⟨#[]⟩, false)) := by
  intro n
  induction n using Nat.strongRecOn with
  | _ n ih =>
    intro j k acc hj hk ha
    obtain ⟨k, rfl⟩ : ∃ m, k = m + 1 := ⟨k - 1, by omega⟩
    simp only [q31_.l0]
    by_cases hlt : j < s.size
    · obtain ⟨n, rfl⟩ : ∃ x, n = x + 1 := ⟨n - 1, by omega⟩
      have hbt := bt_get s j hlt
      have hw := w64 j (by omega)
      rw [if_pos (by omega), if_pos (by omega), drop_get s j hlt, refU]
      by_cases h13 : bt s (j : Int) = 13
      · have hc : s[j] = 13 := u8_yes (n := 13) (by omega) (by rw [← hbt]; simpa using h13)
        rw [if_pos h13, if_pos hc, if_pos (by omega), hw]
        by_cases hend : j + 1 < s.size
        · have hbt1 := bt_get s (j + 1) hend
          rw [if_pos (by omega), if_pos (by omega)]
          have hhd : (s.data.toList.drop (j + 1)).head? = some s[j + 1] := by rw [drop_get s (j + 1) hend]; rfl
          by_cases h10 : bt s ((j + 1 : Nat) : Int) = 10
          · have hc1 : s[j + 1] = 10 := u8_yes (n := 10) (by omega) (by rw [← hbt1]; simpa using h10)
            rw [if_pos h10, w64 (j + 1) (by omega), hhd, if_pos (by rw [hc1]), drop_get s (j + 1) hend, List.tail_cons]
            have := ih (n - 1) (by omega) (j + 2) k (acc ++ ⟨#[10]⟩) (by omega) (by omega) (by rw [ByteArray.size_append]; show acc.size + 1 ≤ _; omega)
            rw [this, refU_fuel (n - 1) n _ (by rw [List.length_drop, ← size_list]; omega) (by rw [List.length_drop, ← size_list]; omega)]
            cases refU n (s.data.toList.drop (j + 2)) with
            | none => rfl
            | some l => simp
          · have hc1 : ¬ s[j + 1] = 10 := fun h => h10 (by rw [hbt1, h]; rfl)
            rw [if_neg h10, hhd, if_neg (by simpa using hc1)]
            have := ih n (by omega) (j + 1) k (acc ++ ⟨#[10]⟩) (by omega) (by omega) (by rw [ByteArray.size_append]; show acc.size + 1 ≤ _; omega)
            rw [this]
            cases refU n (s.data.toList.drop (j + 1)) with
            | none => rfl
            | some l => simp
        · rw [if_neg (by omega)]
          have hnil : s.data.toList.drop (j + 1) = [] := List.drop_of_length_le (by rw [← size_list]; omega)
          have := ih n (by omega) (j + 1) k (acc ++ ⟨#[10]⟩) (by omega) (by omega) (by rw [ByteArray.size_append]; show acc.size + 1 ≤ _; omega)
          rw [this, hnil]
          simp [refU_nil]
      · have hc : ¬ s[j] = 13 := fun h => h13 (by rw [hbt, h]; rfl)
        rw [if_neg h13, if_neg hc]
        by_cases h38 : bt s (j : Int) = 38
        · have hc2 : s[j] = 38 := u8_yes (n := 38) (by omega) (by rw [← hbt]; simpa using h38)
          rw [if_pos h38, if_pos hc2, hw, if_pos (by omega), if_pos (by omega), Int.toNat_natCast]
          have hsz : (s.extract (j + 1) s.size).size = s.size - (j + 1) := by simp
          rw [cut_f _ (by omega) k (by omega), ext_end]
          cases hcut : cutR 59 (s.data.toList.drop (j + 1)) with
          | none =>
            simp only [Option.bind_some]
            rw [entity_f _ (by omega) k (by omega)]
            rfl
          | some p =>
            obtain ⟨a, q⟩ := p
            obtain ⟨h1, h2⟩ := cutR_some hcut
            have hlen := congrArg List.length h1
            rw [List.length_drop, ← size_list, List.length_append, List.length_cons] at hlen
            have hasz : (⟨a.toArray⟩ : ByteArray).size = a.length := by rw [size_list]
            simp only [Option.bind_some]
            rw [entity_f _ (by omega) k (by omega)]
            have hel := entV_len ⟨a.toArray⟩
            have hL : entL a = ((entV ⟨a.toArray⟩).1.data.toList, (entV ⟨a.toArray⟩).2) := rfl
            rw [hL]
            rw [hasz]
            generalize entV ⟨a.toArray⟩ = ev at hel ⊢
            obtain ⟨ev1, ev2⟩ := ev
            simp only [Option.bind_some, if_true]
            cases ev2 with
            | true =>
              simp only [if_true]
              simp only at hel
              rw [if_pos (by omega)]
              obtain ⟨z0, z1, z2, z3, z4, z5, z6, z7⟩ := amp_arith hlen hj hk ha hel hs
              have hww : wrap64 (wrap64 (((j + 1 : Nat) : Int) + (a.length : Int)) + 1) = ((j + 1 + a.length + 1 : Nat) : Int) := by
                have e1 : wrap64 (((j + 1 : Nat) : Int) + (a.length : Int)) = ((j + 1 + a.length : Nat) : Int) := wrap_add z0
                rw [e1]
                exact w64 (j + 1 + a.length) z0
              rw [hww]
              have hq : s.data.toList.drop (j + 1 + a.length + 1) = q := by
                rw [z7, ← List.drop_drop, h1]
                simp [List.drop_append]
              have := ih (n - (a.length + 1)) z1 (j + 1 + a.length + 1) k (acc ++ ev1) z2 z3 (by rw [ByteArray.size_append]; exact z4)
              rw [this, hq, refU_fuel (n - (a.length + 1)) n q z5 z6]
              cases refU n q with
              | none => rfl
              | some l => simp
            | false => rfl
        · have hc2 : ¬ s[j] = 38 := fun h => h38 (by rw [hbt, h]; rfl)
          rw [if_neg h38, if_neg hc2, hw, if_pos (by omega), if_pos (by omega)]
          have hx1 := ext_one s j hlt
          have hsz : (s.extract j (j + 1)).size = 1 := by rw [size_list, hx1]; rfl
          rw [Int.toNat_natCast, Int.toNat_natCast, if_pos (by omega)]
          have := ih n (by omega) (j + 1) k (acc ++ s.extract j (j + 1)) (by omega) (by omega) (by rw [ByteArray.size_append]; omega)
          rw [this]
          cases refU n (s.data.toList.drop (j + 1)) with
          | none => rfl
          | some l =>
            have hap : (acc ++ s.extract j (j + 1)).data.toList = acc.data.toList ++ [s[j]] := by rw [ByteArray.data_append, Array.toList_append, hx1]
            simp only [Option.map_some]
            rw [hap]
            simp
    · rw [if_neg (by omega), List.drop_of_length_le (by rw [← size_list]; omega), refU_nil]
      simp
theorem refUnescape_f (s : ByteArray) (hs : s.size ≤ 1073741824) : q31_.f (2 * s.size + 25) s = some (unV s) := by
  unfold q31_.f
  have := refU_l s hs s.size 0 (2 * s.size + 25) ⟨#[]⟩ (by omega) (by omega) (by decide)
  rw [List.drop_zero] at this
  rw [unV_ref s hs]
  refine Eq.trans this ?_
  cases refU s.size s.data.toList <;> simp
theorem refUnescape_calls (s : ByteArray) (hs : s.size ≤ 1073741824) (w : World) : Calls Tryd.prog 22 #[.string s] w fun e w' => e = .returned (.tuple #[.string (unV s).1, .bool (unV s).2]) ∧ Below w.heap.size w w' :=
  q31_.calls _ s _ _ w (refUnescape_f s hs)
end Go.Proofs.YtkhjpobhdpcglaaDoor.X
end
section
namespace Go.Proofs.YtkhjpobhdpcglaaDoor.X
open Go.RowKit Go.Proofs.YtkhjpobhdpcglaaDoorW.PrintWords Go.Proofs.YtkhjpobhdpcglaaDoorW.PrintLast Go.Proofs.YtkhjpobhdpcglaaDoorW.PrintMore
attribute [local go_sem] max2_int min2_int max_two min_two max_three min_three max_four min_four
def q32_.f (a0 : Int) : Option (Bool) := if a0 = 32 then (some true) else (if a0 = 9 then (some true) else (if a0 = 10 then (some true) else (some (a0 == 13))))
set_option maxHeartbeats 8000000 in
set_option maxRecDepth 100000 in
theorem q32_.calls (a0 : Int) (r : Bool) (w : World) (h : q32_.f a0 = some r) :
    Calls Tryd.prog 98 #[.int .u8 a0] w fun e w' => e = .returned (.bool r) ∧ Drawn0 w w' := by
  have H : (if a0 = 32 then (some true) else (if a0 = 9 then (some true) else (if a0 = 10 then (some true) else (some (a0 == 13))))) = some r := h
  clear h
  by_cases c2 : a0 = 32
  · rw [if_pos c2] at H
    have c2b0 : (a0 == 32) = true := beq_iff_eq.mpr c2
    have c2b1 : (a0 != 32) = false := bne_eq_false_iff_eq.mpr c2
    clear c2
    obtain rfl := Option.some.inj H
    go_enter Tryd.func98, Tryd.ntmps98
    go_wp2
    go_ret
    exact ⟨by first | rfl | (simp; done) | (simp [*]; done), by repeat (first | exact Drawn0.refl _ | apply Drawn0.step)⟩
  · rw [if_neg c2] at H
    have c2b0 : (a0 == 32) = false := beq_eq_false_iff_ne.mpr c2
    have c2b1 : (a0 != 32) = true := bne_iff_ne.mpr c2
    by_cases c3 : a0 = 9
    · rw [if_pos c3] at H
      have c3b0 : (a0 == 9) = true := beq_iff_eq.mpr c3
      have c3b1 : (a0 != 9) = false := bne_eq_false_iff_eq.mpr c3
      clear c3
      obtain rfl := Option.some.inj H
      go_enter Tryd.func98, Tryd.ntmps98
      go_wp2
      go_ret
      exact ⟨by first | rfl | (simp; done) | (simp [*]; done), by repeat (first | exact Drawn0.refl _ | apply Drawn0.step)⟩
    · rw [if_neg c3] at H
      have c3b0 : (a0 == 9) = false := beq_eq_false_iff_ne.mpr c3
      have c3b1 : (a0 != 9) = true := bne_iff_ne.mpr c3
      by_cases c4 : a0 = 10
      · rw [if_pos c4] at H
        have c4b0 : (a0 == 10) = true := beq_iff_eq.mpr c4
        have c4b1 : (a0 != 10) = false := bne_eq_false_iff_eq.mpr c4
        clear c4
        obtain rfl := Option.some.inj H
        go_enter Tryd.func98, Tryd.ntmps98
        go_wp2
        go_ret
        exact ⟨by first | rfl | (simp; done) | (simp [*]; done), by repeat (first | exact Drawn0.refl _ | apply Drawn0.step)⟩
      · rw [if_neg c4] at H
        have c4b0 : (a0 == 10) = false := beq_eq_false_iff_ne.mpr c4
        have c4b1 : (a0 != 10) = true := bne_iff_ne.mpr c4
        obtain rfl := Option.some.inj H
        go_enter Tryd.func98, Tryd.ntmps98
        go_wp2
        go_ret
        exact ⟨by first | rfl | (simp; done) | (simp [*]; done), by repeat (first | exact Drawn0.refl _ | apply Drawn0.step)⟩
def q33_.l0 : Nat → Int → ByteArray → Int → Bool → Option (Int × ByteArray × Int × Bool)
  | 0, _, _, _, _ => none
  | k + 1, x3, x1000, x1001, x1002 => if x1001 < (x1000.size : Int) then (if 0 ≤ x1001 then ((q32_.f (bt x1000 x1001)).bind fun t101 => (if t101 = true then (q33_.l0 k (wrap64 (x3 + 1)) x1000 (wrap64 (x1001 + 1)) x1002) else (some (x3, x1000, x1001, x1002)))) else (none)) else (some (x3, x1000, x1001, x1002))
def q33_.f (k : Nat) (s0_0 : ByteArray) (s0_1 : Int) (s0_2 : Bool) : Option (Int × ByteArray × Int × Bool) := q33_.l0 k 0 s0_0 s0_1 s0_2
theorem q33_.mono_l : ∀ k, (∀ y0 y1 y2 y3, LeO (q33_.l0 k y0 y1 y2 y3) (q33_.l0 (k + 1) y0 y1 y2 y3))
  | 0 => fun _ _ _ _ r h => by simp [q33_.l0] at h
  | k + 1 => by
    have ih0 := q33_.mono_l k
    · intro y0 y1 y2 y3
      unfold q33_.l0
      repeat' first
      | (with_reducible exact ih0 _ _ _ _)
      | (with_reducible exact LeO.refl _)
      | (with_reducible exact LeO.none _)
      | (with_reducible refine LeO.ite ?_ ?_)
      | (with_reducible refine LeO.bind ?_ (fun _ => ?_))
      | exact ih0 _ _ _ _
      | exact LeO.none _
      | refine LeO.ite ?_ ?_
      | refine LeO.bind ?_ (fun _ => ?_)
theorem q33_.mono : ∀ a0 a1 a2 k, LeO (q33_.f k a0 a1 a2) (q33_.f (k + 1) a0 a1 a2) := by
  intro a0 a1 a2 k
  have ih0 := q33_.mono_l k
  unfold q33_.f
  repeat' first
      | (with_reducible exact ih0 _ _ _ _)
      | (with_reducible exact LeO.refl _)
      | (with_reducible exact LeO.none _)
      | (with_reducible refine LeO.ite ?_ ?_)
      | (with_reducible refine LeO.bind ?_ (fun _ => ?_))
      | exact ih0 _ _ _ _
      | exact LeO.none _
      | refine LeO.ite ?_ ?_
      | refine LeO.bind ?_ (fun _ => ?_)
set_option maxHeartbeats 8000000 in
set_option maxRecDepth 100000 in
theorem q33_.calls (k : Nat) (g : Nat) (s0_0 : ByteArray) (s0_1 : Int) (s0_2 : Bool) (r1 : Int) (r2 : ByteArray) (r3 : Int) (r4 : Bool) (w0 w : World) (hI : IsS94 w0 w g s0_0 s0_1 s0_2) (hB : Below w0.heap.size w0 w) (h : q33_.f k s0_0 s0_1 s0_2 = some (r1, r2, r3, r4)) :
    Calls Tryd.prog 52 #[.pointer (some ⟨g, 0, none⟩)] w fun e w' => e = .returned (.int .i64 r1) ∧ IsS94 w0 w' g r2 r3 r4 ∧ Below w0.heap.size w0 w' ∧ KeepBut w w' g none := by
  have HI0 := Aside0.mk hI
  have HK := Aside0.mk (KeepBut.refl w g none)
  have HL := Aside0.mk hB.size
  clear hI
  have HW0 := Aside0.mk hB.size
  have HB := Aside0.mk hB
  clear hB
  have H : (q33_.l0 k 0 s0_0 s0_1 s0_2) = some (r1, r2, r3, r4) := h
  clear h
  have H' := Aside0.mk H
  clear H
  go_enter Tryd.func52, Tryd.ntmps52
  go_wp2
  repeat (go_quiet (fail); try go_wp2)
  go_loopg [3] k (fun kq v3 w' => ∃ (x3_1 : Int) (x1001_1 : Int), v3 = .int .i64 x3_1 ∧ Aside0 (q33_.l0 kq x3_1 s0_0 x1001_1 s0_2 = some (r1, r2, r3, r4)) ∧ Aside0 (kq ≤ k) ∧ Aside0 (IsS94 w0 w' g s0_0 x1001_1 s0_2) ∧ Aside0 (KeepBut w w' g none) ∧ Aside0 (Below w0.heap.size w0 w'))
  case atStart => exact ⟨(0), (s0_1), (by first | rfl | (simp; done) | (simp [*]; done)), H', ⟨Nat.le_refl _⟩, ⟨by repeat (first | (with_reducible first | exact HI0.out | apply IsS94.alloc | apply IsS94.drewN | apply IsS94.drew | apply IsS94.set_0 | apply IsS94.set_1 | apply IsS94.set_2) | exact HI0.out)⟩, ⟨by repeat (first | (with_reducible first | exact HK.out | apply KeepBut.set_ | apply keep_drewN | apply keep_drew | apply keep_alloc) | exact HK.out)⟩, ⟨by repeat (first | (with_reducible first | exact HB.out | apply below_alloc | apply pw_below_drewN | apply below_drew1 | refine below_set ?_ (IsS94.ge HI0.out)) | exact HB.out)⟩⟩
  case round =>
    clear H'
    obtain ⟨x3_1, x1001_1, rfl, HA, HK1, HI0, HK, HB⟩ := hrel
    cases gk with
    | zero => exact absurd HA.out (by simp [q33_.l0])
    | succ k1 =>
      have H := HA.out
      clear HA
      simp only [q33_.l0] at H
      by_cases c2 : x1001_1 < (s0_0.size : Int)
      · rw [if_pos c2] at H
        have c2b0 : decide (x1001_1 < (s0_0.size : Int)) = true := decide_eq_true c2
        clear c2
        by_cases c3 : 0 ≤ x1001_1
        · rw [if_pos c3] at H
          have c3b0 : decide (0 ≤ x1001_1) = true := decide_eq_true c3
          clear c3
          replace H := Option.bind_eq_some_iff.mp H
          obtain ⟨t101, A50, H⟩ := H
          replace H : (if t101 = true then (q33_.l0 k1 (wrap64 (x3_1 + 1)) s0_0 (wrap64 (x1001_1 + 1)) s0_2) else (some (x3_1, s0_0, x1001_1, s0_2))) = some (r1, r2, r3, r4) := H
          have A5 := Aside0.mk A50
          clear A50
          by_cases c6 : t101 = true
          · subst c6
            have H1 : (q33_.l0 k1 (wrap64 (x3_1 + 1)) s0_0 (wrap64 (x1001_1 + 1)) s0_2) = some (r1, r2, r3, r4) := by rw [if_pos rfl] at H; exact H
            clear H
            have H := H1
            clear H1
            have H' := Aside0.mk H
            clear H
            obtain ⟨HGz7, hgz7⟩ := HI0.out
            have hcz7_0 := cellS94_0 HGz7
            have hcz7_1 := cellS94_1 HGz7
            have hcz7_2 := cellS94_2 HGz7
            have hfz7_0 := blk_frozen HGz7 0
            have hfz7_1 := blk_frozen HGz7 1
            have hfz7_2 := blk_frozen HGz7 2
            clear HGz7 hgz7
            have p4 : 0 ≤ (x1001_1 : Int) := of_decide_eq_true (by first | (with_reducible assumption) | assumption)
            have q4 : x1001_1 < (s0_0.size : Int) := of_decide_eq_true (by first | (with_reducible assumption) | assumption)
            have hx4 := bt_at s0_0 x1001_1
            replace p4 := eq_true p4
            replace q4 := eq_true q4
            go_wp2_with (first | (go_at_call 98; (with_reducible refine (q32_.calls (bt s0_0 x1001_1) true _ A5.out).mono ?_); rintro e w' ⟨rfl, ⟨nd, rfl⟩⟩; (try first | exact ⟨rfl, _, World.drewN_drewN _ _ _⟩ | exact ⟨rfl, _, Eq.trans (World.drewN_drewN _ _ _) (congrArg (World.drewN _) (Nat.add_assoc _ _ _))⟩)))
            repeat (go_quiet (first | (go_at_call 98; (with_reducible refine (q32_.calls (bt s0_0 x1001_1) true _ A5.out).mono ?_); rintro e w' ⟨rfl, ⟨nd, rfl⟩⟩; (try first | exact ⟨rfl, _, World.drewN_drewN _ _ _⟩ | exact ⟨rfl, _, Eq.trans (World.drewN_drewN _ _ _) (congrArg (World.drewN _) (Nat.add_assoc _ _ _))⟩))); try go_wp2_with (first | (go_at_call 98; (with_reducible refine (q32_.calls (bt s0_0 x1001_1) true _ A5.out).mono ?_); rintro e w' ⟨rfl, ⟨nd, rfl⟩⟩; (try first | exact ⟨rfl, _, World.drewN_drewN _ _ _⟩ | exact ⟨rfl, _, Eq.trans (World.drewN_drewN _ _ _) (congrArg (World.drewN _) (Nat.add_assoc _ _ _))⟩))))
            go_roundg k1
            case measure => have := HK1.out; omega
            case rel => exact ⟨(wrap64 (x3_1 + 1)), (wrap64 (x1001_1 + 1)), (by first | rfl | (simp; done) | (simp [*]; done)), H', ⟨by have := HK1.out; omega⟩, ⟨by repeat (first | (with_reducible first | exact HI0.out | apply IsS94.alloc | apply IsS94.drewN | apply IsS94.drew | apply IsS94.set_0 | apply IsS94.set_1 | apply IsS94.set_2) | exact HI0.out)⟩, ⟨by repeat (first | (with_reducible first | exact HK.out | apply KeepBut.set_ | apply keep_drewN | apply keep_drew | apply keep_alloc) | exact HK.out)⟩, ⟨by repeat (first | (with_reducible first | exact HB.out | apply below_alloc | apply pw_below_drewN | apply below_drew1 | refine below_set ?_ (IsS94.ge HI0.out)) | exact HB.out)⟩⟩
          · replace c6 := Bool.eq_false_iff.mpr c6
            subst c6
            have H1 : (some (x3_1, s0_0, x1001_1, s0_2)) = some (r1, r2, r3, r4) := by rw [if_neg (show ¬ (false = true) by decide)] at H; exact H
            clear H
            have H := H1
            clear H1
            simp only [Option.some.injEq, Prod.mk.injEq] at H
            obtain ⟨rfl, rfl, rfl, rfl⟩ := H
            obtain ⟨HGz8, hgz8⟩ := HI0.out
            have hcz8_0 := cellS94_0 HGz8
            have hcz8_1 := cellS94_1 HGz8
            have hcz8_2 := cellS94_2 HGz8
            have hfz8_0 := blk_frozen HGz8 0
            have hfz8_1 := blk_frozen HGz8 1
            have hfz8_2 := blk_frozen HGz8 2
            clear HGz8 hgz8
            have p4 : 0 ≤ (x1001_1 : Int) := of_decide_eq_true (by first | (with_reducible assumption) | assumption)
            have q4 : x1001_1 < (s0_0.size : Int) := of_decide_eq_true (by first | (with_reducible assumption) | assumption)
            have hx4 := bt_at s0_0 x1001_1
            replace p4 := eq_true p4
            replace q4 := eq_true q4
            go_wp2_with (first | (go_at_call 98; (with_reducible refine (q32_.calls (bt s0_0 x1001_1) false _ A5.out).mono ?_); rintro e w' ⟨rfl, ⟨nd, rfl⟩⟩; (try first | exact ⟨rfl, _, World.drewN_drewN _ _ _⟩ | exact ⟨rfl, _, Eq.trans (World.drewN_drewN _ _ _) (congrArg (World.drewN _) (Nat.add_assoc _ _ _))⟩)))
            repeat (go_quiet (first | (go_at_call 98; (with_reducible refine (q32_.calls (bt s0_0 x1001_1) false _ A5.out).mono ?_); rintro e w' ⟨rfl, ⟨nd, rfl⟩⟩; (try first | exact ⟨rfl, _, World.drewN_drewN _ _ _⟩ | exact ⟨rfl, _, Eq.trans (World.drewN_drewN _ _ _) (congrArg (World.drewN _) (Nat.add_assoc _ _ _))⟩))); try go_wp2_with (first | (go_at_call 98; (with_reducible refine (q32_.calls (bt s0_0 x1001_1) false _ A5.out).mono ?_); rintro e w' ⟨rfl, ⟨nd, rfl⟩⟩; (try first | exact ⟨rfl, _, World.drewN_drewN _ _ _⟩ | exact ⟨rfl, _, Eq.trans (World.drewN_drewN _ _ _) (congrArg (World.drewN _) (Nat.add_assoc _ _ _))⟩))))
            go_ret
            exact ⟨by first | rfl | (simp [errW_none, errW_some] <;> rfl) | (simp [*, errW_none, errW_some] <;> rfl), by repeat (first | (with_reducible first | exact HI0.out | apply IsS94.alloc | apply IsS94.drewN | apply IsS94.drew | apply IsS94.set_0 | apply IsS94.set_1 | apply IsS94.set_2) | exact HI0.out), by repeat (first | (with_reducible first | exact HB.out | apply below_alloc | apply pw_below_drewN | apply below_drew1 | refine below_set ?_ (IsS94.ge HI0.out)) | exact HB.out), by repeat (first | (with_reducible first | exact HK.out | apply KeepBut.set_ | apply keep_drewN | apply keep_drew | apply keep_alloc) | exact HK.out)⟩
        · rw [if_neg c3] at H
          exact absurd H (by simp)
      · rw [if_neg c2] at H
        have c2b0 : decide (x1001_1 < (s0_0.size : Int)) = false := decide_eq_false c2
        clear c2
        simp only [Option.some.injEq, Prod.mk.injEq] at H
        obtain ⟨rfl, rfl, rfl, rfl⟩ := H
        obtain ⟨HGz9, hgz9⟩ := HI0.out
        have hcz9_0 := cellS94_0 HGz9
        have hcz9_1 := cellS94_1 HGz9
        have hcz9_2 := cellS94_2 HGz9
        have hfz9_0 := blk_frozen HGz9 0
        have hfz9_1 := blk_frozen HGz9 1
        have hfz9_2 := blk_frozen HGz9 2
        clear HGz9 hgz9
        go_wp2
        repeat (go_quiet (fail); try go_wp2)
        go_ret
        exact ⟨by first | rfl | (simp [errW_none, errW_some] <;> rfl) | (simp [*, errW_none, errW_some] <;> rfl), by repeat (first | (with_reducible first | exact HI0.out | apply IsS94.alloc | apply IsS94.drewN | apply IsS94.drew | apply IsS94.set_0 | apply IsS94.set_1 | apply IsS94.set_2) | exact HI0.out), by repeat (first | (with_reducible first | exact HB.out | apply below_alloc | apply pw_below_drewN | apply below_drew1 | refine below_set ?_ (IsS94.ge HI0.out)) | exact HB.out), by repeat (first | (with_reducible first | exact HK.out | apply KeepBut.set_ | apply keep_drewN | apply keep_drew | apply keep_alloc) | exact HK.out)⟩
def q34_.f (s0_0 : ByteArray) (s0_1 : Int) (s0_2 : Bool) (a1 : ByteArray) : Option (Bool × ByteArray × Int × Bool) := if 0 ≤ s0_1 then (if s0_1 ≤ (s0_0.size : Int) then ((q27_.f (s0_0.extract (s0_1 : Int).toNat s0_0.size) a1).bind fun t101 => (if t101 = true then (some (true, s0_0, wrap64 (s0_1 + (a1.size : Int)), s0_2)) else (some (false, s0_0, s0_1, s0_2)))) else (none)) else (none)
set_option maxHeartbeats 8000000 in
set_option maxRecDepth 100000 in
theorem q34_.calls (g : Nat) (s0_0 : ByteArray) (s0_1 : Int) (s0_2 : Bool) (a1 : ByteArray) (r1 : Bool) (r2 : ByteArray) (r3 : Int) (r4 : Bool) (w0 w : World) (hI : IsS94 w0 w g s0_0 s0_1 s0_2) (hB : Below w0.heap.size w0 w) (h : q34_.f s0_0 s0_1 s0_2 a1 = some (r1, r2, r3, r4)) :
    Calls Tryd.prog 99 #[.pointer (some ⟨g, 0, none⟩), .string a1] w fun e w' => e = .returned (.bool r1) ∧ IsS94 w0 w' g r2 r3 r4 ∧ Below w0.heap.size w0 w' ∧ KeepBut w w' g none := by
  have HI0 := Aside0.mk hI
  have HK := Aside0.mk (KeepBut.refl w g none)
  have HL := Aside0.mk hB.size
  clear hI
  have HW0 := Aside0.mk hB.size
  have HB := Aside0.mk hB
  clear hB
  have H : (if 0 ≤ s0_1 then (if s0_1 ≤ (s0_0.size : Int) then ((q27_.f (s0_0.extract (s0_1 : Int).toNat s0_0.size) a1).bind fun t101 => (if t101 = true then (some (true, s0_0, wrap64 (s0_1 + (a1.size : Int)), s0_2)) else (some (false, s0_0, s0_1, s0_2)))) else (none)) else (none)) = some (r1, r2, r3, r4) := h
  clear h
  by_cases c3 : 0 ≤ s0_1
  · rw [if_pos c3] at H
    have c3b0 := eq_true c3
    have c3b1 : decide (0 ≤ s0_1) = true := decide_eq_true c3
    clear c3
    by_cases c4 : s0_1 ≤ (s0_0.size : Int)
    · rw [if_pos c4] at H
      have c4b0 := eq_true c4
      have c4b1 : decide (s0_1 ≤ (s0_0.size : Int)) = true := decide_eq_true c4
      clear c4
      replace H := Option.bind_eq_some_iff.mp H
      obtain ⟨t101, A50, H⟩ := H
      replace H : (if t101 = true then (some (true, s0_0, wrap64 (s0_1 + (a1.size : Int)), s0_2)) else (some (false, s0_0, s0_1, s0_2))) = some (r1, r2, r3, r4) := H
      have A5 := Aside0.mk A50
      clear A50
      by_cases c6 : t101 = true
      · subst c6
        have H1 : (some (true, s0_0, wrap64 (s0_1 + (a1.size : Int)), s0_2)) = some (r1, r2, r3, r4) := by rw [if_pos rfl] at H; exact H
        clear H
        have H := H1
        clear H1
        simp only [Option.some.injEq, Prod.mk.injEq] at H
        obtain ⟨rfl, rfl, rfl, rfl⟩ := H
        obtain ⟨HGz7, hgz7⟩ := HI0.out
        have hcz7_0 := cellS94_0 HGz7
        have hcz7_1 := cellS94_1 HGz7
        have hcz7_2 := cellS94_2 HGz7
        have hfz7_0 := blk_frozen HGz7 0
        have hfz7_1 := blk_frozen HGz7 1
        have hfz7_2 := blk_frozen HGz7 2
        clear HGz7 hgz7
        go_enter Tryd.func99, Tryd.ntmps99
        go_wp2_with (first | (go_at_call 80; (with_reducible refine (q27_.calls (s0_0.extract (s0_1 : Int).toNat s0_0.size) a1 true _ A5.out).mono ?_); rintro e w' ⟨rfl, ⟨nd, rfl⟩⟩; (try first | exact ⟨rfl, _, World.drewN_drewN _ _ _⟩ | exact ⟨rfl, _, Eq.trans (World.drewN_drewN _ _ _) (congrArg (World.drewN _) (Nat.add_assoc _ _ _))⟩)))
        repeat (go_quiet (first | (go_at_call 80; (with_reducible refine (q27_.calls (s0_0.extract (s0_1 : Int).toNat s0_0.size) a1 true _ A5.out).mono ?_); rintro e w' ⟨rfl, ⟨nd, rfl⟩⟩; (try first | exact ⟨rfl, _, World.drewN_drewN _ _ _⟩ | exact ⟨rfl, _, Eq.trans (World.drewN_drewN _ _ _) (congrArg (World.drewN _) (Nat.add_assoc _ _ _))⟩))); try go_wp2_with (first | (go_at_call 80; (with_reducible refine (q27_.calls (s0_0.extract (s0_1 : Int).toNat s0_0.size) a1 true _ A5.out).mono ?_); rintro e w' ⟨rfl, ⟨nd, rfl⟩⟩; (try first | exact ⟨rfl, _, World.drewN_drewN _ _ _⟩ | exact ⟨rfl, _, Eq.trans (World.drewN_drewN _ _ _) (congrArg (World.drewN _) (Nat.add_assoc _ _ _))⟩))))
        go_ret
        exact ⟨by first | rfl | (simp [errW_none, errW_some] <;> rfl) | (simp [*, errW_none, errW_some] <;> rfl), by repeat (first | (with_reducible first | exact HI0.out | apply IsS94.alloc | apply IsS94.drewN | apply IsS94.drew | apply IsS94.set_0 | apply IsS94.set_1 | apply IsS94.set_2) | exact HI0.out), by repeat (first | (with_reducible first | exact HB.out | apply below_alloc | apply pw_below_drewN | apply below_drew1 | refine below_set ?_ (IsS94.ge HI0.out)) | exact HB.out), by repeat (first | (with_reducible first | exact HK.out | apply KeepBut.set_ | apply keep_drewN | apply keep_drew | apply keep_alloc) | exact HK.out)⟩
      · replace c6 := Bool.eq_false_iff.mpr c6
        subst c6
        have H1 : (some (false, s0_0, s0_1, s0_2)) = some (r1, r2, r3, r4) := by rw [if_neg (show ¬ (false = true) by decide)] at H; exact H
        clear H
        have H := H1
        clear H1
        simp only [Option.some.injEq, Prod.mk.injEq] at H
        obtain ⟨rfl, rfl, rfl, rfl⟩ := H
        obtain ⟨HGz8, hgz8⟩ := HI0.out
        have hcz8_0 := cellS94_0 HGz8
        have hcz8_1 := cellS94_1 HGz8
        have hcz8_2 := cellS94_2 HGz8
        have hfz8_0 := blk_frozen HGz8 0
        have hfz8_1 := blk_frozen HGz8 1
        have hfz8_2 := blk_frozen HGz8 2
        clear HGz8 hgz8
        go_enter Tryd.func99, Tryd.ntmps99
        go_wp2_with (first | (go_at_call 80; (with_reducible refine (q27_.calls (s0_0.extract (s0_1 : Int).toNat s0_0.size) a1 false _ A5.out).mono ?_); rintro e w' ⟨rfl, ⟨nd, rfl⟩⟩; (try first | exact ⟨rfl, _, World.drewN_drewN _ _ _⟩ | exact ⟨rfl, _, Eq.trans (World.drewN_drewN _ _ _) (congrArg (World.drewN _) (Nat.add_assoc _ _ _))⟩)))
        repeat (go_quiet (first | (go_at_call 80; (with_reducible refine (q27_.calls (s0_0.extract (s0_1 : Int).toNat s0_0.size) a1 false _ A5.out).mono ?_); rintro e w' ⟨rfl, ⟨nd, rfl⟩⟩; (try first | exact ⟨rfl, _, World.drewN_drewN _ _ _⟩ | exact ⟨rfl, _, Eq.trans (World.drewN_drewN _ _ _) (congrArg (World.drewN _) (Nat.add_assoc _ _ _))⟩))); try go_wp2_with (first | (go_at_call 80; (with_reducible refine (q27_.calls (s0_0.extract (s0_1 : Int).toNat s0_0.size) a1 false _ A5.out).mono ?_); rintro e w' ⟨rfl, ⟨nd, rfl⟩⟩; (try first | exact ⟨rfl, _, World.drewN_drewN _ _ _⟩ | exact ⟨rfl, _, Eq.trans (World.drewN_drewN _ _ _) (congrArg (World.drewN _) (Nat.add_assoc _ _ _))⟩))))
        go_ret
        exact ⟨by first | rfl | (simp [errW_none, errW_some] <;> rfl) | (simp [*, errW_none, errW_some] <;> rfl), by repeat (first | (with_reducible first | exact HI0.out | apply IsS94.alloc | apply IsS94.drewN | apply IsS94.drew | apply IsS94.set_0 | apply IsS94.set_1 | apply IsS94.set_2) | exact HI0.out), by repeat (first | (with_reducible first | exact HB.out | apply below_alloc | apply pw_below_drewN | apply below_drew1 | refine below_set ?_ (IsS94.ge HI0.out)) | exact HB.out), by repeat (first | (with_reducible first | exact HK.out | apply KeepBut.set_ | apply keep_drewN | apply keep_drew | apply keep_alloc) | exact HK.out)⟩
    · rw [if_neg c4] at H
      exact absurd H (by simp)
  · rw [if_neg c3] at H
    exact absurd H (by simp)
mutual
def q35_.j0 : Nat → Int → Bool → ByteArray → Int → Bool → Option (ByteArray × ByteArray × Int × Bool)
  | 0, _, _, _, _, _ => none
  | k + 1, x3, x29, x1000, x1001, x1002 => if x29 = true then (q35_.l0 k x3 x1000 x1001 x1002) else (if 0 ≤ x3 then (if x3 ≤ x1001 then (if x1001 ≤ (x1000.size : Int) then (some (x1000.extract (x3 : Int).toNat (x1001 : Int).toNat, x1000, x1001, x1002)) else (none)) else (none)) else (none))
def q35_.l0 : Nat → Int → ByteArray → Int → Bool → Option (ByteArray × ByteArray × Int × Bool)
  | 0, _, _, _, _ => none
  | k + 1, x3, x1000, x1001, x1002 => if x1001 < (x1000.size : Int) then (if 0 ≤ x1001 then ((q22_.f (bt x1000 x1001)).bind fun t102 => (if t102 = true then (q35_.l0 k x3 x1000 (wrap64 (x1001 + 1)) x1002) else (if 0 ≤ x3 then (if x3 ≤ x1001 then (if x1001 ≤ (x1000.size : Int) then (some (x1000.extract (x3 : Int).toNat (x1001 : Int).toNat, x1000, x1001, x1002)) else (none)) else (none)) else (none)))) else (none)) else (if 0 ≤ x3 then (if x3 ≤ x1001 then (if x1001 ≤ (x1000.size : Int) then (some (x1000.extract (x3 : Int).toNat (x1001 : Int).toNat, x1000, x1001, x1002)) else (none)) else (none)) else (none))
end
def q35_.f (k : Nat) (s0_0 : ByteArray) (s0_1 : Int) (s0_2 : Bool) : Option (ByteArray × ByteArray × Int × Bool) := if s0_1 < (s0_0.size : Int) then (if 0 ≤ s0_1 then ((q21_.f (bt s0_0 s0_1)).bind fun t101 => (q35_.j0 k s0_1 t101 s0_0 s0_1 s0_2)) else (none)) else (q35_.j0 k s0_1 false s0_0 s0_1 s0_2)
theorem q35_.mono_l : ∀ k, (∀ y0 y1 y2 y3 y4, LeO (q35_.j0 k y0 y1 y2 y3 y4) (q35_.j0 (k + 1) y0 y1 y2 y3 y4)) ∧ (∀ y0 y1 y2 y3, LeO (q35_.l0 k y0 y1 y2 y3) (q35_.l0 (k + 1) y0 y1 y2 y3))
  | 0 => ⟨fun _ _ _ _ _ r h => by simp [q35_.j0] at h, fun _ _ _ _ r h => by simp [q35_.l0] at h⟩
  | k + 1 => by
    obtain ⟨ih0, ih1⟩ := q35_.mono_l k
    refine ⟨?_, ?_⟩
    · intro y0 y1 y2 y3 y4
      unfold q35_.j0
      repeat' first
      | (with_reducible exact ih0 _ _ _ _ _)
      | (with_reducible exact ih1 _ _ _ _)
      | (with_reducible exact LeO.refl _)
      | (with_reducible exact LeO.none _)
      | (with_reducible refine LeO.ite ?_ ?_)
      | (with_reducible refine LeO.bind ?_ (fun _ => ?_))
      | exact ih0 _ _ _ _ _
      | exact ih1 _ _ _ _
      | exact LeO.none _
      | refine LeO.ite ?_ ?_
      | refine LeO.bind ?_ (fun _ => ?_)
    · intro y0 y1 y2 y3
      unfold q35_.l0
      repeat' first
      | (with_reducible exact ih0 _ _ _ _ _)
      | (with_reducible exact ih1 _ _ _ _)
      | (with_reducible exact LeO.refl _)
      | (with_reducible exact LeO.none _)
      | (with_reducible refine LeO.ite ?_ ?_)
      | (with_reducible refine LeO.bind ?_ (fun _ => ?_))
      | exact ih0 _ _ _ _ _
      | exact ih1 _ _ _ _
      | exact LeO.none _
      | refine LeO.ite ?_ ?_
      | refine LeO.bind ?_ (fun _ => ?_)
theorem q35_.mono : ∀ a0 a1 a2 k, LeO (q35_.f k a0 a1 a2) (q35_.f (k + 1) a0 a1 a2) := by
  intro a0 a1 a2 k
  obtain ⟨ih0, ih1⟩ := q35_.mono_l k
  unfold q35_.f
  repeat' first
      | (with_reducible exact ih0 _ _ _ _ _)
      | (with_reducible exact ih1 _ _ _ _)
      | (with_reducible exact LeO.refl _)
      | (with_reducible exact LeO.none _)
      | (with_reducible refine LeO.ite ?_ ?_)
      | (with_reducible refine LeO.bind ?_ (fun _ => ?_))
      | exact ih0 _ _ _ _ _
      | exact ih1 _ _ _ _
      | exact LeO.none _
      | refine LeO.ite ?_ ?_
      | refine LeO.bind ?_ (fun _ => ?_)
set_option maxHeartbeats 8000000 in
set_option maxRecDepth 100000 in
theorem q35_.calls (k : Nat) (g : Nat) (s0_0 : ByteArray) (s0_1 : Int) (s0_2 : Bool) (r1 : ByteArray) (r2 : ByteArray) (r3 : Int) (r4 : Bool) (w0 w : World) (hI : IsS94 w0 w g s0_0 s0_1 s0_2) (hB : Below w0.heap.size w0 w) (h : q35_.f k s0_0 s0_1 s0_2 = some (r1, r2, r3, r4)) :
    Calls Tryd.prog 100 #[.pointer (some ⟨g, 0, none⟩)] w fun e w' => e = .returned (.string r1) ∧ IsS94 w0 w' g r2 r3 r4 ∧ Below w0.heap.size w0 w' ∧ KeepBut w w' g none := by
  have HI0 := Aside0.mk hI
  have HK := Aside0.mk (KeepBut.refl w g none)
  have HL := Aside0.mk hB.size
  clear hI
  have HW0 := Aside0.mk hB.size
  have HB := Aside0.mk hB
  clear hB
  have H : (if s0_1 < (s0_0.size : Int) then (if 0 ≤ s0_1 then ((q21_.f (bt s0_0 s0_1)).bind fun t101 => (q35_.j0 k s0_1 t101 s0_0 s0_1 s0_2)) else (none)) else (q35_.j0 k s0_1 false s0_0 s0_1 s0_2)) = some (r1, r2, r3, r4) := h
  clear h
  have HC2 := Aside0.mk H
  clear H
  obtain ⟨HGz3, hgz3⟩ := HI0.out
  have hcz3_0 := cellS94_0 HGz3
  have hcz3_1 := cellS94_1 HGz3
  have hcz3_2 := cellS94_2 HGz3
  have hfz3_0 := blk_frozen HGz3 0
  have hfz3_1 := blk_frozen HGz3 1
  have hfz3_2 := blk_frozen HGz3 2
  clear HGz3 hgz3
  go_enter Tryd.func100, Tryd.ntmps100
  go_upto_region 2 with (fail)
  repeat (go_quiet (fail); go_upto_region 2 with (fail))
  go_cut [29] (fun v29 wc => ∃ (kq : Nat) (x29_1 : Bool), v29 = .bool x29_1 ∧ Aside0 (q35_.j0 kq s0_1 x29_1 s0_0 s0_1 s0_2 = some (r1, r2, r3, r4)) ∧ Aside0 (kq ≤ k) ∧ Aside0 (IsS94 w0 wc g s0_0 s0_1 s0_2) ∧ Aside0 (KeepBut w wc g none) ∧ Aside0 (Below w0.heap.size w0 wc))
  case first =>
    have H := HC2.out
    clear HC2
    by_cases c4 : s0_1 < (s0_0.size : Int)
    · rw [if_pos c4] at H
      have c4b0 : decide (s0_1 < (s0_0.size : Int)) = true := decide_eq_true c4
      clear c4
      (first | rw [c4b0] | (simp only [i64_w, i32_w]; rw [c4b0]) | skip)
      by_cases c5 : 0 ≤ s0_1
      · rw [if_pos c5] at H
        have c5b0 : decide (0 ≤ s0_1) = true := decide_eq_true c5
        clear c5
        replace H := Option.bind_eq_some_iff.mp H
        obtain ⟨t101, A70, H⟩ := H
        replace H : (q35_.j0 k s0_1 t101 s0_0 s0_1 s0_2) = some (r1, r2, r3, r4) := H
        have A7 := Aside0.mk A70
        clear A70
        have H' := Aside0.mk H
        clear H
        obtain ⟨HGz8, hgz8⟩ := HI0.out
        have hcz8_0 := cellS94_0 HGz8
        have hcz8_1 := cellS94_1 HGz8
        have hcz8_2 := cellS94_2 HGz8
        have hfz8_0 := blk_frozen HGz8 0
        have hfz8_1 := blk_frozen HGz8 1
        have hfz8_2 := blk_frozen HGz8 2
        clear HGz8 hgz8
        have p6 : 0 ≤ (s0_1 : Int) := of_decide_eq_true (by first | (with_reducible assumption) | assumption)
        have q6 : s0_1 < (s0_0.size : Int) := of_decide_eq_true (by first | (with_reducible assumption) | assumption)
        have hx6 := bt_at s0_0 s0_1
        replace p6 := eq_true p6
        replace q6 := eq_true q6
        go_wp2_with (first | (go_at_call 64; (with_reducible refine (q21_.calls (bt s0_0 s0_1) t101 _ A7.out).mono ?_); rintro e w' ⟨rfl, ⟨nd, rfl⟩⟩; (try first | exact ⟨rfl, _, World.drewN_drewN _ _ _⟩ | exact ⟨rfl, _, Eq.trans (World.drewN_drewN _ _ _) (congrArg (World.drewN _) (Nat.add_assoc _ _ _))⟩)))
        repeat (go_quiet (first | (go_at_call 64; (with_reducible refine (q21_.calls (bt s0_0 s0_1) t101 _ A7.out).mono ?_); rintro e w' ⟨rfl, ⟨nd, rfl⟩⟩; (try first | exact ⟨rfl, _, World.drewN_drewN _ _ _⟩ | exact ⟨rfl, _, Eq.trans (World.drewN_drewN _ _ _) (congrArg (World.drewN _) (Nat.add_assoc _ _ _))⟩))); try go_wp2_with (first | (go_at_call 64; (with_reducible refine (q21_.calls (bt s0_0 s0_1) t101 _ A7.out).mono ?_); rintro e w' ⟨rfl, ⟨nd, rfl⟩⟩; (try first | exact ⟨rfl, _, World.drewN_drewN _ _ _⟩ | exact ⟨rfl, _, Eq.trans (World.drewN_drewN _ _ _) (congrArg (World.drewN _) (Nat.add_assoc _ _ _))⟩))))
        go_meet
        case rel => exact ⟨_, (t101), (by first | rfl | (simp; done) | (simp [*]; done)), H', ⟨by first | omega | exact Nat.le_refl _⟩, ⟨by repeat (first | (with_reducible first | exact HI0.out | apply IsS94.alloc | apply IsS94.drewN | apply IsS94.drew | apply IsS94.set_0 | apply IsS94.set_1 | apply IsS94.set_2) | exact HI0.out)⟩, ⟨by repeat (first | (with_reducible first | exact HK.out | apply KeepBut.set_ | apply keep_drewN | apply keep_drew | apply keep_alloc) | exact HK.out)⟩, ⟨by repeat (first | (with_reducible first | exact HB.out | apply below_alloc | apply pw_below_drewN | apply below_drew1 | refine below_set ?_ (IsS94.ge HI0.out)) | exact HB.out)⟩⟩
      · rw [if_neg c5] at H
        exact absurd H (by simp)
    · rw [if_neg c4] at H
      have c4b0 : decide (s0_1 < (s0_0.size : Int)) = false := decide_eq_false c4
      clear c4
      (first | rw [c4b0] | (simp only [i64_w, i32_w]; rw [c4b0]) | skip)
      have H' := Aside0.mk H
      clear H
      obtain ⟨HGz9, hgz9⟩ := HI0.out
      have hcz9_0 := cellS94_0 HGz9
      have hcz9_1 := cellS94_1 HGz9
      have hcz9_2 := cellS94_2 HGz9
      have hfz9_0 := blk_frozen HGz9 0
      have hfz9_1 := blk_frozen HGz9 1
      have hfz9_2 := blk_frozen HGz9 2
      clear HGz9 hgz9
      go_wp2
      repeat (go_quiet (fail); try go_wp2)
      go_meet
      case rel => exact ⟨_, (false), (by first | rfl | (simp; done) | (simp [*]; done)), H', ⟨by first | omega | exact Nat.le_refl _⟩, ⟨by repeat (first | (with_reducible first | exact HI0.out | apply IsS94.alloc | apply IsS94.drewN | apply IsS94.drew | apply IsS94.set_0 | apply IsS94.set_1 | apply IsS94.set_2) | exact HI0.out)⟩, ⟨by repeat (first | (with_reducible first | exact HK.out | apply KeepBut.set_ | apply keep_drewN | apply keep_drew | apply keep_alloc) | exact HK.out)⟩, ⟨by repeat (first | (with_reducible first | exact HB.out | apply below_alloc | apply pw_below_drewN | apply below_drew1 | refine below_set ?_ (IsS94.ge HI0.out)) | exact HB.out)⟩⟩
  case rest =>
    clear HC2
    try clear c1
    try clear p2
    try clear c4
    try clear c4b0
    try clear c5
    try clear c5b0
    try clear p6
    try clear q6
    try clear hx6
    try clear hcz3_0
    try clear hcz3_1
    try clear hcz3_2
    try clear hcz8_0
    try clear hcz8_1
    try clear hcz8_2
    try clear hcz9_0
    try clear hcz9_1
    try clear hcz9_2
    try clear hfz3_0
    try clear hfz3_1
    try clear hfz3_2
    try clear hfz8_0
    try clear hfz8_1
    try clear hfz8_2
    try clear hfz9_0
    try clear hfz9_1
    try clear hfz9_2
    try clear p6
    try clear q6
    obtain ⟨kq, x29_1, rfl, HA, HJ1, HI0, HK, HB⟩ := hcut
    cases kq with
    | zero => exact absurd HA.out (by simp [q35_.j0])
    | succ kj1 =>
      have H := HA.out
      clear HA
      simp only [q35_.j0] at H
      by_cases c10 : x29_1 = true
      · subst c10
        have H1 : (q35_.l0 kj1 s0_1 s0_0 s0_1 s0_2) = some (r1, r2, r3, r4) := by rw [if_pos rfl] at H; exact H
        clear H
        have H := H1
        clear H1
        have H' := Aside0.mk H
        clear H
        go_wp2
        repeat (go_quiet (fail); try go_wp2)
        go_loopg [] kj1 (fun kq w' => ∃ (x1001_2 : Int), Aside0 (q35_.l0 kq s0_1 s0_0 x1001_2 s0_2 = some (r1, r2, r3, r4)) ∧ Aside0 (kq ≤ kj1) ∧ Aside0 (IsS94 w0 w' g s0_0 x1001_2 s0_2) ∧ Aside0 (KeepBut w w' g none) ∧ Aside0 (Below w0.heap.size w0 w'))
        case atStart => exact ⟨(s0_1), H', ⟨Nat.le_refl _⟩, ⟨by repeat (first | (with_reducible first | exact HI0.out | apply IsS94.alloc | apply IsS94.drewN | apply IsS94.drew | apply IsS94.set_0 | apply IsS94.set_1 | apply IsS94.set_2) | exact HI0.out)⟩, ⟨by repeat (first | (with_reducible first | exact HK.out | apply KeepBut.set_ | apply keep_drewN | apply keep_drew | apply keep_alloc) | exact HK.out)⟩, ⟨by repeat (first | (with_reducible first | exact HB.out | apply below_alloc | apply pw_below_drewN | apply below_drew1 | refine below_set ?_ (IsS94.ge HI0.out)) | exact HB.out)⟩⟩
        case round =>
          clear H'
          try clear c1
          try clear p2
          try clear c4
          try clear c4b0
          try clear c5
          try clear c5b0
          try clear p6
          try clear q6
          try clear hx6
          try clear c10
          try clear hcz3_0
          try clear hcz3_1
          try clear hcz3_2
          try clear hcz8_0
          try clear hcz8_1
          try clear hcz8_2
          try clear hcz9_0
          try clear hcz9_1
          try clear hcz9_2
          try clear hfz3_0
          try clear hfz3_1
          try clear hfz3_2
          try clear hfz8_0
          try clear hfz8_1
          try clear hfz8_2
          try clear hfz9_0
          try clear hfz9_1
          try clear hfz9_2
          try clear p2
          try clear p6
          try clear q6
          obtain ⟨x1001_2, HA, HK2, HI0, HK, HB⟩ := hrel
          cases gk with
          | zero => exact absurd HA.out (by simp [q35_.l0])
          | succ k2 =>
            have H := HA.out
            clear HA
            simp only [q35_.l0] at H
            by_cases c11 : x1001_2 < (s0_0.size : Int)
            · rw [if_pos c11] at H
              have c11b0 : decide (x1001_2 < (s0_0.size : Int)) = true := decide_eq_true c11
              clear c11
              by_cases c12 : 0 ≤ x1001_2
              · rw [if_pos c12] at H
                have c12b0 : decide (0 ≤ x1001_2) = true := decide_eq_true c12
                clear c12
                replace H := Option.bind_eq_some_iff.mp H
                obtain ⟨t102, A140, H⟩ := H
                replace H : (if t102 = true then (q35_.l0 k2 s0_1 s0_0 (wrap64 (x1001_2 + 1)) s0_2) else (if 0 ≤ s0_1 then (if s0_1 ≤ x1001_2 then (if x1001_2 ≤ (s0_0.size : Int) then (some (s0_0.extract (s0_1 : Int).toNat (x1001_2 : Int).toNat, s0_0, x1001_2, s0_2)) else (none)) else (none)) else (none))) = some (r1, r2, r3, r4) := H
                have A14 := Aside0.mk A140
                clear A140
                by_cases c15 : t102 = true
                · subst c15
                  have H1 : (q35_.l0 k2 s0_1 s0_0 (wrap64 (x1001_2 + 1)) s0_2) = some (r1, r2, r3, r4) := by rw [if_pos rfl] at H; exact H
                  clear H
                  have H := H1
                  clear H1
                  have H' := Aside0.mk H
                  clear H
                  obtain ⟨HGz16, hgz16⟩ := HI0.out
                  have hcz16_0 := cellS94_0 HGz16
                  have hcz16_1 := cellS94_1 HGz16
                  have hcz16_2 := cellS94_2 HGz16
                  have hfz16_0 := blk_frozen HGz16 0
                  have hfz16_1 := blk_frozen HGz16 1
                  have hfz16_2 := blk_frozen HGz16 2
                  clear HGz16 hgz16
                  have p13 : 0 ≤ (x1001_2 : Int) := of_decide_eq_true (by first | (with_reducible assumption) | assumption)
                  have q13 : x1001_2 < (s0_0.size : Int) := of_decide_eq_true (by first | (with_reducible assumption) | assumption)
                  have hx13 := bt_at s0_0 x1001_2
                  replace p13 := eq_true p13
                  replace q13 := eq_true q13
                  go_wp2_with (first | (go_at_call 63; (with_reducible refine (q22_.calls (bt s0_0 x1001_2) true _ A14.out).mono ?_); rintro e w' ⟨rfl, ⟨nd, rfl⟩⟩; (try first | exact ⟨rfl, _, World.drewN_drewN _ _ _⟩ | exact ⟨rfl, _, Eq.trans (World.drewN_drewN _ _ _) (congrArg (World.drewN _) (Nat.add_assoc _ _ _))⟩)))
                  repeat (go_quiet (first | (go_at_call 63; (with_reducible refine (q22_.calls (bt s0_0 x1001_2) true _ A14.out).mono ?_); rintro e w' ⟨rfl, ⟨nd, rfl⟩⟩; (try first | exact ⟨rfl, _, World.drewN_drewN _ _ _⟩ | exact ⟨rfl, _, Eq.trans (World.drewN_drewN _ _ _) (congrArg (World.drewN _) (Nat.add_assoc _ _ _))⟩))); try go_wp2_with (first | (go_at_call 63; (with_reducible refine (q22_.calls (bt s0_0 x1001_2) true _ A14.out).mono ?_); rintro e w' ⟨rfl, ⟨nd, rfl⟩⟩; (try first | exact ⟨rfl, _, World.drewN_drewN _ _ _⟩ | exact ⟨rfl, _, Eq.trans (World.drewN_drewN _ _ _) (congrArg (World.drewN _) (Nat.add_assoc _ _ _))⟩))))
                  go_roundg k2
                  case measure => have := HJ1.out; have := HK2.out; omega
                  case rel => exact ⟨(wrap64 (x1001_2 + 1)), H', ⟨by have := HJ1.out; have := HK2.out; omega⟩, ⟨by repeat (first | (with_reducible first | exact HI0.out | apply IsS94.alloc | apply IsS94.drewN | apply IsS94.drew | apply IsS94.set_0 | apply IsS94.set_1 | apply IsS94.set_2) | exact HI0.out)⟩, ⟨by repeat (first | (with_reducible first | exact HK.out | apply KeepBut.set_ | apply keep_drewN | apply keep_drew | apply keep_alloc) | exact HK.out)⟩, ⟨by repeat (first | (with_reducible first | exact HB.out | apply below_alloc | apply pw_below_drewN | apply below_drew1 | refine below_set ?_ (IsS94.ge HI0.out)) | exact HB.out)⟩⟩
                · replace c15 := Bool.eq_false_iff.mpr c15
                  subst c15
                  have H1 : (if 0 ≤ s0_1 then (if s0_1 ≤ x1001_2 then (if x1001_2 ≤ (s0_0.size : Int) then (some (s0_0.extract (s0_1 : Int).toNat (x1001_2 : Int).toNat, s0_0, x1001_2, s0_2)) else (none)) else (none)) else (none)) = some (r1, r2, r3, r4) := by rw [if_neg (show ¬ (false = true) by decide)] at H; exact H
                  clear H
                  have H := H1
                  clear H1
                  by_cases c17 : 0 ≤ s0_1
                  · rw [if_pos c17] at H
                    have c17b0 := eq_true c17
                    have c17b1 : decide (0 ≤ s0_1) = true := decide_eq_true c17
                    clear c17
                    by_cases c18 : s0_1 ≤ x1001_2
                    · rw [if_pos c18] at H
                      have c18b0 := eq_true c18
                      have c18b1 : decide (s0_1 ≤ x1001_2) = true := decide_eq_true c18
                      clear c18
                      by_cases c19 : x1001_2 ≤ (s0_0.size : Int)
                      · rw [if_pos c19] at H
                        have c19b0 := eq_true c19
                        have c19b1 : decide (x1001_2 ≤ (s0_0.size : Int)) = true := decide_eq_true c19
                        clear c19
                        simp only [Option.some.injEq, Prod.mk.injEq] at H
                        obtain ⟨rfl, rfl, rfl, rfl⟩ := H
                        obtain ⟨HGz20, hgz20⟩ := HI0.out
                        have hcz20_0 := cellS94_0 HGz20
                        have hcz20_1 := cellS94_1 HGz20
                        have hcz20_2 := cellS94_2 HGz20
                        have hfz20_0 := blk_frozen HGz20 0
                        have hfz20_1 := blk_frozen HGz20 1
                        have hfz20_2 := blk_frozen HGz20 2
                        clear HGz20 hgz20
                        have p13 : 0 ≤ (x1001_2 : Int) := of_decide_eq_true (by first | (with_reducible assumption) | assumption)
                        have q13 : x1001_2 < (s0_0.size : Int) := of_decide_eq_true (by first | (with_reducible assumption) | assumption)
                        have hx13 := bt_at s0_0 x1001_2
                        replace p13 := eq_true p13
                        replace q13 := eq_true q13
                        go_wp2_with (first | (go_at_call 63; (with_reducible refine (q22_.calls (bt s0_0 x1001_2) false _ A14.out).mono ?_); rintro e w' ⟨rfl, ⟨nd, rfl⟩⟩; (try first | exact ⟨rfl, _, World.drewN_drewN _ _ _⟩ | exact ⟨rfl, _, Eq.trans (World.drewN_drewN _ _ _) (congrArg (World.drewN _) (Nat.add_assoc _ _ _))⟩)))
                        repeat (go_quiet (first | (go_at_call 63; (with_reducible refine (q22_.calls (bt s0_0 x1001_2) false _ A14.out).mono ?_); rintro e w' ⟨rfl, ⟨nd, rfl⟩⟩; (try first | exact ⟨rfl, _, World.drewN_drewN _ _ _⟩ | exact ⟨rfl, _, Eq.trans (World.drewN_drewN _ _ _) (congrArg (World.drewN _) (Nat.add_assoc _ _ _))⟩))); try go_wp2_with (first | (go_at_call 63; (with_reducible refine (q22_.calls (bt s0_0 x1001_2) false _ A14.out).mono ?_); rintro e w' ⟨rfl, ⟨nd, rfl⟩⟩; (try first | exact ⟨rfl, _, World.drewN_drewN _ _ _⟩ | exact ⟨rfl, _, Eq.trans (World.drewN_drewN _ _ _) (congrArg (World.drewN _) (Nat.add_assoc _ _ _))⟩))))
                        go_ret
                        exact ⟨by first | rfl | (simp [errW_none, errW_some] <;> rfl) | (simp [*, errW_none, errW_some] <;> rfl), by repeat (first | (with_reducible first | exact HI0.out | apply IsS94.alloc | apply IsS94.drewN | apply IsS94.drew | apply IsS94.set_0 | apply IsS94.set_1 | apply IsS94.set_2) | exact HI0.out), by repeat (first | (with_reducible first | exact HB.out | apply below_alloc | apply pw_below_drewN | apply below_drew1 | refine below_set ?_ (IsS94.ge HI0.out)) | exact HB.out), by repeat (first | (with_reducible first | exact HK.out | apply KeepBut.set_ | apply keep_drewN | apply keep_drew | apply keep_alloc) | exact HK.out)⟩
                      · rw [if_neg c19] at H
                        exact absurd H (by simp)
                    · rw [if_neg c18] at H
                      exact absurd H (by simp)
                  · rw [if_neg c17] at H
                    exact absurd H (by simp)
              · rw [if_neg c12] at H
                exact absurd H (by simp)
            · rw [if_neg c11] at H
              have c11b0 : decide (x1001_2 < (s0_0.size : Int)) = false := decide_eq_false c11
              clear c11
              by_cases c21 : 0 ≤ s0_1
              · rw [if_pos c21] at H
                have c21b0 := eq_true c21
                have c21b1 : decide (0 ≤ s0_1) = true := decide_eq_true c21
                clear c21
                by_cases c22 : s0_1 ≤ x1001_2
                · rw [if_pos c22] at H
                  have c22b0 := eq_true c22
                  have c22b1 : decide (s0_1 ≤ x1001_2) = true := decide_eq_true c22
                  clear c22
                  by_cases c23 : x1001_2 ≤ (s0_0.size : Int)
                  · rw [if_pos c23] at H
                    have c23b0 := eq_true c23
                    have c23b1 : decide (x1001_2 ≤ (s0_0.size : Int)) = true := decide_eq_true c23
                    clear c23
                    simp only [Option.some.injEq, Prod.mk.injEq] at H
                    obtain ⟨rfl, rfl, rfl, rfl⟩ := H
                    obtain ⟨HGz24, hgz24⟩ := HI0.out
                    have hcz24_0 := cellS94_0 HGz24
                    have hcz24_1 := cellS94_1 HGz24
                    have hcz24_2 := cellS94_2 HGz24
                    have hfz24_0 := blk_frozen HGz24 0
                    have hfz24_1 := blk_frozen HGz24 1
                    have hfz24_2 := blk_frozen HGz24 2
                    clear HGz24 hgz24
                    go_wp2
                    repeat (go_quiet (fail); try go_wp2)
                    go_ret
                    exact ⟨by first | rfl | (simp [errW_none, errW_some] <;> rfl) | (simp [*, errW_none, errW_some] <;> rfl), by repeat (first | (with_reducible first | exact HI0.out | apply IsS94.alloc | apply IsS94.drewN | apply IsS94.drew | apply IsS94.set_0 | apply IsS94.set_1 | apply IsS94.set_2) | exact HI0.out), by repeat (first | (with_reducible first | exact HB.out | apply below_alloc | apply pw_below_drewN | apply below_drew1 | refine below_set ?_ (IsS94.ge HI0.out)) | exact HB.out), by repeat (first | (with_reducible first | exact HK.out | apply KeepBut.set_ | apply keep_drewN | apply keep_drew | apply keep_alloc) | exact HK.out)⟩
                  · rw [if_neg c23] at H
                    exact absurd H (by simp)
                · rw [if_neg c22] at H
                  exact absurd H (by simp)
              · rw [if_neg c21] at H
                exact absurd H (by simp)
      · replace c10 := Bool.eq_false_iff.mpr c10
        subst c10
        have H1 : (if 0 ≤ s0_1 then (if s0_1 ≤ s0_1 then (if s0_1 ≤ (s0_0.size : Int) then (some (s0_0.extract (s0_1 : Int).toNat (s0_1 : Int).toNat, s0_0, s0_1, s0_2)) else (none)) else (none)) else (none)) = some (r1, r2, r3, r4) := by rw [if_neg (show ¬ (false = true) by decide)] at H; exact H
        clear H
        have H := H1
        clear H1
        by_cases c25 : 0 ≤ s0_1
        · rw [if_pos c25] at H
          have c25b0 := eq_true c25
          have c25b1 : decide (0 ≤ s0_1) = true := decide_eq_true c25
          clear c25
          by_cases c26 : s0_1 ≤ s0_1
          · rw [if_pos c26] at H
            have c26b0 := eq_true c26
            have c26b1 : decide (s0_1 ≤ s0_1) = true := decide_eq_true c26
            clear c26
            by_cases c27 : s0_1 ≤ (s0_0.size : Int)
            · rw [if_pos c27] at H
              have c27b0 := eq_true c27
              have c27b1 : decide (s0_1 ≤ (s0_0.size : Int)) = true := decide_eq_true c27
              clear c27
              simp only [Option.some.injEq, Prod.mk.injEq] at H
              obtain ⟨rfl, rfl, rfl, rfl⟩ := H
              obtain ⟨HGz28, hgz28⟩ := HI0.out
              have hcz28_0 := cellS94_0 HGz28
              have hcz28_1 := cellS94_1 HGz28
              have hcz28_2 := cellS94_2 HGz28
              have hfz28_0 := blk_frozen HGz28 0
              have hfz28_1 := blk_frozen HGz28 1
              have hfz28_2 := blk_frozen HGz28 2
              clear HGz28 hgz28
              go_wp2
              repeat (go_quiet (fail); try go_wp2)
              go_ret
              exact ⟨by first | rfl | (simp [errW_none, errW_some] <;> rfl) | (simp [*, errW_none, errW_some] <;> rfl), by repeat (first | (with_reducible first | exact HI0.out | apply IsS94.alloc | apply IsS94.drewN | apply IsS94.drew | apply IsS94.set_0 | apply IsS94.set_1 | apply IsS94.set_2) | exact HI0.out), by repeat (first | (with_reducible first | exact HB.out | apply below_alloc | apply pw_below_drewN | apply below_drew1 | refine below_set ?_ (IsS94.ge HI0.out)) | exact HB.out), by repeat (first | (with_reducible first | exact HK.out | apply KeepBut.set_ | apply keep_drewN | apply keep_drew | apply keep_alloc) | exact HK.out)⟩
            · rw [if_neg c27] at H
              exact absurd H (by simp)
          · rw [if_neg c26] at H
            exact absurd H (by simp)
        · rw [if_neg c25] at H
          exact absurd H (by simp)
mutual
def q36_.j0 : Nat → Bool → ByteArray → Int → Bool → Option (Bool × ByteArray × Int × Bool)
  | 0, _, _, _, _ => none
  | k + 1, x15, x1000, x1001, x1002 => if x15 = true then (some (false, x1000, x1001, x1002)) else ((q33_.f k x1000 x1001 x1002).bind fun bt113 => ((q34_.f bt113.2.1 bt113.2.2.1 bt113.2.2.2 (⟨#[61]⟩ : ByteArray)).bind fun bt117 => (if bt117.1 = true then ((q33_.f k bt117.2.1 bt117.2.2.1 bt117.2.2.2).bind fun bt121 => (if bt121.2.2.1 ≥ (bt121.2.1.size : Int) then (q36_.j1 k true bt121.2.1 bt121.2.2.1 bt121.2.2.2) else (if 0 ≤ bt121.2.2.1 then (if bt121.2.2.1 < (bt121.2.1.size : Int) then (if (bt bt121.2.1 bt121.2.2.1) = 34 then (q36_.j1 k false bt121.2.1 bt121.2.2.1 bt121.2.2.2) else (q36_.j1 k ((bt bt121.2.1 bt121.2.2.1) != 39) bt121.2.1 bt121.2.2.1 bt121.2.2.2)) else (none)) else (none)))) else (some (false, bt117.2.1, bt117.2.2.1, bt117.2.2.2)))))
def q36_.j1 : Nat → Bool → ByteArray → Int → Bool → Option (Bool × ByteArray × Int × Bool)
  | 0, _, _, _, _ => none
  | k + 1, x56, x1000, x1001, x1002 => if x56 = true then (some (false, x1000, x1001, x1002)) else (if 0 ≤ x1001 then (if x1001 < (x1000.size : Int) then (q36_.l0 k (bt x1000 x1001) x1000 (wrap64 (x1001 + 1)) x1002) else (none)) else (none))
def q36_.l0 : Nat → Int → ByteArray → Int → Bool → Option (Bool × ByteArray × Int × Bool)
  | 0, _, _, _, _ => none
  | k + 1, x3, x1000, x1001, x1002 => if x1001 < (x1000.size : Int) then (if 0 ≤ x1001 then (q36_.j3 k x3 ((bt x1000 x1001) != x3) x1000 x1001 x1002) else (none)) else (q36_.j3 k x3 false x1000 x1001 x1002)
def q36_.j3 : Nat → Int → Bool → ByteArray → Int → Bool → Option (Bool × ByteArray × Int × Bool)
  | 0, _, _, _, _, _ => none
  | k + 1, x3, x95, x1000, x1001, x1002 => if x95 = true then (if 0 ≤ x1001 then (if x1001 < (x1000.size : Int) then (if (bt x1000 x1001) = 60 then (some (false, x1000, x1001, x1002)) else (if (bt x1000 x1001) = 38 then (some (false, x1000, x1001, x1002)) else (q36_.l0 k x3 x1000 (wrap64 (x1001 + 1)) x1002))) else (none)) else (none)) else (some (decide ((wrap64 (x1001 + 1)) ≤ (x1000.size : Int)), x1000, wrap64 (x1001 + 1), x1002))
end
def q36_.f (k : Nat) (s0_0 : ByteArray) (s0_1 : Int) (s0_2 : Bool) : Option (Bool × ByteArray × Int × Bool) := (q35_.f k s0_0 s0_1 s0_2).bind fun bt101 => (if bt101.1.toList = ([] : List UInt8) then (q36_.j0 k true bt101.2.1 bt101.2.2.1 bt101.2.2.2) else ((q34_.f bt101.2.1 bt101.2.2.1 bt101.2.2.2 (⟨#[58]⟩ : ByteArray)).bind fun bt105 => (if bt105.1 = true then ((q35_.f k bt105.2.1 bt105.2.2.1 bt105.2.2.2).bind fun bt109 => (q36_.j0 k (bt109.1.toList == ([] : List UInt8)) bt109.2.1 bt109.2.2.1 bt109.2.2.2)) else (q36_.j0 k false bt105.2.1 bt105.2.2.1 bt105.2.2.2))))
theorem q36_.mono_l : ∀ k, (∀ y0 y1 y2 y3, LeO (q36_.j0 k y0 y1 y2 y3) (q36_.j0 (k + 1) y0 y1 y2 y3)) ∧ (∀ y0 y1 y2 y3, LeO (q36_.j1 k y0 y1 y2 y3) (q36_.j1 (k + 1) y0 y1 y2 y3)) ∧ (∀ y0 y1 y2 y3, LeO (q36_.l0 k y0 y1 y2 y3) (q36_.l0 (k + 1) y0 y1 y2 y3)) ∧ (∀ y0 y1 y2 y3 y4, LeO (q36_.j3 k y0 y1 y2 y3 y4) (q36_.j3 (k + 1) y0 y1 y2 y3 y4))
  | 0 => ⟨fun _ _ _ _ r h => by simp [q36_.j0] at h, fun _ _ _ _ r h => by simp [q36_.j1] at h, fun _ _ _ _ r h => by simp [q36_.l0] at h, fun _ _ _ _ _ r h => by simp [q36_.j3] at h⟩
  | k + 1 => by
    obtain ⟨ih0, ih1, ih2, ih3⟩ := q36_.mono_l k
    refine ⟨?_, ?_, ?_, ?_⟩
    · intro y0 y1 y2 y3
      unfold q36_.j0
      repeat' first
      | (with_reducible exact ih0 _ _ _ _)
      | (with_reducible exact ih1 _ _ _ _)
      | (with_reducible exact ih2 _ _ _ _)
      | (with_reducible exact ih3 _ _ _ _ _)
      | (with_reducible exact q35_.mono _ _ _ _)
      | (with_reducible exact q33_.mono _ _ _ _)
      | (with_reducible exact LeO.refl _)
      | (with_reducible exact LeO.none _)
      | (with_reducible refine LeO.ite ?_ ?_)
      | (with_reducible refine LeO.bind ?_ (fun _ => ?_))
      | exact ih0 _ _ _ _
      | exact ih1 _ _ _ _
      | exact ih2 _ _ _ _
      | exact ih3 _ _ _ _ _
      | exact q35_.mono _ _ _ _
      | exact q33_.mono _ _ _ _
      | exact LeO.none _
      | refine LeO.ite ?_ ?_
      | refine LeO.bind ?_ (fun _ => ?_)
    · intro y0 y1 y2 y3
      unfold q36_.j1
      repeat' first
      | (with_reducible exact ih0 _ _ _ _)
      | (with_reducible exact ih1 _ _ _ _)
      | (with_reducible exact ih2 _ _ _ _)
      | (with_reducible exact ih3 _ _ _ _ _)
      | (with_reducible exact q35_.mono _ _ _ _)
      | (with_reducible exact q33_.mono _ _ _ _)
      | (with_reducible exact LeO.refl _)
      | (with_reducible exact LeO.none _)
      | (with_reducible refine LeO.ite ?_ ?_)
      | (with_reducible refine LeO.bind ?_ (fun _ => ?_))
      | exact ih0 _ _ _ _
      | exact ih1 _ _ _ _
      | exact ih2 _ _ _ _
      | exact ih3 _ _ _ _ _
      | exact q35_.mono _ _ _ _
      | exact q33_.mono _ _ _ _
      | exact LeO.none _
      | refine LeO.ite ?_ ?_
      | refine LeO.bind ?_ (fun _ => ?_)
    · intro y0 y1 y2 y3
      unfold q36_.l0
      repeat' first
      | (with_reducible exact ih0 _ _ _ _)
      | (with_reducible exact ih1 _ _ _ _)
      | (with_reducible exact ih2 _ _ _ _)
      | (with_reducible exact ih3 _ _ _ _ _)
      | (with_reducible exact q35_.mono _ _ _ _)
      | (with_reducible exact q33_.mono _ _ _ _)
      | (with_reducible exact LeO.refl _)
      | (with_reducible exact LeO.none _)
      | (with_reducible refine LeO.ite ?_ ?_)
      | (with_reducible refine LeO.bind ?_ (fun _ => ?_))
      | exact ih0 _ _ _ _
      | exact ih1 _ _ _ _
      | exact ih2 _ _ _ _
      | exact ih3 _ _ _ _ _
      | exact q35_.mono _ _ _ _
      | exact q33_.mono _ _ _ _
      | exact LeO.none _
      | refine LeO.ite ?_ ?_
      | refine LeO.bind ?_ (fun _ => ?_)
    · intro y0 y1 y2 y3 y4
      unfold q36_.j3
      repeat' first
      | (with_reducible exact ih0 _ _ _ _)
      | (with_reducible exact ih1 _ _ _ _)
      | (with_reducible exact ih2 _ _ _ _)
      | (with_reducible exact ih3 _ _ _ _ _)
      | (with_reducible exact q35_.mono _ _ _ _)
      | (with_reducible exact q33_.mono _ _ _ _)
      | (with_reducible exact LeO.refl _)
      | (with_reducible exact LeO.none _)
      | (with_reducible refine LeO.ite ?_ ?_)
      | (with_reducible refine LeO.bind ?_ (fun _ => ?_))
      | exact ih0 _ _ _ _
      | exact ih1 _ _ _ _
      | exact ih2 _ _ _ _
      | exact ih3 _ _ _ _ _
      | exact q35_.mono _ _ _ _
      | exact q33_.mono _ _ _ _
      | exact LeO.none _
      | refine LeO.ite ?_ ?_
      | refine LeO.bind ?_ (fun _ => ?_)
theorem q36_.mono : ∀ a0 a1 a2 k, LeO (q36_.f k a0 a1 a2) (q36_.f (k + 1) a0 a1 a2) := by
  intro a0 a1 a2 k
  obtain ⟨ih0, ih1, ih2, ih3⟩ := q36_.mono_l k
  unfold q36_.f
  repeat' first
      | (with_reducible exact ih0 _ _ _ _)
      | (with_reducible exact ih1 _ _ _ _)
      | (with_reducible exact ih2 _ _ _ _)
      | (with_reducible exact ih3 _ _ _ _ _)
      | (with_reducible exact q35_.mono _ _ _ _)
      | (with_reducible exact q33_.mono _ _ _ _)
      | (with_reducible exact LeO.refl _)
      | (with_reducible exact LeO.none _)
      | (with_reducible refine LeO.ite ?_ ?_)
      | (with_reducible refine LeO.bind ?_ (fun _ => ?_))
      | exact ih0 _ _ _ _
      | exact ih1 _ _ _ _
      | exact ih2 _ _ _ _
      | exact ih3 _ _ _ _ _
      | exact q35_.mono _ _ _ _
      | exact q33_.mono _ _ _ _
      | exact LeO.none _
      | refine LeO.ite ?_ ?_
      | refine LeO.bind ?_ (fun _ => ?_)
set_option maxHeartbeats 8000000 in
set_option maxRecDepth 100000 in
theorem q36_.calls (k : Nat) (g : Nat) (s0_0 : ByteArray) (s0_1 : Int) (s0_2 : Bool) (r1 : Bool) (r2 : ByteArray) (r3 : Int) (r4 : Bool) (w0 w : World) (hI : IsS94 w0 w g s0_0 s0_1 s0_2) (hB : Below w0.heap.size w0 w) (h : q36_.f k s0_0 s0_1 s0_2 = some (r1, r2, r3, r4)) :
    Calls Tryd.prog 101 #[.pointer (some ⟨g, 0, none⟩)] w fun e w' => e = .returned (.bool r1) ∧ IsS94 w0 w' g r2 r3 r4 ∧ Below w0.heap.size w0 w' ∧ KeepBut w w' g none := by
  have HI0 := Aside0.mk hI
  have HK := Aside0.mk (KeepBut.refl w g none)
  have HL := Aside0.mk hB.size
  clear hI
  have HW0 := Aside0.mk hB.size
  have HB := Aside0.mk hB
  clear hB
  have H : ((q35_.f k s0_0 s0_1 s0_2).bind fun bt101 => (if bt101.1.toList = ([] : List UInt8) then (q36_.j0 k true bt101.2.1 bt101.2.2.1 bt101.2.2.2) else ((q34_.f bt101.2.1 bt101.2.2.1 bt101.2.2.2 (⟨#[58]⟩ : ByteArray)).bind fun bt105 => (if bt105.1 = true then ((q35_.f k bt105.2.1 bt105.2.2.1 bt105.2.2.2).bind fun bt109 => (q36_.j0 k (bt109.1.toList == ([] : List UInt8)) bt109.2.1 bt109.2.2.1 bt109.2.2.2)) else (q36_.j0 k false bt105.2.1 bt105.2.2.1 bt105.2.2.2))))) = some (r1, r2, r3, r4) := h
  clear h
  have HC2 := Aside0.mk H
  clear H
  go_enter Tryd.func101, Tryd.ntmps101
  go_upto_region 1 with (fail)
  repeat (go_quiet (fail); go_upto_region 1 with (fail))
  go_cut [15] (fun v15 wc => ∃ (kq : Nat) (x15_1 : Bool) (x1000_1 : ByteArray) (x1001_1 : Int) (x1002_1 : Bool), v15 = .bool x15_1 ∧ Aside0 (q36_.j0 kq x15_1 x1000_1 x1001_1 x1002_1 = some (r1, r2, r3, r4)) ∧ Aside0 (kq ≤ k) ∧ Aside0 (IsS94 w0 wc g x1000_1 x1001_1 x1002_1) ∧ Aside0 (KeepBut w wc g none) ∧ Aside0 (Below w0.heap.size w0 wc))
  case first =>
    have H := HC2.out
    clear HC2
    replace H := Option.bind_eq_some_iff.mp H
    obtain ⟨⟨t101, t102, t103, t104⟩, A30, H⟩ := H
    replace H : (if t101.toList = ([] : List UInt8) then (q36_.j0 k true t102 t103 t104) else ((q34_.f t102 t103 t104 (⟨#[58]⟩ : ByteArray)).bind fun bt105 => (if bt105.1 = true then ((q35_.f k bt105.2.1 bt105.2.2.1 bt105.2.2.2).bind fun bt109 => (q36_.j0 k (bt109.1.toList == ([] : List UInt8)) bt109.2.1 bt109.2.2.1 bt109.2.2.2)) else (q36_.j0 k false bt105.2.1 bt105.2.2.1 bt105.2.2.2)))) = some (r1, r2, r3, r4) := H
    have A3 := Aside0.mk A30
    clear A30
    by_cases c4 : t101.toList = ([] : List UInt8)
    · rw [if_pos c4] at H
      have c4b0 : (t101.toList == ([] : List UInt8)) = true := beq_iff_eq.mpr c4
      have c4b1 : (t101.toList != ([] : List UInt8)) = false := bne_eq_false_iff_eq.mpr c4
      clear c4
      (first | rw [c4b0] | (simp only [i64_w, i32_w]; rw [c4b0]) | skip)
      have H' := Aside0.mk H
      clear H
      go_wp2_with (first | (go_at_call 100; (with_reducible refine (q35_.calls k g s0_0 s0_1 s0_2 t101 t102 t103 t104 w0 _ ?side1 ?side2 A3.out).mono ?_); (case side1 => repeat (first | (with_reducible first | exact HI0.out | apply IsS94.alloc | apply IsS94.drewN | apply IsS94.drew | apply IsS94.set_0 | apply IsS94.set_1 | apply IsS94.set_2) | exact HI0.out)); (case side2 => repeat (first | (with_reducible first | exact HB.out | apply below_alloc | apply pw_below_drewN | apply below_drew1 | refine below_set ?_ (IsS94.ge HI0.out)) | exact HB.out)); rintro e w5 ⟨rfl, hi, hb, hk⟩; have n0_ := Aside0.mk (KeepBut.trans (by repeat (first | (with_reducible first | exact HK.out | apply KeepBut.set_ | apply keep_drewN | apply keep_drew | apply keep_alloc) | exact HK.out)) hk (.inl rfl)); have n1_ := Aside0.mk (hb); have n2_ := Aside0.mk (hi); clear HK; clear HB; clear HI0; have HK := n0_; have HB := n1_; have HI0 := n2_; clear n0_ n1_ n2_; (try clear hb); (try clear hb2); (try clear hk); (try clear hi)))
      repeat (go_quiet (first | (go_at_call 100; (with_reducible refine (q35_.calls k g s0_0 s0_1 s0_2 t101 t102 t103 t104 w0 _ ?side1 ?side2 A3.out).mono ?_); (case side1 => repeat (first | (with_reducible first | exact HI0.out | apply IsS94.alloc | apply IsS94.drewN | apply IsS94.drew | apply IsS94.set_0 | apply IsS94.set_1 | apply IsS94.set_2) | exact HI0.out)); (case side2 => repeat (first | (with_reducible first | exact HB.out | apply below_alloc | apply pw_below_drewN | apply below_drew1 | refine below_set ?_ (IsS94.ge HI0.out)) | exact HB.out)); rintro e w5 ⟨rfl, hi, hb, hk⟩; have n0_ := Aside0.mk (KeepBut.trans (by repeat (first | (with_reducible first | exact HK.out | apply KeepBut.set_ | apply keep_drewN | apply keep_drew | apply keep_alloc) | exact HK.out)) hk (.inl rfl)); have n1_ := Aside0.mk (hb); have n2_ := Aside0.mk (hi); clear HK; clear HB; clear HI0; have HK := n0_; have HB := n1_; have HI0 := n2_; clear n0_ n1_ n2_; (try clear hb); (try clear hb2); (try clear hk); (try clear hi))); try go_wp2_with (first | (go_at_call 100; (with_reducible refine (q35_.calls k g s0_0 s0_1 s0_2 t101 t102 t103 t104 w0 _ ?side1 ?side2 A3.out).mono ?_); (case side1 => repeat (first | (with_reducible first | exact HI0.out | apply IsS94.alloc | apply IsS94.drewN | apply IsS94.drew | apply IsS94.set_0 | apply IsS94.set_1 | apply IsS94.set_2) | exact HI0.out)); (case side2 => repeat (first | (with_reducible first | exact HB.out | apply below_alloc | apply pw_below_drewN | apply below_drew1 | refine below_set ?_ (IsS94.ge HI0.out)) | exact HB.out)); rintro e w5 ⟨rfl, hi, hb, hk⟩; have n0_ := Aside0.mk (KeepBut.trans (by repeat (first | (with_reducible first | exact HK.out | apply KeepBut.set_ | apply keep_drewN | apply keep_drew | apply keep_alloc) | exact HK.out)) hk (.inl rfl)); have n1_ := Aside0.mk (hb); have n2_ := Aside0.mk (hi); clear HK; clear HB; clear HI0; have HK := n0_; have HB := n1_; have HI0 := n2_; clear n0_ n1_ n2_; (try clear hb); (try clear hb2); (try clear hk); (try clear hi))))
      go_meet
      case rel => exact ⟨_, (true), (t102), (t103), (t104), (by first | rfl | (simp; done) | (simp [*]; done)), H', ⟨by first | omega | exact Nat.le_refl _⟩, ⟨by repeat (first | (with_reducible first | exact HI0.out | apply IsS94.alloc | apply IsS94.drewN | apply IsS94.drew | apply IsS94.set_0 | apply IsS94.set_1 | apply IsS94.set_2) | exact HI0.out)⟩, ⟨by repeat (first | (with_reducible first | exact HK.out | apply KeepBut.set_ | apply keep_drewN | apply keep_drew | apply keep_alloc) | exact HK.out)⟩, ⟨by repeat (first | (with_reducible first | exact HB.out | apply below_alloc | apply pw_below_drewN | apply below_drew1 | refine below_set ?_ (IsS94.ge HI0.out)) | exact HB.out)⟩⟩
    · rw [if_neg c4] at H
      have c4b0 : (t101.toList == ([] : List UInt8)) = false := beq_eq_false_iff_ne.mpr c4
      have c4b1 : (t101.toList != ([] : List UInt8)) = true := bne_iff_ne.mpr c4
      (first | rw [c4b0] | (simp only [i64_w, i32_w]; rw [c4b0]) | skip)
      replace H := Option.bind_eq_some_iff.mp H
      obtain ⟨⟨t105, t106, t107, t108⟩, A60, H⟩ := H
      replace H : (if t105 = true then ((q35_.f k t106 t107 t108).bind fun bt109 => (q36_.j0 k (bt109.1.toList == ([] : List UInt8)) bt109.2.1 bt109.2.2.1 bt109.2.2.2)) else (q36_.j0 k false t106 t107 t108)) = some (r1, r2, r3, r4) := H
      have A6 := Aside0.mk A60
      clear A60
      by_cases c7 : t105 = true
      · subst c7
        have H1 : ((q35_.f k t106 t107 t108).bind fun bt109 => (q36_.j0 k (bt109.1.toList == ([] : List UInt8)) bt109.2.1 bt109.2.2.1 bt109.2.2.2)) = some (r1, r2, r3, r4) := by rw [if_pos rfl] at H; exact H
        clear H
        have H := H1
        clear H1
        replace H := Option.bind_eq_some_iff.mp H
        obtain ⟨⟨t109, t110, t111, t112⟩, A80, H⟩ := H
        replace H : (q36_.j0 k (t109.toList == ([] : List UInt8)) t110 t111 t112) = some (r1, r2, r3, r4) := H
        have A8 := Aside0.mk A80
        clear A80
        have H' := Aside0.mk H
        clear H
        go_wp2_with (first | (go_at_call 100; (with_reducible refine (q35_.calls k g s0_0 s0_1 s0_2 t101 t102 t103 t104 w0 _ ?side1 ?side2 A3.out).mono ?_); (case side1 => repeat (first | (with_reducible first | exact HI0.out | apply IsS94.alloc | apply IsS94.drewN | apply IsS94.drew | apply IsS94.set_0 | apply IsS94.set_1 | apply IsS94.set_2) | exact HI0.out)); (case side2 => repeat (first | (with_reducible first | exact HB.out | apply below_alloc | apply pw_below_drewN | apply below_drew1 | refine below_set ?_ (IsS94.ge HI0.out)) | exact HB.out)); rintro e w9 ⟨rfl, hi, hb, hk⟩; have n0_ := Aside0.mk (KeepBut.trans (by repeat (first | (with_reducible first | exact HK.out | apply KeepBut.set_ | apply keep_drewN | apply keep_drew | apply keep_alloc) | exact HK.out)) hk (.inl rfl)); have n1_ := Aside0.mk (hb); have n2_ := Aside0.mk (hi); clear HK; clear HB; clear HI0; have HK := n0_; have HB := n1_; have HI0 := n2_; clear n0_ n1_ n2_; (try clear hb); (try clear hb2); (try clear hk); (try clear hi)) | (go_at_call 99; (with_reducible refine (q34_.calls g t102 t103 t104 (⟨#[58]⟩ : ByteArray) true t106 t107 t108 w0 _ ?side1 ?side2 A6.out).mono ?_); (case side1 => repeat (first | (with_reducible first | exact HI0.out | apply IsS94.alloc | apply IsS94.drewN | apply IsS94.drew | apply IsS94.set_0 | apply IsS94.set_1 | apply IsS94.set_2) | exact HI0.out)); (case side2 => repeat (first | (with_reducible first | exact HB.out | apply below_alloc | apply pw_below_drewN | apply below_drew1 | refine below_set ?_ (IsS94.ge HI0.out)) | exact HB.out)); rintro e w10 ⟨rfl, hi, hb, hk⟩; have n0_ := Aside0.mk (KeepBut.trans (by repeat (first | (with_reducible first | exact HK.out | apply KeepBut.set_ | apply keep_drewN | apply keep_drew | apply keep_alloc) | exact HK.out)) hk (.inl rfl)); have n1_ := Aside0.mk (hb); have n2_ := Aside0.mk (hi); clear HK; clear HB; clear HI0; have HK := n0_; have HB := n1_; have HI0 := n2_; clear n0_ n1_ n2_; (try clear hb); (try clear hb2); (try clear hk); (try clear hi)) | (go_at_call 100; (with_reducible refine (q35_.calls k g t106 t107 t108 t109 t110 t111 t112 w0 _ ?side1 ?side2 A8.out).mono ?_); (case side1 => repeat (first | (with_reducible first | exact HI0.out | apply IsS94.alloc | apply IsS94.drewN | apply IsS94.drew | apply IsS94.set_0 | apply IsS94.set_1 | apply IsS94.set_2) | exact HI0.out)); (case side2 => repeat (first | (with_reducible first | exact HB.out | apply below_alloc | apply pw_below_drewN | apply below_drew1 | refine below_set ?_ (IsS94.ge HI0.out)) | exact HB.out)); rintro e w11 ⟨rfl, hi, hb, hk⟩; have n0_ := Aside0.mk (KeepBut.trans (by repeat (first | (with_reducible first | exact HK.out | apply KeepBut.set_ | apply keep_drewN | apply keep_drew | apply keep_alloc) | exact HK.out)) hk (.inl rfl)); have n1_ := Aside0.mk (hb); have n2_ := Aside0.mk (hi); clear HK; clear HB; clear HI0; have HK := n0_; have HB := n1_; have HI0 := n2_; clear n0_ n1_ n2_; (try clear hb); (try clear hb2); (try clear hk); (try clear hi)))
        repeat (go_quiet (first | (go_at_call 100; (with_reducible refine (q35_.calls k g s0_0 s0_1 s0_2 t101 t102 t103 t104 w0 _ ?side1 ?side2 A3.out).mono ?_); (case side1 => repeat (first | (with_reducible first | exact HI0.out | apply IsS94.alloc | apply IsS94.drewN | apply IsS94.drew | apply IsS94.set_0 | apply IsS94.set_1 | apply IsS94.set_2) | exact HI0.out)); (case side2 => repeat (first | (with_reducible first | exact HB.out | apply below_alloc | apply pw_below_drewN | apply below_drew1 | refine below_set ?_ (IsS94.ge HI0.out)) | exact HB.out)); rintro e w9 ⟨rfl, hi, hb, hk⟩; have n0_ := Aside0.mk (KeepBut.trans (by repeat (first | (with_reducible first | exact HK.out | apply KeepBut.set_ | apply keep_drewN | apply keep_drew | apply keep_alloc) | exact HK.out)) hk (.inl rfl)); have n1_ := Aside0.mk (hb); have n2_ := Aside0.mk (hi); clear HK; clear HB; clear HI0; have HK := n0_; have HB := n1_; have HI0 := n2_; clear n0_ n1_ n2_; (try clear hb); (try clear hb2); (try clear hk); (try clear hi)) | (go_at_call 99; (with_reducible refine (q34_.calls g t102 t103 t104 (⟨#[58]⟩ : ByteArray) true t106 t107 t108 w0 _ ?side1 ?side2 A6.out).mono ?_); (case side1 => repeat (first | (with_reducible first | exact HI0.out | apply IsS94.alloc | apply IsS94.drewN | apply IsS94.drew | apply IsS94.set_0 | apply IsS94.set_1 | apply IsS94.set_2) | exact HI0.out)); (case side2 => repeat (first | (with_reducible first | exact HB.out | apply below_alloc | apply pw_below_drewN | apply below_drew1 | refine below_set ?_ (IsS94.ge HI0.out)) | exact HB.out)); rintro e w10 ⟨rfl, hi, hb, hk⟩; have n0_ := Aside0.mk (KeepBut.trans (by repeat (first | (with_reducible first | exact HK.out | apply KeepBut.set_ | apply keep_drewN | apply keep_drew | apply keep_alloc) | exact HK.out)) hk (.inl rfl)); have n1_ := Aside0.mk (hb); have n2_ := Aside0.mk (hi); clear HK; clear HB; clear HI0; have HK := n0_; have HB := n1_; have HI0 := n2_; clear n0_ n1_ n2_; (try clear hb); (try clear hb2); (try clear hk); (try clear hi)) | (go_at_call 100; (with_reducible refine (q35_.calls k g t106 t107 t108 t109 t110 t111 t112 w0 _ ?side1 ?side2 A8.out).mono ?_); (case side1 => repeat (first | (with_reducible first | exact HI0.out | apply IsS94.alloc | apply IsS94.drewN | apply IsS94.drew | apply IsS94.set_0 | apply IsS94.set_1 | apply IsS94.set_2) | exact HI0.out)); (case side2 => repeat (first | (with_reducible first | exact HB.out | apply below_alloc | apply pw_below_drewN | apply below_drew1 | refine below_set ?_ (IsS94.ge HI0.out)) | exact HB.out)); rintro e w11 ⟨rfl, hi, hb, hk⟩; have n0_ := Aside0.mk (KeepBut.trans (by repeat (first | (with_reducible first | exact HK.out | apply KeepBut.set_ | apply keep_drewN | apply keep_drew | apply keep_alloc) | exact HK.out)) hk (.inl rfl)); have n1_ := Aside0.mk (hb); have n2_ := Aside0.mk (hi); clear HK; clear HB; clear HI0; have HK := n0_; have HB := n1_; have HI0 := n2_; clear n0_ n1_ n2_; (try clear hb); (try clear hb2); (try clear hk); (try clear hi))); try go_wp2_with (first | (go_at_call 100; (with_reducible refine (q35_.calls k g s0_0 s0_1 s0_2 t101 t102 t103 t104 w0 _ ?side1 ?side2 A3.out).mono ?_); (case side1 => repeat (first | (with_reducible first | exact HI0.out | apply IsS94.alloc | apply IsS94.drewN | apply IsS94.drew | apply IsS94.set_0 | apply IsS94.set_1 | apply IsS94.set_2) | exact HI0.out)); (case side2 => repeat (first | (with_reducible first | exact HB.out | apply below_alloc | apply pw_below_drewN | apply below_drew1 | refine below_set ?_ (IsS94.ge HI0.out)) | exact HB.out)); rintro e w9 ⟨rfl, hi, hb, hk⟩; have n0_ := Aside0.mk (KeepBut.trans (by repeat (first | (with_reducible first | exact HK.out | apply KeepBut.set_ | apply keep_drewN | apply keep_drew | apply keep_alloc) | exact HK.out)) hk (.inl rfl)); have n1_ := Aside0.mk (hb); have n2_ := Aside0.mk (hi); clear HK; clear HB; clear HI0; have HK := n0_; have HB := n1_; have HI0 := n2_; clear n0_ n1_ n2_; (try clear hb); (try clear hb2); (try clear hk); (try clear hi)) | (go_at_call 99; (with_reducible refine (q34_.calls g t102 t103 t104 (⟨#[58]⟩ : ByteArray) true t106 t107 t108 w0 _ ?side1 ?side2 A6.out).mono ?_); (case side1 => repeat (first | (with_reducible first | exact HI0.out | apply IsS94.alloc | apply IsS94.drewN | apply IsS94.drew | apply IsS94.set_0 | apply IsS94.set_1 | apply IsS94.set_2) | exact HI0.out)); (case side2 => repeat (first | (with_reducible first | exact HB.out | apply below_alloc | apply pw_below_drewN | apply below_drew1 | refine below_set ?_ (IsS94.ge HI0.out)) | exact HB.out)); rintro e w10 ⟨rfl, hi, hb, hk⟩; have n0_ := Aside0.mk (KeepBut.trans (by repeat (first | (with_reducible first | exact HK.out | apply KeepBut.set_ | apply keep_drewN | apply keep_drew | apply keep_alloc) | exact HK.out)) hk (.inl rfl)); have n1_ := Aside0.mk (hb); have n2_ := Aside0.mk (hi); clear HK; clear HB; clear HI0; have HK := n0_; have HB := n1_; have HI0 := n2_; clear n0_ n1_ n2_; (try clear hb); (try clear hb2); (try clear hk); (try clear hi)) | (go_at_call 100; (with_reducible refine (q35_.calls k g t106 t107 t108 t109 t110 t111 t112 w0 _ ?side1 ?side2 A8.out).mono ?_); (case side1 => repeat (first | (with_reducible first | exact HI0.out | apply IsS94.alloc | apply IsS94.drewN | apply IsS94.drew | apply IsS94.set_0 | apply IsS94.set_1 | apply IsS94.set_2) | exact HI0.out)); (case side2 => repeat (first | (with_reducible first | exact HB.out | apply below_alloc | apply pw_below_drewN | apply below_drew1 | refine below_set ?_ (IsS94.ge HI0.out)) | exact HB.out)); rintro e w11 ⟨rfl, hi, hb, hk⟩; have n0_ := Aside0.mk (KeepBut.trans (by repeat (first | (with_reducible first | exact HK.out | apply KeepBut.set_ | apply keep_drewN | apply keep_drew | apply keep_alloc) | exact HK.out)) hk (.inl rfl)); have n1_ := Aside0.mk (hb); have n2_ := Aside0.mk (hi); clear HK; clear HB; clear HI0; have HK := n0_; have HB := n1_; have HI0 := n2_; clear n0_ n1_ n2_; (try clear hb); (try clear hb2); (try clear hk); (try clear hi))))
        go_meet
        case rel => exact ⟨_, ((t109.toList == ([] : List UInt8))), (t110), (t111), (t112), (by first | rfl | (simp; done) | (simp [*]; done)), H', ⟨by first | omega | exact Nat.le_refl _⟩, ⟨by repeat (first | (with_reducible first | exact HI0.out | apply IsS94.alloc | apply IsS94.drewN | apply IsS94.drew | apply IsS94.set_0 | apply IsS94.set_1 | apply IsS94.set_2) | exact HI0.out)⟩, ⟨by repeat (first | (with_reducible first | exact HK.out | apply KeepBut.set_ | apply keep_drewN | apply keep_drew | apply keep_alloc) | exact HK.out)⟩, ⟨by repeat (first | (with_reducible first | exact HB.out | apply below_alloc | apply pw_below_drewN | apply below_drew1 | refine below_set ?_ (IsS94.ge HI0.out)) | exact HB.out)⟩⟩
      · replace c7 := Bool.eq_false_iff.mpr c7
        subst c7
        have H1 : (q36_.j0 k false t106 t107 t108) = some (r1, r2, r3, r4) := by rw [if_neg (show ¬ (false = true) by decide)] at H; exact H
        clear H
        have H := H1
        clear H1
        have H' := Aside0.mk H
        clear H
        go_wp2_with (first | (go_at_call 100; (with_reducible refine (q35_.calls k g s0_0 s0_1 s0_2 t101 t102 t103 t104 w0 _ ?side1 ?side2 A3.out).mono ?_); (case side1 => repeat (first | (with_reducible first | exact HI0.out | apply IsS94.alloc | apply IsS94.drewN | apply IsS94.drew | apply IsS94.set_0 | apply IsS94.set_1 | apply IsS94.set_2) | exact HI0.out)); (case side2 => repeat (first | (with_reducible first | exact HB.out | apply below_alloc | apply pw_below_drewN | apply below_drew1 | refine below_set ?_ (IsS94.ge HI0.out)) | exact HB.out)); rintro e w12 ⟨rfl, hi, hb, hk⟩; have n0_ := Aside0.mk (KeepBut.trans (by repeat (first | (with_reducible first | exact HK.out | apply KeepBut.set_ | apply keep_drewN | apply keep_drew | apply keep_alloc) | exact HK.out)) hk (.inl rfl)); have n1_ := Aside0.mk (hb); have n2_ := Aside0.mk (hi); clear HK; clear HB; clear HI0; have HK := n0_; have HB := n1_; have HI0 := n2_; clear n0_ n1_ n2_; (try clear hb); (try clear hb2); (try clear hk); (try clear hi)) | (go_at_call 99; (with_reducible refine (q34_.calls g t102 t103 t104 (⟨#[58]⟩ : ByteArray) false t106 t107 t108 w0 _ ?side1 ?side2 A6.out).mono ?_); (case side1 => repeat (first | (with_reducible first | exact HI0.out | apply IsS94.alloc | apply IsS94.drewN | apply IsS94.drew | apply IsS94.set_0 | apply IsS94.set_1 | apply IsS94.set_2) | exact HI0.out)); (case side2 => repeat (first | (with_reducible first | exact HB.out | apply below_alloc | apply pw_below_drewN | apply below_drew1 | refine below_set ?_ (IsS94.ge HI0.out)) | exact HB.out)); rintro e w13 ⟨rfl, hi, hb, hk⟩; have n0_ := Aside0.mk (KeepBut.trans (by repeat (first | (with_reducible first | exact HK.out | apply KeepBut.set_ | apply keep_drewN | apply keep_drew | apply keep_alloc) | exact HK.out)) hk (.inl rfl)); have n1_ := Aside0.mk (hb); have n2_ := Aside0.mk (hi); clear HK; clear HB; clear HI0; have HK := n0_; have HB := n1_; have HI0 := n2_; clear n0_ n1_ n2_; (try clear hb); (try clear hb2); (try clear hk); (try clear hi)))
        repeat (go_quiet (first | (go_at_call 100; (with_reducible refine (q35_.calls k g s0_0 s0_1 s0_2 t101 t102 t103 t104 w0 _ ?side1 ?side2 A3.out).mono ?_); (case side1 => repeat (first | (with_reducible first | exact HI0.out | apply IsS94.alloc | apply IsS94.drewN | apply IsS94.drew | apply IsS94.set_0 | apply IsS94.set_1 | apply IsS94.set_2) | exact HI0.out)); (case side2 => repeat (first | (with_reducible first | exact HB.out | apply below_alloc | apply pw_below_drewN | apply below_drew1 | refine below_set ?_ (IsS94.ge HI0.out)) | exact HB.out)); rintro e w12 ⟨rfl, hi, hb, hk⟩; have n0_ := Aside0.mk (KeepBut.trans (by repeat (first | (with_reducible first | exact HK.out | apply KeepBut.set_ | apply keep_drewN | apply keep_drew | apply keep_alloc) | exact HK.out)) hk (.inl rfl)); have n1_ := Aside0.mk (hb); have n2_ := Aside0.mk (hi); clear HK; clear HB; clear HI0; have HK := n0_; have HB := n1_; have HI0 := n2_; clear n0_ n1_ n2_; (try clear hb); (try clear hb2); (try clear hk); (try clear hi)) | (go_at_call 99; (with_reducible refine (q34_.calls g t102 t103 t104 (⟨#[58]⟩ : ByteArray) false t106 t107 t108 w0 _ ?side1 ?side2 A6.out).mono ?_); (case side1 => repeat (first | (with_reducible first | exact HI0.out | apply IsS94.alloc | apply IsS94.drewN | apply IsS94.drew | apply IsS94.set_0 | apply IsS94.set_1 | apply IsS94.set_2) | exact HI0.out)); (case side2 => repeat (first | (with_reducible first | exact HB.out | apply below_alloc | apply pw_below_drewN | apply below_drew1 | refine below_set ?_ (IsS94.ge HI0.out)) | exact HB.out)); rintro e w13 ⟨rfl, hi, hb, hk⟩; have n0_ := Aside0.mk (KeepBut.trans (by repeat (first | (with_reducible first | exact HK.out | apply KeepBut.set_ | apply keep_drewN | apply keep_drew | apply keep_alloc) | exact HK.out)) hk (.inl rfl)); have n1_ := Aside0.mk (hb); have n2_ := Aside0.mk (hi); clear HK; clear HB; clear HI0; have HK := n0_; have HB := n1_; have HI0 := n2_; clear n0_ n1_ n2_; (try clear hb); (try clear hb2); (try clear hk); (try clear hi))); try go_wp2_with (first | (go_at_call 100; (with_reducible refine (q35_.calls k g s0_0 s0_1 s0_2 t101 t102 t103 t104 w0 _ ?side1 ?side2 A3.out).mono ?_); (case side1 => repeat (first | (with_reducible first | exact HI0.out | apply IsS94.alloc | apply IsS94.drewN | apply IsS94.drew | apply IsS94.set_0 | apply IsS94.set_1 | apply IsS94.set_2) | exact HI0.out)); (case side2 => repeat (first | (with_reducible first | exact HB.out | apply below_alloc | apply pw_below_drewN | apply below_drew1 | refine below_set ?_ (IsS94.ge HI0.out)) | exact HB.out)); rintro e w12 ⟨rfl, hi, hb, hk⟩; have n0_ := Aside0.mk (KeepBut.trans (by repeat (first | (with_reducible first | exact HK.out | apply KeepBut.set_ | apply keep_drewN | apply keep_drew | apply keep_alloc) | exact HK.out)) hk (.inl rfl)); have n1_ := Aside0.mk (hb); have n2_ := Aside0.mk (hi); clear HK; clear HB; clear HI0; have HK := n0_; have HB := n1_; have HI0 := n2_; clear n0_ n1_ n2_; (try clear hb); (try clear hb2); (try clear hk); (try clear hi)) | (go_at_call 99; (with_reducible refine (q34_.calls g t102 t103 t104 (⟨#[58]⟩ : ByteArray) false t106 t107 t108 w0 _ ?side1 ?side2 A6.out).mono ?_); (case side1 => repeat (first | (with_reducible first | exact HI0.out | apply IsS94.alloc | apply IsS94.drewN | apply IsS94.drew | apply IsS94.set_0 | apply IsS94.set_1 | apply IsS94.set_2) | exact HI0.out)); (case side2 => repeat (first | (with_reducible first | exact HB.out | apply below_alloc | apply pw_below_drewN | apply below_drew1 | refine below_set ?_ (IsS94.ge HI0.out)) | exact HB.out)); rintro e w13 ⟨rfl, hi, hb, hk⟩; have n0_ := Aside0.mk (KeepBut.trans (by repeat (first | (with_reducible first | exact HK.out | apply KeepBut.set_ | apply keep_drewN | apply keep_drew | apply keep_alloc) | exact HK.out)) hk (.inl rfl)); have n1_ := Aside0.mk (hb); have n2_ := Aside0.mk (hi); clear HK; clear HB; clear HI0; have HK := n0_; have HB := n1_; have HI0 := n2_; clear n0_ n1_ n2_; (try clear hb); (try clear hb2); (try clear hk); (try clear hi))))
        go_meet
        case rel => exact ⟨_, (false), (t106), (t107), (t108), (by first | rfl | (simp; done) | (simp [*]; done)), H', ⟨by first | omega | exact Nat.le_refl _⟩, ⟨by repeat (first | (with_reducible first | exact HI0.out | apply IsS94.alloc | apply IsS94.drewN | apply IsS94.drew | apply IsS94.set_0 | apply IsS94.set_1 | apply IsS94.set_2) | exact HI0.out)⟩, ⟨by repeat (first | (with_reducible first | exact HK.out | apply KeepBut.set_ | apply keep_drewN | apply keep_drew | apply keep_alloc) | exact HK.out)⟩, ⟨by repeat (first | (with_reducible first | exact HB.out | apply below_alloc | apply pw_below_drewN | apply below_drew1 | refine below_set ?_ (IsS94.ge HI0.out)) | exact HB.out)⟩⟩
  case rest =>
    clear HC2
    try clear c1
    try clear p2
    try clear c4
    try clear c4b0
    try clear c4b1
    try clear c7
    try clear c10
    obtain ⟨kq, x15_1, x1000_1, x1001_1, x1002_1, rfl, HA, HJ1, HI0, HK, HB⟩ := hcut
    cases kq with
    | zero => exact absurd HA.out (by simp [q36_.j0])
    | succ kj1 =>
      have H := HA.out
      clear HA
      simp only [q36_.j0] at H
      by_cases c14 : x15_1 = true
      · subst c14
        have H1 : (some (false, x1000_1, x1001_1, x1002_1)) = some (r1, r2, r3, r4) := by rw [if_pos rfl] at H; exact H
        clear H
        have H := H1
        clear H1
        simp only [Option.some.injEq, Prod.mk.injEq] at H
        obtain ⟨rfl, rfl, rfl, rfl⟩ := H
        go_wp2
        repeat (go_quiet (fail); try go_wp2)
        go_ret
        exact ⟨by first | rfl | (simp [errW_none, errW_some] <;> rfl) | (simp [*, errW_none, errW_some] <;> rfl), by repeat (first | (with_reducible first | exact HI0.out | apply IsS94.alloc | apply IsS94.drewN | apply IsS94.drew | apply IsS94.set_0 | apply IsS94.set_1 | apply IsS94.set_2) | exact HI0.out), by repeat (first | (with_reducible first | exact HB.out | apply below_alloc | apply pw_below_drewN | apply below_drew1 | refine below_set ?_ (IsS94.ge HI0.out)) | exact HB.out), by repeat (first | (with_reducible first | exact HK.out | apply KeepBut.set_ | apply keep_drewN | apply keep_drew | apply keep_alloc) | exact HK.out)⟩
      · replace c14 := Bool.eq_false_iff.mpr c14
        subst c14
        have H1 : ((q33_.f kj1 x1000_1 x1001_1 x1002_1).bind fun bt113 => ((q34_.f bt113.2.1 bt113.2.2.1 bt113.2.2.2 (⟨#[61]⟩ : ByteArray)).bind fun bt117 => (if bt117.1 = true then ((q33_.f kj1 bt117.2.1 bt117.2.2.1 bt117.2.2.2).bind fun bt121 => (if bt121.2.2.1 ≥ (bt121.2.1.size : Int) then (q36_.j1 kj1 true bt121.2.1 bt121.2.2.1 bt121.2.2.2) else (if 0 ≤ bt121.2.2.1 then (if bt121.2.2.1 < (bt121.2.1.size : Int) then (if (bt bt121.2.1 bt121.2.2.1) = 34 then (q36_.j1 kj1 false bt121.2.1 bt121.2.2.1 bt121.2.2.2) else (q36_.j1 kj1 ((bt bt121.2.1 bt121.2.2.1) != 39) bt121.2.1 bt121.2.2.1 bt121.2.2.2)) else (none)) else (none)))) else (some (false, bt117.2.1, bt117.2.2.1, bt117.2.2.2))))) = some (r1, r2, r3, r4) := by rw [if_neg (show ¬ (false = true) by decide)] at H; exact H
        clear H
        have H := H1
        clear H1
        replace H := Option.bind_eq_some_iff.mp H
        obtain ⟨⟨t113, t114, t115, t116⟩, A150, H⟩ := H
        replace H : ((q34_.f t114 t115 t116 (⟨#[61]⟩ : ByteArray)).bind fun bt117 => (if bt117.1 = true then ((q33_.f kj1 bt117.2.1 bt117.2.2.1 bt117.2.2.2).bind fun bt121 => (if bt121.2.2.1 ≥ (bt121.2.1.size : Int) then (q36_.j1 kj1 true bt121.2.1 bt121.2.2.1 bt121.2.2.2) else (if 0 ≤ bt121.2.2.1 then (if bt121.2.2.1 < (bt121.2.1.size : Int) then (if (bt bt121.2.1 bt121.2.2.1) = 34 then (q36_.j1 kj1 false bt121.2.1 bt121.2.2.1 bt121.2.2.2) else (q36_.j1 kj1 ((bt bt121.2.1 bt121.2.2.1) != 39) bt121.2.1 bt121.2.2.1 bt121.2.2.2)) else (none)) else (none)))) else (some (false, bt117.2.1, bt117.2.2.1, bt117.2.2.2)))) = some (r1, r2, r3, r4) := H
        have A15 := Aside0.mk A150
        clear A150
        replace H := Option.bind_eq_some_iff.mp H
        obtain ⟨⟨t117, t118, t119, t120⟩, A160, H⟩ := H
        replace H : (if t117 = true then ((q33_.f kj1 t118 t119 t120).bind fun bt121 => (if bt121.2.2.1 ≥ (bt121.2.1.size : Int) then (q36_.j1 kj1 true bt121.2.1 bt121.2.2.1 bt121.2.2.2) else (if 0 ≤ bt121.2.2.1 then (if bt121.2.2.1 < (bt121.2.1.size : Int) then (if (bt bt121.2.1 bt121.2.2.1) = 34 then (q36_.j1 kj1 false bt121.2.1 bt121.2.2.1 bt121.2.2.2) else (q36_.j1 kj1 ((bt bt121.2.1 bt121.2.2.1) != 39) bt121.2.1 bt121.2.2.1 bt121.2.2.2)) else (none)) else (none)))) else (some (false, t118, t119, t120))) = some (r1, r2, r3, r4) := H
        have A16 := Aside0.mk A160
        clear A160
        by_cases c17 : t117 = true
        · subst c17
          have H1 : ((q33_.f kj1 t118 t119 t120).bind fun bt121 => (if bt121.2.2.1 ≥ (bt121.2.1.size : Int) then (q36_.j1 kj1 true bt121.2.1 bt121.2.2.1 bt121.2.2.2) else (if 0 ≤ bt121.2.2.1 then (if bt121.2.2.1 < (bt121.2.1.size : Int) then (if (bt bt121.2.1 bt121.2.2.1) = 34 then (q36_.j1 kj1 false bt121.2.1 bt121.2.2.1 bt121.2.2.2) else (q36_.j1 kj1 ((bt bt121.2.1 bt121.2.2.1) != 39) bt121.2.1 bt121.2.2.1 bt121.2.2.2)) else (none)) else (none)))) = some (r1, r2, r3, r4) := by rw [if_pos rfl] at H; exact H
          clear H
          have H := H1
          clear H1
          replace H := Option.bind_eq_some_iff.mp H
          obtain ⟨⟨t121, t122, t123, t124⟩, A180, H⟩ := H
          replace H : (if t123 ≥ (t122.size : Int) then (q36_.j1 kj1 true t122 t123 t124) else (if 0 ≤ t123 then (if t123 < (t122.size : Int) then (if (bt t122 t123) = 34 then (q36_.j1 kj1 false t122 t123 t124) else (q36_.j1 kj1 ((bt t122 t123) != 39) t122 t123 t124)) else (none)) else (none))) = some (r1, r2, r3, r4) := H
          have A18 := Aside0.mk A180
          clear A180
          have HC19 := Aside0.mk H
          clear H
          go_upto_region 7 with (first | (go_at_call 52; (with_reducible refine (q33_.calls kj1 g x1000_1 x1001_1 x1002_1 t113 t114 t115 t116 w0 _ ?side1 ?side2 A15.out).mono ?_); (case side1 => repeat (first | (with_reducible first | exact HI0.out | apply IsS94.alloc | apply IsS94.drewN | apply IsS94.drew | apply IsS94.set_0 | apply IsS94.set_1 | apply IsS94.set_2) | exact HI0.out)); (case side2 => repeat (first | (with_reducible first | exact HB.out | apply below_alloc | apply pw_below_drewN | apply below_drew1 | refine below_set ?_ (IsS94.ge HI0.out)) | exact HB.out)); rintro e w20 ⟨rfl, hi, hb, hk⟩; have n0_ := Aside0.mk (KeepBut.trans (by repeat (first | (with_reducible first | exact HK.out | apply KeepBut.set_ | apply keep_drewN | apply keep_drew | apply keep_alloc) | exact HK.out)) hk (.inl rfl)); have n1_ := Aside0.mk (hb); have n2_ := Aside0.mk (hi); clear HK; clear HB; clear HI0; have HK := n0_; have HB := n1_; have HI0 := n2_; clear n0_ n1_ n2_; (try clear hb); (try clear hb2); (try clear hk); (try clear hi)) | (go_at_call 99; (with_reducible refine (q34_.calls g t114 t115 t116 (⟨#[61]⟩ : ByteArray) true t118 t119 t120 w0 _ ?side1 ?side2 A16.out).mono ?_); (case side1 => repeat (first | (with_reducible first | exact HI0.out | apply IsS94.alloc | apply IsS94.drewN | apply IsS94.drew | apply IsS94.set_0 | apply IsS94.set_1 | apply IsS94.set_2) | exact HI0.out)); (case side2 => repeat (first | (with_reducible first | exact HB.out | apply below_alloc | apply pw_below_drewN | apply below_drew1 | refine below_set ?_ (IsS94.ge HI0.out)) | exact HB.out)); rintro e w21 ⟨rfl, hi, hb, hk⟩; have n0_ := Aside0.mk (KeepBut.trans (by repeat (first | (with_reducible first | exact HK.out | apply KeepBut.set_ | apply keep_drewN | apply keep_drew | apply keep_alloc) | exact HK.out)) hk (.inl rfl)); have n1_ := Aside0.mk (hb); have n2_ := Aside0.mk (hi); clear HK; clear HB; clear HI0; have HK := n0_; have HB := n1_; have HI0 := n2_; clear n0_ n1_ n2_; (try clear hb); (try clear hb2); (try clear hk); (try clear hi)) | (go_at_call 52; (with_reducible refine (q33_.calls kj1 g t118 t119 t120 t121 t122 t123 t124 w0 _ ?side1 ?side2 A18.out).mono ?_); (case side1 => repeat (first | (with_reducible first | exact HI0.out | apply IsS94.alloc | apply IsS94.drewN | apply IsS94.drew | apply IsS94.set_0 | apply IsS94.set_1 | apply IsS94.set_2) | exact HI0.out)); (case side2 => repeat (first | (with_reducible first | exact HB.out | apply below_alloc | apply pw_below_drewN | apply below_drew1 | refine below_set ?_ (IsS94.ge HI0.out)) | exact HB.out)); rintro e w22 ⟨rfl, hi, hb, hk⟩; have n0_ := Aside0.mk (KeepBut.trans (by repeat (first | (with_reducible first | exact HK.out | apply KeepBut.set_ | apply keep_drewN | apply keep_drew | apply keep_alloc) | exact HK.out)) hk (.inl rfl)); have n1_ := Aside0.mk (hb); have n2_ := Aside0.mk (hi); clear HK; clear HB; clear HI0; have HK := n0_; have HB := n1_; have HI0 := n2_; clear n0_ n1_ n2_; (try clear hb); (try clear hb2); (try clear hk); (try clear hi)))
          repeat (go_quiet (first | (go_at_call 52; (with_reducible refine (q33_.calls kj1 g x1000_1 x1001_1 x1002_1 t113 t114 t115 t116 w0 _ ?side1 ?side2 A15.out).mono ?_); (case side1 => repeat (first | (with_reducible first | exact HI0.out | apply IsS94.alloc | apply IsS94.drewN | apply IsS94.drew | apply IsS94.set_0 | apply IsS94.set_1 | apply IsS94.set_2) | exact HI0.out)); (case side2 => repeat (first | (with_reducible first | exact HB.out | apply below_alloc | apply pw_below_drewN | apply below_drew1 | refine below_set ?_ (IsS94.ge HI0.out)) | exact HB.out)); rintro e w20 ⟨rfl, hi, hb, hk⟩; have n0_ := Aside0.mk (KeepBut.trans (by repeat (first | (with_reducible first | exact HK.out | apply KeepBut.set_ | apply keep_drewN | apply keep_drew | apply keep_alloc) | exact HK.out)) hk (.inl rfl)); have n1_ := Aside0.mk (hb); have n2_ := Aside0.mk (hi); clear HK; clear HB; clear HI0; have HK := n0_; have HB := n1_; have HI0 := n2_; clear n0_ n1_ n2_; (try clear hb); (try clear hb2); (try clear hk); (try clear hi)) | (go_at_call 99; (with_reducible refine (q34_.calls g t114 t115 t116 (⟨#[61]⟩ : ByteArray) true t118 t119 t120 w0 _ ?side1 ?side2 A16.out).mono ?_); (case side1 => repeat (first | (with_reducible first | exact HI0.out | apply IsS94.alloc | apply IsS94.drewN | apply IsS94.drew | apply IsS94.set_0 | apply IsS94.set_1 | apply IsS94.set_2) | exact HI0.out)); (case side2 => repeat (first | (with_reducible first | exact HB.out | apply below_alloc | apply pw_below_drewN | apply below_drew1 | refine below_set ?_ (IsS94.ge HI0.out)) | exact HB.out)); rintro e w21 ⟨rfl, hi, hb, hk⟩; have n0_ := Aside0.mk (KeepBut.trans (by repeat (first | (with_reducible first | exact HK.out | apply KeepBut.set_ | apply keep_drewN | apply keep_drew | apply keep_alloc) | exact HK.out)) hk (.inl rfl)); have n1_ := Aside0.mk (hb); have n2_ := Aside0.mk (hi); clear HK; clear HB; clear HI0; have HK := n0_; have HB := n1_; have HI0 := n2_; clear n0_ n1_ n2_; (try clear hb); (try clear hb2); (try clear hk); (try clear hi)) | (go_at_call 52; (with_reducible refine (q33_.calls kj1 g t118 t119 t120 t121 t122 t123 t124 w0 _ ?side1 ?side2 A18.out).mono ?_); (case side1 => repeat (first | (with_reducible first | exact HI0.out | apply IsS94.alloc | apply IsS94.drewN | apply IsS94.drew | apply IsS94.set_0 | apply IsS94.set_1 | apply IsS94.set_2) | exact HI0.out)); (case side2 => repeat (first | (with_reducible first | exact HB.out | apply below_alloc | apply pw_below_drewN | apply below_drew1 | refine below_set ?_ (IsS94.ge HI0.out)) | exact HB.out)); rintro e w22 ⟨rfl, hi, hb, hk⟩; have n0_ := Aside0.mk (KeepBut.trans (by repeat (first | (with_reducible first | exact HK.out | apply KeepBut.set_ | apply keep_drewN | apply keep_drew | apply keep_alloc) | exact HK.out)) hk (.inl rfl)); have n1_ := Aside0.mk (hb); have n2_ := Aside0.mk (hi); clear HK; clear HB; clear HI0; have HK := n0_; have HB := n1_; have HI0 := n2_; clear n0_ n1_ n2_; (try clear hb); (try clear hb2); (try clear hk); (try clear hi))); go_upto_region 7 with (first | (go_at_call 52; (with_reducible refine (q33_.calls kj1 g x1000_1 x1001_1 x1002_1 t113 t114 t115 t116 w0 _ ?side1 ?side2 A15.out).mono ?_); (case side1 => repeat (first | (with_reducible first | exact HI0.out | apply IsS94.alloc | apply IsS94.drewN | apply IsS94.drew | apply IsS94.set_0 | apply IsS94.set_1 | apply IsS94.set_2) | exact HI0.out)); (case side2 => repeat (first | (with_reducible first | exact HB.out | apply below_alloc | apply pw_below_drewN | apply below_drew1 | refine below_set ?_ (IsS94.ge HI0.out)) | exact HB.out)); rintro e w20 ⟨rfl, hi, hb, hk⟩; have n0_ := Aside0.mk (KeepBut.trans (by repeat (first | (with_reducible first | exact HK.out | apply KeepBut.set_ | apply keep_drewN | apply keep_drew | apply keep_alloc) | exact HK.out)) hk (.inl rfl)); have n1_ := Aside0.mk (hb); have n2_ := Aside0.mk (hi); clear HK; clear HB; clear HI0; have HK := n0_; have HB := n1_; have HI0 := n2_; clear n0_ n1_ n2_; (try clear hb); (try clear hb2); (try clear hk); (try clear hi)) | (go_at_call 99; (with_reducible refine (q34_.calls g t114 t115 t116 (⟨#[61]⟩ : ByteArray) true t118 t119 t120 w0 _ ?side1 ?side2 A16.out).mono ?_); (case side1 => repeat (first | (with_reducible first | exact HI0.out | apply IsS94.alloc | apply IsS94.drewN | apply IsS94.drew | apply IsS94.set_0 | apply IsS94.set_1 | apply IsS94.set_2) | exact HI0.out)); (case side2 => repeat (first | (with_reducible first | exact HB.out | apply below_alloc | apply pw_below_drewN | apply below_drew1 | refine below_set ?_ (IsS94.ge HI0.out)) | exact HB.out)); rintro e w21 ⟨rfl, hi, hb, hk⟩; have n0_ := Aside0.mk (KeepBut.trans (by repeat (first | (with_reducible first | exact HK.out | apply KeepBut.set_ | apply keep_drewN | apply keep_drew | apply keep_alloc) | exact HK.out)) hk (.inl rfl)); have n1_ := Aside0.mk (hb); have n2_ := Aside0.mk (hi); clear HK; clear HB; clear HI0; have HK := n0_; have HB := n1_; have HI0 := n2_; clear n0_ n1_ n2_; (try clear hb); (try clear hb2); (try clear hk); (try clear hi)) | (go_at_call 52; (with_reducible refine (q33_.calls kj1 g t118 t119 t120 t121 t122 t123 t124 w0 _ ?side1 ?side2 A18.out).mono ?_); (case side1 => repeat (first | (with_reducible first | exact HI0.out | apply IsS94.alloc | apply IsS94.drewN | apply IsS94.drew | apply IsS94.set_0 | apply IsS94.set_1 | apply IsS94.set_2) | exact HI0.out)); (case side2 => repeat (first | (with_reducible first | exact HB.out | apply below_alloc | apply pw_below_drewN | apply below_drew1 | refine below_set ?_ (IsS94.ge HI0.out)) | exact HB.out)); rintro e w22 ⟨rfl, hi, hb, hk⟩; have n0_ := Aside0.mk (KeepBut.trans (by repeat (first | (with_reducible first | exact HK.out | apply KeepBut.set_ | apply keep_drewN | apply keep_drew | apply keep_alloc) | exact HK.out)) hk (.inl rfl)); have n1_ := Aside0.mk (hb); have n2_ := Aside0.mk (hi); clear HK; clear HB; clear HI0; have HK := n0_; have HB := n1_; have HI0 := n2_; clear n0_ n1_ n2_; (try clear hb); (try clear hb2); (try clear hk); (try clear hi))))
          (try simp only [Act.put, List.setIfInBounds_toArray, List.set_cons_zero, List.set_cons_succ])
          go_cut [56] (fun v56 wc => ∃ (kq : Nat) (x56_18 : Bool), v56 = .bool x56_18 ∧ Aside0 (q36_.j1 kq x56_18 t122 t123 t124 = some (r1, r2, r3, r4)) ∧ Aside0 (kq ≤ kj1) ∧ Aside0 (IsS94 w0 wc g t122 t123 t124) ∧ Aside0 (KeepBut w wc g none) ∧ Aside0 (Below w0.heap.size w0 wc))
          case first =>
            have H := HC19.out
            clear HC19
            by_cases c23 : t123 ≥ (t122.size : Int)
            · rw [if_pos c23] at H
              have c23b0 : decide ((t122.size : Int) ≤ t123) = true := decide_eq_true c23
              clear c23
              (first | rw [c23b0] | (simp only [i64_w, i32_w]; rw [c23b0]) | skip)
              have H' := Aside0.mk H
              clear H
              obtain ⟨HGz24, hgz24⟩ := HI0.out
              have hcz24_0 := cellS94_0 HGz24
              have hcz24_1 := cellS94_1 HGz24
              have hcz24_2 := cellS94_2 HGz24
              have hfz24_0 := blk_frozen HGz24 0
              have hfz24_1 := blk_frozen HGz24 1
              have hfz24_2 := blk_frozen HGz24 2
              clear HGz24 hgz24
              go_wp2
              repeat (go_quiet (fail); try go_wp2)
              go_meet
              case rel => exact ⟨_, (true), (by first | rfl | (simp; done) | (simp [*]; done)), H', ⟨by have := HJ1.out; first | omega | exact Nat.le_refl _⟩, ⟨by repeat (first | (with_reducible first | exact HI0.out | apply IsS94.alloc | apply IsS94.drewN | apply IsS94.drew | apply IsS94.set_0 | apply IsS94.set_1 | apply IsS94.set_2) | exact HI0.out)⟩, ⟨by repeat (first | (with_reducible first | exact HK.out | apply KeepBut.set_ | apply keep_drewN | apply keep_drew | apply keep_alloc) | exact HK.out)⟩, ⟨by repeat (first | (with_reducible first | exact HB.out | apply below_alloc | apply pw_below_drewN | apply below_drew1 | refine below_set ?_ (IsS94.ge HI0.out)) | exact HB.out)⟩⟩
            · rw [if_neg c23] at H
              have c23b0 : decide ((t122.size : Int) ≤ t123) = false := decide_eq_false c23
              clear c23
              (first | rw [c23b0] | (simp only [i64_w, i32_w]; rw [c23b0]) | skip)
              by_cases c25 : 0 ≤ t123
              · rw [if_pos c25] at H
                have c25b0 : decide (0 ≤ t123) = true := decide_eq_true c25
                clear c25
                by_cases c26 : t123 < (t122.size : Int)
                · rw [if_pos c26] at H
                  have c26b0 : decide (t123 < (t122.size : Int)) = true := decide_eq_true c26
                  clear c26
                  by_cases c28 : (bt t122 t123) = 34
                  · rw [if_pos c28] at H
                    have c28b0 : ((bt t122 t123) == 34) = true := beq_iff_eq.mpr c28
                    have c28b1 : ((bt t122 t123) != 34) = false := bne_eq_false_iff_eq.mpr c28
                    clear c28
                    have H' := Aside0.mk H
                    clear H
                    obtain ⟨HGz29, hgz29⟩ := HI0.out
                    have hcz29_0 := cellS94_0 HGz29
                    have hcz29_1 := cellS94_1 HGz29
                    have hcz29_2 := cellS94_2 HGz29
                    have hfz29_0 := blk_frozen HGz29 0
                    have hfz29_1 := blk_frozen HGz29 1
                    have hfz29_2 := blk_frozen HGz29 2
                    clear HGz29 hgz29
                    have p27 : 0 ≤ (t123 : Int) := of_decide_eq_true (by first | (with_reducible assumption) | assumption)
                    have q27 : t123 < (t122.size : Int) := of_decide_eq_true (by first | (with_reducible assumption) | assumption)
                    have hx27 := bt_at t122 t123
                    replace p27 := eq_true p27
                    replace q27 := eq_true q27
                    go_wp2
                    repeat (go_quiet (fail); try go_wp2)
                    go_meet
                    case rel => exact ⟨_, (false), (by first | rfl | (simp; done) | (simp [*]; done)), H', ⟨by have := HJ1.out; first | omega | exact Nat.le_refl _⟩, ⟨by repeat (first | (with_reducible first | exact HI0.out | apply IsS94.alloc | apply IsS94.drewN | apply IsS94.drew | apply IsS94.set_0 | apply IsS94.set_1 | apply IsS94.set_2) | exact HI0.out)⟩, ⟨by repeat (first | (with_reducible first | exact HK.out | apply KeepBut.set_ | apply keep_drewN | apply keep_drew | apply keep_alloc) | exact HK.out)⟩, ⟨by repeat (first | (with_reducible first | exact HB.out | apply below_alloc | apply pw_below_drewN | apply below_drew1 | refine below_set ?_ (IsS94.ge HI0.out)) | exact HB.out)⟩⟩
                  · rw [if_neg c28] at H
                    have c28b0 : ((bt t122 t123) == 34) = false := beq_eq_false_iff_ne.mpr c28
                    have c28b1 : ((bt t122 t123) != 34) = true := bne_iff_ne.mpr c28
                    have H' := Aside0.mk H
                    clear H
                    obtain ⟨HGz31, hgz31⟩ := HI0.out
                    have hcz31_0 := cellS94_0 HGz31
                    have hcz31_1 := cellS94_1 HGz31
                    have hcz31_2 := cellS94_2 HGz31
                    have hfz31_0 := blk_frozen HGz31 0
                    have hfz31_1 := blk_frozen HGz31 1
                    have hfz31_2 := blk_frozen HGz31 2
                    clear HGz31 hgz31
                    have p27 : 0 ≤ (t123 : Int) := of_decide_eq_true (by first | (with_reducible assumption) | assumption)
                    have q27 : t123 < (t122.size : Int) := of_decide_eq_true (by first | (with_reducible assumption) | assumption)
                    have hx27 := bt_at t122 t123
                    replace p27 := eq_true p27
                    replace q27 := eq_true q27
                    have p30 : 0 ≤ (t123 : Int) := of_decide_eq_true (by first | (with_reducible assumption) | assumption)
                    have q30 : t123 < (t122.size : Int) := of_decide_eq_true (by first | (with_reducible assumption) | assumption)
                    have hx30 := bt_at t122 t123
                    replace p30 := eq_true p30
                    replace q30 := eq_true q30
                    go_wp2
                    repeat (go_quiet (fail); try go_wp2)
                    go_meet
                    case rel => exact ⟨_, (((bt t122 t123) != 39)), (by first | rfl | (simp; done) | (simp [*]; done)), H', ⟨by have := HJ1.out; first | omega | exact Nat.le_refl _⟩, ⟨by repeat (first | (with_reducible first | exact HI0.out | apply IsS94.alloc | apply IsS94.drewN | apply IsS94.drew | apply IsS94.set_0 | apply IsS94.set_1 | apply IsS94.set_2) | exact HI0.out)⟩, ⟨by repeat (first | (with_reducible first | exact HK.out | apply KeepBut.set_ | apply keep_drewN | apply keep_drew | apply keep_alloc) | exact HK.out)⟩, ⟨by repeat (first | (with_reducible first | exact HB.out | apply below_alloc | apply pw_below_drewN | apply below_drew1 | refine below_set ?_ (IsS94.ge HI0.out)) | exact HB.out)⟩⟩
                · rw [if_neg c26] at H
                  exact absurd H (by simp)
              · rw [if_neg c25] at H
                exact absurd H (by simp)
          case rest =>
            clear HC19
            try clear c1
            try clear c2
            try clear p2
            try clear q2
            try clear hx2
            try clear p3
            try clear q3
            try clear hx3
            try clear c4
            try clear c4b0
            try clear c4b1
            try clear c7
            try clear c10
            try clear c14
            try clear c17
            try clear c23
            try clear c23b0
            try clear c25
            try clear c25b0
            try clear c26
            try clear c26b0
            try clear p27
            try clear q27
            try clear hx27
            try clear c28
            try clear c28b0
            try clear c28b1
            try clear p30
            try clear q30
            try clear hx30
            try clear hcz24_0
            try clear hcz24_1
            try clear hcz24_2
            try clear hcz29_0
            try clear hcz29_1
            try clear hcz29_2
            try clear hcz31_0
            try clear hcz31_1
            try clear hcz31_2
            try clear hfz24_0
            try clear hfz24_1
            try clear hfz24_2
            try clear hfz29_0
            try clear hfz29_1
            try clear hfz29_2
            try clear hfz31_0
            try clear hfz31_1
            try clear hfz31_2
            try clear p2
            try clear p27
            try clear p30
            try clear q27
            try clear q30
            obtain ⟨kq, x56_18, rfl, HA, HJ18, HI0, HK, HB⟩ := hcut
            cases kq with
            | zero => exact absurd HA.out (by simp [q36_.j1])
            | succ kj18 =>
              have H := HA.out
              clear HA
              simp only [q36_.j1] at H
              by_cases c32 : x56_18 = true
              · subst c32
                have H1 : (some (false, t122, t123, t124)) = some (r1, r2, r3, r4) := by rw [if_pos rfl] at H; exact H
                clear H
                have H := H1
                clear H1
                simp only [Option.some.injEq, Prod.mk.injEq] at H
                obtain ⟨rfl, rfl, rfl, rfl⟩ := H
                go_wp2
                repeat (go_quiet (fail); try go_wp2)
                go_ret
                exact ⟨by first | rfl | (simp [errW_none, errW_some] <;> rfl) | (simp [*, errW_none, errW_some] <;> rfl), by repeat (first | (with_reducible first | exact HI0.out | apply IsS94.alloc | apply IsS94.drewN | apply IsS94.drew | apply IsS94.set_0 | apply IsS94.set_1 | apply IsS94.set_2) | exact HI0.out), by repeat (first | (with_reducible first | exact HB.out | apply below_alloc | apply pw_below_drewN | apply below_drew1 | refine below_set ?_ (IsS94.ge HI0.out)) | exact HB.out), by repeat (first | (with_reducible first | exact HK.out | apply KeepBut.set_ | apply keep_drewN | apply keep_drew | apply keep_alloc) | exact HK.out)⟩
              · replace c32 := Bool.eq_false_iff.mpr c32
                subst c32
                have H1 : (if 0 ≤ t123 then (if t123 < (t122.size : Int) then (q36_.l0 kj18 (bt t122 t123) t122 (wrap64 (t123 + 1)) t124) else (none)) else (none)) = some (r1, r2, r3, r4) := by rw [if_neg (show ¬ (false = true) by decide)] at H; exact H
                clear H
                have H := H1
                clear H1
                by_cases c33 : 0 ≤ t123
                · rw [if_pos c33] at H
                  have c33b0 : decide (0 ≤ t123) = true := decide_eq_true c33
                  clear c33
                  by_cases c34 : t123 < (t122.size : Int)
                  · rw [if_pos c34] at H
                    have c34b0 : decide (t123 < (t122.size : Int)) = true := decide_eq_true c34
                    clear c34
                    have H' := Aside0.mk H
                    clear H
                    obtain ⟨HGz36, hgz36⟩ := HI0.out
                    have hcz36_0 := cellS94_0 HGz36
                    have hcz36_1 := cellS94_1 HGz36
                    have hcz36_2 := cellS94_2 HGz36
                    have hfz36_0 := blk_frozen HGz36 0
                    have hfz36_1 := blk_frozen HGz36 1
                    have hfz36_2 := blk_frozen HGz36 2
                    clear HGz36 hgz36
                    have p35 : 0 ≤ (t123 : Int) := of_decide_eq_true (by first | (with_reducible assumption) | assumption)
                    have q35 : t123 < (t122.size : Int) := of_decide_eq_true (by first | (with_reducible assumption) | assumption)
                    have hx35 := bt_at t122 t123
                    replace p35 := eq_true p35
                    replace q35 := eq_true q35
                    go_wp2
                    repeat (go_quiet (fail); try go_wp2)
                    go_loopg [] kj18 (fun kq w' => ∃ (x1001_3 : Int), Aside0 (q36_.l0 kq (bt t122 t123) t122 x1001_3 t124 = some (r1, r2, r3, r4)) ∧ Aside0 (kq ≤ kj18) ∧ Aside0 (IsS94 w0 w' g t122 x1001_3 t124) ∧ Aside0 (KeepBut w w' g none) ∧ Aside0 (Below w0.heap.size w0 w'))
                    case atStart => exact ⟨(wrap64 (t123 + 1)), H', ⟨Nat.le_refl _⟩, ⟨by repeat (first | (with_reducible first | exact HI0.out | apply IsS94.alloc | apply IsS94.drewN | apply IsS94.drew | apply IsS94.set_0 | apply IsS94.set_1 | apply IsS94.set_2) | exact HI0.out)⟩, ⟨by repeat (first | (with_reducible first | exact HK.out | apply KeepBut.set_ | apply keep_drewN | apply keep_drew | apply keep_alloc) | exact HK.out)⟩, ⟨by repeat (first | (with_reducible first | exact HB.out | apply below_alloc | apply pw_below_drewN | apply below_drew1 | refine below_set ?_ (IsS94.ge HI0.out)) | exact HB.out)⟩⟩
                    case round =>
                      clear H'
                      try clear c1
                      try clear c2
                      try clear p2
                      try clear q2
                      try clear hx2
                      try clear c3
                      try clear p3
                      try clear q3
                      try clear hx3
                      try clear c4
                      try clear c4b0
                      try clear c4b1
                      try clear p6
                      try clear c7
                      try clear c10
                      try clear c14
                      try clear c17
                      try clear c23
                      try clear c23b0
                      try clear c25
                      try clear c25b0
                      try clear c26
                      try clear c26b0
                      try clear p27
                      try clear q27
                      try clear hx27
                      try clear c28
                      try clear c28b0
                      try clear c28b1
                      try clear p30
                      try clear q30
                      try clear hx30
                      try clear c32
                      try clear c33
                      try clear c33b0
                      try clear c34
                      try clear c34b0
                      try clear p35
                      try clear q35
                      try clear hx35
                      try clear hcz24_0
                      try clear hcz24_1
                      try clear hcz24_2
                      try clear hcz29_0
                      try clear hcz29_1
                      try clear hcz29_2
                      try clear hcz31_0
                      try clear hcz31_1
                      try clear hcz31_2
                      try clear hcz36_0
                      try clear hcz36_1
                      try clear hcz36_2
                      try clear hfz24_0
                      try clear hfz24_1
                      try clear hfz24_2
                      try clear hfz29_0
                      try clear hfz29_1
                      try clear hfz29_2
                      try clear hfz31_0
                      try clear hfz31_1
                      try clear hfz31_2
                      try clear hfz36_0
                      try clear hfz36_1
                      try clear hfz36_2
                      try clear p2
                      try clear p27
                      try clear p3
                      try clear p30
                      try clear p35
                      try clear q2
                      try clear q27
                      try clear q3
                      try clear q30
                      try clear q35
                      obtain ⟨x1001_3, HA, HK3, HI0, HK, HB⟩ := hrel
                      cases gk with
                      | zero => exact absurd HA.out (by simp [q36_.l0])
                      | succ k3 =>
                        have H := HA.out
                        clear HA
                        simp only [q36_.l0] at H
                        have HC37 := Aside0.mk H
                        clear H
                        go_upto_region 11 with (fail)
                        repeat (go_quiet (fail); go_upto_region 11 with (fail))
                        go_cut [95] (fun v95 wc => ∃ (kq : Nat) (x95_36 : Bool), v95 = .bool x95_36 ∧ Aside0 (q36_.j3 kq (bt t122 t123) x95_36 t122 x1001_3 t124 = some (r1, r2, r3, r4)) ∧ Aside0 (kq ≤ k3) ∧ Aside0 (IsS94 w0 wc g t122 x1001_3 t124) ∧ Aside0 (KeepBut w wc g none) ∧ Aside0 (Below w0.heap.size w0 wc))
                        case first =>
                          have H := HC37.out
                          clear HC37
                          by_cases c38 : x1001_3 < (t122.size : Int)
                          · rw [if_pos c38] at H
                            have c38b0 : decide (x1001_3 < (t122.size : Int)) = true := decide_eq_true c38
                            clear c38
                            (first | rw [c38b0] | (simp only [i64_w, i32_w]; rw [c38b0]) | skip)
                            by_cases c39 : 0 ≤ x1001_3
                            · rw [if_pos c39] at H
                              have c39b0 : decide (0 ≤ x1001_3) = true := decide_eq_true c39
                              clear c39
                              have H' := Aside0.mk H
                              clear H
                              obtain ⟨HGz41, hgz41⟩ := HI0.out
                              have hcz41_0 := cellS94_0 HGz41
                              have hcz41_1 := cellS94_1 HGz41
                              have hcz41_2 := cellS94_2 HGz41
                              have hfz41_0 := blk_frozen HGz41 0
                              have hfz41_1 := blk_frozen HGz41 1
                              have hfz41_2 := blk_frozen HGz41 2
                              clear HGz41 hgz41
                              have p40 : 0 ≤ (x1001_3 : Int) := of_decide_eq_true (by first | (with_reducible assumption) | assumption)
                              have q40 : x1001_3 < (t122.size : Int) := of_decide_eq_true (by first | (with_reducible assumption) | assumption)
                              have hx40 := bt_at t122 x1001_3
                              replace p40 := eq_true p40
                              replace q40 := eq_true q40
                              go_wp2
                              repeat (go_quiet (fail); try go_wp2)
                              go_meet
                              case rel => exact ⟨_, (((bt t122 x1001_3) != (bt t122 t123))), (by first | rfl | (simp; done) | (simp [*]; done)), H', ⟨by have := HJ1.out; have := HJ18.out; have := HK3.out; first | omega | exact Nat.le_refl _⟩, ⟨by repeat (first | (with_reducible first | exact HI0.out | apply IsS94.alloc | apply IsS94.drewN | apply IsS94.drew | apply IsS94.set_0 | apply IsS94.set_1 | apply IsS94.set_2) | exact HI0.out)⟩, ⟨by repeat (first | (with_reducible first | exact HK.out | apply KeepBut.set_ | apply keep_drewN | apply keep_drew | apply keep_alloc) | exact HK.out)⟩, ⟨by repeat (first | (with_reducible first | exact HB.out | apply below_alloc | apply pw_below_drewN | apply below_drew1 | refine below_set ?_ (IsS94.ge HI0.out)) | exact HB.out)⟩⟩
                            · rw [if_neg c39] at H
                              exact absurd H (by simp)
                          · rw [if_neg c38] at H
                            have c38b0 : decide (x1001_3 < (t122.size : Int)) = false := decide_eq_false c38
                            clear c38
                            (first | rw [c38b0] | (simp only [i64_w, i32_w]; rw [c38b0]) | skip)
                            have H' := Aside0.mk H
                            clear H
                            obtain ⟨HGz42, hgz42⟩ := HI0.out
                            have hcz42_0 := cellS94_0 HGz42
                            have hcz42_1 := cellS94_1 HGz42
                            have hcz42_2 := cellS94_2 HGz42
                            have hfz42_0 := blk_frozen HGz42 0
                            have hfz42_1 := blk_frozen HGz42 1
                            have hfz42_2 := blk_frozen HGz42 2
                            clear HGz42 hgz42
                            go_wp2
                            repeat (go_quiet (fail); try go_wp2)
                            go_meet
                            case rel => exact ⟨_, (false), (by first | rfl | (simp; done) | (simp [*]; done)), H', ⟨by have := HJ1.out; have := HJ18.out; have := HK3.out; first | omega | exact Nat.le_refl _⟩, ⟨by repeat (first | (with_reducible first | exact HI0.out | apply IsS94.alloc | apply IsS94.drewN | apply IsS94.drew | apply IsS94.set_0 | apply IsS94.set_1 | apply IsS94.set_2) | exact HI0.out)⟩, ⟨by repeat (first | (with_reducible first | exact HK.out | apply KeepBut.set_ | apply keep_drewN | apply keep_drew | apply keep_alloc) | exact HK.out)⟩, ⟨by repeat (first | (with_reducible first | exact HB.out | apply below_alloc | apply pw_below_drewN | apply below_drew1 | refine below_set ?_ (IsS94.ge HI0.out)) | exact HB.out)⟩⟩
                        case rest =>
                          clear HC37
                          try clear c1
                          try clear c2
                          try clear p2
                          try clear q2
                          try clear hx2
                          try clear c3
                          try clear p3
                          try clear q3
                          try clear hx3
                          try clear c4
                          try clear c4b0
                          try clear c4b1
                          try clear p4
                          try clear q4
                          try clear hx4
                          try clear p6
                          try clear c7
                          try clear c10
                          try clear c14
                          try clear c17
                          try clear c23
                          try clear c23b0
                          try clear c25
                          try clear c25b0
                          try clear c26
                          try clear c26b0
                          try clear p27
                          try clear q27
                          try clear hx27
                          try clear c28
                          try clear c28b0
                          try clear c28b1
                          try clear p30
                          try clear q30
                          try clear hx30
                          try clear c32
                          try clear c33
                          try clear c33b0
                          try clear c34
                          try clear c34b0
                          try clear p35
                          try clear q35
                          try clear hx35
                          try clear c38
                          try clear c38b0
                          try clear c39
                          try clear c39b0
                          try clear p40
                          try clear q40
                          try clear hx40
                          try clear hcz24_0
                          try clear hcz24_1
                          try clear hcz24_2
                          try clear hcz29_0
                          try clear hcz29_1
                          try clear hcz29_2
                          try clear hcz31_0
                          try clear hcz31_1
                          try clear hcz31_2
                          try clear hcz36_0
                          try clear hcz36_1
                          try clear hcz36_2
                          try clear hcz41_0
                          try clear hcz41_1
                          try clear hcz41_2
                          try clear hcz42_0
                          try clear hcz42_1
                          try clear hcz42_2
                          try clear hfz24_0
                          try clear hfz24_1
                          try clear hfz24_2
                          try clear hfz29_0
                          try clear hfz29_1
                          try clear hfz29_2
                          try clear hfz31_0
                          try clear hfz31_1
                          try clear hfz31_2
                          try clear hfz36_0
                          try clear hfz36_1
                          try clear hfz36_2
                          try clear hfz41_0
                          try clear hfz41_1
                          try clear hfz41_2
                          try clear hfz42_0
                          try clear hfz42_1
                          try clear hfz42_2
                          try clear p2
                          try clear p27
                          try clear p3
                          try clear p30
                          try clear p35
                          try clear p40
                          try clear p6
                          try clear q2
                          try clear q27
                          try clear q3
                          try clear q30
                          try clear q35
                          try clear q40
                          obtain ⟨kq, x95_36, rfl, HA, HJ36, HI0, HK, HB⟩ := hcut
                          cases kq with
                          | zero => exact absurd HA.out (by simp [q36_.j3])
                          | succ kj36 =>
                            have H := HA.out
                            clear HA
                            simp only [q36_.j3] at H
                            by_cases c43 : x95_36 = true
                            · subst c43
                              have H1 : (if 0 ≤ x1001_3 then (if x1001_3 < (t122.size : Int) then (if (bt t122 x1001_3) = 60 then (some (false, t122, x1001_3, t124)) else (if (bt t122 x1001_3) = 38 then (some (false, t122, x1001_3, t124)) else (q36_.l0 kj36 (bt t122 t123) t122 (wrap64 (x1001_3 + 1)) t124))) else (none)) else (none)) = some (r1, r2, r3, r4) := by rw [if_pos rfl] at H; exact H
                              clear H
                              have H := H1
                              clear H1
                              by_cases c44 : 0 ≤ x1001_3
                              · rw [if_pos c44] at H
                                have c44b0 : decide (0 ≤ x1001_3) = true := decide_eq_true c44
                                clear c44
                                by_cases c45 : x1001_3 < (t122.size : Int)
                                · rw [if_pos c45] at H
                                  have c45b0 : decide (x1001_3 < (t122.size : Int)) = true := decide_eq_true c45
                                  clear c45
                                  by_cases c47 : (bt t122 x1001_3) = 60
                                  · rw [if_pos c47] at H
                                    have c47b0 : ((bt t122 x1001_3) == 60) = true := beq_iff_eq.mpr c47
                                    have c47b1 : ((bt t122 x1001_3) != 60) = false := bne_eq_false_iff_eq.mpr c47
                                    clear c47
                                    simp only [Option.some.injEq, Prod.mk.injEq] at H
                                    obtain ⟨rfl, rfl, rfl, rfl⟩ := H
                                    obtain ⟨HGz48, hgz48⟩ := HI0.out
                                    have hcz48_0 := cellS94_0 HGz48
                                    have hcz48_1 := cellS94_1 HGz48
                                    have hcz48_2 := cellS94_2 HGz48
                                    have hfz48_0 := blk_frozen HGz48 0
                                    have hfz48_1 := blk_frozen HGz48 1
                                    have hfz48_2 := blk_frozen HGz48 2
                                    clear HGz48 hgz48
                                    have p46 : 0 ≤ (x1001_3 : Int) := of_decide_eq_true (by first | (with_reducible assumption) | assumption)
                                    have q46 : x1001_3 < (t122.size : Int) := of_decide_eq_true (by first | (with_reducible assumption) | assumption)
                                    have hx46 := bt_at t122 x1001_3
                                    replace p46 := eq_true p46
                                    replace q46 := eq_true q46
                                    go_wp2
                                    repeat (go_quiet (fail); try go_wp2)
                                    go_ret
                                    exact ⟨by first | rfl | (simp [errW_none, errW_some] <;> rfl) | (simp [*, errW_none, errW_some] <;> rfl), by repeat (first | (with_reducible first | exact HI0.out | apply IsS94.alloc | apply IsS94.drewN | apply IsS94.drew | apply IsS94.set_0 | apply IsS94.set_1 | apply IsS94.set_2) | exact HI0.out), by repeat (first | (with_reducible first | exact HB.out | apply below_alloc | apply pw_below_drewN | apply below_drew1 | refine below_set ?_ (IsS94.ge HI0.out)) | exact HB.out), by repeat (first | (with_reducible first | exact HK.out | apply KeepBut.set_ | apply keep_drewN | apply keep_drew | apply keep_alloc) | exact HK.out)⟩
                                  · rw [if_neg c47] at H
                                    have c47b0 : ((bt t122 x1001_3) == 60) = false := beq_eq_false_iff_ne.mpr c47
                                    have c47b1 : ((bt t122 x1001_3) != 60) = true := bne_iff_ne.mpr c47
                                    by_cases c50 : (bt t122 x1001_3) = 38
                                    · rw [if_pos c50] at H
                                      have c50b0 : ((bt t122 x1001_3) == 38) = true := beq_iff_eq.mpr c50
                                      have c50b1 : ((bt t122 x1001_3) != 38) = false := bne_eq_false_iff_eq.mpr c50
                                      clear c50
                                      simp only [Option.some.injEq, Prod.mk.injEq] at H
                                      obtain ⟨rfl, rfl, rfl, rfl⟩ := H
                                      obtain ⟨HGz51, hgz51⟩ := HI0.out
                                      have hcz51_0 := cellS94_0 HGz51
                                      have hcz51_1 := cellS94_1 HGz51
                                      have hcz51_2 := cellS94_2 HGz51
                                      have hfz51_0 := blk_frozen HGz51 0
                                      have hfz51_1 := blk_frozen HGz51 1
                                      have hfz51_2 := blk_frozen HGz51 2
                                      clear HGz51 hgz51
                                      have p46 : 0 ≤ (x1001_3 : Int) := of_decide_eq_true (by first | (with_reducible assumption) | assumption)
                                      have q46 : x1001_3 < (t122.size : Int) := of_decide_eq_true (by first | (with_reducible assumption) | assumption)
                                      have hx46 := bt_at t122 x1001_3
                                      replace p46 := eq_true p46
                                      replace q46 := eq_true q46
                                      have p49 : 0 ≤ (x1001_3 : Int) := of_decide_eq_true (by first | (with_reducible assumption) | assumption)
                                      have q49 : x1001_3 < (t122.size : Int) := of_decide_eq_true (by first | (with_reducible assumption) | assumption)
                                      have hx49 := bt_at t122 x1001_3
                                      replace p49 := eq_true p49
                                      replace q49 := eq_true q49
                                      go_wp2
                                      repeat (go_quiet (fail); try go_wp2)
                                      go_ret
                                      exact ⟨by first | rfl | (simp [errW_none, errW_some] <;> rfl) | (simp [*, errW_none, errW_some] <;> rfl), by repeat (first | (with_reducible first | exact HI0.out | apply IsS94.alloc | apply IsS94.drewN | apply IsS94.drew | apply IsS94.set_0 | apply IsS94.set_1 | apply IsS94.set_2) | exact HI0.out), by repeat (first | (with_reducible first | exact HB.out | apply below_alloc | apply pw_below_drewN | apply below_drew1 | refine below_set ?_ (IsS94.ge HI0.out)) | exact HB.out), by repeat (first | (with_reducible first | exact HK.out | apply KeepBut.set_ | apply keep_drewN | apply keep_drew | apply keep_alloc) | exact HK.out)⟩
                                    · rw [if_neg c50] at H
                                      have c50b0 : ((bt t122 x1001_3) == 38) = false := beq_eq_false_iff_ne.mpr c50
                                      have c50b1 : ((bt t122 x1001_3) != 38) = true := bne_iff_ne.mpr c50
                                      have H' := Aside0.mk H
                                      clear H
                                      obtain ⟨HGz52, hgz52⟩ := HI0.out
                                      have hcz52_0 := cellS94_0 HGz52
                                      have hcz52_1 := cellS94_1 HGz52
                                      have hcz52_2 := cellS94_2 HGz52
                                      have hfz52_0 := blk_frozen HGz52 0
                                      have hfz52_1 := blk_frozen HGz52 1
                                      have hfz52_2 := blk_frozen HGz52 2
                                      clear HGz52 hgz52
                                      have p46 : 0 ≤ (x1001_3 : Int) := of_decide_eq_true (by first | (with_reducible assumption) | assumption)
                                      have q46 : x1001_3 < (t122.size : Int) := of_decide_eq_true (by first | (with_reducible assumption) | assumption)
                                      have hx46 := bt_at t122 x1001_3
                                      replace p46 := eq_true p46
                                      replace q46 := eq_true q46
                                      have p49 : 0 ≤ (x1001_3 : Int) := of_decide_eq_true (by first | (with_reducible assumption) | assumption)
                                      have q49 : x1001_3 < (t122.size : Int) := of_decide_eq_true (by first | (with_reducible assumption) | assumption)
                                      have hx49 := bt_at t122 x1001_3
                                      replace p49 := eq_true p49
                                      replace q49 := eq_true q49
                                      go_wp2
                                      repeat (go_quiet (fail); try go_wp2)
                                      go_roundg kj36
                                      case measure => have := HJ1.out; have := HJ18.out; have := HK3.out; have := HJ36.out; omega
                                      case rel => exact ⟨(wrap64 (x1001_3 + 1)), H', ⟨by have := HJ1.out; have := HJ18.out; have := HK3.out; have := HJ36.out; omega⟩, ⟨by repeat (first | (with_reducible first | exact HI0.out | apply IsS94.alloc | apply IsS94.drewN | apply IsS94.drew | apply IsS94.set_0 | apply IsS94.set_1 | apply IsS94.set_2) | exact HI0.out)⟩, ⟨by repeat (first | (with_reducible first | exact HK.out | apply KeepBut.set_ | apply keep_drewN | apply keep_drew | apply keep_alloc) | exact HK.out)⟩, ⟨by repeat (first | (with_reducible first | exact HB.out | apply below_alloc | apply pw_below_drewN | apply below_drew1 | refine below_set ?_ (IsS94.ge HI0.out)) | exact HB.out)⟩⟩
                                · rw [if_neg c45] at H
                                  exact absurd H (by simp)
                              · rw [if_neg c44] at H
                                exact absurd H (by simp)
                            · replace c43 := Bool.eq_false_iff.mpr c43
                              subst c43
                              have H1 : (some (decide ((wrap64 (x1001_3 + 1)) ≤ (t122.size : Int)), t122, wrap64 (x1001_3 + 1), t124)) = some (r1, r2, r3, r4) := by rw [if_neg (show ¬ (false = true) by decide)] at H; exact H
                              clear H
                              have H := H1
                              clear H1
                              simp only [Option.some.injEq, Prod.mk.injEq] at H
                              obtain ⟨rfl, rfl, rfl, rfl⟩ := H
                              obtain ⟨HGz53, hgz53⟩ := HI0.out
                              have hcz53_0 := cellS94_0 HGz53
                              have hcz53_1 := cellS94_1 HGz53
                              have hcz53_2 := cellS94_2 HGz53
                              have hfz53_0 := blk_frozen HGz53 0
                              have hfz53_1 := blk_frozen HGz53 1
                              have hfz53_2 := blk_frozen HGz53 2
                              clear HGz53 hgz53
                              go_wp2
                              repeat (go_quiet (fail); try go_wp2)
                              go_ret
                              exact ⟨by first | rfl | (simp [errW_none, errW_some] <;> rfl) | (simp [*, errW_none, errW_some] <;> rfl), by repeat (first | (with_reducible first | exact HI0.out | apply IsS94.alloc | apply IsS94.drewN | apply IsS94.drew | apply IsS94.set_0 | apply IsS94.set_1 | apply IsS94.set_2) | exact HI0.out), by repeat (first | (with_reducible first | exact HB.out | apply below_alloc | apply pw_below_drewN | apply below_drew1 | refine below_set ?_ (IsS94.ge HI0.out)) | exact HB.out), by repeat (first | (with_reducible first | exact HK.out | apply KeepBut.set_ | apply keep_drewN | apply keep_drew | apply keep_alloc) | exact HK.out)⟩
                  · rw [if_neg c34] at H
                    exact absurd H (by simp)
                · rw [if_neg c33] at H
                  exact absurd H (by simp)
        · replace c17 := Bool.eq_false_iff.mpr c17
          subst c17
          have H1 : (some (false, t118, t119, t120)) = some (r1, r2, r3, r4) := by rw [if_neg (show ¬ (false = true) by decide)] at H; exact H
          clear H
          have H := H1
          clear H1
          simp only [Option.some.injEq, Prod.mk.injEq] at H
          obtain ⟨rfl, rfl, rfl, rfl⟩ := H
          go_wp2_with (first | (go_at_call 52; (with_reducible refine (q33_.calls kj1 g x1000_1 x1001_1 x1002_1 t113 t114 t115 t116 w0 _ ?side1 ?side2 A15.out).mono ?_); (case side1 => repeat (first | (with_reducible first | exact HI0.out | apply IsS94.alloc | apply IsS94.drewN | apply IsS94.drew | apply IsS94.set_0 | apply IsS94.set_1 | apply IsS94.set_2) | exact HI0.out)); (case side2 => repeat (first | (with_reducible first | exact HB.out | apply below_alloc | apply pw_below_drewN | apply below_drew1 | refine below_set ?_ (IsS94.ge HI0.out)) | exact HB.out)); rintro e w54 ⟨rfl, hi, hb, hk⟩; have n0_ := Aside0.mk (KeepBut.trans (by repeat (first | (with_reducible first | exact HK.out | apply KeepBut.set_ | apply keep_drewN | apply keep_drew | apply keep_alloc) | exact HK.out)) hk (.inl rfl)); have n1_ := Aside0.mk (hb); have n2_ := Aside0.mk (hi); clear HK; clear HB; clear HI0; have HK := n0_; have HB := n1_; have HI0 := n2_; clear n0_ n1_ n2_; (try clear hb); (try clear hb2); (try clear hk); (try clear hi)) | (go_at_call 99; (with_reducible refine (q34_.calls g t114 t115 t116 (⟨#[61]⟩ : ByteArray) false t118 t119 t120 w0 _ ?side1 ?side2 A16.out).mono ?_); (case side1 => repeat (first | (with_reducible first | exact HI0.out | apply IsS94.alloc | apply IsS94.drewN | apply IsS94.drew | apply IsS94.set_0 | apply IsS94.set_1 | apply IsS94.set_2) | exact HI0.out)); (case side2 => repeat (first | (with_reducible first | exact HB.out | apply below_alloc | apply pw_below_drewN | apply below_drew1 | refine below_set ?_ (IsS94.ge HI0.out)) | exact HB.out)); rintro e w55 ⟨rfl, hi, hb, hk⟩; have n0_ := Aside0.mk (KeepBut.trans (by repeat (first | (with_reducible first | exact HK.out | apply KeepBut.set_ | apply keep_drewN | apply keep_drew | apply keep_alloc) | exact HK.out)) hk (.inl rfl)); have n1_ := Aside0.mk (hb); have n2_ := Aside0.mk (hi); clear HK; clear HB; clear HI0; have HK := n0_; have HB := n1_; have HI0 := n2_; clear n0_ n1_ n2_; (try clear hb); (try clear hb2); (try clear hk); (try clear hi)))
          repeat (go_quiet (first | (go_at_call 52; (with_reducible refine (q33_.calls kj1 g x1000_1 x1001_1 x1002_1 t113 t114 t115 t116 w0 _ ?side1 ?side2 A15.out).mono ?_); (case side1 => repeat (first | (with_reducible first | exact HI0.out | apply IsS94.alloc | apply IsS94.drewN | apply IsS94.drew | apply IsS94.set_0 | apply IsS94.set_1 | apply IsS94.set_2) | exact HI0.out)); (case side2 => repeat (first | (with_reducible first | exact HB.out | apply below_alloc | apply pw_below_drewN | apply below_drew1 | refine below_set ?_ (IsS94.ge HI0.out)) | exact HB.out)); rintro e w54 ⟨rfl, hi, hb, hk⟩; have n0_ := Aside0.mk (KeepBut.trans (by repeat (first | (with_reducible first | exact HK.out | apply KeepBut.set_ | apply keep_drewN | apply keep_drew | apply keep_alloc) | exact HK.out)) hk (.inl rfl)); have n1_ := Aside0.mk (hb); have n2_ := Aside0.mk (hi); clear HK; clear HB; clear HI0; have HK := n0_; have HB := n1_; have HI0 := n2_; clear n0_ n1_ n2_; (try clear hb); (try clear hb2); (try clear hk); (try clear hi)) | (go_at_call 99; (with_reducible refine (q34_.calls g t114 t115 t116 (⟨#[61]⟩ : ByteArray) false t118 t119 t120 w0 _ ?side1 ?side2 A16.out).mono ?_); (case side1 => repeat (first | (with_reducible first | exact HI0.out | apply IsS94.alloc | apply IsS94.drewN | apply IsS94.drew | apply IsS94.set_0 | apply IsS94.set_1 | apply IsS94.set_2) | exact HI0.out)); (case side2 => repeat (first | (with_reducible first | exact HB.out | apply below_alloc | apply pw_below_drewN | apply below_drew1 | refine below_set ?_ (IsS94.ge HI0.out)) | exact HB.out)); rintro e w55 ⟨rfl, hi, hb, hk⟩; have n0_ := Aside0.mk (KeepBut.trans (by repeat (first | (with_reducible first | exact HK.out | apply KeepBut.set_ | apply keep_drewN | apply keep_drew | apply keep_alloc) | exact HK.out)) hk (.inl rfl)); have n1_ := Aside0.mk (hb); have n2_ := Aside0.mk (hi); clear HK; clear HB; clear HI0; have HK := n0_; have HB := n1_; have HI0 := n2_; clear n0_ n1_ n2_; (try clear hb); (try clear hb2); (try clear hk); (try clear hi))); try go_wp2_with (first | (go_at_call 52; (with_reducible refine (q33_.calls kj1 g x1000_1 x1001_1 x1002_1 t113 t114 t115 t116 w0 _ ?side1 ?side2 A15.out).mono ?_); (case side1 => repeat (first | (with_reducible first | exact HI0.out | apply IsS94.alloc | apply IsS94.drewN | apply IsS94.drew | apply IsS94.set_0 | apply IsS94.set_1 | apply IsS94.set_2) | exact HI0.out)); (case side2 => repeat (first | (with_reducible first | exact HB.out | apply below_alloc | apply pw_below_drewN | apply below_drew1 | refine below_set ?_ (IsS94.ge HI0.out)) | exact HB.out)); rintro e w54 ⟨rfl, hi, hb, hk⟩; have n0_ := Aside0.mk (KeepBut.trans (by repeat (first | (with_reducible first | exact HK.out | apply KeepBut.set_ | apply keep_drewN | apply keep_drew | apply keep_alloc) | exact HK.out)) hk (.inl rfl)); have n1_ := Aside0.mk (hb); have n2_ := Aside0.mk (hi); clear HK; clear HB; clear HI0; have HK := n0_; have HB := n1_; have HI0 := n2_; clear n0_ n1_ n2_; (try clear hb); (try clear hb2); (try clear hk); (try clear hi)) | (go_at_call 99; (with_reducible refine (q34_.calls g t114 t115 t116 (⟨#[61]⟩ : ByteArray) false t118 t119 t120 w0 _ ?side1 ?side2 A16.out).mono ?_); (case side1 => repeat (first | (with_reducible first | exact HI0.out | apply IsS94.alloc | apply IsS94.drewN | apply IsS94.drew | apply IsS94.set_0 | apply IsS94.set_1 | apply IsS94.set_2) | exact HI0.out)); (case side2 => repeat (first | (with_reducible first | exact HB.out | apply below_alloc | apply pw_below_drewN | apply below_drew1 | refine below_set ?_ (IsS94.ge HI0.out)) | exact HB.out)); rintro e w55 ⟨rfl, hi, hb, hk⟩; have n0_ := Aside0.mk (KeepBut.trans (by repeat (first | (with_reducible first | exact HK.out | apply KeepBut.set_ | apply keep_drewN | apply keep_drew | apply keep_alloc) | exact HK.out)) hk (.inl rfl)); have n1_ := Aside0.mk (hb); have n2_ := Aside0.mk (hi); clear HK; clear HB; clear HI0; have HK := n0_; have HB := n1_; have HI0 := n2_; clear n0_ n1_ n2_; (try clear hb); (try clear hb2); (try clear hk); (try clear hi))))
          go_ret
          exact ⟨by first | rfl | (simp [errW_none, errW_some] <;> rfl) | (simp [*, errW_none, errW_some] <;> rfl), by repeat (first | (with_reducible first | exact HI0.out | apply IsS94.alloc | apply IsS94.drewN | apply IsS94.drew | apply IsS94.set_0 | apply IsS94.set_1 | apply IsS94.set_2) | exact HI0.out), by repeat (first | (with_reducible first | exact HB.out | apply below_alloc | apply pw_below_drewN | apply below_drew1 | refine below_set ?_ (IsS94.ge HI0.out)) | exact HB.out), by repeat (first | (with_reducible first | exact HK.out | apply KeepBut.set_ | apply keep_drewN | apply keep_drew | apply keep_alloc) | exact HK.out)⟩
mutual
def q37_.j0 : Nat → Bool → ByteArray → Int → Bool → Option (Bool × ByteArray × Int × Bool)
  | 0, _, _, _, _ => none
  | k + 1, x33, x1000, x1001, x1002 => if x33 = true then (some (true, x1000, x1001, x1002)) else (q37_.l0 k x1000 5 x1002)
def q37_.l0 : Nat → ByteArray → Int → Bool → Option (Bool × ByteArray × Int × Bool)
  | 0, _, _, _ => none
  | k + 1, x1000, x1001, x1002 => if (wrap64 (x1001 + 1)) < (x1000.size : Int) then (if 0 ≤ x1001 then (if x1001 < (x1000.size : Int) then (if (bt x1000 x1001) = 63 then (if 0 ≤ (wrap64 (x1001 + 1)) then (if (bt x1000 (wrap64 (x1001 + 1))) = 62 then (some (true, x1000, wrap64 (x1001 + 2), x1002)) else (q37_.l0 k x1000 (wrap64 (x1001 + 1)) x1002)) else (none)) else (q37_.l0 k x1000 (wrap64 (x1001 + 1)) x1002)) else (none)) else (none)) else (some (false, x1000, x1001, x1002))
end
def q37_.f (k : Nat) (s0_0 : ByteArray) (s0_1 : Int) (s0_2 : Bool) : Option (Bool × ByteArray × Int × Bool) := (q27_.f s0_0 (⟨#[60, 63, 120, 109, 108]⟩ : ByteArray)).bind fun t101 => (if t101 = true then (if (s0_0.size : Int) < 6 then (q37_.j0 k true s0_0 s0_1 s0_2) else (if 5 < (s0_0.size : Int) then ((q32_.f (bt s0_0 5)).bind fun t102 => (if t102 = true then (q37_.j0 k false s0_0 s0_1 s0_2) else (q37_.j0 k ((bt s0_0 5) != 63) s0_0 s0_1 s0_2))) else (none))) else (q37_.j0 k true s0_0 s0_1 s0_2))
theorem q37_.mono_l : ∀ k, (∀ y0 y1 y2 y3, LeO (q37_.j0 k y0 y1 y2 y3) (q37_.j0 (k + 1) y0 y1 y2 y3)) ∧ (∀ y0 y1 y2, LeO (q37_.l0 k y0 y1 y2) (q37_.l0 (k + 1) y0 y1 y2))
  | 0 => ⟨fun _ _ _ _ r h => by simp [q37_.j0] at h, fun _ _ _ r h => by simp [q37_.l0] at h⟩
  | k + 1 => by
    obtain ⟨ih0, ih1⟩ := q37_.mono_l k
    refine ⟨?_, ?_⟩
    · intro y0 y1 y2 y3
      unfold q37_.j0
      repeat' first
      | (with_reducible exact ih0 _ _ _ _)
      | (with_reducible exact ih1 _ _ _)
      | (with_reducible exact LeO.refl _)
      | (with_reducible exact LeO.none _)
      | (with_reducible refine LeO.ite ?_ ?_)
      | (with_reducible refine LeO.bind ?_ (fun _ => ?_))
      | exact ih0 _ _ _ _
      | exact ih1 _ _ _
      | exact LeO.none _
      | refine LeO.ite ?_ ?_
      | refine LeO.bind ?_ (fun _ => ?_)
    · intro y0 y1 y2
      unfold q37_.l0
      repeat' first
      | (with_reducible exact ih0 _ _ _ _)
      | (with_reducible exact ih1 _ _ _)
      | (with_reducible exact LeO.refl _)
      | (with_reducible exact LeO.none _)
      | (with_reducible refine LeO.ite ?_ ?_)
      | (with_reducible refine LeO.bind ?_ (fun _ => ?_))
      | exact ih0 _ _ _ _
      | exact ih1 _ _ _
      | exact LeO.none _
      | refine LeO.ite ?_ ?_
      | refine LeO.bind ?_ (fun _ => ?_)
theorem q37_.mono : ∀ a0 a1 a2 k, LeO (q37_.f k a0 a1 a2) (q37_.f (k + 1) a0 a1 a2) := by
  intro a0 a1 a2 k
  obtain ⟨ih0, ih1⟩ := q37_.mono_l k
  unfold q37_.f
  repeat' first
      | (with_reducible exact ih0 _ _ _ _)
      | (with_reducible exact ih1 _ _ _)
      | (with_reducible exact LeO.refl _)
      | (with_reducible exact LeO.none _)
      | (with_reducible refine LeO.ite ?_ ?_)
      | (with_reducible refine LeO.bind ?_ (fun _ => ?_))
      | exact ih0 _ _ _ _
      | exact ih1 _ _ _
      | exact LeO.none _
      | refine LeO.ite ?_ ?_
      | refine LeO.bind ?_ (fun _ => ?_)
set_option maxHeartbeats 8000000 in
set_option maxRecDepth 100000 in
theorem q37_.calls (k : Nat) (g : Nat) (s0_0 : ByteArray) (s0_1 : Int) (s0_2 : Bool) (r1 : Bool) (r2 : ByteArray) (r3 : Int) (r4 : Bool) (w0 w : World) (hI : IsS94 w0 w g s0_0 s0_1 s0_2) (hB : Below w0.heap.size w0 w) (h : q37_.f k s0_0 s0_1 s0_2 = some (r1, r2, r3, r4)) :
    Calls Tryd.prog 51 #[.pointer (some ⟨g, 0, none⟩)] w fun e w' => e = .returned (.bool r1) ∧ IsS94 w0 w' g r2 r3 r4 ∧ Below w0.heap.size w0 w' ∧ KeepBut w w' g none := by
  have HI0 := Aside0.mk hI
  have HK := Aside0.mk (KeepBut.refl w g none)
  have HL := Aside0.mk hB.size
  clear hI
  have HW0 := Aside0.mk hB.size
  have HB := Aside0.mk hB
  clear hB
  have H : ((q27_.f s0_0 (⟨#[60, 63, 120, 109, 108]⟩ : ByteArray)).bind fun t101 => (if t101 = true then (if (s0_0.size : Int) < 6 then (q37_.j0 k true s0_0 s0_1 s0_2) else (if 5 < (s0_0.size : Int) then ((q32_.f (bt s0_0 5)).bind fun t102 => (if t102 = true then (q37_.j0 k false s0_0 s0_1 s0_2) else (q37_.j0 k ((bt s0_0 5) != 63) s0_0 s0_1 s0_2))) else (none))) else (q37_.j0 k true s0_0 s0_1 s0_2))) = some (r1, r2, r3, r4) := h
  clear h
  have HC2 := Aside0.mk H
  clear H
  go_enter Tryd.func51, Tryd.ntmps51
  go_upto_region 1 with (fail)
  repeat (go_quiet (fail); go_upto_region 1 with (fail))
  go_cut [33] (fun v33 wc => ∃ (kq : Nat) (x33_1 : Bool), v33 = .bool x33_1 ∧ Aside0 (q37_.j0 kq x33_1 s0_0 s0_1 s0_2 = some (r1, r2, r3, r4)) ∧ Aside0 (kq ≤ k) ∧ Aside0 (IsS94 w0 wc g s0_0 s0_1 s0_2) ∧ Aside0 (KeepBut w wc g none) ∧ Aside0 (Below w0.heap.size w0 wc))
  case first =>
    have H := HC2.out
    clear HC2
    replace H := Option.bind_eq_some_iff.mp H
    obtain ⟨t101, A30, H⟩ := H
    replace H : (if t101 = true then (if (s0_0.size : Int) < 6 then (q37_.j0 k true s0_0 s0_1 s0_2) else (if 5 < (s0_0.size : Int) then ((q32_.f (bt s0_0 5)).bind fun t102 => (if t102 = true then (q37_.j0 k false s0_0 s0_1 s0_2) else (q37_.j0 k ((bt s0_0 5) != 63) s0_0 s0_1 s0_2))) else (none))) else (q37_.j0 k true s0_0 s0_1 s0_2)) = some (r1, r2, r3, r4) := H
    have A3 := Aside0.mk A30
    clear A30
    by_cases c4 : t101 = true
    · subst c4
      have H1 : (if (s0_0.size : Int) < 6 then (q37_.j0 k true s0_0 s0_1 s0_2) else (if 5 < (s0_0.size : Int) then ((q32_.f (bt s0_0 5)).bind fun t102 => (if t102 = true then (q37_.j0 k false s0_0 s0_1 s0_2) else (q37_.j0 k ((bt s0_0 5) != 63) s0_0 s0_1 s0_2))) else (none))) = some (r1, r2, r3, r4) := by rw [if_pos rfl] at H; exact H
      clear H
      have H := H1
      clear H1
      by_cases c5 : (s0_0.size : Int) < 6
      · rw [if_pos c5] at H
        have c5b0 : decide ((s0_0.size : Int) < 6) = true := decide_eq_true c5
        have c5b1 : decide (s0_0.size < 6) = true := decide_eq_true (by omega)
        clear c5
        (first | rw [c5b0] | (simp only [i64_w, i32_w]; rw [c5b0]) | skip)
        have H' := Aside0.mk H
        clear H
        obtain ⟨HGz6, hgz6⟩ := HI0.out
        have hcz6_0 := cellS94_0 HGz6
        have hcz6_1 := cellS94_1 HGz6
        have hcz6_2 := cellS94_2 HGz6
        have hfz6_0 := blk_frozen HGz6 0
        have hfz6_1 := blk_frozen HGz6 1
        have hfz6_2 := blk_frozen HGz6 2
        clear HGz6 hgz6
        go_wp2_with (first | (go_at_call 80; (with_reducible refine (q27_.calls s0_0 (⟨#[60, 63, 120, 109, 108]⟩ : ByteArray) true _ A3.out).mono ?_); rintro e w' ⟨rfl, ⟨nd, rfl⟩⟩; (try first | exact ⟨rfl, _, World.drewN_drewN _ _ _⟩ | exact ⟨rfl, _, Eq.trans (World.drewN_drewN _ _ _) (congrArg (World.drewN _) (Nat.add_assoc _ _ _))⟩)))
        repeat (go_quiet (first | (go_at_call 80; (with_reducible refine (q27_.calls s0_0 (⟨#[60, 63, 120, 109, 108]⟩ : ByteArray) true _ A3.out).mono ?_); rintro e w' ⟨rfl, ⟨nd, rfl⟩⟩; (try first | exact ⟨rfl, _, World.drewN_drewN _ _ _⟩ | exact ⟨rfl, _, Eq.trans (World.drewN_drewN _ _ _) (congrArg (World.drewN _) (Nat.add_assoc _ _ _))⟩))); try go_wp2_with (first | (go_at_call 80; (with_reducible refine (q27_.calls s0_0 (⟨#[60, 63, 120, 109, 108]⟩ : ByteArray) true _ A3.out).mono ?_); rintro e w' ⟨rfl, ⟨nd, rfl⟩⟩; (try first | exact ⟨rfl, _, World.drewN_drewN _ _ _⟩ | exact ⟨rfl, _, Eq.trans (World.drewN_drewN _ _ _) (congrArg (World.drewN _) (Nat.add_assoc _ _ _))⟩))))
        go_meet
        case rel => exact ⟨_, (true), (by first | rfl | (simp; done) | (simp [*]; done)), H', ⟨by first | omega | exact Nat.le_refl _⟩, ⟨by repeat (first | (with_reducible first | exact HI0.out | apply IsS94.alloc | apply IsS94.drewN | apply IsS94.drew | apply IsS94.set_0 | apply IsS94.set_1 | apply IsS94.set_2) | exact HI0.out)⟩, ⟨by repeat (first | (with_reducible first | exact HK.out | apply KeepBut.set_ | apply keep_drewN | apply keep_drew | apply keep_alloc) | exact HK.out)⟩, ⟨by repeat (first | (with_reducible first | exact HB.out | apply below_alloc | apply pw_below_drewN | apply below_drew1 | refine below_set ?_ (IsS94.ge HI0.out)) | exact HB.out)⟩⟩
      · rw [if_neg c5] at H
        have c5b0 : decide ((s0_0.size : Int) < 6) = false := decide_eq_false c5
        have c5b1 : decide (s0_0.size < 6) = false := decide_eq_false (by omega)
        clear c5
        (first | rw [c5b0] | (simp only [i64_w, i32_w]; rw [c5b0]) | skip)
        by_cases c7 : 5 < (s0_0.size : Int)
        · rw [if_pos c7] at H
          have c7b0 : decide (5 < (s0_0.size : Int)) = true := decide_eq_true c7
          have c7b1 : decide (5 < s0_0.size) = true := decide_eq_true (by omega)
          clear c7
          replace H := Option.bind_eq_some_iff.mp H
          obtain ⟨t102, A90, H⟩ := H
          replace H : (if t102 = true then (q37_.j0 k false s0_0 s0_1 s0_2) else (q37_.j0 k ((bt s0_0 5) != 63) s0_0 s0_1 s0_2)) = some (r1, r2, r3, r4) := H
          have A9 := Aside0.mk A90
          clear A90
          by_cases c10 : t102 = true
          · subst c10
            have H1 : (q37_.j0 k false s0_0 s0_1 s0_2) = some (r1, r2, r3, r4) := by rw [if_pos rfl] at H; exact H
            clear H
            have H := H1
            clear H1
            have H' := Aside0.mk H
            clear H
            obtain ⟨HGz11, hgz11⟩ := HI0.out
            have hcz11_0 := cellS94_0 HGz11
            have hcz11_1 := cellS94_1 HGz11
            have hcz11_2 := cellS94_2 HGz11
            have hfz11_0 := blk_frozen HGz11 0
            have hfz11_1 := blk_frozen HGz11 1
            have hfz11_2 := blk_frozen HGz11 2
            clear HGz11 hgz11
            go_wp2_with (first | (go_at_call 80; (with_reducible refine (q27_.calls s0_0 (⟨#[60, 63, 120, 109, 108]⟩ : ByteArray) true _ A3.out).mono ?_); rintro e w' ⟨rfl, ⟨nd, rfl⟩⟩; (try first | exact ⟨rfl, _, World.drewN_drewN _ _ _⟩ | exact ⟨rfl, _, Eq.trans (World.drewN_drewN _ _ _) (congrArg (World.drewN _) (Nat.add_assoc _ _ _))⟩); have p8 : 0 ≤ (5 : Int) := (by omega); have q8 : 5 < s0_0.size := (by have : (5 : Int) < (s0_0.size : Int) := of_decide_eq_true (by first | (with_reducible assumption) | assumption); omega); have hx8 : ∀ h : 5 < s0_0.size, ((s0_0[5]'h).toNat : Int) = bt s0_0 5 := bt_at s0_0 5; clear p8; have qi8 : (5 < (s0_0.size : Int)) = True := eq_true (of_decide_eq_true (by first | (with_reducible assumption) | assumption)); replace q8 := eq_true q8) | (go_at_call 98; (with_reducible refine (q32_.calls (bt s0_0 5) true _ A9.out).mono ?_); rintro e w' ⟨rfl, ⟨nd, rfl⟩⟩; (try first | exact ⟨rfl, _, World.drewN_drewN _ _ _⟩ | exact ⟨rfl, _, Eq.trans (World.drewN_drewN _ _ _) (congrArg (World.drewN _) (Nat.add_assoc _ _ _))⟩)))
            repeat (go_quiet (first | (go_at_call 80; (with_reducible refine (q27_.calls s0_0 (⟨#[60, 63, 120, 109, 108]⟩ : ByteArray) true _ A3.out).mono ?_); rintro e w' ⟨rfl, ⟨nd, rfl⟩⟩; (try first | exact ⟨rfl, _, World.drewN_drewN _ _ _⟩ | exact ⟨rfl, _, Eq.trans (World.drewN_drewN _ _ _) (congrArg (World.drewN _) (Nat.add_assoc _ _ _))⟩); have p8 : 0 ≤ (5 : Int) := (by omega); have q8 : 5 < s0_0.size := (by have : (5 : Int) < (s0_0.size : Int) := of_decide_eq_true (by first | (with_reducible assumption) | assumption); omega); have hx8 : ∀ h : 5 < s0_0.size, ((s0_0[5]'h).toNat : Int) = bt s0_0 5 := bt_at s0_0 5; clear p8; have qi8 : (5 < (s0_0.size : Int)) = True := eq_true (of_decide_eq_true (by first | (with_reducible assumption) | assumption)); replace q8 := eq_true q8) | (go_at_call 98; (with_reducible refine (q32_.calls (bt s0_0 5) true _ A9.out).mono ?_); rintro e w' ⟨rfl, ⟨nd, rfl⟩⟩; (try first | exact ⟨rfl, _, World.drewN_drewN _ _ _⟩ | exact ⟨rfl, _, Eq.trans (World.drewN_drewN _ _ _) (congrArg (World.drewN _) (Nat.add_assoc _ _ _))⟩))); try go_wp2_with (first | (go_at_call 80; (with_reducible refine (q27_.calls s0_0 (⟨#[60, 63, 120, 109, 108]⟩ : ByteArray) true _ A3.out).mono ?_); rintro e w' ⟨rfl, ⟨nd, rfl⟩⟩; (try first | exact ⟨rfl, _, World.drewN_drewN _ _ _⟩ | exact ⟨rfl, _, Eq.trans (World.drewN_drewN _ _ _) (congrArg (World.drewN _) (Nat.add_assoc _ _ _))⟩); have p8 : 0 ≤ (5 : Int) := (by omega); have q8 : 5 < s0_0.size := (by have : (5 : Int) < (s0_0.size : Int) := of_decide_eq_true (by first | (with_reducible assumption) | assumption); omega); have hx8 : ∀ h : 5 < s0_0.size, ((s0_0[5]'h).toNat : Int) = bt s0_0 5 := bt_at s0_0 5; clear p8; have qi8 : (5 < (s0_0.size : Int)) = True := eq_true (of_decide_eq_true (by first | (with_reducible assumption) | assumption)); replace q8 := eq_true q8) | (go_at_call 98; (with_reducible refine (q32_.calls (bt s0_0 5) true _ A9.out).mono ?_); rintro e w' ⟨rfl, ⟨nd, rfl⟩⟩; (try first | exact ⟨rfl, _, World.drewN_drewN _ _ _⟩ | exact ⟨rfl, _, Eq.trans (World.drewN_drewN _ _ _) (congrArg (World.drewN _) (Nat.add_assoc _ _ _))⟩))))
            go_meet
            case rel => exact ⟨_, (false), (by first | rfl | (simp; done) | (simp [*]; done)), H', ⟨by first | omega | exact Nat.le_refl _⟩, ⟨by repeat (first | (with_reducible first | exact HI0.out | apply IsS94.alloc | apply IsS94.drewN | apply IsS94.drew | apply IsS94.set_0 | apply IsS94.set_1 | apply IsS94.set_2) | exact HI0.out)⟩, ⟨by repeat (first | (with_reducible first | exact HK.out | apply KeepBut.set_ | apply keep_drewN | apply keep_drew | apply keep_alloc) | exact HK.out)⟩, ⟨by repeat (first | (with_reducible first | exact HB.out | apply below_alloc | apply pw_below_drewN | apply below_drew1 | refine below_set ?_ (IsS94.ge HI0.out)) | exact HB.out)⟩⟩
          · replace c10 := Bool.eq_false_iff.mpr c10
            subst c10
            have H1 : (q37_.j0 k ((bt s0_0 5) != 63) s0_0 s0_1 s0_2) = some (r1, r2, r3, r4) := by rw [if_neg (show ¬ (false = true) by decide)] at H; exact H
            clear H
            have H := H1
            clear H1
            have H' := Aside0.mk H
            clear H
            obtain ⟨HGz13, hgz13⟩ := HI0.out
            have hcz13_0 := cellS94_0 HGz13
            have hcz13_1 := cellS94_1 HGz13
            have hcz13_2 := cellS94_2 HGz13
            have hfz13_0 := blk_frozen HGz13 0
            have hfz13_1 := blk_frozen HGz13 1
            have hfz13_2 := blk_frozen HGz13 2
            clear HGz13 hgz13
            go_wp2_with (first | (go_at_call 80; (with_reducible refine (q27_.calls s0_0 (⟨#[60, 63, 120, 109, 108]⟩ : ByteArray) true _ A3.out).mono ?_); rintro e w' ⟨rfl, ⟨nd, rfl⟩⟩; (try first | exact ⟨rfl, _, World.drewN_drewN _ _ _⟩ | exact ⟨rfl, _, Eq.trans (World.drewN_drewN _ _ _) (congrArg (World.drewN _) (Nat.add_assoc _ _ _))⟩); have p8 : 0 ≤ (5 : Int) := (by omega); have q8 : 5 < s0_0.size := (by have : (5 : Int) < (s0_0.size : Int) := of_decide_eq_true (by first | (with_reducible assumption) | assumption); omega); have hx8 : ∀ h : 5 < s0_0.size, ((s0_0[5]'h).toNat : Int) = bt s0_0 5 := bt_at s0_0 5; clear p8; have qi8 : (5 < (s0_0.size : Int)) = True := eq_true (of_decide_eq_true (by first | (with_reducible assumption) | assumption)); replace q8 := eq_true q8) | (go_at_call 98; (with_reducible refine (q32_.calls (bt s0_0 5) false _ A9.out).mono ?_); rintro e w' ⟨rfl, ⟨nd, rfl⟩⟩; (try first | exact ⟨rfl, _, World.drewN_drewN _ _ _⟩ | exact ⟨rfl, _, Eq.trans (World.drewN_drewN _ _ _) (congrArg (World.drewN _) (Nat.add_assoc _ _ _))⟩); have p12 : 0 ≤ (5 : Int) := (by omega); have q12 : 5 < s0_0.size := (by have : (5 : Int) < (s0_0.size : Int) := of_decide_eq_true (by first | (with_reducible assumption) | assumption); omega); have hx12 : ∀ h : 5 < s0_0.size, ((s0_0[5]'h).toNat : Int) = bt s0_0 5 := bt_at s0_0 5; clear p12; have qi12 : (5 < (s0_0.size : Int)) = True := eq_true (of_decide_eq_true (by first | (with_reducible assumption) | assumption)); replace q12 := eq_true q12))
            repeat (go_quiet (first | (go_at_call 80; (with_reducible refine (q27_.calls s0_0 (⟨#[60, 63, 120, 109, 108]⟩ : ByteArray) true _ A3.out).mono ?_); rintro e w' ⟨rfl, ⟨nd, rfl⟩⟩; (try first | exact ⟨rfl, _, World.drewN_drewN _ _ _⟩ | exact ⟨rfl, _, Eq.trans (World.drewN_drewN _ _ _) (congrArg (World.drewN _) (Nat.add_assoc _ _ _))⟩); have p8 : 0 ≤ (5 : Int) := (by omega); have q8 : 5 < s0_0.size := (by have : (5 : Int) < (s0_0.size : Int) := of_decide_eq_true (by first | (with_reducible assumption) | assumption); omega); have hx8 : ∀ h : 5 < s0_0.size, ((s0_0[5]'h).toNat : Int) = bt s0_0 5 := bt_at s0_0 5; clear p8; have qi8 : (5 < (s0_0.size : Int)) = True := eq_true (of_decide_eq_true (by first | (with_reducible assumption) | assumption)); replace q8 := eq_true q8) | (go_at_call 98; (with_reducible refine (q32_.calls (bt s0_0 5) false _ A9.out).mono ?_); rintro e w' ⟨rfl, ⟨nd, rfl⟩⟩; (try first | exact ⟨rfl, _, World.drewN_drewN _ _ _⟩ | exact ⟨rfl, _, Eq.trans (World.drewN_drewN _ _ _) (congrArg (World.drewN _) (Nat.add_assoc _ _ _))⟩); have p12 : 0 ≤ (5 : Int) := (by omega); have q12 : 5 < s0_0.size := (by have : (5 : Int) < (s0_0.size : Int) := of_decide_eq_true (by first | (with_reducible assumption) | assumption); omega); have hx12 : ∀ h : 5 < s0_0.size, ((s0_0[5]'h).toNat : Int) = bt s0_0 5 := bt_at s0_0 5; clear p12; have qi12 : (5 < (s0_0.size : Int)) = True := eq_true (of_decide_eq_true (by first | (with_reducible assumption) | assumption)); replace q12 := eq_true q12)); try go_wp2_with (first | (go_at_call 80; (with_reducible refine (q27_.calls s0_0 (⟨#[60, 63, 120, 109, 108]⟩ : ByteArray) true _ A3.out).mono ?_); rintro e w' ⟨rfl, ⟨nd, rfl⟩⟩; (try first | exact ⟨rfl, _, World.drewN_drewN _ _ _⟩ | exact ⟨rfl, _, Eq.trans (World.drewN_drewN _ _ _) (congrArg (World.drewN _) (Nat.add_assoc _ _ _))⟩); have p8 : 0 ≤ (5 : Int) := (by omega); have q8 : 5 < s0_0.size := (by have : (5 : Int) < (s0_0.size : Int) := of_decide_eq_true (by first | (with_reducible assumption) | assumption); omega); have hx8 : ∀ h : 5 < s0_0.size, ((s0_0[5]'h).toNat : Int) = bt s0_0 5 := bt_at s0_0 5; clear p8; have qi8 : (5 < (s0_0.size : Int)) = True := eq_true (of_decide_eq_true (by first | (with_reducible assumption) | assumption)); replace q8 := eq_true q8) | (go_at_call 98; (with_reducible refine (q32_.calls (bt s0_0 5) false _ A9.out).mono ?_); rintro e w' ⟨rfl, ⟨nd, rfl⟩⟩; (try first | exact ⟨rfl, _, World.drewN_drewN _ _ _⟩ | exact ⟨rfl, _, Eq.trans (World.drewN_drewN _ _ _) (congrArg (World.drewN _) (Nat.add_assoc _ _ _))⟩); have p12 : 0 ≤ (5 : Int) := (by omega); have q12 : 5 < s0_0.size := (by have : (5 : Int) < (s0_0.size : Int) := of_decide_eq_true (by first | (with_reducible assumption) | assumption); omega); have hx12 : ∀ h : 5 < s0_0.size, ((s0_0[5]'h).toNat : Int) = bt s0_0 5 := bt_at s0_0 5; clear p12; have qi12 : (5 < (s0_0.size : Int)) = True := eq_true (of_decide_eq_true (by first | (with_reducible assumption) | assumption)); replace q12 := eq_true q12)))
            go_meet
            case rel => exact ⟨_, (((bt s0_0 5) != 63)), (by first | rfl | (simp; done) | (simp [*]; done)), H', ⟨by first | omega | exact Nat.le_refl _⟩, ⟨by repeat (first | (with_reducible first | exact HI0.out | apply IsS94.alloc | apply IsS94.drewN | apply IsS94.drew | apply IsS94.set_0 | apply IsS94.set_1 | apply IsS94.set_2) | exact HI0.out)⟩, ⟨by repeat (first | (with_reducible first | exact HK.out | apply KeepBut.set_ | apply keep_drewN | apply keep_drew | apply keep_alloc) | exact HK.out)⟩, ⟨by repeat (first | (with_reducible first | exact HB.out | apply below_alloc | apply pw_below_drewN | apply below_drew1 | refine below_set ?_ (IsS94.ge HI0.out)) | exact HB.out)⟩⟩
        · rw [if_neg c7] at H
          exact absurd H (by simp)
    · replace c4 := Bool.eq_false_iff.mpr c4
      subst c4
      have H1 : (q37_.j0 k true s0_0 s0_1 s0_2) = some (r1, r2, r3, r4) := by rw [if_neg (show ¬ (false = true) by decide)] at H; exact H
      clear H
      have H := H1
      clear H1
      have H' := Aside0.mk H
      clear H
      obtain ⟨HGz14, hgz14⟩ := HI0.out
      have hcz14_0 := cellS94_0 HGz14
      have hcz14_1 := cellS94_1 HGz14
      have hcz14_2 := cellS94_2 HGz14
      have hfz14_0 := blk_frozen HGz14 0
      have hfz14_1 := blk_frozen HGz14 1
      have hfz14_2 := blk_frozen HGz14 2
      clear HGz14 hgz14
      go_wp2_with (first | (go_at_call 80; (with_reducible refine (q27_.calls s0_0 (⟨#[60, 63, 120, 109, 108]⟩ : ByteArray) false _ A3.out).mono ?_); rintro e w' ⟨rfl, ⟨nd, rfl⟩⟩; (try first | exact ⟨rfl, _, World.drewN_drewN _ _ _⟩ | exact ⟨rfl, _, Eq.trans (World.drewN_drewN _ _ _) (congrArg (World.drewN _) (Nat.add_assoc _ _ _))⟩)))
      repeat (go_quiet (first | (go_at_call 80; (with_reducible refine (q27_.calls s0_0 (⟨#[60, 63, 120, 109, 108]⟩ : ByteArray) false _ A3.out).mono ?_); rintro e w' ⟨rfl, ⟨nd, rfl⟩⟩; (try first | exact ⟨rfl, _, World.drewN_drewN _ _ _⟩ | exact ⟨rfl, _, Eq.trans (World.drewN_drewN _ _ _) (congrArg (World.drewN _) (Nat.add_assoc _ _ _))⟩))); try go_wp2_with (first | (go_at_call 80; (with_reducible refine (q27_.calls s0_0 (⟨#[60, 63, 120, 109, 108]⟩ : ByteArray) false _ A3.out).mono ?_); rintro e w' ⟨rfl, ⟨nd, rfl⟩⟩; (try first | exact ⟨rfl, _, World.drewN_drewN _ _ _⟩ | exact ⟨rfl, _, Eq.trans (World.drewN_drewN _ _ _) (congrArg (World.drewN _) (Nat.add_assoc _ _ _))⟩))))
      go_meet
      case rel => exact ⟨_, (true), (by first | rfl | (simp; done) | (simp [*]; done)), H', ⟨by first | omega | exact Nat.le_refl _⟩, ⟨by repeat (first | (with_reducible first | exact HI0.out | apply IsS94.alloc | apply IsS94.drewN | apply IsS94.drew | apply IsS94.set_0 | apply IsS94.set_1 | apply IsS94.set_2) | exact HI0.out)⟩, ⟨by repeat (first | (with_reducible first | exact HK.out | apply KeepBut.set_ | apply keep_drewN | apply keep_drew | apply keep_alloc) | exact HK.out)⟩, ⟨by repeat (first | (with_reducible first | exact HB.out | apply below_alloc | apply pw_below_drewN | apply below_drew1 | refine below_set ?_ (IsS94.ge HI0.out)) | exact HB.out)⟩⟩
  case rest =>
    clear HC2
    try clear c1
    try clear p1
    try clear q1
    try clear hx1
    try clear qi1
    try clear p2
    try clear c4
    try clear c5
    try clear c5b0
    try clear c5b1
    try clear c7
    try clear c7b0
    try clear c7b1
    try clear p8
    try clear q8
    try clear hx8
    try clear qi8
    try clear c10
    try clear p12
    try clear q12
    try clear hx12
    try clear qi12
    try clear hcz11_0
    try clear hcz11_1
    try clear hcz11_2
    try clear hcz13_0
    try clear hcz13_1
    try clear hcz13_2
    try clear hcz14_0
    try clear hcz14_1
    try clear hcz14_2
    try clear hcz6_0
    try clear hcz6_1
    try clear hcz6_2
    try clear hfz11_0
    try clear hfz11_1
    try clear hfz11_2
    try clear hfz13_0
    try clear hfz13_1
    try clear hfz13_2
    try clear hfz14_0
    try clear hfz14_1
    try clear hfz14_2
    try clear hfz6_0
    try clear hfz6_1
    try clear hfz6_2
    try clear p12
    try clear p8
    try clear q12
    try clear q8
    obtain ⟨kq, x33_1, rfl, HA, HJ1, HI0, HK, HB⟩ := hcut
    cases kq with
    | zero => exact absurd HA.out (by simp [q37_.j0])
    | succ kj1 =>
      have H := HA.out
      clear HA
      simp only [q37_.j0] at H
      by_cases c15 : x33_1 = true
      · subst c15
        have H1 : (some (true, s0_0, s0_1, s0_2)) = some (r1, r2, r3, r4) := by rw [if_pos rfl] at H; exact H
        clear H
        have H := H1
        clear H1
        simp only [Option.some.injEq, Prod.mk.injEq] at H
        obtain ⟨rfl, rfl, rfl, rfl⟩ := H
        go_wp2
        repeat (go_quiet (fail); try go_wp2)
        go_ret
        exact ⟨by first | rfl | (simp [errW_none, errW_some] <;> rfl) | (simp [*, errW_none, errW_some] <;> rfl), by repeat (first | (with_reducible first | exact HI0.out | apply IsS94.alloc | apply IsS94.drewN | apply IsS94.drew | apply IsS94.set_0 | apply IsS94.set_1 | apply IsS94.set_2) | exact HI0.out), by repeat (first | (with_reducible first | exact HB.out | apply below_alloc | apply pw_below_drewN | apply below_drew1 | refine below_set ?_ (IsS94.ge HI0.out)) | exact HB.out), by repeat (first | (with_reducible first | exact HK.out | apply KeepBut.set_ | apply keep_drewN | apply keep_drew | apply keep_alloc) | exact HK.out)⟩
      · replace c15 := Bool.eq_false_iff.mpr c15
        subst c15
        have H1 : (q37_.l0 kj1 s0_0 5 s0_2) = some (r1, r2, r3, r4) := by rw [if_neg (show ¬ (false = true) by decide)] at H; exact H
        clear H
        have H := H1
        clear H1
        have H' := Aside0.mk H
        clear H
        obtain ⟨HGz16, hgz16⟩ := HI0.out
        have hcz16_0 := cellS94_0 HGz16
        have hcz16_1 := cellS94_1 HGz16
        have hcz16_2 := cellS94_2 HGz16
        have hfz16_0 := blk_frozen HGz16 0
        have hfz16_1 := blk_frozen HGz16 1
        have hfz16_2 := blk_frozen HGz16 2
        clear HGz16 hgz16
        go_wp2
        repeat (go_quiet (fail); try go_wp2)
        go_loopg [] kj1 (fun kq w' => ∃ (x1001_2 : Int), Aside0 (q37_.l0 kq s0_0 x1001_2 s0_2 = some (r1, r2, r3, r4)) ∧ Aside0 (kq ≤ kj1) ∧ Aside0 (IsS94 w0 w' g s0_0 x1001_2 s0_2) ∧ Aside0 (KeepBut w w' g none) ∧ Aside0 (Below w0.heap.size w0 w'))
        case atStart => exact ⟨(5), H', ⟨Nat.le_refl _⟩, ⟨by repeat (first | (with_reducible first | exact HI0.out | apply IsS94.alloc | apply IsS94.drewN | apply IsS94.drew | apply IsS94.set_0 | apply IsS94.set_1 | apply IsS94.set_2) | exact HI0.out)⟩, ⟨by repeat (first | (with_reducible first | exact HK.out | apply KeepBut.set_ | apply keep_drewN | apply keep_drew | apply keep_alloc) | exact HK.out)⟩, ⟨by repeat (first | (with_reducible first | exact HB.out | apply below_alloc | apply pw_below_drewN | apply below_drew1 | refine below_set ?_ (IsS94.ge HI0.out)) | exact HB.out)⟩⟩
        case round =>
          clear H'
          try clear c1
          try clear p1
          try clear q1
          try clear hx1
          try clear qi1
          try clear p2
          try clear c4
          try clear c5
          try clear c5b0
          try clear c5b1
          try clear c7
          try clear c7b0
          try clear c7b1
          try clear p8
          try clear q8
          try clear hx8
          try clear qi8
          try clear c10
          try clear p12
          try clear q12
          try clear hx12
          try clear qi12
          try clear c15
          try clear hcz11_0
          try clear hcz11_1
          try clear hcz11_2
          try clear hcz13_0
          try clear hcz13_1
          try clear hcz13_2
          try clear hcz14_0
          try clear hcz14_1
          try clear hcz14_2
          try clear hcz16_0
          try clear hcz16_1
          try clear hcz16_2
          try clear hcz6_0
          try clear hcz6_1
          try clear hcz6_2
          try clear hfz11_0
          try clear hfz11_1
          try clear hfz11_2
          try clear hfz13_0
          try clear hfz13_1
          try clear hfz13_2
          try clear hfz14_0
          try clear hfz14_1
          try clear hfz14_2
          try clear hfz16_0
          try clear hfz16_1
          try clear hfz16_2
          try clear hfz6_0
          try clear hfz6_1
          try clear hfz6_2
          try clear p1
          try clear p12
          try clear p2
          try clear p8
          try clear q1
          try clear q12
          try clear q8
          obtain ⟨x1001_2, HA, HK2, HI0, HK, HB⟩ := hrel
          cases gk with
          | zero => exact absurd HA.out (by simp [q37_.l0])
          | succ k2 =>
            have H := HA.out
            clear HA
            simp only [q37_.l0] at H
            by_cases c17 : (wrap64 (x1001_2 + 1)) < (s0_0.size : Int)
            · rw [if_pos c17] at H
              have c17b0 : decide ((wrap64 (x1001_2 + 1)) < (s0_0.size : Int)) = true := decide_eq_true c17
              clear c17
              by_cases c18 : 0 ≤ x1001_2
              · rw [if_pos c18] at H
                have c18b0 : decide (0 ≤ x1001_2) = true := decide_eq_true c18
                clear c18
                by_cases c19 : x1001_2 < (s0_0.size : Int)
                · rw [if_pos c19] at H
                  have c19b0 : decide (x1001_2 < (s0_0.size : Int)) = true := decide_eq_true c19
                  clear c19
                  by_cases c21 : (bt s0_0 x1001_2) = 63
                  · rw [if_pos c21] at H
                    have c21b0 : ((bt s0_0 x1001_2) == 63) = true := beq_iff_eq.mpr c21
                    have c21b1 : ((bt s0_0 x1001_2) != 63) = false := bne_eq_false_iff_eq.mpr c21
                    clear c21
                    obtain ⟨ji22, hji22⟩ : ∃ j_ : Int, (wrap64 (x1001_2 + 1)) = j_ := ⟨_, rfl⟩
                    replace H : (if 0 ≤ (ji22) then (if (bt s0_0 (ji22)) = 62 then (some (true, s0_0, wrap64 (x1001_2 + 2), s0_2)) else (q37_.l0 k2 s0_0 ji22 s0_2)) else (none)) = some (r1, r2, r3, r4) := by first | (rw [hji22] at H; exact H) | (simp only [hji22] at H ⊢; exact H)
                    (try rw [hji22] at c17b0)
                    have hji22w : (IntKind.i64.wrap (x1001_2 + 1)) = ji22 := (i64_w _).trans hji22
                    by_cases c23 : 0 ≤ (ji22)
                    · rw [if_pos c23] at H
                      have c23b0 : decide (0 ≤ (ji22)) = true := decide_eq_true c23
                      clear c23
                      by_cases c25 : (bt s0_0 (ji22)) = 62
                      · rw [if_pos c25] at H
                        have c25b0 : ((bt s0_0 (ji22)) == 62) = true := beq_iff_eq.mpr c25
                        have c25b1 : ((bt s0_0 (ji22)) != 62) = false := bne_eq_false_iff_eq.mpr c25
                        clear c25
                        simp only [Option.some.injEq, Prod.mk.injEq] at H
                        obtain ⟨rfl, rfl, rfl, rfl⟩ := H
                        obtain ⟨HGz26, hgz26⟩ := HI0.out
                        have hcz26_0 := cellS94_0 HGz26
                        have hcz26_1 := cellS94_1 HGz26
                        have hcz26_2 := cellS94_2 HGz26
                        have hfz26_0 := blk_frozen HGz26 0
                        have hfz26_1 := blk_frozen HGz26 1
                        have hfz26_2 := blk_frozen HGz26 2
                        clear HGz26 hgz26
                        have p20 : 0 ≤ (x1001_2 : Int) := of_decide_eq_true (by first | (with_reducible assumption) | assumption)
                        have q20 : x1001_2 < (s0_0.size : Int) := of_decide_eq_true (by first | (with_reducible assumption) | assumption)
                        have hx20 := bt_at s0_0 x1001_2
                        replace p20 := eq_true p20
                        replace q20 := eq_true q20
                        have p24 : 0 ≤ ((ji22) : Int) := of_decide_eq_true (by first | (with_reducible assumption) | assumption)
                        have q24 : (ji22) < (s0_0.size : Int) := of_decide_eq_true (by first | (with_reducible assumption) | assumption)
                        have hx24 := bt_at s0_0 (ji22)
                        replace p24 := eq_true p24
                        replace q24 := eq_true q24
                        go_wp2
                        repeat (go_quiet (fail); try go_wp2)
                        go_ret
                        exact ⟨by first | rfl | (simp [errW_none, errW_some] <;> rfl) | (simp only [← hji22]; first | rfl | (simp [errW_none, errW_some] <;> rfl)) | (simp [*, errW_none, errW_some] <;> rfl), by repeat (first | (with_reducible first | exact HI0.out | apply IsS94.alloc | apply IsS94.drewN | apply IsS94.drew | apply IsS94.set_0 | apply IsS94.set_1 | apply IsS94.set_2) | exact HI0.out), by repeat (first | (with_reducible first | exact HB.out | apply below_alloc | apply pw_below_drewN | apply below_drew1 | refine below_set ?_ (IsS94.ge HI0.out)) | exact HB.out), by repeat (first | (with_reducible first | exact HK.out | apply KeepBut.set_ | apply keep_drewN | apply keep_drew | apply keep_alloc) | exact HK.out)⟩
                      · rw [if_neg c25] at H
                        have c25b0 : ((bt s0_0 (ji22)) == 62) = false := beq_eq_false_iff_ne.mpr c25
                        have c25b1 : ((bt s0_0 (ji22)) != 62) = true := bne_iff_ne.mpr c25
                        have H' := Aside0.mk H
                        clear H
                        obtain ⟨HGz27, hgz27⟩ := HI0.out
                        have hcz27_0 := cellS94_0 HGz27
                        have hcz27_1 := cellS94_1 HGz27
                        have hcz27_2 := cellS94_2 HGz27
                        have hfz27_0 := blk_frozen HGz27 0
                        have hfz27_1 := blk_frozen HGz27 1
                        have hfz27_2 := blk_frozen HGz27 2
                        clear HGz27 hgz27
                        have p20 : 0 ≤ (x1001_2 : Int) := of_decide_eq_true (by first | (with_reducible assumption) | assumption)
                        have q20 : x1001_2 < (s0_0.size : Int) := of_decide_eq_true (by first | (with_reducible assumption) | assumption)
                        have hx20 := bt_at s0_0 x1001_2
                        replace p20 := eq_true p20
                        replace q20 := eq_true q20
                        have p24 : 0 ≤ ((ji22) : Int) := of_decide_eq_true (by first | (with_reducible assumption) | assumption)
                        have q24 : (ji22) < (s0_0.size : Int) := of_decide_eq_true (by first | (with_reducible assumption) | assumption)
                        have hx24 := bt_at s0_0 (ji22)
                        replace p24 := eq_true p24
                        replace q24 := eq_true q24
                        go_wp2
                        repeat (go_quiet (fail); try go_wp2)
                        go_roundg k2
                        case measure => have := HJ1.out; have := HK2.out; omega
                        case rel => exact ⟨(ji22), H', ⟨by have := HJ1.out; have := HK2.out; omega⟩, ⟨by repeat (first | (with_reducible first | exact HI0.out | apply IsS94.alloc | apply IsS94.drewN | apply IsS94.drew | apply IsS94.set_0 | apply IsS94.set_1 | apply IsS94.set_2) | exact HI0.out)⟩, ⟨by repeat (first | (with_reducible first | exact HK.out | apply KeepBut.set_ | apply keep_drewN | apply keep_drew | apply keep_alloc) | exact HK.out)⟩, ⟨by repeat (first | (with_reducible first | exact HB.out | apply below_alloc | apply pw_below_drewN | apply below_drew1 | refine below_set ?_ (IsS94.ge HI0.out)) | exact HB.out)⟩⟩
                    · rw [if_neg c23] at H
                      exact absurd H (by simp)
                  · rw [if_neg c21] at H
                    have c21b0 : ((bt s0_0 x1001_2) == 63) = false := beq_eq_false_iff_ne.mpr c21
                    have c21b1 : ((bt s0_0 x1001_2) != 63) = true := bne_iff_ne.mpr c21
                    have H' := Aside0.mk H
                    clear H
                    obtain ⟨HGz28, hgz28⟩ := HI0.out
                    have hcz28_0 := cellS94_0 HGz28
                    have hcz28_1 := cellS94_1 HGz28
                    have hcz28_2 := cellS94_2 HGz28
                    have hfz28_0 := blk_frozen HGz28 0
                    have hfz28_1 := blk_frozen HGz28 1
                    have hfz28_2 := blk_frozen HGz28 2
                    clear HGz28 hgz28
                    have p20 : 0 ≤ (x1001_2 : Int) := of_decide_eq_true (by first | (with_reducible assumption) | assumption)
                    have q20 : x1001_2 < (s0_0.size : Int) := of_decide_eq_true (by first | (with_reducible assumption) | assumption)
                    have hx20 := bt_at s0_0 x1001_2
                    replace p20 := eq_true p20
                    replace q20 := eq_true q20
                    go_wp2
                    repeat (go_quiet (fail); try go_wp2)
                    go_roundg k2
                    case measure => have := HJ1.out; have := HK2.out; omega
                    case rel => exact ⟨(wrap64 (x1001_2 + 1)), H', ⟨by have := HJ1.out; have := HK2.out; omega⟩, ⟨by repeat (first | (with_reducible first | exact HI0.out | apply IsS94.alloc | apply IsS94.drewN | apply IsS94.drew | apply IsS94.set_0 | apply IsS94.set_1 | apply IsS94.set_2) | exact HI0.out)⟩, ⟨by repeat (first | (with_reducible first | exact HK.out | apply KeepBut.set_ | apply keep_drewN | apply keep_drew | apply keep_alloc) | exact HK.out)⟩, ⟨by repeat (first | (with_reducible first | exact HB.out | apply below_alloc | apply pw_below_drewN | apply below_drew1 | refine below_set ?_ (IsS94.ge HI0.out)) | exact HB.out)⟩⟩
                · rw [if_neg c19] at H
                  exact absurd H (by simp)
              · rw [if_neg c18] at H
                exact absurd H (by simp)
            · rw [if_neg c17] at H
              have c17b0 : decide ((wrap64 (x1001_2 + 1)) < (s0_0.size : Int)) = false := decide_eq_false c17
              clear c17
              simp only [Option.some.injEq, Prod.mk.injEq] at H
              obtain ⟨rfl, rfl, rfl, rfl⟩ := H
              obtain ⟨HGz29, hgz29⟩ := HI0.out
              have hcz29_0 := cellS94_0 HGz29
              have hcz29_1 := cellS94_1 HGz29
              have hcz29_2 := cellS94_2 HGz29
              have hfz29_0 := blk_frozen HGz29 0
              have hfz29_1 := blk_frozen HGz29 1
              have hfz29_2 := blk_frozen HGz29 2
              clear HGz29 hgz29
              go_wp2
              repeat (go_quiet (fail); try go_wp2)
              go_ret
              exact ⟨by first | rfl | (simp [errW_none, errW_some] <;> rfl) | (simp [*, errW_none, errW_some] <;> rfl), by repeat (first | (with_reducible first | exact HI0.out | apply IsS94.alloc | apply IsS94.drewN | apply IsS94.drew | apply IsS94.set_0 | apply IsS94.set_1 | apply IsS94.set_2) | exact HI0.out), by repeat (first | (with_reducible first | exact HB.out | apply below_alloc | apply pw_below_drewN | apply below_drew1 | refine below_set ?_ (IsS94.ge HI0.out)) | exact HB.out), by repeat (first | (with_reducible first | exact HK.out | apply KeepBut.set_ | apply keep_drewN | apply keep_drew | apply keep_alloc) | exact HK.out)⟩
end Go.Proofs.YtkhjpobhdpcglaaDoor.X
end
section
namespace Go.Proofs.YtkhjpobhdpcglaaDoor.X
open Go.RowKit Go.Proofs.YtkhjpobhdpcglaaDoorW.PrintWords Go.Proofs.YtkhjpobhdpcglaaDoorW.PrintLast Go.Proofs.YtkhjpobhdpcglaaDoorW.PrintMore
theorem refWhite_f (c : Int) : q32_.f c = some (whiteV c) := white_f c
theorem runTo_in (p : Int → Bool) (s : ByteArray) : ∀ b i j, i ≤ j → j < runTo p s b i → p (bt s (j : Int)) = true ∧ j < s.size
  | 0, i, j, h1, h2 => by unfold runTo at h2; omega
  | b + 1, i, j, h1, h2 => by
    unfold runTo at h2
    split at h2
    · rename_i h
      by_cases hj : j = i
      · subst hj
        exact ⟨h.2, h.1⟩
      · exact runTo_in p s b (i + 1) j (by omega) h2
    · omega
theorem skip_all {p : Int → Bool} {s : ByteArray} {i j : Nat} (h1 : i ≤ j) (h2 : j < skip p s i) : p (bt s (j : Int)) = true ∧ j < s.size := runTo_in p s _ i j h1 h2
theorem skip_past {p : Int → Bool} {s : ByteArray} {i : Nat} (h : s.size ≤ i) : skip p s i = i := skip_out (by omega)
theorem bt_ext {s : ByteArray} {i m j : Nat} (hm : m ≤ s.size) (hj : i + j < m) : bt (s.extract i m) (j : Int) = bt s ((i + j : Nat) : Int) := by
  have hsz : (s.extract i m).size = m - i := by simp; omega
  rw [bt_get _ j (by omega), bt_get _ (i + j) (by omega)]
  congr 2
  have h1 : ∀ (t : ByteArray) (x : Nat) (h : x < t.size), t.data.toList[x]'(by rw [← size_list]; exact h) = t[x] := fun t x h => rfl
  rw [← h1, ← h1]
  simp only [ext_list]
  rw [List.getElem_drop, List.getElem_take]
theorem nameB_run (t : ByteArray) (hin : ∀ j, j < t.size → innerV (bt t (j : Int)) = true) : ∀ (r j : Nat), r + j = t.size → 0 < j → nameB t r j = true := by
  intro r
  induction r with
  | zero =>
    intro j hj h0
    rw [nameB_end _ _ _ (by omega)]
    exact decide_eq_true (by omega)
  | succ r ih =>
    intro j hj h0
    have hj0 : decide (j ≠ 0) = true := decide_eq_true (by omega)
    rw [nameB, if_pos (by omega), hin j (by omega), ih (j + 1) (by omega) (by omega), hj0]
    rfl
theorem nameV_run (t : ByteArray) (hin : ∀ j, j < t.size → innerV (bt t (j : Int)) = true) : nameV t = (decide (0 < t.size) && letterV (bt t ((0 : Nat) : Int))) := by
  unfold nameV
  cases hz : t.size with
  | zero => rw [nameB_end _ _ _ (by omega)]; simp [hz]
  | succ r =>
    rw [nameB, if_pos (by omega), hin 0 (by omega), nameB_run t hin r 1 (by omega) (by omega)]
    simp
theorem skip_letter {s : ByteArray} {i : Nat} (h : i < s.size) (hl : letterV (bt s (i : Int)) = true) : i < skip innerV s i := by
  rw [skip_in h (letter_inner hl)]
  have := le_skip innerV s (i + 1)
  omega
theorem nameV_at (s : ByteArray) (i : Nat) : nameV (s.extract i (skip innerV s i)) = (decide (i < s.size) && letterV (bt s (i : Int))) := by
  by_cases hi : i < s.size
  · have hle := (skip_le innerV s i (by omega)).2
    have hge := le_skip innerV s i
    have hsz : (s.extract i (skip innerV s i)).size = skip innerV s i - i := by simp; omega
    rw [nameV_run _ (fun j hj => by rw [bt_ext hle (by omega)]; exact (skip_all (i := i) (by omega) (by omega)).1)]
    by_cases hl : letterV (bt s (i : Int)) = true
    · have hlt := skip_letter hi hl
      rw [bt_ext hle (by omega), Nat.add_zero, hl]
      simp [hi]
      omega
    · have hl2 : letterV (bt s (i : Int)) = false := by simpa using hl
      rw [hl2, Bool.and_false]
      by_cases hlt : i < skip innerV s i
      · rw [bt_ext hle (by omega), Nat.add_zero, hl2, Bool.and_false]
      · rw [decide_eq_false (by omega), Bool.false_and]
  · have hsk : skip innerV s i = i := skip_past (by omega)
    have hsz : (s.extract i (skip innerV s i)).size = 0 := by simp; omega
    rw [nameV_run _ (fun j hj => by omega), hsz]
    simp [hi]
def rnameV (s : ByteArray) (i : Nat) : ByteArray × Nat := if nameV (s.extract i (skip innerV s i)) = true then (s.extract i (skip innerV s i), skip innerV s i) else (⟨#[]⟩, i)
theorem ext_nil (s : ByteArray) (i : Nat) : s.extract i i = ⟨#[]⟩ := by
  apply ba_ext
  rw [ext_list]
  simp
theorem rskip_l (s : ByteArray) (hs : s.size ≤ 1073741824) (b : Bool) : ∀ (r i k n : Nat), r + i = s.size → r < k → n ≤ i → q33_.l0 k (n : Int) s (i : Int) b = some (((n + (skip whiteV s i - i) : Nat) : Int), s, ((skip whiteV s i : Nat) : Int), b) := by
  intro r
  induction r with
  | zero =>
    intro i k n hi hk hn
    obtain ⟨k, rfl⟩ : ∃ m, k = m + 1 := ⟨k - 1, by omega⟩
    simp only [q33_.l0]
    rw [if_neg (by omega), skip_past (by omega)]
    simp
  | succ r ih =>
    intro i k n hi hk hn
    obtain ⟨k, rfl⟩ : ∃ m, k = m + 1 := ⟨k - 1, by omega⟩
    simp only [q33_.l0]
    rw [if_pos (by omega), if_pos (by omega), refWhite_f]
    simp only [Option.bind_some]
    by_cases hw : whiteV (bt s (i : Int)) = true
    · rw [if_pos hw, w64 n (by omega), w64 i (by omega), ih (i + 1) k (n + 1) (by omega) (by omega) (by omega), skip_in (p := whiteV) (by omega) hw]
      have := le_skip whiteV s (i + 1)
      congr 2
      omega
    · rw [if_neg hw, skip_out (fun h => hw h.2)]
      simp
theorem rskip_f (s : ByteArray) (hs : s.size ≤ 1073741824) (i : Nat) (b : Bool) (k : Nat) (hk : s.size < k) : q33_.f k s (i : Int) b = some (((skip whiteV s i - i : Nat) : Int), s, ((skip whiteV s i : Nat) : Int), b) := by
  unfold q33_.f
  by_cases hi : i ≤ s.size
  · have := rskip_l s hs b (s.size - i) i k 0 (by omega) (by omega) (Nat.zero_le _)
    simpa using this
  · obtain ⟨k, rfl⟩ : ∃ m, k = m + 1 := ⟨k - 1, by omega⟩
    simp only [q33_.l0]
    rw [if_neg (by omega), skip_past (by omega)]
    simp
theorem hasP_list (s : ByteArray) (i : Nat) (t : ByteArray) (hi : i ≤ s.size) : hasP s i t = t.data.toList.isPrefixOf (s.data.toList.drop i) := by
  unfold hasP
  have hsz : (s.extract i s.size).size = s.size - i := by simp
  rw [← hsz, pre_list, ext_end]
theorem reat_f (s : ByteArray) (hs : s.size ≤ 1073741824) (i : Nat) (hi : i ≤ s.size) (b : Bool) (t : ByteArray) (ht : t.size ≤ 1024) : q34_.f s (i : Int) b t = some (hasP s i t, s, (((if hasP s i t = true then i + t.size else i) : Nat) : Int), b) := by
  unfold q34_.f
  rw [if_pos (by omega), if_pos (by omega), begins_list, Int.toNat_natCast, ext_end, ← hasP_list s i t hi]
  simp only [Option.bind_some]
  cases h : hasP s i t with
  | true =>
    simp only [if_true]
    have h2 := hasP_le h
    rw [wrap_add (by omega)]
  | false => simp
theorem rname_l (s : ByteArray) (hs : s.size ≤ 1073741824) (b : Bool) (i0 : Nat) : ∀ (r i k : Nat), r + i = s.size → r < k → i0 ≤ i → q35_.l0 k (i0 : Int) s (i : Int) b = some (s.extract i0 (skip innerV s i), s, ((skip innerV s i : Nat) : Int), b) := by
  intro r
  induction r with
  | zero =>
    intro i k hi hk h0
    obtain ⟨k, rfl⟩ : ∃ m, k = m + 1 := ⟨k - 1, by omega⟩
    simp only [q35_.l0]
    rw [if_neg (by omega), if_pos (by omega), if_pos (by omega), if_pos (by omega), skip_past (by omega)]
    rfl
  | succ r ih =>
    intro i k hi hk h0
    obtain ⟨k, rfl⟩ : ∃ m, k = m + 1 := ⟨k - 1, by omega⟩
    simp only [q35_.l0]
    rw [if_pos (by omega), if_pos (by omega), refInner_f]
    simp only [Option.bind_some]
    by_cases hw : innerV (bt s (i : Int)) = true
    · rw [if_pos hw, w64 i (by omega), ih (i + 1) k (by omega) (by omega) (by omega), skip_in (p := innerV) (by omega) hw]
    · rw [if_neg hw, if_pos (by omega), if_pos (by omega), if_pos (by omega), skip_out (fun h => hw h.2)]
      rfl
theorem rname_f (s : ByteArray) (hs : s.size ≤ 1073741824) (i : Nat) (hi : i ≤ s.size) (b : Bool) (k : Nat) (hk : s.size + 1 < k) : q35_.f k s (i : Int) b = some ((rnameV s i).1, s, (((rnameV s i).2 : Nat) : Int), b) := by
  obtain ⟨k, rfl⟩ : ∃ m, k = m + 1 := ⟨k - 1, by omega⟩
  unfold q35_.f rnameV
  rw [nameV_at]
  have hno : q35_.j0 (k + 1) (i : Int) false s (i : Int) b = some (⟨#[]⟩, s, (i : Int), b) := by
    simp only [q35_.j0]
    rw [if_neg (by decide), if_pos (by omega), if_pos (by omega), if_pos (by omega), Int.toNat_natCast, ext_nil]
  by_cases hlt : i < s.size
  · rw [if_pos (by omega), if_pos (by omega), refLetter_f]
    simp only [Option.bind_some]
    cases hl : letterV (bt s (i : Int)) with
    | false =>
      rw [hno, Bool.and_false, if_neg (by decide)]
    | true =>
      rw [decide_eq_true hlt]
      simp only [q35_.j0, if_true, Bool.and_true]
      rw [rname_l s hs b i (s.size - i) i k (by omega) (by omega) (Nat.le_refl _)]
  · rw [if_neg (by omega), hno, decide_eq_false hlt, Bool.false_and, if_neg (by decide)]
def markB (b : UInt8) : Bool := b == 60 || b == 38
def ScanPost (s : ByteArray) (b : Bool) (c : UInt8) (p : Nat) (x : Option (Bool × ByteArray × Int × Bool)) : Prop :=
  ∃ (ok : Bool) (m : Nat), x = some (ok, s, (m : Int), b) ∧ m ≤ s.size + 1 ∧ (match cutR c (s.data.toList.drop p) with | some (a, _) => if a.any markB = true then ok = false else ok = true ∧ m = p + a.length + 1 | none => ok = false)
theorem scan_l (s : ByteArray) (hs : s.size ≤ 1073741824) (b : Bool) (c : UInt8) : ∀ (r p k : Nat), r + p = s.size → 2 * r + 3 ≤ k → ScanPost s b c p (q36_.l0 k (c.toNat : Int) s (p : Int) b) := by
  intro r
  induction r with
  | zero =>
    intro p k hp hk
    obtain ⟨k, rfl⟩ : ∃ m, k = m + 1 + 1 := ⟨k - 2, by omega⟩
    refine ⟨false, p + 1, ?_, by omega, ?_⟩
    · simp only [q36_.l0, q36_.j3]
      rw [if_neg (by omega), if_neg (by decide), w64 p (by omega), decide_eq_false (by omega)]
    · rw [List.drop_of_length_le (by rw [← size_list]; omega)]
      rfl
  | succ r ih =>
    intro p k hp hk
    obtain ⟨k, rfl⟩ : ∃ m, k = m + 1 + 1 := ⟨k - 2, by omega⟩
    have hpl : p < s.size := by omega
    have hb := bt_get s p hpl
    have hne : ∀ (d : UInt8), bt s (p : Int) = (d.toNat : Int) ↔ s[p] = d := fun d => by
      rw [hb]
      constructor
      · intro h
        exact UInt8.toNat_inj.1 (by omega)
      · intro h
        rw [h]
    unfold ScanPost
    rw [drop_get s p hpl, cutR]
    simp only [q36_.l0, q36_.j3]
    rw [if_pos (by omega), if_pos (by omega)]
    by_cases hc : s[p] = c
    · have h1 : (bt s (p : Int) != (c.toNat : Int)) = false := by simpa using (hne c).2 hc
      rw [h1, if_neg (by decide), w64 p (by omega), if_pos hc]
      exact ⟨true, p + 1, by rw [decide_eq_true (by omega)], by omega, by simp⟩
    · have h1 : (bt s (p : Int) != (c.toNat : Int)) = true := by simpa using fun h => hc ((hne c).1 h)
      rw [h1, if_pos rfl, if_pos (by omega), if_pos (by omega), if_neg hc]
      have h60 : bt s (p : Int) = 60 ↔ s[p] = 60 := hne 60
      have h38 : bt s (p : Int) = 38 ↔ s[p] = 38 := hne 38
      by_cases ha : s[p] = 60
      · rw [if_pos (h60.2 ha)]
        refine ⟨false, p, rfl, by omega, ?_⟩
        cases cutR c (s.data.toList.drop (p + 1)) with
        | none => rfl
        | some q =>
          obtain ⟨a, t⟩ := q
          simp [markB, ha]
      · rw [if_neg (fun h => ha (h60.1 h))]
        by_cases hb2 : s[p] = 38
        · rw [if_pos (h38.2 hb2)]
          refine ⟨false, p, rfl, by omega, ?_⟩
          cases cutR c (s.data.toList.drop (p + 1)) with
          | none => rfl
          | some q =>
            obtain ⟨a, t⟩ := q
            simp [markB, hb2]
        · rw [if_neg (fun h => hb2 (h38.1 h)), w64 p (by omega)]
          obtain ⟨ok, m, h2, h3, h4⟩ := ih (p + 1) k (by omega) (by omega)
          refine ⟨ok, m, h2, h3, ?_⟩
          have him : markB s[p] = false := by simp [markB, ha, hb2]
          cases hcut : cutR c (s.data.toList.drop (p + 1)) with
          | none =>
            rw [hcut] at h4
            exact h4
          | some q =>
            obtain ⟨a, t⟩ := q
            rw [hcut] at h4
            simp only [Option.map_some, List.any_cons, him, Bool.false_or, List.length_cons] at h4 ⊢
            split at h4
            · rename_i hm
              rw [if_pos hm]
              exact h4
            · rename_i hm
              rw [if_neg hm]
              exact ⟨h4.1, by omega⟩
def AttrAns (s : ByteArray) (b : Bool) (o : Option Nat) (x : Option (Bool × ByteArray × Int × Bool)) : Prop :=
  ∃ (ok : Bool) (m : Nat), x = some (ok, s, (m : Int), b) ∧ m ≤ s.size + 1 ∧ (match o with | some n => ok = true ∧ m = n | none => ok = false)
theorem attr4_cut (s : ByteArray) (j : Nat) (hj : j < s.size) (c : UInt8) (hc : s[j] = c) : attr4 s j = if (c = 34 ∨ c = 39) then (match cutR c (s.data.toList.drop (j + 1)) with | some (a, _) => if a.any markB = true then none else some (j + a.length + 2) | none => none) else none := by
  have hb := bt_get s j hj
  rw [hc] at hb
  have hcn : (bt s (j : Int)).toNat.toUInt8 = c := by rw [hb, Int.toNat_natCast]; simp [Nat.toUInt8]
  unfold attr4
  rw [if_neg (by omega), hcn, ext_end, index_cut]
  have h34 : ((bt s (j : Int) == 34 || bt s (j : Int) == 39) = true) ↔ (c = 34 ∨ c = 39) := by
    rw [hb, Bool.or_eq_true, beq_iff_eq, beq_iff_eq]
    constructor
    · rintro (h | h)
      · left; exact UInt8.toNat_inj.1 (by show c.toNat = 34; omega)
      · right; exact UInt8.toNat_inj.1 (by show c.toNat = 39; omega)
    · rintro (h | h)
      · left; rw [h]; rfl
      · right; rw [h]; rfl
  by_cases hm : c = 34 ∨ c = 39
  · rw [if_pos (h34.2 hm), if_pos hm]
    cases hcut : cutR c (s.data.toList.drop (j + 1)) with
    | none => rfl
    | some q =>
      obtain ⟨a, t⟩ := q
      obtain ⟨h1, _⟩ := cutR_some hcut
      simp only
      rw [if_neg (by omega), Int.toNat_natCast]
      have hx : (s.extract (j + 1) (j + 1 + a.length)).data.toList = a := by
        rw [ext_list, List.drop_take, h1]
        simp
      have hma : hasMark (s.extract (j + 1) (j + 1 + a.length)) = a.any markB := by
        unfold hasMark
        rw [hx]
        rfl
      rw [hma]
  · rw [if_neg (fun h => hm (h34.1 h)), if_neg hm]
theorem rattr_j1 (s : ByteArray) (hs : s.size ≤ 1073741824) (b : Bool) (j k : Nat) (hj : j < s.size) (hk : 2 * s.size + 10 ≤ k) :
    AttrAns s b (attr4 s j) (if bt s (j : Int) = 34 then q36_.j1 k false s (j : Int) b else q36_.j1 k (bt s (j : Int) != 39) s (j : Int) b) := by
  obtain ⟨k, rfl⟩ : ∃ m, k = m + 1 := ⟨k - 1, by omega⟩
  have hb := bt_get s j hj
  rw [attr4_cut s j hj s[j] rfl]
  have yes : q36_.j1 (k + 1) false s (j : Int) b = q36_.l0 k ((s[j]).toNat : Int) s ((j + 1 : Nat) : Int) b := by
    simp only [q36_.j1]
    rw [if_neg (by decide), if_pos (by omega), if_pos (by omega), w64 j (by omega), hb]
  have scan : (s[j] = 34 ∨ s[j] = 39) → AttrAns s b (if (s[j] = 34 ∨ s[j] = 39) then (match cutR s[j] (s.data.toList.drop (j + 1)) with | some (a, _) => if a.any markB = true then none else some (j + a.length + 2) | none => none) else none) (q36_.l0 k ((s[j]).toNat : Int) s ((j + 1 : Nat) : Int) b) := by
    intro h
    rw [if_pos h]
    obtain ⟨ok, m, h2, h3, h4⟩ := scan_l s hs b s[j] (s.size - (j + 1)) (j + 1) k (by omega) (by omega)
    refine ⟨ok, m, h2, h3, ?_⟩
    cases hcut : cutR s[j] (s.data.toList.drop (j + 1)) with
    | none => rw [hcut] at h4; exact h4
    | some q =>
      obtain ⟨a, t⟩ := q
      rw [hcut] at h4
      simp only at h4 ⊢
      split at h4
      · rename_i hm
        rw [if_pos hm]
        exact h4
      · rename_i hm
        rw [if_neg hm]
        exact ⟨h4.1, by omega⟩
  have e34 : (bt s (j : Int) = 34) ↔ s[j] = 34 := by
    rw [hb]
    constructor
    · intro h; exact UInt8.toNat_inj.1 (by show _ = 34; omega)
    · intro h; rw [h]; rfl
  have e39 : (bt s (j : Int) = 39) ↔ s[j] = 39 := by
    rw [hb]
    constructor
    · intro h; exact UInt8.toNat_inj.1 (by show _ = 39; omega)
    · intro h; rw [h]; rfl
  by_cases h34 : s[j] = 34
  · rw [if_pos (e34.2 h34), yes]
    exact scan (.inl h34)
  · rw [if_neg (fun h => h34 (e34.1 h))]
    by_cases h39 : s[j] = 39
    · have : (bt s (j : Int) != 39) = false := by simpa using e39.2 h39
      rw [this, yes]
      exact scan (.inr h39)
    · have : (bt s (j : Int) != 39) = true := by simpa using fun h => h39 (e39.1 h)
      rw [this, if_neg (by rintro (h | h); exact h34 h; exact h39 h)]
      simp only [q36_.j1]
      exact ⟨false, j, rfl, by omega, rfl⟩
theorem rattr_j0 (s : ByteArray) (hs : s.size ≤ 1073741824) (b : Bool) (j k : Nat) (hj : j ≤ s.size) (hk : 2 * s.size + 11 ≤ k) : AttrAns s b (attr3 s j) (q36_.j0 k false s (j : Int) b) := by
  obtain ⟨k, rfl⟩ : ∃ m, k = m + 1 := ⟨k - 1, by omega⟩
  have h1 := (skip_le whiteV s j hj)
  simp only [q36_.j0]
  rw [if_neg (by decide), rskip_f s hs j b k (by omega)]
  simp only [Option.bind_some]
  rw [reat_f s hs _ h1.2 b ⟨#[61]⟩ (by decide)]
  simp only [Option.bind_some]
  unfold attr3
  cases hp : hasP s (skip whiteV s j) ⟨#[61]⟩ with
  | false =>
    simp only [Bool.false_eq_true, if_false]
    exact ⟨false, skip whiteV s j, rfl, by omega, rfl⟩
  | true =>
    have h2 := hasP_le hp
    have h3 : (⟨#[61]⟩ : ByteArray).size = 1 := rfl
    rw [h3] at h2 ⊢
    have h4 := skip_le whiteV s (skip whiteV s j + 1) (by omega)
    simp only [if_true]
    rw [rskip_f s hs _ b k (by omega)]
    simp only [Option.bind_some]
    by_cases hend : s.size ≤ skip whiteV s (skip whiteV s j + 1)
    · rw [if_pos (by omega)]
      obtain ⟨k, rfl⟩ : ∃ m, k = m + 1 := ⟨k - 1, by omega⟩
      simp only [q36_.j1, if_true]
      refine ⟨false, _, rfl, by omega, ?_⟩
      unfold attr4
      rw [if_pos (by omega)]
    · rw [if_neg (by omega), if_pos (by omega), if_pos (by omega)]
      exact rattr_j1 s hs b _ k (by omega) (by omega)
theorem rname_nil (s : ByteArray) (i : Nat) (hi : i ≤ s.size) : ((rnameV s i).1.toList = []) ↔ nameV (s.extract i (skip innerV s i)) = false := by
  unfold rnameV
  cases h : nameV (s.extract i (skip innerV s i)) with
  | false => simp [ByteArray.toList_eq]
  | true =>
    rw [nameV_at] at h
    simp only [Bool.and_eq_true, decide_eq_true_eq] at h
    have h1 := skip_letter h.1 h.2
    have h2 := (skip_le innerV s i hi).2
    simp only [if_true, Bool.true_eq_false, iff_false]
    intro he
    rw [ByteArray.toList_eq] at he
    have h3 := congrArg List.length he
    rw [← size_list] at h3
    simp at h3
    omega
theorem rattr_f (s : ByteArray) (hs : s.size ≤ 1073741824) (b : Bool) (i k : Nat) (hi : i ≤ s.size) (hk : 2 * s.size + 12 ≤ k) : AttrAns s b (attrV s i) (q36_.f k s (i : Int) b) := by
  obtain ⟨k, rfl⟩ : ∃ m, k = m + 1 := ⟨k - 1, by omega⟩
  have yes : ∀ j, j ≤ s.size → AttrAns s b none (q36_.j0 (k + 1) true s (j : Int) b) := fun j hj => by
    simp only [q36_.j0, if_true]
    exact ⟨false, j, rfl, by omega, rfl⟩
  unfold q36_.f attrV
  rw [rname_f s hs i hi b (k + 1) (by omega)]
  simp only [Option.bind_some]
  cases hn : nameV (s.extract i (skip innerV s i)) with
  | false =>
    have he : rnameV s i = (⟨#[]⟩, i) := by unfold rnameV; rw [if_neg (by rw [hn]; decide)]
    rw [if_pos ((rname_nil s i hi).2 hn), he]
    simp only [Bool.false_eq_true, if_false]
    exact yes i hi
  | true =>
    have he : rnameV s i = (s.extract i (skip innerV s i), skip innerV s i) := by unfold rnameV; rw [if_pos hn]
    have h1 := (skip_le innerV s i hi).2
    rw [if_neg (show ¬ (rnameV s i).1.toList = [] from fun h => by have := (rname_nil s i hi).1 h; rw [hn] at this; cases this), he]
    simp only [if_true]
    rw [reat_f s hs _ h1 b ⟨#[58]⟩ (by decide)]
    simp only [Option.bind_some]
    unfold attr2
    cases hp : hasP s (skip innerV s i) ⟨#[58]⟩ with
    | false =>
      simp only [Bool.false_eq_true, if_false]
      exact rattr_j0 s hs b _ (k + 1) h1 (by omega)
    | true =>
      have h2 := hasP_le hp
      have h3 : (⟨#[58]⟩ : ByteArray).size = 1 := rfl
      rw [h3] at h2 ⊢
      simp only [if_true]
      rw [rname_f s hs (skip innerV s i + 1) (by omega) b (k + 1) (by omega)]
      simp only [Option.bind_some]
      cases hn2 : nameV (s.extract (skip innerV s i + 1) (skip innerV s (skip innerV s i + 1))) with
      | false =>
        have he2 : rnameV s (skip innerV s i + 1) = (⟨#[]⟩, skip innerV s i + 1) := by unfold rnameV; rw [if_neg (by rw [hn2]; decide)]
        have hb2 : ((rnameV s (skip innerV s i + 1)).1.toList == []) = true := by rw [beq_iff_eq]; exact (rname_nil s _ (by omega)).2 hn2
        rw [hb2, he2]
        simp only [Bool.false_eq_true, if_false]
        exact yes _ (by omega)
      | true =>
        have he2 : rnameV s (skip innerV s i + 1) = (s.extract (skip innerV s i + 1) (skip innerV s (skip innerV s i + 1)), skip innerV s (skip innerV s i + 1)) := by unfold rnameV; rw [if_pos hn2]
        have hb2 : ((rnameV s (skip innerV s i + 1)).1.toList == []) = false := by
          rw [beq_eq_false_iff_ne]
          intro h
          have := (rname_nil s _ (by omega)).1 h
          rw [hn2] at this
          cases this
        rw [hb2, he2]
        simp only [if_true]
        exact rattr_j0 s hs b _ (k + 1) (skip_le innerV s _ (by omega)).2 (by omega)
end Go.Proofs.YtkhjpobhdpcglaaDoor.X
end
