/- stowagelaw13.XmlTexts holds for every text of bulk at most 1048576 (its second form): part 3 of what its proof leans on. -/
import Derived.Lib.IndexMore
import Derived.Test.YtkhjpobhdpcglaaDoorBXmlTexts1
import Derived.Test.YtkhjpobhdpcglaaDoorBXmlTexts2
section
namespace Go.Proofs.YtkhjpobhdpcglaaDoor.X
open Go.RowKit Go.Proofs.YtkhjpobhdpcglaaDoorW.PrintWords Go.Proofs.YtkhjpobhdpcglaaDoorW.PrintLast Go.Proofs.YtkhjpobhdpcglaaDoorW.PrintMore
set_option linter.unusedVariables false
set_option linter.unusedSimpArgs false

theorem indexByte_ge (c : UInt8) : ∀ l : List UInt8, -1 ≤ Lib.indexByte l c
  | [] => Int.le_refl _
  | b :: l => by
    have hun : Lib.indexByte (b :: l) c = (if (b == c) = true then 0 else if (Lib.indexByte l c == -1) = true then -1 else Lib.indexByte l c + 1) := rfl
    have := indexByte_ge c l
    rw [hun]
    repeat' split
    all_goals omega
theorem Kd.F_put {w : World} {b gn n : Nat} {A : Option Addr} {l : List S36} (h : Kd.F k36 w (fun k => b ≤ k) A n l) (hgn : gn < b) (o : Nat) (u : Value) : Kd.F k36 (w.setCell ⟨gn, o, none⟩ u) (fun k => b ≤ k) A n l := Kd.F_far (p := ⟨gn, o, none⟩) h (fun k hk he => by have : k = gn := he; omega) u
theorem keepPut {w W : World} {g gn : Nat} (h : KeepBut w W g (some gn)) (o : Nat) (u : Value) : KeepBut w (W.setCell ⟨gn, o, none⟩ u) g (some gn) :=
  ⟨by rw [World.size_setCell]; exact h.1, fun i hi h1 h2 => (Below.heap_setCell _ ⟨gn, o, none⟩ u i (fun he => h2 (by rw [he]))).trans (h.2 i hi h1 h2)⟩
set_option maxHeartbeats 4000000 in
set_option maxRecDepth 1000000 in
theorem cont_kids {Q : Exit → Act → World → Prop} {w0 w wj : World} {g gn i d j c : Nat} {s nm : ByteArray} {l : List S36} {A : Option Addr} {a' : Act} (hp : ∀ c (N : Option Tmp) v a w, Q (.panic c) (a.put N v) w → Q (.panic c) a w) (hsm : s.size ≤ 1073741824)
    (hgg : gn ≠ g) (hglt : g < w.heap.size) (hgnlt : gn < w.heap.size) (hgw0 : w0.heap.size ≤ gn) (hF : ContFr g gn d i a') (hR : Rd w0 wj g s j) (hK : KeepBut w wj g (some gn)) (hA : KidsAt w wj gn nm l A c) (hl : 0 < l.length)
    (hRet : ∀ a' w' b, a'.defers = [] → a'.tmps.getD 6 undef = .bool b → ContPost w0 w g gn s nm (textV s i l j) (.returned (.bool b)) w' → Q .ret a' w') :
    (codeIn Tryd.f95 [1, 1, 1, 1]).wp Tryd.prog Q a' wj := by
  obtain ⟨u, rfl⟩ := hF
  have HPP := Aside0.mk hp
  have hle := hA.le
  have hblk : wj.drew.heap[gn]? = some (.cells #[.string nm, .string ⟨#[]⟩, .slice A l.length c] 36 (0, 0)) := hA.blk
  have HA := Aside0.mk hA
  have HR := Aside0.mk hR
  have HK := Aside0.mk hK
  have HRet := Aside0.mk hRet
  obtain ⟨g', c', hA1⟩ := N_shape hA.row hl
  have hA' : A = some ⟨g', 0, none⟩ := by injection hA1
  clear hA1
  clear hp hA hR hK hRet
  subst hA'
  have p1 : (l.length : Int) ≤ (c : Int) := by omega
  simp only [codeIn, Tryd.f95, Option.getD_some, codeAt]
  go_wp2_with fail
  refine start_ (n := 19) (S := fun W => W.heap[gn]? = some (.cells #[.string nm, .string ⟨#[]⟩, .slice (some ⟨g', 0, none⟩) l.length c] 36 (0, 0))) (ds := [18]) #[false, false, false, false, false, false, false, false, false, false, false, false, false, false, false, false, false, false, false] (by kernel_rfl) rfl rfl hblk (fun hHeld => ?_)
  refine pure_ (i := 0) (N := (some 64)) (v := ?_) (a' := ?_) #[true, false, false, false, false, false, false, false, false, false, false, false, false, false, false, false, false, false, false] rfl rfl (by kernel_rfl) (fun c_ _ w_ h_ => HPP.out c_ _ _ _ w_ h_) (Or.inl ⟨by kernel_rfl, ?_⟩) ?_ ?_
  rotate_left
  · intro w_
    go_simp
    with_reducible rfl
  rotate_left
  · simp only [Act.put, List.setIfInBounds_toArray, List.set_cons_zero, List.set_cons_succ]
    rfl
  refine pure_ (i := 1) (N := (some 65)) (v := ?_) (a' := ?_) #[true, true, false, false, false, false, false, false, false, false, false, false, false, false, false, false, false, false, false] rfl rfl (by kernel_rfl) (fun c_ _ w_ h_ => HPP.out c_ _ _ _ w_ h_) (Or.inl ⟨by kernel_rfl, ?_⟩) ?_ ?_
  rotate_left
  · intro w_
    go_simp
    with_reducible rfl
  rotate_left
  · simp only [Act.put, List.setIfInBounds_toArray, List.set_cons_zero, List.set_cons_succ]
    rfl
  refine pure_ (i := 2) (N := (some 66)) (v := ?_) (a' := ?_) #[true, true, true, false, false, false, false, false, false, false, false, false, false, false, false, false, false, false, false] rfl rfl (by kernel_rfl) (fun c_ _ w_ h_ => HPP.out c_ _ _ _ w_ h_) (Or.inl ⟨by kernel_rfl, ?_⟩) ?_ ?_
  rotate_left
  · intro w_
    go_simp
    with_reducible rfl
  rotate_left
  · simp only [Act.put, List.setIfInBounds_toArray, List.set_cons_zero, List.set_cons_succ]
    rfl
  refine pure_ (i := 3) (N := (some 67)) (v := ?_) (a' := ?_) #[true, true, true, true, false, false, false, false, false, false, false, false, false, false, false, false, false, false, false] rfl rfl (by kernel_rfl) (fun c_ _ w_ h_ => HPP.out c_ _ _ _ w_ h_) (Or.inl ⟨by kernel_rfl, ?_⟩) ?_ ?_
  rotate_left
  · intro w_
    go_simp
    with_reducible rfl
  rotate_left
  · simp only [Act.put, List.setIfInBounds_toArray, List.set_cons_zero, List.set_cons_succ]
    rfl
  refine take_ (i := 4) (N := some 68) (v := ?_) (a' := ?_) #[true, true, true, true, true, false, false, false, false, false, false, false, false, false, false, false, false, false, false] rfl rfl (by kernel_rfl) (fun c_ _ w_ h_ => HPP.out c_ _ _ _ w_ h_) (Or.inl ⟨by kernel_rfl, ?_⟩) hHeld ?_ ?_
  rotate_left
  · rintro w_ sA
    have s0 := blk_cell sA 2
    go_simp
    with_reducible rfl
  rotate_left
  · simp only [Act.put, List.setIfInBounds_toArray, List.set_cons_zero, List.set_cons_succ]
    rfl
  refine pure_ (i := 5) (N := (some 69)) (v := ?_) (a' := ?_) #[true, true, true, true, true, true, false, false, false, false, false, false, false, false, false, false, false, false, false] rfl rfl (by kernel_rfl) (fun c_ _ w_ h_ => HPP.out c_ _ _ _ w_ h_) (Or.inl ⟨by kernel_rfl, ?_⟩) ?_ ?_
  rotate_left
  · intro w_
    go_simp
    with_reducible rfl
  rotate_left
  · simp only [Act.put, List.setIfInBounds_toArray, List.set_cons_zero, List.set_cons_succ]
    rfl
  refine pure_ (i := 6) (N := (some 70)) (v := ?_) (a' := ?_) #[true, true, true, true, true, true, true, false, false, false, false, false, false, false, false, false, false, false, false] rfl rfl (by kernel_rfl) (fun c_ _ w_ h_ => HPP.out c_ _ _ _ w_ h_) (Or.inl ⟨by kernel_rfl, ?_⟩) ?_ ?_
  rotate_left
  · intro w_
    go_simp
    with_reducible rfl
  rotate_left
  · simp only [Act.put, List.setIfInBounds_toArray, List.set_cons_zero, List.set_cons_succ]
    rfl
  refine pure_ (i := 7) (N := (some 71)) (v := ?_) (a' := ?_) #[true, true, true, true, true, true, true, true, false, false, false, false, false, false, false, false, false, false, false] rfl rfl (by kernel_rfl) (fun c_ _ w_ h_ => HPP.out c_ _ _ _ w_ h_) (Or.inl ⟨by kernel_rfl, ?_⟩) ?_ ?_
  rotate_left
  · intro w_
    go_simp
    with_reducible rfl
  rotate_left
  · simp only [Act.put, List.setIfInBounds_toArray, List.set_cons_zero, List.set_cons_succ]
    rfl
  refine take_ (i := 8) (N := some 72) (v := ?_) (a' := ?_) #[true, true, true, true, true, true, true, true, true, false, false, false, false, false, false, false, false, false, false] rfl rfl (by kernel_rfl) (fun c_ _ w_ h_ => HPP.out c_ _ _ _ w_ h_) (Or.inl ⟨by kernel_rfl, ?_⟩) hHeld ?_ ?_
  rotate_left
  · rintro w_ sA
    have s0 := blk_cell sA 2
    go_simp
    with_reducible rfl
  rotate_left
  · simp only [Act.put, List.setIfInBounds_toArray, List.set_cons_zero, List.set_cons_succ]
    rfl
  refine pure_ (i := 9) (N := (some 73)) (v := ?_) (a' := ?_) #[true, true, true, true, true, true, true, true, true, true, false, false, false, false, false, false, false, false, false] rfl rfl (by kernel_rfl) (fun c_ _ w_ h_ => HPP.out c_ _ _ _ w_ h_) (Or.inl ⟨by kernel_rfl, ?_⟩) ?_ ?_
  rotate_left
  · intro w_
    go_simp
    with_reducible rfl
  rotate_left
  · simp only [Act.put, List.setIfInBounds_toArray, List.set_cons_zero, List.set_cons_succ]
    rfl
  refine pure_ (i := 10) (N := (some 74)) (v := ?_) (a' := ?_) #[true, true, true, true, true, true, true, true, true, true, true, false, false, false, false, false, false, false, false] rfl rfl (by kernel_rfl) (fun c_ _ w_ h_ => HPP.out c_ _ _ _ w_ h_) (Or.inl ⟨by kernel_rfl, ?_⟩) ?_ ?_
  rotate_left
  · intro w_
    go_simp
    with_reducible rfl
  rotate_left
  · simp only [Act.put, List.setIfInBounds_toArray, List.set_cons_zero, List.set_cons_succ]
    rfl
  refine pure_ (i := 11) (N := (some 75)) (v := ?_) (a' := ?_) #[true, true, true, true, true, true, true, true, true, true, true, true, false, false, false, false, false, false, false] rfl rfl (by kernel_rfl) (fun c_ _ w_ h_ => HPP.out c_ _ _ _ w_ h_) (Or.inl ⟨by kernel_rfl, ?_⟩) ?_ ?_
  rotate_left
  · intro w_
    go_simp
    with_reducible rfl
  rotate_left
  · simp only [Act.put, List.setIfInBounds_toArray, List.set_cons_zero, List.set_cons_succ]
    rfl
  refine pure_ (i := 12) (N := (some 76)) (v := ?_) (a' := ?_) #[true, true, true, true, true, true, true, true, true, true, true, true, true, false, false, false, false, false, false] rfl rfl (by kernel_rfl) (fun c_ _ w_ h_ => HPP.out c_ _ _ _ w_ h_) (Or.inl ⟨by kernel_rfl, ?_⟩) ?_ ?_
  rotate_left
  · intro w_
    go_simp
    with_reducible rfl
  rotate_left
  · simp only [Act.put, List.setIfInBounds_toArray, List.set_cons_zero, List.set_cons_succ]
    rfl
  refine take_ (i := 13) (N := some 77) (v := ?_) (a' := ?_) #[true, true, true, true, true, true, true, true, true, true, true, true, true, true, false, false, false, false, false] rfl rfl (by kernel_rfl) (fun c_ _ w_ h_ => HPP.out c_ _ _ _ w_ h_) (Or.inl ⟨by kernel_rfl, ?_⟩) hHeld ?_ ?_
  rotate_left
  · rintro w_ sA
    have s0 := blk_cell sA 2
    go_simp
    with_reducible rfl
  rotate_left
  · simp only [Act.put, List.setIfInBounds_toArray, List.set_cons_zero, List.set_cons_succ]
    rfl
  refine pure_ (i := 14) (N := (some 78)) (v := ?_) (a' := ?_) #[true, true, true, true, true, true, true, true, true, true, true, true, true, true, true, false, false, false, false] rfl rfl (by kernel_rfl) (fun c_ _ w_ h_ => HPP.out c_ _ _ _ w_ h_) (Or.inl ⟨by kernel_rfl, ?_⟩) ?_ ?_
  rotate_left
  · intro w_
    go_simp
    with_reducible rfl
  rotate_left
  · simp only [Act.put, List.setIfInBounds_toArray, List.set_cons_zero, List.set_cons_succ]
    rfl
  refine pure_ (i := 15) (N := (some 79)) (v := ?_) (a' := ?_) #[true, true, true, true, true, true, true, true, true, true, true, true, true, true, true, true, false, false, false] rfl rfl (by kernel_rfl) (fun c_ _ w_ h_ => HPP.out c_ _ _ _ w_ h_) (Or.inl ⟨by kernel_rfl, ?_⟩) ?_ ?_
  rotate_left
  · intro w_
    go_simp
    with_reducible rfl
  rotate_left
  · simp only [Act.put, List.setIfInBounds_toArray, List.set_cons_zero, List.set_cons_succ]
    rfl
  refine pure_ (i := 16) (N := (some 80)) (v := ?_) (a' := ?_) #[true, true, true, true, true, true, true, true, true, true, true, true, true, true, true, true, true, false, false] rfl rfl (by kernel_rfl) (fun c_ _ w_ h_ => HPP.out c_ _ _ _ w_ h_) (Or.inl ⟨by kernel_rfl, ?_⟩) ?_ ?_
  rotate_left
  · intro w_
    go_simp
    with_reducible rfl
  rotate_left
  · simp only [Act.put, List.setIfInBounds_toArray, List.set_cons_zero, List.set_cons_succ]
    rfl
  refine pure_ (i := 17) (N := (some 81)) (v := ?_) (a' := ?_) #[true, true, true, true, true, true, true, true, true, true, true, true, true, true, true, true, true, true, false] rfl rfl (by kernel_rfl) (fun c_ _ w_ h_ => HPP.out c_ _ _ _ w_ h_) (Or.inl ⟨by kernel_rfl, ?_⟩) ?_ ?_
  rotate_left
  · intro w_
    go_simp
    with_reducible rfl
  rotate_left
  · simp only [Act.put, List.setIfInBounds_toArray, List.set_cons_zero, List.set_cons_succ]
    rfl
  refine last_ (i := 18) (N := none) #[true, true, true, true, true, true, true, true, true, true, true, true, true, true, true, true, true, true, true] rfl rfl (by kernel_rfl) (by decide) (fun K hK => ?_)
  refine skip_ (w1 := wj.drew.setCell ⟨gn, 2, none⟩ (.slice (some ⟨g', 0, none⟩) l.length l.length)) (by kernel_rfl) rfl (by have s0 := blk_cell hHeld 2; have s1 := blk_frozen hHeld 2; go_simp) ?_
  refine hK.out _ _ ?_
  clear hK K
  refine done_ (by kernel_rfl) ?_
  obtain ⟨w9, hw9⟩ : ∃ w9, w9 = wj.drew.setCell ⟨gn, 2, none⟩ (.slice (some ⟨g', 0, none⟩) l.length l.length) := ⟨_, rfl⟩
  have hb9 : w9.heap[gn]? = some (.cells #[.string nm, .string ⟨#[]⟩, .slice (some ⟨g', 0, none⟩) l.length l.length] 36 (0, 0)) := by rw [hw9]; exact blk_put hHeld 2 _ rfl
  have H9 : Aside0 (ContPost w0 w g gn s nm (textV s i l j) (.returned (.bool true)) w9) := ⟨⟨⟨#[]⟩, l, some ⟨g', 0, none⟩, l.length, true, j, rfl, hb9, Nat.le_refl _, by rw [hw9]; exact Kd.F_put (w := wj.drew) HA.out.f hgnlt 2 _, by rw [hw9]; exact Wr.far (w := wj.drew) HA.out.wr (p := ⟨gn, 2, none⟩) hgnlt _, by rw [hw9]; exact Rd.far (w := wj.drew) (HR.out.drewN 1) (p := ⟨gn, 2, none⟩) hgg hgw0 _, by rw [hw9]; exact keepPut (W := wj.drew) HK.out 2 _, by rw [textV, if_pos hl]; exact ⟨rfl, rfl, rfl, rfl⟩⟩⟩
  rw [← hw9]
  have s9 := blk_cell hb9 2
  have hl3 : decide ((0 : Int) < (l.length : Int)) = true := decide_eq_true (by omega)
  have hl4 : (0 : Int) < (l.length : Int) := by omega
  clear hb9 hw9 HA HR HK hHeld hblk
  go_wp2_with fail
  exact HRet.out _ _ true rfl rfl H9.out
set_option maxHeartbeats 4000000 in
set_option maxRecDepth 1000000 in
theorem cont_text {Q : Exit → Act → World → Prop} {w0 w wj : World} {g gn i d j c : Nat} {s nm : ByteArray} {A : Option Addr} {a' : Act} (hp : ∀ c (N : Option Tmp) v a w, Q (.panic c) (a.put N v) w → Q (.panic c) a w) (hsm : s.size ≤ 1073741824) (his : i ≤ s.size)
    (hgg : gn ≠ g) (hglt : g < w.heap.size) (hgnlt : gn < w.heap.size) (h0 : 0 < w0.heap.size) (hgw : w0.heap.size ≤ g) (hgw0 : w0.heap.size ≤ gn) (hG : GOK w) (hF : ContFr g gn d i a') (hR : Rd w0 wj g s j) (hK : KeepBut w wj g (some gn)) (hA : KidsAt w wj gn nm [] A c)
    (hRet : ∀ a' w' b, a'.defers = [] → a'.tmps.getD 6 undef = .bool b → ContPost w0 w g gn s nm (textV s i [] j) (.returned (.bool b)) w' → Q .ret a' w') :
    (codeIn Tryd.f95 [1, 1, 1, 1]).wp Tryd.prog Q a' wj := by
  obtain ⟨u, rfl⟩ := hF
  have HPP := Aside0.mk hp
  obtain ⟨rfl, rfl⟩ := hA.nil rfl
  have hblk : wj.drew.heap[gn]? = some (.cells #[.string nm, .string ⟨#[]⟩, .slice none 0 0] 36 (0, 0)) := hA.blk
  have HR := Aside0.mk hR
  have HK := Aside0.mk hK
  have HRet := Aside0.mk hRet
  have HG := Aside0.mk hG
  clear hp hA hR hK hRet hG
  simp only [codeIn, Tryd.f95, Option.getD_some, codeAt]
  go_wp2_with fail
  refine start_ (n := 19) (S := fun W => W.heap[gn]? = some (.cells #[.string nm, .string ⟨#[]⟩, .slice none 0 0] 36 (0, 0))) (ds := [18]) #[false, false, false, false, false, false, false, false, false, false, false, false, false, false, false, false, false, false, false] (by kernel_rfl) rfl rfl hblk (fun hHeld => ?_)
  refine pure_ (i := 0) (N := (some 64)) (v := ?_) (a' := ?_) #[true, false, false, false, false, false, false, false, false, false, false, false, false, false, false, false, false, false, false] rfl rfl (by kernel_rfl) (fun c_ _ w_ h_ => HPP.out c_ _ _ _ w_ h_) (Or.inl ⟨by kernel_rfl, ?_⟩) ?_ ?_
  rotate_left
  · intro w_
    go_simp
    with_reducible rfl
  rotate_left
  · simp only [Act.put, List.setIfInBounds_toArray, List.set_cons_zero, List.set_cons_succ]
    rfl
  refine pure_ (i := 1) (N := (some 65)) (v := ?_) (a' := ?_) #[true, true, false, false, false, false, false, false, false, false, false, false, false, false, false, false, false, false, false] rfl rfl (by kernel_rfl) (fun c_ _ w_ h_ => HPP.out c_ _ _ _ w_ h_) (Or.inl ⟨by kernel_rfl, ?_⟩) ?_ ?_
  rotate_left
  · intro w_
    go_simp
    with_reducible rfl
  rotate_left
  · simp only [Act.put, List.setIfInBounds_toArray, List.set_cons_zero, List.set_cons_succ]
    rfl
  refine pure_ (i := 2) (N := (some 66)) (v := ?_) (a' := ?_) #[true, true, true, false, false, false, false, false, false, false, false, false, false, false, false, false, false, false, false] rfl rfl (by kernel_rfl) (fun c_ _ w_ h_ => HPP.out c_ _ _ _ w_ h_) (Or.inl ⟨by kernel_rfl, ?_⟩) ?_ ?_
  rotate_left
  · intro w_
    go_simp
    with_reducible rfl
  rotate_left
  · simp only [Act.put, List.setIfInBounds_toArray, List.set_cons_zero, List.set_cons_succ]
    rfl
  refine pure_ (i := 3) (N := (some 67)) (v := ?_) (a' := ?_) #[true, true, true, true, false, false, false, false, false, false, false, false, false, false, false, false, false, false, false] rfl rfl (by kernel_rfl) (fun c_ _ w_ h_ => HPP.out c_ _ _ _ w_ h_) (Or.inl ⟨by kernel_rfl, ?_⟩) ?_ ?_
  rotate_left
  · intro w_
    go_simp
    with_reducible rfl
  rotate_left
  · simp only [Act.put, List.setIfInBounds_toArray, List.set_cons_zero, List.set_cons_succ]
    rfl
  refine take_ (i := 4) (N := some 68) (v := ?_) (a' := ?_) #[true, true, true, true, true, false, false, false, false, false, false, false, false, false, false, false, false, false, false] rfl rfl (by kernel_rfl) (fun c_ _ w_ h_ => HPP.out c_ _ _ _ w_ h_) (Or.inl ⟨by kernel_rfl, ?_⟩) hHeld ?_ ?_
  rotate_left
  · rintro w_ sA
    have s0 := blk_cell sA 2
    go_simp
    with_reducible rfl
  rotate_left
  · simp only [Act.put, List.setIfInBounds_toArray, List.set_cons_zero, List.set_cons_succ]
    rfl
  refine pure_ (i := 5) (N := (some 69)) (v := ?_) (a' := ?_) #[true, true, true, true, true, true, false, false, false, false, false, false, false, false, false, false, false, false, false] rfl rfl (by kernel_rfl) (fun c_ _ w_ h_ => HPP.out c_ _ _ _ w_ h_) (Or.inl ⟨by kernel_rfl, ?_⟩) ?_ ?_
  rotate_left
  · intro w_
    go_simp
    with_reducible rfl
  rotate_left
  · simp only [Act.put, List.setIfInBounds_toArray, List.set_cons_zero, List.set_cons_succ]
    rfl
  refine pure_ (i := 6) (N := (some 70)) (v := ?_) (a' := ?_) #[true, true, true, true, true, true, true, false, false, false, false, false, false, false, false, false, false, false, false] rfl rfl (by kernel_rfl) (fun c_ _ w_ h_ => HPP.out c_ _ _ _ w_ h_) (Or.inl ⟨by kernel_rfl, ?_⟩) ?_ ?_
  rotate_left
  · intro w_
    go_simp
    with_reducible rfl
  rotate_left
  · simp only [Act.put, List.setIfInBounds_toArray, List.set_cons_zero, List.set_cons_succ]
    rfl
  refine pure_ (i := 7) (N := (some 71)) (v := ?_) (a' := ?_) #[true, true, true, true, true, true, true, true, false, false, false, false, false, false, false, false, false, false, false] rfl rfl (by kernel_rfl) (fun c_ _ w_ h_ => HPP.out c_ _ _ _ w_ h_) (Or.inl ⟨by kernel_rfl, ?_⟩) ?_ ?_
  rotate_left
  · intro w_
    go_simp
    with_reducible rfl
  rotate_left
  · simp only [Act.put, List.setIfInBounds_toArray, List.set_cons_zero, List.set_cons_succ]
    rfl
  refine take_ (i := 8) (N := some 72) (v := ?_) (a' := ?_) #[true, true, true, true, true, true, true, true, true, false, false, false, false, false, false, false, false, false, false] rfl rfl (by kernel_rfl) (fun c_ _ w_ h_ => HPP.out c_ _ _ _ w_ h_) (Or.inl ⟨by kernel_rfl, ?_⟩) hHeld ?_ ?_
  rotate_left
  · rintro w_ sA
    have s0 := blk_cell sA 2
    go_simp
    with_reducible rfl
  rotate_left
  · simp only [Act.put, List.setIfInBounds_toArray, List.set_cons_zero, List.set_cons_succ]
    rfl
  refine pure_ (i := 9) (N := (some 73)) (v := ?_) (a' := ?_) #[true, true, true, true, true, true, true, true, true, true, false, false, false, false, false, false, false, false, false] rfl rfl (by kernel_rfl) (fun c_ _ w_ h_ => HPP.out c_ _ _ _ w_ h_) (Or.inl ⟨by kernel_rfl, ?_⟩) ?_ ?_
  rotate_left
  · intro w_
    go_simp
    with_reducible rfl
  rotate_left
  · simp only [Act.put, List.setIfInBounds_toArray, List.set_cons_zero, List.set_cons_succ]
    rfl
  refine pure_ (i := 10) (N := (some 74)) (v := ?_) (a' := ?_) #[true, true, true, true, true, true, true, true, true, true, true, false, false, false, false, false, false, false, false] rfl rfl (by kernel_rfl) (fun c_ _ w_ h_ => HPP.out c_ _ _ _ w_ h_) (Or.inl ⟨by kernel_rfl, ?_⟩) ?_ ?_
  rotate_left
  · intro w_
    go_simp
    with_reducible rfl
  rotate_left
  · simp only [Act.put, List.setIfInBounds_toArray, List.set_cons_zero, List.set_cons_succ]
    rfl
  refine pure_ (i := 11) (N := (some 75)) (v := ?_) (a' := ?_) #[true, true, true, true, true, true, true, true, true, true, true, true, false, false, false, false, false, false, false] rfl rfl (by kernel_rfl) (fun c_ _ w_ h_ => HPP.out c_ _ _ _ w_ h_) (Or.inl ⟨by kernel_rfl, ?_⟩) ?_ ?_
  rotate_left
  · intro w_
    go_simp
    with_reducible rfl
  rotate_left
  · simp only [Act.put, List.setIfInBounds_toArray, List.set_cons_zero, List.set_cons_succ]
    rfl
  refine pure_ (i := 12) (N := (some 76)) (v := ?_) (a' := ?_) #[true, true, true, true, true, true, true, true, true, true, true, true, true, false, false, false, false, false, false] rfl rfl (by kernel_rfl) (fun c_ _ w_ h_ => HPP.out c_ _ _ _ w_ h_) (Or.inl ⟨by kernel_rfl, ?_⟩) ?_ ?_
  rotate_left
  · intro w_
    go_simp
    with_reducible rfl
  rotate_left
  · simp only [Act.put, List.setIfInBounds_toArray, List.set_cons_zero, List.set_cons_succ]
    rfl
  refine take_ (i := 13) (N := some 77) (v := ?_) (a' := ?_) #[true, true, true, true, true, true, true, true, true, true, true, true, true, true, false, false, false, false, false] rfl rfl (by kernel_rfl) (fun c_ _ w_ h_ => HPP.out c_ _ _ _ w_ h_) (Or.inl ⟨by kernel_rfl, ?_⟩) hHeld ?_ ?_
  rotate_left
  · rintro w_ sA
    have s0 := blk_cell sA 2
    go_simp
    with_reducible rfl
  rotate_left
  · simp only [Act.put, List.setIfInBounds_toArray, List.set_cons_zero, List.set_cons_succ]
    rfl
  refine pure_ (i := 14) (N := (some 78)) (v := ?_) (a' := ?_) #[true, true, true, true, true, true, true, true, true, true, true, true, true, true, true, false, false, false, false] rfl rfl (by kernel_rfl) (fun c_ _ w_ h_ => HPP.out c_ _ _ _ w_ h_) (Or.inl ⟨by kernel_rfl, ?_⟩) ?_ ?_
  rotate_left
  · intro w_
    go_simp
    with_reducible rfl
  rotate_left
  · simp only [Act.put, List.setIfInBounds_toArray, List.set_cons_zero, List.set_cons_succ]
    rfl
  refine pure_ (i := 15) (N := (some 79)) (v := ?_) (a' := ?_) #[true, true, true, true, true, true, true, true, true, true, true, true, true, true, true, true, false, false, false] rfl rfl (by kernel_rfl) (fun c_ _ w_ h_ => HPP.out c_ _ _ _ w_ h_) (Or.inl ⟨by kernel_rfl, ?_⟩) ?_ ?_
  rotate_left
  · intro w_
    go_simp
    with_reducible rfl
  rotate_left
  · simp only [Act.put, List.setIfInBounds_toArray, List.set_cons_zero, List.set_cons_succ]
    rfl
  refine pure_ (i := 16) (N := (some 80)) (v := ?_) (a' := ?_) #[true, true, true, true, true, true, true, true, true, true, true, true, true, true, true, true, true, false, false] rfl rfl (by kernel_rfl) (fun c_ _ w_ h_ => HPP.out c_ _ _ _ w_ h_) (Or.inl ⟨by kernel_rfl, ?_⟩) ?_ ?_
  rotate_left
  · intro w_
    go_simp
    with_reducible rfl
  rotate_left
  · simp only [Act.put, List.setIfInBounds_toArray, List.set_cons_zero, List.set_cons_succ]
    rfl
  refine pure_ (i := 17) (N := (some 81)) (v := ?_) (a' := ?_) #[true, true, true, true, true, true, true, true, true, true, true, true, true, true, true, true, true, true, false] rfl rfl (by kernel_rfl) (fun c_ _ w_ h_ => HPP.out c_ _ _ _ w_ h_) (Or.inl ⟨by kernel_rfl, ?_⟩) ?_ ?_
  rotate_left
  · intro w_
    go_simp
    with_reducible rfl
  rotate_left
  · simp only [Act.put, List.setIfInBounds_toArray, List.set_cons_zero, List.set_cons_succ]
    rfl
  refine last_ (i := 18) (N := none) #[true, true, true, true, true, true, true, true, true, true, true, true, true, true, true, true, true, true, true] rfl rfl (by kernel_rfl) (by decide) (fun K hK => ?_)
  refine skip_ (w1 := wj.drew.setCell ⟨gn, 2, none⟩ (.slice none 0 0)) (by kernel_rfl) rfl (by have s0 := blk_cell hHeld 2; have s1 := blk_frozen hHeld 2; go_simp) ?_
  refine hK.out _ _ ?_
  clear hK K
  refine done_ (by kernel_rfl) ?_
  obtain ⟨w9, hw9⟩ : ∃ w9, w9 = wj.drew.setCell ⟨gn, 2, none⟩ (.slice none 0 0) := ⟨_, rfl⟩
  have hb9 : w9.heap[gn]? = some (.cells #[.string nm, .string ⟨#[]⟩, .slice none 0 0] 36 (0, 0)) := by rw [hw9]; exact blk_put hHeld 2 _ rfl
  have hR9 : Rd w0 w9 g s j := by rw [hw9]; exact Rd.far (w := wj.drew) (HR.out.drewN 1) (p := ⟨gn, 2, none⟩) hgg hgw0 _
  have hK9 : KeepBut w w9 g (some gn) := by rw [hw9]; exact keepPut (W := wj.drew) HK.out 2 _
  rw [← hw9]
  have s9 := blk_cell hb9 2
  have t9 := hR9.cell0
  have HB9 := Aside0.mk hb9
  have HR9 := Aside0.mk hR9
  have HK9 := Aside0.mk hK9
  clear hb9 hw9 HR HK hHeld hblk hR9 hK9
  have hsz : (s.extract i s.size).size = s.size - i := by simp
  obtain ⟨v, hv⟩ : ∃ v, v = Lib.indexByte (s.extract i s.size).data.toList 60 := ⟨_, rfl⟩
  have hI : ∀ w', Calls Tryd.prog 113 #[.string (s.extract i s.size), .int .u8 60] w' fun e w2 => e = .returned (.int .i64 v) ∧ Drawn0 w' w2 := fun w' => strings_IndexByte.calls _ _ _ w' (by rw [hv]; rfl)
  have hvb : v < ((s.size - i : Nat) : Int) ∨ v = -1 := by
    have := indexByte_lt 60 (s.extract i s.size).data.toList
    rw [← hv] at this
    simpa [hsz] using this
  have hnn : -1 ≤ v := by rw [hv]; exact indexByte_ge _ _
  have HI := Aside0.mk hI
  have HV := Aside0.mk hv
  have p0 : (0 : Int) ≤ (i : Int) := by omega
  have p1 : (i : Int) ≤ (s.size : Int) := by omega
  clear hI hv hsz
  go_wp2_with fail
  refine (HI.out _).mono ?_
  rintro e w10 ⟨rfl, ⟨n10, rfl⟩⟩
  rcases Int.lt_or_le v 0 with hneg | hpos
  · go_wp2_with fail
    refine HRet.out _ _ false rfl rfl ⟨⟨#[]⟩, [], none, 0, false, j, rfl, blk_drewN HB9.out _, Nat.le_refl _, fun _ _ => Kd.C_nil _ _, Wr.none _ _, HR9.out.drewN _, keep_drewN HK9.out _, ?_⟩
    rw [textV, if_neg (by simp), if_pos (by rw [← HV.out]; exact hneg)]
  · obtain ⟨k, rfl⟩ : ∃ k : Nat, v = (k : Int) := ⟨v.toNat, by omega⟩
    have hk : k < s.size - i := by omega
    have q0 : (i : Int) + (k : Int) ≤ (s.size : Int) := by omega
    have q1 : (i : Int) ≤ (i : Int) + (k : Int) := by omega
    have q2 : 0 ≤ (i : Int) + (k : Int) := by omega
    have q3 : ((i : Int) + (k : Int)).toNat = i + k := by omega
    have hnlt : ¬ ((k : Int) < 0) := by omega
    have hG9 : GOK (w9.drewN n10) := (HG.out.keep HK9.out (by omega) (by intro e_; injection e_ with e_; omega)).drewN _
    obtain ⟨r1, r2, hr⟩ : ∃ r1 r2, (r1, r2) = unV (s.extract i (i + k)) := ⟨_, _, rfl⟩
    have hU := xml_Unescape.calls (s.extract i (i + k)) r1 r2 (w9.drewN n10) hG9 (by
      rw [xml_Unescape.f, if_pos (by simp; omega), hr])
    have HU := Aside0.mk hU
    have HR1 := Aside0.mk hr
    have HNP := Aside0.mk hnlt
    have hblk2 := fun (w11 : World) (hb : Below (w9.drewN n10).heap.size (w9.drewN n10) w11) => blk_below (blk_drewN HB9.out n10) hb
    have HBK := Aside0.mk hblk2
    clear hU hG9 hr hpos hvb hnn hblk2
    go_wp2_with fail
    refine HU.out.mono ?_
    rintro e w11 ⟨rfl, hb11⟩
    have hbk := HBK.out w11 hb11
    have hR11 : Rd w0 w11 g s j := (HR9.out.drewN n10).stays hb11
    have hK11 : KeepBut w w11 g (some gn) := (keep_drewN HK9.out n10).trans (KeepBut.of_below hb11 g (some gn)) (.inl rfl)
    have s11 := blk_cell hbk 1
    have f11 := blk_frozen hbk 1
    have hR12 : Rd w0 (w11.setCell ⟨gn, 1, none⟩ (.string r1)) g s j := hR11.far (p := ⟨gn, 1, none⟩) hgg hgw0 _
    have s12 := hR12.cell1
    have f12 := hR12.frozen 1
    obtain ⟨w13, hw13⟩ : ∃ w13, w13 = (w11.setCell ⟨gn, 1, none⟩ (.string r1)).setCell ⟨g, 1, none⟩ (.int .i64 (((i + k : Nat) : Int))) := ⟨_, rfl⟩
    have hR13 : Rd w0 w13 g s (i + k) := by rw [hw13]; exact hR12.move (i + k) (by omega)
    have hb13 : w13.heap[gn]? = some (.cells #[.string nm, .string r1, .slice none 0 0] 36 (0, 0)) := by
      rw [hw13]
      exact (Below.heap_setCell _ ⟨g, 1, none⟩ _ gn hgg).trans (blk_put hbk 1 _ rfl)
    have hK13 : KeepBut w w13 g (some gn) := by
      rw [hw13]
      exact (keepPut hK11 1 _).set_ 1 _
    have HF : Aside0 (ContPost w0 w g gn s nm (textV s i [] j) (.returned (.bool r2)) w13) := ⟨⟨r1, [], none, 0, r2, i + k, rfl, hb13, Nat.le_refl _, fun _ _ => Kd.C_nil _ _, Wr.none _ _, hR13, hK13, by
      have hv' := HV.out
      have hu := HR1.out
      rw [textV, if_neg (by simp), if_neg (by rw [← hv']; omega), ← hv', Int.toNat_natCast]
      cases r2 with
      | true => rw [if_pos (by rw [← hu]), ← hu]; exact ⟨rfl, rfl, rfl, rfl⟩
      | false => rw [if_neg (by rw [← hu]; simp)]⟩⟩
    have hcast : ((i + k : Nat) : Int) = (i : Int) + (k : Int) := by omega
    rw [hcast] at hw13
    have HW := Aside0.mk hw13
    have HWc := Aside0.mk hcast
    clear hw13 hcast hR13 hb13 hK13 hR11 hR12 hb11 hbk hK11
    go_wp2_with fail
    rw [← HW.out]
    exact HRet.out _ _ r2 rfl rfl HF.out
end Go.Proofs.YtkhjpobhdpcglaaDoor.X
end
section
namespace Go.Proofs.YtkhjpobhdpcglaaDoor.X
open Go.RowKit Go.Proofs.YtkhjpobhdpcglaaDoorW.PrintWords Go.Proofs.YtkhjpobhdpcglaaDoorW.PrintLast Go.Proofs.YtkhjpobhdpcglaaDoorW.PrintMore
set_option linter.unusedVariables false
set_option linter.unusedSimpArgs false

set_option maxHeartbeats 4000000 in
set_option maxRecDepth 1000000 in
theorem content_step {d : Nat} {s : ByteArray} (he : ElemOk s d) (hpos : ∀ i n m, elemV s d i = some (n, m) → i < m) (hd16 : d ≤ 16) : ContOk s d := by
  intro w0 w g gn i nm h hg h0 hgw0 hgg hbn
  have HE := Aside0.mk he
  have HP := Aside0.mk hpos
  have hsm := h.small
  have hlt := h.lt
  have hge := h.ge
  have hgnlt : gn < w.heap.size := blk_lt hbn
  have HR := Aside0.mk h
  have HB := Aside0.mk hbn
  have HG := Aside0.mk hg
  have c1 := h.cell1
  clear he hpos hbn hg h
  go_enter Tryd.func95, Tryd.ntmps95
  go_wp2_with fail
  refine (space_calls HR.out).mono ?_
  rintro e w1 ⟨rfl, h1, hk1⟩
  have HK1 : Aside0 (KeepBut w w1 g (some gn)) := ⟨keepWeak hk1 _⟩
  have HB1 : Aside0 (w1.heap[gn]? = some (.cells #[.string nm, .string ⟨#[]⟩, .slice none 0 0] 36 (0, 0))) := ⟨hk1.blk HB.out hgg (by simp)⟩
  obtain ⟨j0, hj0⟩ : ∃ j0, j0 = skip whiteV s i := ⟨_, rfl⟩
  have hC : contV (elemV s d) s i = contW s i (kidsV (elemV s d) (s.size + 1) s j0 []) := by rw [contV, hj0]
  rw [← hj0] at h1
  have HC0 := Aside0.mk hC
  have H1 := Aside0.mk h1
  have hile := HR.out.le
  clear hC hj0 h1 hk1 c1 HR HB
  go_wp2_with fail
  rename_i Kl hKl
  refine wp_loop_ghost_k (ContI w0 w g gn i d s nm j0) (s.size + 1) ?_ ?_
  · exact ContI.mk (A := none) (c := 0) rfl (by omega) (by simp) H1.out HK1.out ⟨HB1.out, Kd.N_nil _ _ _ _ _, fun _ => ⟨rfl, rfl⟩⟩
  · intro gk a' wr hI J K hJ hK
    cases gk with
    | zero => obtain ⟨_, _, _, _, _, _, h2, _⟩ := hI; omega
    | succ gk =>
    refine cont_round (fun c_ N_ _ _ w_ h_ => by cases N_ <;> exact h_) HE.out HP.out hd16 hsm hgg hlt hgnlt h0 hgw0 hge HG.out hI ?_ ?_ ?_
    · intro a2 w2 h2
      exact hK _ _ ⟨gk, Nat.lt_succ_self _, hJ _ _ _ h2⟩
    · intro l j a2 w2 hkv hF h3 h4 A c h5
      refine hKl a2 w2 ?_
      have hCV := HC0.out
      rw [hkv] at hCV
      cases l with
      | nil =>
        refine cont_text (fun c_ N_ _ _ w_ h_ => by cases N_ <;> exact h_) hsm hile hgg hlt hgnlt h0 hge hgw0 HG.out hF h3 h4 h5 ?_
        intro a3 w3 b hd hb hpost
        refine bodyPost_ret (v := .bool b) ?_ hd ?_
        · rw [results_tmp rfl]
          rw [hb]
        · rw [hCV]
          exact hpost
      | cons n l =>
        refine cont_kids (fun c_ N_ _ _ w_ h_ => by cases N_ <;> exact h_) hsm hgg hlt hgnlt hgw0 hF h3 h4 h5 (by simp) ?_
        intro a3 w3 b hd hb hpost
        refine bodyPost_ret (v := .bool b) ?_ hd ?_
        · rw [results_tmp rfl]
          rw [hb]
        · rw [hCV]
          exact hpost
    · intro l A c j a2 w2 hkv hF hb h3 h4 h5
      refine bodyPost_ret (v := .bool false) ?_ (by obtain ⟨u, rfl⟩ := hF; rfl) ?_
      · rw [results_tmp rfl]
        rw [hb]
      · have hCV := HC0.out
        rw [hkv] at hCV
        rw [hCV]
        exact ⟨⟨#[]⟩, l, A, c, false, j, rfl, h5.blk, h5.le, h5.f, h5.wr, h3, h4, rfl⟩
theorem attrsV_ge {s : ByteArray} : ∀ {k i m : Nat}, attrsV k s i = some m → i ≤ m
  | 0, i, m, h => by cases h
  | k + 1, i, m, h => by
    have h2 := le_skip whiteV s i
    unfold attrsV at h
    split at h
    · split at h
      · rename_i m' hm'
        have h3 := attrV_gt hm'
        have h4 := attrsV_ge h
        omega
      · cases h
    · injection h with h
      omega
theorem kidsV_ge {s : ByteArray} {E : Nat → Option (S36 × Nat)} (hE : ∀ i n m, E i = some (n, m) → i < m) : ∀ {k j : Nat} {acc l : List S36} {m : Nat}, kidsV E k s j acc = some (l, m) → j ≤ m
  | 0, j, acc, l, m, h => by cases h
  | k + 1, j, acc, l, m, h => by
    unfold kidsV at h
    split at h
    · split at h
      · rename_i n m' hm'
        have h3 := hE _ _ _ hm'
        have h4 := kidsV_ge hE h
        have h5 := le_skip whiteV s m'
        omega
      · cases h
    · injection h with h
      injection h with h1 h2
      omega
theorem contV_ge {s : ByteArray} {E : Nat → Option (S36 × Nat)} (hE : ∀ i n m, E i = some (n, m) → i < m) {i m : Nat} {t : ByteArray} {l : List S36} (h : contV E s i = some (t, l, m)) : i ≤ m := by
  unfold contV contW at h
  split at h
  · rename_i kids m' hk
    have h1 := kidsV_ge hE hk
    have h2 := le_skip whiteV s i
    unfold textV at h
    split at h
    · injection h with h
      injection h with _ h
      injection h with _ h
      omega
    · split at h
      · cases h
      · split at h
        · injection h with h
          injection h with _ h
          injection h with _ h
          omega
        · cases h
  · cases h
theorem elemV_gt (s : ByteArray) : ∀ (d i : Nat) (n : S36) (m : Nat), elemV s d i = some (n, m) → i < m
  | 0, i, n, m, h => by cases h
  | d + 1, i, n, m, h => by
    unfold elemV at h
    split at h
    · split at h
      · unfold atV at h
        split at h
        · rename_i k hk
          have h1 := attrsV_ge hk
          have h2 := le_skip innerV s (i + 1)
          unfold restV at h
          split at h
          · injection h with h
            injection h with _ h
            omega
          · split at h
            · split at h
              · rename_i t kids m' hc
                have h3 := contV_ge (elemV_gt s d) hc
                unfold endV at h
                split at h
                · split at h
                  · split at h
                    · injection h with h
                      injection h with _ h
                      have h4 := le_skip innerV s (m' + 2)
                      have h5 := le_skip whiteV s (skip innerV s (m' + 2))
                      omega
                    · cases h
                  · cases h
                · cases h
              · cases h
            · cases h
        · cases h
      · cases h
    · cases h
set_option maxHeartbeats 4000000 in
set_option maxRecDepth 1000000 in
theorem element_zero {s : ByteArray}
    {w0 w : World} {g i : Nat} (h : Rd w0 w g s i) (hg : GOK w) (h0 : 0 < w0.heap.size) :
    Calls Tryd.prog 49 #[.pointer (some ⟨g, 0, none⟩), .int .i64 17] w (ElemPost w0 w g s none) := by
  have hsm := h.small
  have hlt := h.lt
  have hge := h.ge
  obtain ⟨gn, hgn⟩ : ∃ gn, gn = w.heap.size := ⟨_, rfl⟩
  have hgg : gn ≠ g := by omega
  obtain ⟨W0, hW0⟩ : ∃ W0, W0 = w.alloc (.cells #[.string ⟨#[]⟩, .string ⟨#[]⟩, .slice none 0 0] 36 (0, 0)) := ⟨_, rfl⟩
  have HR : Aside0 (Rd w0 W0 g s i) := ⟨by rw [hW0]; exact h.alloc _⟩
  have HK : Aside0 (KeepBut w W0 g none) := ⟨by rw [hW0]; exact keep_alloc (KeepBut.refl w g none) _⟩
  have HB : Aside0 (W0.heap[gn]? = some (.cells #[.string ⟨#[]⟩, .string ⟨#[]⟩, .slice none 0 0] 36 (0, 0))) := ⟨by rw [hW0, hgn]; exact heap_alloc_new w _⟩
  have HG2 : Aside0 (GOK w) := ⟨hg⟩
  have hq16 : decide ((16 : Int) < 17) = true := decide_eq_true (by omega)
  clear h hg
  go_enter Tryd.func49, Tryd.ntmps49
  go_wp2_with fail
  rw [← hW0, ← hgn]
  have hgw : w.heap.size ≤ gn := by omega
  have hgw0 : w0.heap.size ≤ gn := by have := hge; omega
  have hu36 := Tryd.underlying36
  clear hW0 hgn
  refine wp_scope_jumps 0 (ElemJ w0 w g gn s none) (fun _ _ => 0) rfl ?_ ?_
  case refine_2 =>
    rintro a' w' ⟨⟨u0, u1, u2, u3, u5, u6, u7, u8, u9, u10, u11, u12, u13, u14, u15, u16, u17, u18, u19, u20, u21, u22, u23, u24, u25, u26, u27, u28, u29, u30, u31, u32, u33, u34, u35, u36, u37, u38, u39, u40, u41, u42, u43, u44, u45, u46, u47, u48, u49, u50, u51, u52, u53, u54, u55, u56, u57, u58, u59, u60, u61, u62, u63, u64, u65, u66, u67, u68, u69, u70, u71, u72, u73, u74, u75, u76, u77, u78, u79, u80, u81, rfl⟩, ⟨j, hj⟩, hk, ⟨x, y, z, hb⟩, ho⟩
    have cz0 := blk_cell hb 0
    have cz1 := blk_cell hb 1
    have cz2 := blk_cell hb 2
    have fz0 := blk_frozen hb 0
    have fz1 := blk_frozen hb 1
    have fz2 := blk_frozen hb 2
    have HB := Aside0.mk hb
    clear hb
    go_wp2
    simp only [Exit.jump]
    exact bodyPost_ret (elem_results rfl rfl (x := .string ⟨#[]⟩) (y := .string ⟨#[]⟩) (z := .slice none 0 0) (blk_set3 HB.out)) rfl (ElemPost.no (j := j) rfl (((hj.far (p := ⟨gn, 0, none⟩) hgg hgw0 _).far (p := ⟨gn, 1, none⟩) hgg hgw0 _).far (p := ⟨gn, 2, none⟩) hgg hgw0 _) (keep_far (keep_far (keep_far hk (p := ⟨gn, 0, none⟩) hgw _) (p := ⟨gn, 1, none⟩) hgw _) (p := ⟨gn, 2, none⟩) hgw _))
  case refine_1 =>
    go_wp2_with fail
    apply wp_goto
    exact ⟨rfl, ElemJ.mk HR.out HK.out HB.out rfl⟩
theorem element_ok (s : ByteArray) : ∀ d, d ≤ 16 → ElemOk s d
  | 0, _ => by
    intro w0 w g i h hg h0
    exact element_zero h hg h0
  | d + 1, hd => by
    intro w0 w g i h hg h0
    have h1 := element_step (content_step (element_ok s d (by omega)) (elemV_gt s d) (by omega)) (by omega) h hg h0
    have h2 : (16 - ((d + 1 : Nat) : Int) + 1) = 16 - (d : Int) := by omega
    rw [h2]
    exact h1
end Go.Proofs.YtkhjpobhdpcglaaDoor.X
end
section
namespace Go.Proofs.YtkhjpobhdpcglaaDoor.X
open Go.RowKit Go.Proofs.YtkhjpobhdpcglaaDoorW.PrintWords Go.Proofs.YtkhjpobhdpcglaaDoorW.PrintLast Go.Proofs.YtkhjpobhdpcglaaDoorW.PrintMore
set_option linter.unusedVariables false
set_option linter.unusedSimpArgs false

/-- where what may stand ahead of a document ends -/
def beginV (s : ByteArray) : Option Nat :=
  if hasP s 0 ⟨#[60, 63, 120, 109, 108]⟩ = true then
    (if Lib.index (s.extract 5 s.size).data.toList [63, 62] < 0 then none
     else if 0 < Lib.index (s.extract 5 s.size).data.toList [63, 62] ∧ whiteV (bt s 5) = false ∧ bt s 5 ≠ 63 then none
     else some (5 + (Lib.index (s.extract 5 s.size).data.toList [63, 62]).toNat + 2))
  else some 0
theorem Index_5 (s : ByteArray) (v : Int) (hs : s.size ≤ 1073741824) (hv : v = Lib.index (s.extract 5 s.size).data.toList [63, 62]) (w : World) (hg : GOK w) :
    Calls Tryd.prog 90 #[.string (s.extract 5 s.size), .string ⟨#[63, 62]⟩] w fun e w' => e = .returned (.int .i64 v) ∧ Drawn0 w w' := by
  have hsz : (s.extract 5 s.size).size = s.size - 5 := by simp
  have := Index_any (s.extract 5 s.size) ⟨#[63, 62]⟩ w hg (by omega)
  rw [hv]
  exact this
theorem begin_room (s : ByteArray) (h : 0 ≤ Lib.index (s.extract 5 s.size).data.toList [63, 62]) : 5 + (Lib.index (s.extract 5 s.size).data.toList [63, 62]).toNat + 2 ≤ s.size := by
  have h1 := Lib.index_room (s.extract 5 s.size).data.toList [63, 62] h
  have hsz : (s.extract 5 s.size).data.toList.length = s.size - 5 := by
    rw [Array.length_toList]
    show (s.extract 5 s.size).size = _
    simp
  rw [hsz] at h1
  have h2 : (([63, 62] : List UInt8).length : Int) = 2 := rfl
  rw [h2] at h1
  generalize Lib.index (s.extract 5 s.size).data.toList [63, 62] = v at h h1 ⊢
  omega
def BeginPost (w0 w : World) (g : Nat) (s : ByteArray) (e : Ending) (w' : World) : Prop := ∃ (b : Bool) (j : Nat), e = .returned (.bool b) ∧ Rd w0 w' g s j ∧ KeepBut w w' g none ∧ (match beginV s with | some k => b = true ∧ j = k | none => b = false)
theorem BeginPost.no {w0 w w' : World} {g : Nat} {s : ByteArray} {j : Nat} (ho : beginV s = none) (h : Rd w0 w' g s j) (hk : KeepBut w w' g none) : BeginPost w0 w g s (.returned (.bool false)) w' := ⟨false, j, rfl, h, hk, by rw [ho]⟩
theorem BeginPost.yes {w0 w w' : World} {g : Nat} {s : ByteArray} {j : Nat} (ho : beginV s = some j) (h : Rd w0 w' g s j) (hk : KeepBut w w' g none) : BeginPost w0 w g s (.returned (.bool true)) w' := ⟨true, j, rfl, h, hk, by rw [ho]; exact ⟨rfl, rfl⟩⟩
set_option maxHeartbeats 4000000 in
set_option maxRecDepth 1000000 in
theorem begin_calls {w0 w : World} {g : Nat} {s : ByteArray} (h : Rd w0 w g s 0) (hg : GOK w) :
    Calls Tryd.prog 47 #[.pointer (some ⟨g, 0, none⟩)] w (BeginPost w0 w g s) := by
  have hsm := h.small
  have c0 := h.cell0
  have c1 := h.cell1
  have f1 := h.frozen 1
  have HR := Aside0.mk h
  have HG := Aside0.mk hg
  obtain ⟨b, hb⟩ : ∃ b, b = hasP s 0 ⟨#[60, 63, 120, 109, 108]⟩ := ⟨_, rfl⟩
  have HP : Aside0 (Calls Tryd.prog 89 #[.string s, .string ⟨#[60, 63, 120, 109, 108]⟩] w fun e w2 => e = .returned (.bool b) ∧ Drawn0 w w2) := ⟨by
    have h1 := HasPrefix_calls s 0 ⟨#[60, 63, 120, 109, 108]⟩ hsm (by decide) w
    have h2 : s.extract 0 s.size = s := by simp
    rw [h2] at h1
    rw [hb]
    exact h1⟩
  have HB := Aside0.mk hb
  clear h hg hb
  cases b with
  | false =>
    go_enter Tryd.func47, Tryd.ntmps47
    go_wp2_with fail
    refine HP.out.mono ?_
    rintro e w1 ⟨rfl, ⟨n1, rfl⟩⟩
    go_wp2_with fail
    go_ret
    exact BeginPost.yes (j := 0) (by rw [beginV, if_neg (by rw [← HB.out]; decide)]) (HR.out.drewN n1) (keep_drewN (KeepBut.refl _ _ _) n1)
  | true =>
    have h5 : 5 ≤ s.size := by
      have h1 := hasP_le HB.out.symm
      have h2 : (⟨#[60, 63, 120, 109, 108]⟩ : ByteArray).size = 5 := rfl
      omega
    obtain ⟨v, hv⟩ : ∃ v, v = Lib.index (s.extract 5 s.size).data.toList [63, 62] := ⟨_, rfl⟩
    have hnn : -1 ≤ v := by rw [hv]; exact Lib.index_ge _ _
    have hroom := begin_room s
    rw [← hv] at hroom
    have HI := fun (w' : World) (hg' : GOK w') => Index_5 s v hsm hv w' hg'
    have HI' := Aside0.mk HI
    have HV := Aside0.mk hv
    have p1 : (5 : Int) ≤ (s.size : Int) := by omega
    clear hv HI
    have hspec : beginV s = if v < 0 then none else if 0 < v ∧ whiteV (bt s 5) = false ∧ bt s 5 ≠ 63 then none else some (5 + v.toNat + 2) := by
      rw [beginV, if_pos HB.out.symm, ← HV.out]
    have HS := Aside0.mk hspec
    clear hspec
    have hwh : ∀ w' : World, Calls Tryd.prog 91 #[.int .u8 (bt s 5)] w' fun e w2 => e = .returned (.bool (whiteV (bt s 5))) ∧ Drawn0 w' w2 := fun w' => xml_white.calls _ _ w' (white_f _)
    have HW := Aside0.mk hwh
    clear hwh
    have hx5 : ∀ h : 5 < s.size, ((s[5]'h).toNat : Int) = bt s 5 := fun h => by simp [bt, h]
    have hbr := bt_range s 5
    obtain ⟨x, hx⟩ : ∃ x, x = bt s 5 := ⟨_, rfl⟩
    rw [← hx] at HS HW hx5 hbr
    clear hx
    rcases Int.lt_or_le v 0 with hneg | hpos
    · go_enter Tryd.func47, Tryd.ntmps47
      go_wp2_with fail
      refine HP.out.mono ?_
      rintro e w1 ⟨rfl, ⟨n1, rfl⟩⟩
      go_wp2_with fail
      refine (HI'.out _ (HG.out.drewN n1)).mono ?_
      rintro e w2 ⟨rfl, ⟨n2, rfl⟩⟩
      go_wp2_with fail
      go_ret
      exact BeginPost.no (j := 0) (by rw [HS.out, if_pos hneg]) (HR.out.drewN _) (keep_drewN (KeepBut.refl _ _ _) _)
    · obtain ⟨k, rfl⟩ : ∃ k : Nat, v = (k : Int) := ⟨v.toNat, by omega⟩
      have hr := hroom hpos
      rw [Int.toNat_natCast] at hr
      clear hroom
      have h6 : 5 < s.size := by omega
      have hx6 := hx5 h6
      have q1 : ¬ ((k : Int) < 0) := by omega
      have hs1 : (5 : Int) + (k : Int) + 2 = ((5 + k + 2 : Nat) : Int) := by omega
      have HS1 := Aside0.mk hs1
      have q3 : (5 : Int) < (s.size : Int) := by omega
      clear hs1 hx5 hnn
      have hmv := fun (n : Nat) => (HR.out.drewN n).move (5 + k + 2) hr
      have hkv := fun (n : Nat) => (keep_drewN (KeepBut.refl w g none) n).set_ 1 (.int .i64 ((5 + k + 2 : Nat) : Int))
      have HMV := Aside0.mk hmv
      have HKV := Aside0.mk hkv
      clear hmv hkv
      by_cases hk : 0 < k
      · have q2 : (0 : Int) < (k : Int) := by omega
        cases hw : whiteV x with
        | true =>
          rw [hw] at HW
          have HT : Aside0 (beginV s = some (5 + k + 2)) := ⟨by rw [HS.out, if_neg q1, if_neg (by rw [hw]; simp), Int.toNat_natCast]⟩
          clear hw HS
          go_enter Tryd.func47, Tryd.ntmps47
          go_wp2_with fail
          refine HP.out.mono ?_
          rintro e w1 ⟨rfl, ⟨n1, rfl⟩⟩
          go_wp2_with fail
          refine (HI'.out _ (HG.out.drewN n1)).mono ?_
          rintro e w2 ⟨rfl, ⟨n2, rfl⟩⟩
          go_wp2_with fail
          refine (HW.out _).mono ?_
          rintro e w3 ⟨rfl, ⟨n3, rfl⟩⟩
          go_wp2_with fail
          go_ret
          have h1 := HMV.out (n1 + n2 + n3)
          have h2 := HKV.out (n1 + n2 + n3)
          rw [← HS1.out] at h1 h2
          exact BeginPost.yes HT.out h1 h2
        | false =>
          rw [hw] at HW
          cases hq : x == 63 with
          | true =>
            have hx63 : x = 63 := by simpa using hq
            have HT : Aside0 (beginV s = some (5 + k + 2)) := ⟨by rw [HS.out, if_neg q1, if_neg (by rw [hx63]; simp), Int.toNat_natCast]⟩
            have hq2 : (x != 63) = false := by simp [hx63]
            clear hw HS hx63
            go_enter Tryd.func47, Tryd.ntmps47
            go_wp2_with fail
            refine HP.out.mono ?_
            rintro e w1 ⟨rfl, ⟨n1, rfl⟩⟩
            go_wp2_with fail
            refine (HI'.out _ (HG.out.drewN n1)).mono ?_
            rintro e w2 ⟨rfl, ⟨n2, rfl⟩⟩
            go_wp2_with fail
            refine (HW.out _).mono ?_
            rintro e w3 ⟨rfl, ⟨n3, rfl⟩⟩
            go_wp2_with fail
            go_ret
            have h1 := HMV.out (n1 + n2 + n3)
            have h2 := HKV.out (n1 + n2 + n3)
            rw [← HS1.out] at h1 h2
            exact BeginPost.yes HT.out h1 h2
          | false =>
            have hx63 : x ≠ 63 := by simpa using hq
            have HT : Aside0 (beginV s = none) := ⟨by rw [HS.out, if_neg q1, if_pos ⟨q2, hw, hx63⟩]⟩
            have hq2 : (x != 63) = true := by simp [hx63]
            clear hw HS hx63
            go_enter Tryd.func47, Tryd.ntmps47
            go_wp2_with fail
            refine HP.out.mono ?_
            rintro e w1 ⟨rfl, ⟨n1, rfl⟩⟩
            go_wp2_with fail
            refine (HI'.out _ (HG.out.drewN n1)).mono ?_
            rintro e w2 ⟨rfl, ⟨n2, rfl⟩⟩
            go_wp2_with fail
            refine (HW.out _).mono ?_
            rintro e w3 ⟨rfl, ⟨n3, rfl⟩⟩
            go_wp2_with fail
            go_ret
            exact BeginPost.no (j := 0) HT.out (HR.out.drewN _) (keep_drewN (KeepBut.refl _ _ _) _)
      · obtain rfl : k = 0 := by omega
        have HT : Aside0 (beginV s = some 7) := ⟨by rw [HS.out, if_neg q1, if_neg (by simp)]; rfl⟩
        clear HS
        go_enter Tryd.func47, Tryd.ntmps47
        go_wp2_with fail
        refine HP.out.mono ?_
        rintro e w1 ⟨rfl, ⟨n1, rfl⟩⟩
        go_wp2_with fail
        refine (HI'.out _ (HG.out.drewN n1)).mono ?_
        rintro e w2 ⟨rfl, ⟨n2, rfl⟩⟩
        go_wp2_with fail
        go_ret
        have h1 := HMV.out (n1 + n2)
        have h2 := HKV.out (n1 + n2)
        exact BeginPost.yes (j := 7) HT.out h1 h2
end Go.Proofs.YtkhjpobhdpcglaaDoor.X
end
section
namespace Go.Proofs.YtkhjpobhdpcglaaDoor.X
open Go.RowKit Go.Proofs.YtkhjpobhdpcglaaDoorW.PrintWords Go.Proofs.YtkhjpobhdpcglaaDoorW.PrintLast Go.Proofs.YtkhjpobhdpcglaaDoorW.PrintMore
set_option linter.unusedVariables false
set_option linter.unusedSimpArgs false

def legalV (s : ByteArray) : Bool := legB s s.size 0 && (cntB s s.size 0 0).2
/-- behind what may stand ahead -/
def docV (s : ByteArray) (j : Nat) : S36 × Int :=
  match elemV s 16 (skip whiteV s j) with
  | some (n, m) => if skip whiteV s m = s.size then (n, 0) else (z36, 130)
  | none => (z36, 130)
/-- the element of a document -/
def parseV (s : ByteArray) : S36 × Int :=
  if 65536 < s.size then (z36, 2)
  else if legalV s = false then (z36, 130)
  else match beginV s with
    | some j => docV s j
    | none => (z36, 130)
/-- an element in new memory -/
def NewNode (w w' : World) (n : S36) (v : Value) : Prop := ∃ (A : Option Addr) (c : Nat), v = .agg #[.string n.f0, .string n.f1, .slice A n.f2.length c] ∧ n.f2.length ≤ c ∧ Kd.F k36 w' (fun k => w.heap.size ≤ k) A n.f2.length n.f2 ∧ Wr w' w.heap.size A
def ParsePost (w : World) (s : ByteArray) (e : Ending) (w' : World) : Prop := ∃ v, e = .returned (.tuple #[v, .int .i64 (parseV s).2]) ∧ NewNode w w' (parseV s).1 v ∧ Below w.heap.size w w'
theorem NewNode.zero (w w' : World) : NewNode w w' z36 (.agg #[.string ⟨#[]⟩, .string ⟨#[]⟩, .slice none 0 0]) := ⟨none, 0, rfl, Nat.le_refl _, fun W_ _ => Kd.C_nil _ _, Wr.none _ _⟩
theorem ParsePost.no {w w' : World} {s : ByteArray} {c : Int} (h : parseV s = (z36, c)) (hb : Below w.heap.size w w') : ParsePost w s (.returned (.tuple #[.agg #[.string ⟨#[]⟩, .string ⟨#[]⟩, .slice none 0 0], .int .i64 c])) w' := ⟨_, by rw [h], by rw [h]; exact NewNode.zero _ _, hb⟩
theorem parse_results {T : Array Value} {w : World} {gn : Nat} {x y z u : Value} (h2 : T.getD 2 undef = .pointer (some ⟨gn, 0, none⟩)) (h3 : T.getD 3 undef = u) (hb : w.heap[gn]? = some (.cells #[x, y, z] 36 (0, 0))) :
    (results Tryd.f16 T).run Tryd.prog w = .ok (.tuple #[.agg #[x, y, z], u]) w := by
  rw [results_cell_tmp (p := 2) (u := 3) (ty := 36) rfl, h2, h3]
  have h := run_loadVar_row (P := Tryd.prog) w gn 36 36 #[x, y, z] (0, 0) _ hb Tryd.underlying36 rfl (by kernel_rfl)
  simp [asAddr, h, Result.andThen]
set_option maxHeartbeats 4000000 in
set_option maxRecDepth 1000000 in
theorem parse_calls (s : ByteArray) (w : World) (hg : GOK w) (hs : s.size ≤ 140737488351232) : Calls Tryd.prog 16 #[.string s] w (ParsePost w s) := by
  have hu36 := Tryd.underlying36
  have hmax : s.size ≤ 9223372036854775807 := by omega
  by_cases hL : 65536 < s.size
  · have hL2 : (65536 : Int) < (s.size : Int) := by omega
    have HP : Aside0 (parseV s = (z36, 2)) := ⟨by rw [parseV, if_pos hL]⟩
    clear hL
    go_enter Tryd.func16, Tryd.ntmps16
    go_wp2_with fail
    exact bodyPost_ret (parse_results rfl rfl (heap_alloc_new w _)) rfl (ParsePost.no HP.out (below_alloc (Below.refl _ _) _))
  · have hL2 : ¬ ((65536 : Int) < (s.size : Int)) := by omega
    have hsm : s.size ≤ 1073741824 := by omega
    obtain ⟨gr, hgr⟩ : ∃ gr, gr = w.heap.size := ⟨_, rfl⟩
    obtain ⟨W1, hW1⟩ : ∃ W1, W1 = w.alloc (.cells #[.string ⟨#[]⟩, .string ⟨#[]⟩, .slice none 0 0] 36) := ⟨_, rfl⟩
    obtain ⟨W2, hW2⟩ : ∃ W2, W2 = W1.alloc (.cells #[.string s, .int .i64 0] 91) := ⟨_, rfl⟩
    have hW1s : W1.heap.size = w.heap.size + 1 := by rw [hW1]; simp
    have hb1 : Below w.heap.size w W1 := by rw [hW1]; exact below_alloc (Below.refl _ _) _
    have hc1 : W1.heap[gr]? = some (.cells #[.string ⟨#[]⟩, .string ⟨#[]⟩, .slice none 0 0] 36 (0, 0)) := by rw [hW1, hgr]; exact heap_alloc_new w _
    have hR2 : Rd W1 W2 (gr + 1) s 0 := by
      rw [hgr, ← hW1s, hW2]
      exact ⟨IsS91.new W1 W1 s 0 (Below.refl _ _), below_alloc (Below.refl _ _) _, Nat.zero_le _, hsm⟩
    have hg2 : GOK W2 := by
      rw [hW2, hW1]
      exact (hg.below (below_alloc (Below.refl _ _) _) hg.lt).below (below_alloc (Below.refl _ _) _) (by have := hg.lt; rw [World.size_alloc]; omega)
    have h00 : 0 < W1.heap.size := by omega
    have HL := Aside0.mk (chars_Legal.calls s (legalV s) W2 (by rw [chars_Legal.f, if_pos (by omega)]; rfl))
    have HR2 := Aside0.mk hR2
    have HG2 := Aside0.mk hg2
    have HB1 := Aside0.mk hb1
    have HC1 := Aside0.mk hc1
    have HS1 := Aside0.mk hW1s
    have HGR := Aside0.mk hgr
    have HW1 := Aside0.mk hW1
    have HW2 := Aside0.mk hW2
    have hspec : parseV s = if legalV s = false then (z36, 130) else match beginV s with | some j => docV s j | none => (z36, 130) := by rw [parseV, if_neg hL]
    have HS := Aside0.mk hspec
    clear hL hg hR2 hg2 hb1 hc1 hW1s hgr hW1 hW2 hspec hs
    go_enter Tryd.func16, Tryd.ntmps16
    go_wp2_with fail
    rw [← HW1.out, ← HW2.out, ← HGR.out]
    have HGR2 : Aside0 (gr < W1.heap.size) := ⟨by rw [HS1.out, HGR.out]; omega⟩
    refine HL.out.mono ?_
    rintro e w3 ⟨rfl, hb3⟩
    have HR3 : Aside0 (Rd W1 w3 (gr + 1) s 0) := ⟨HR2.out.stays hb3⟩
    have HG3 : Aside0 (GOK w3) := ⟨HG2.out.below hb3 HG2.out.lt⟩
    clear hb3 HR2 HG2 HL
    -- an early end
    have hno : ∀ (w' : World) (c : Int), parseV s = (z36, c) → Below W1.heap.size W1 w' → ParsePost w s (.returned (.tuple #[.agg #[.string ⟨#[]⟩, .string ⟨#[]⟩, .slice none 0 0], .int .i64 c])) (((w'.setCell ⟨gr, 0, none⟩ (.string ⟨#[]⟩)).setCell ⟨gr, 1, none⟩ (.string ⟨#[]⟩)).setCell ⟨gr, 2, none⟩ (.slice none 0 0)) := fun w' c h hb => by
      have h1 := below_then HB1.out HB1.out.size hb
      have h2 : w.heap.size ≤ gr := by rw [HGR.out]; exact Nat.le_refl _
      exact ParsePost.no h (((h1.setCell (p := ⟨gr, 0, none⟩) h2 _).setCell (p := ⟨gr, 1, none⟩) h2 _).setCell (p := ⟨gr, 2, none⟩) h2 _)
    have HNO := Aside0.mk hno
    clear hno
    cases hl : legalV s with
    | false =>
      have HP : Aside0 (parseV s = (z36, 130)) := ⟨by rw [HS.out, if_pos hl]⟩
      have hcr : w3.heap[gr]? = some (.cells #[.string ⟨#[]⟩, .string ⟨#[]⟩, .slice none 0 0] 36 (0, 0)) := blk_below HC1.out HR3.out.below
      clear hl
      have cz0 := blk_cell hcr 0
      have cz1 := blk_cell hcr 1
      have cz2 := blk_cell hcr 2
      have fz0 := blk_frozen hcr 0
      have fz1 := blk_frozen hcr 1
      have fz2 := blk_frozen hcr 2
      have HCR := Aside0.mk hcr
      clear hcr
      go_wp2_with fail
      exact bodyPost_ret (parse_results rfl rfl (x := .string ⟨#[]⟩) (y := .string ⟨#[]⟩) (z := .slice none 0 0) (blk_set3 HCR.out)) rfl (HNO.out _ _ HP.out HR3.out.below)
    | true =>
      have HS' : Aside0 (parseV s = match beginV s with | some j => docV s j | none => (z36, 130)) := ⟨by rw [HS.out, if_neg (by rw [hl]; decide)]⟩
      clear hl HS
      go_wp2_with fail
      refine (begin_calls HR3.out HG3.out).mono ?_
      rintro e w4 ⟨b, j, rfl, hR4, hk4, hm⟩
      have HR4 := Aside0.mk hR4
      have HG4 : Aside0 (GOK w4) := ⟨HG3.out.keep hk4 (by omega) (by simp)⟩
      have hcr : w4.heap[gr]? = some (.cells #[.string ⟨#[]⟩, .string ⟨#[]⟩, .slice none 0 0] 36 (0, 0)) := blk_below HC1.out hR4.below
      clear hR4 hk4 HR3 HG3
      cases hbv : beginV s with
      | none =>
        rw [hbv] at hm
        obtain rfl : b = false := hm
        have HP : Aside0 (parseV s = (z36, 130)) := ⟨by rw [HS'.out, hbv]⟩
        clear hbv
        have cz0 := blk_cell hcr 0
        have cz1 := blk_cell hcr 1
        have cz2 := blk_cell hcr 2
        have fz0 := blk_frozen hcr 0
        have fz1 := blk_frozen hcr 1
        have fz2 := blk_frozen hcr 2
        have HCR := Aside0.mk hcr
        clear hcr
        go_wp2_with fail
        exact bodyPost_ret (parse_results rfl rfl (x := .string ⟨#[]⟩) (y := .string ⟨#[]⟩) (z := .slice none 0 0) (blk_set3 HCR.out)) rfl (HNO.out _ _ HP.out HR4.out.below)
      | some j' =>
        rw [hbv] at hm
        obtain ⟨rfl, rfl⟩ := hm
        have HS2 : Aside0 (parseV s = docV s j) := ⟨by rw [HS'.out, hbv]⟩
        clear hbv HS' hcr
        go_wp2_with fail
        refine (space_calls HR4.out).mono ?_
        rintro e w5 ⟨rfl, h5, hk5⟩
        obtain ⟨j1, hj1⟩ : ∃ j1, j1 = skip whiteV s j := ⟨_, rfl⟩
        rw [← hj1] at h5
        have HS3 : Aside0 (parseV s = match elemV s 16 j1 with | some (n, m) => if skip whiteV s m = s.size then (n, 0) else (z36, 130) | none => (z36, 130)) := ⟨by rw [HS2.out, docV, hj1]⟩
        have HG5 : Aside0 (GOK w5) := ⟨HG4.out.keep hk5 (by omega) (by simp)⟩
        have hE := element_ok s 16 (Nat.le_refl _) W1 w5 (gr + 1) j1 h5 HG5.out h00
        rw [show (16 - ((16 : Nat) : Int) + 1) = 1 from rfl] at hE
        have HEl := Aside0.mk hE
        have hw5 : W1.heap.size ≤ w5.heap.size := h5.below.size
        have hgr5 : gr + 1 < w5.heap.size := h5.lt
        clear hj1 hk5 hE h5 HS2 HG4 HR4
        go_wp2_with fail
        refine HEl.out.mono ?_
        rintro e w6 ⟨n, A, c, b, m, rfl, hle, hF6, hW6, hR6, hk6, hm6⟩
        obtain ⟨gk, hgk⟩ : ∃ gk, gk = w6.heap.size := ⟨_, rfl⟩
        obtain ⟨w7, hw7⟩ : ∃ w7, w7 = w6.alloc (.cells #[.string n.f0, .string n.f1, .slice A n.f2.length c] 36) := ⟨_, rfl⟩
        have hb67 : Below w6.heap.size w6 w7 := by
          rw [hw7]
          exact below_alloc (Below.refl _ _) _
        have hbk : w7.heap[gk]? = some (.cells #[.string n.f0, .string n.f1, .slice A n.f2.length c] 36 (0, 0)) := by
          rw [hw7, hgk]
          exact heap_alloc_new w6 _
        have hgkr : gk ≠ gr + 1 := by have := hk6.1; omega
        have HR7 := Aside0.mk (hR6.stays hb67)
        have HF7 := Aside0.mk (Kd.F_below hF6 hb67)
        have HW7' := Aside0.mk (hW6.keep (KeepBut.of_below hb67 (gr + 1) none) hgr5)
        have HBK := Aside0.mk hbk
        have HM6 := Aside0.mk hm6
        have HGK := Aside0.mk hgk
        have HW7 := Aside0.mk hw7
        have HLE := Aside0.mk hle
        clear hle hF6 hW6 hR6 hk6 hm6 hgk hw7 hb67 hbk HEl
        go_wp2_with fail
        rw [← HGK.out, ← HW7.out]
        refine (space_calls HR7.out).mono ?_
        rintro e w8 ⟨rfl, hR8, hk8⟩
        have hbk8 : w8.heap[gk]? = some (.cells #[.string n.f0, .string n.f1, .slice A n.f2.length c] 36 (0, 0)) := hk8.blk HBK.out hgkr (by simp)
        have hcr : w8.heap[gr]? = some (.cells #[.string ⟨#[]⟩, .string ⟨#[]⟩, .slice none 0 0] 36 (0, 0)) := blk_below HC1.out hR8.below
        have cz0 := blk_cell hcr 0
        have cz1 := blk_cell hcr 1
        have cz2 := blk_cell hcr 2
        have fz0 := blk_frozen hcr 0
        have fz1 := blk_frozen hcr 1
        have fz2 := blk_frozen hcr 2
        have ck0 := blk_cell hbk8 0
        have ck1 := blk_cell hbk8 1
        have ck2 := blk_cell hbk8 2
        have cat := hR8.cell1
        have HCR := Aside0.mk hcr
        have HR8 := Aside0.mk hR8
        have HF8 := Aside0.mk (Kd.F_keep HF7.out hk8 (fun k hk he => by have : w5.heap.size ≤ k := hk; omega))
        have HW8 := Aside0.mk (HW7'.out.keep hk8 hgr5)
        obtain ⟨m2, hm2⟩ : ∃ m2, m2 = skip whiteV s m := ⟨_, rfl⟩
        have HM2 := Aside0.mk hm2
        rw [← hm2] at cat
        clear hcr hR8 hk8 HF7 HW7' HR7 HW7 hbk8 hm2
        have h6 := HM6.out
        cases hev : elemV s 16 j1 with
        | none =>
          rw [hev] at h6
          obtain rfl : b = false := h6
          have HP : Aside0 (parseV s = (z36, 130)) := ⟨by rw [HS3.out, hev]⟩
          clear hev HM6 HS3
          go_wp2_with fail
          exact bodyPost_ret (parse_results rfl rfl (x := .string ⟨#[]⟩) (y := .string ⟨#[]⟩) (z := .slice none 0 0) (blk_set3 HCR.out)) rfl (HNO.out _ _ HP.out HR8.out.below)
        | some r =>
          obtain ⟨n0, m0⟩ := r
          rw [hev] at h6
          obtain ⟨rfl, h61, h62⟩ := h6
          have HS4 : Aside0 (parseV s = if m2 = s.size then (n, 0) else (z36, 130)) := ⟨by rw [HS3.out, hev, HM2.out, h61, h62]⟩
          clear hev HM6 HS3 h61 h62 HM2
          by_cases hend : m2 = s.size
          · have HP : Aside0 (parseV s = (n, 0)) := ⟨by rw [HS4.out, if_pos hend]⟩
            subst hend
            clear HS4
            go_wp2_with fail
            refine bodyPost_ret (parse_results rfl rfl (x := .string n.f0) (y := .string n.f1) (z := .slice A n.f2.length c) (blk_set3 HCR.out)) rfl ?_
            have hgr0 : w.heap.size ≤ gr := by rw [HGR.out]; exact Nat.le_refl _
            have hgrw : gr < w5.heap.size := by omega
            refine ⟨_, by rw [HP.out]; rfl, ?_, (((below_then HB1.out HB1.out.size HR8.out.below).setCell (p := ⟨gr, 0, none⟩) hgr0 _).setCell (p := ⟨gr, 1, none⟩) hgr0 _).setCell (p := ⟨gr, 2, none⟩) hgr0 _⟩
            rw [HP.out]
            have hs1 := HS1.out
            exact ⟨A, c, rfl, HLE.out, Kd.F_mono (Kd.F_put (Kd.F_put (Kd.F_put HF8.out hgrw 0 _) hgrw 1 _) hgrw 2 _) (fun k hk => by omega), (((HW8.out.far (p := ⟨gr, 0, none⟩) hgrw _).far (p := ⟨gr, 1, none⟩) hgrw _).far (p := ⟨gr, 2, none⟩) hgrw _).lower (by omega)⟩
          · have HP : Aside0 (parseV s = (z36, 130)) := ⟨by rw [HS4.out, if_neg hend]⟩
            have hne : ((m2 : Int) != (s.size : Int)) = true := by simp; omega
            have hne2 : ((m2 : Int) == (s.size : Int)) = false := by simp; omega
            clear HS4 hend
            go_wp2_with fail
            exact bodyPost_ret (parse_results rfl rfl (x := .string ⟨#[]⟩) (y := .string ⟨#[]⟩) (z := .slice none 0 0) (blk_set3 HCR.out)) rfl (HNO.out _ _ HP.out HR8.out.below)
end Go.Proofs.YtkhjpobhdpcglaaDoor.X
end
section
namespace Go.Proofs.YtkhjpobhdpcglaaDoor.X
open Go.RowKit
set_option linter.unusedVariables false
set_option linter.unusedSimpArgs false

/-- blocks of other types than the builder's two stay as they are -/
def KeepT (w w' : World) : Prop := w.heap.size ≤ w'.heap.size ∧ ∀ (k : Nat) (cells : Array Value) (t : TypeId), t ≠ 99 → t ≠ 5 → w.heap[k]? = some (.cells cells t (0, 0)) → w'.heap[k]? = some (.cells cells t (0, 0))
theorem KeepT.refl (w : World) : KeepT w w := ⟨Nat.le_refl _, fun _ _ _ _ _ h => h⟩
theorem KeepT.trans {w w1 w2 : World} (h : KeepT w w1) (k : KeepT w1 w2) : KeepT w w2 := ⟨Nat.le_trans h.1 k.1, fun i c t h1 h2 h3 => k.2 i c t h1 h2 (h.2 i c t h1 h2 h3)⟩
theorem KeepT.below {w w1 : World} (h : Below w.heap.size w w1) : KeepT w w1 := ⟨h.size, fun i c t _ _ h3 => (h.block i (Array.getElem?_eq_some_iff.1 h3).1).trans h3⟩
theorem KeepT.set {w : World} {b : Nat} {cs : Array Value} (h : w.heap[b]? = some (.cells cs 99 (0, 0))) (o : Nat) (u : Value) : KeepT w (w.setCell ⟨b, o, none⟩ u) :=
  ⟨by rw [World.size_setCell]; exact Nat.le_refl _, fun i c t h1 _ h3 => (Below.heap_setCell w ⟨b, o, none⟩ u i (fun he => by
    have he' : i = b := he
    subst he'
    rw [h] at h3
    injection h3 with h3
    injection h3 with _ h3
    exact h1 h3.symm)).trans h3⟩
theorem KeepT.grown {w w1 : World} {B n : Nat} {v : Value} {xs : List Value} (h : w.grownBy w1 v.ownBlock) (ho : w.ownsRow B 5 1 v n xs) : KeepT w w1 :=
  ⟨h.size, fun i c t _ h2 h3 => (h.block i (Array.getElem?_eq_some_iff.1 h3).1 (fun he => by
    rcases ho.2 with ⟨hv, _⟩ | ⟨g, cap, cur, hv, _, hh, _⟩
    · rw [hv] at he; simp [Value.ownBlock] at he
    · rw [hv] at he
      simp [Value.ownBlock] at he
      subst he
      rw [hh] at h3
      injection h3 with h3
      injection h3 with _ h3
      exact h2 h3.symm)).trans h3⟩
theorem copyCheck_T (B b : Nat) (bs : List Value) (w : World) (h : Lib.IsBuilder 99 5 B b bs w) :
    Calls Tryd.prog 105 #[.pointer (some ⟨b, 0, none⟩)] w fun e w' => e = .returned (.tuple #[]) ∧ (Lib.BuilderAt 99 5 B b (.pointer (some ⟨b, 0, none⟩)) bs w' ∧ Below B w w' ∧ KeepT w w') := by
  rcases h with h | h
  · refine (copyCheck_fresh b w h.cell0 h.shape h.frozen0).mono ?_
    rintro e w' ⟨rfl, rfl⟩
    obtain ⟨hB_, v_, hbk_, _⟩ := id h
    exact ⟨rfl, h.used _, (Below.refl B w).setCell (p := ⟨b, 0, none⟩) h.1 _, KeepT.set hbk_ 0 _⟩
  · refine (copyCheck_used b w h.cell0).mono ?_
    rintro e w' ⟨rfl, rfl⟩
    exact ⟨rfl, h, Below.refl B _, KeepT.refl _⟩

set_option maxHeartbeats 2000000 in
set_option maxRecDepth 100000 in
theorem Builder_WriteString_T (B b : Nat) (l : List UInt8) (s : ByteArray) (w : World) (h : Bld B b l w) (hlen : l.length + s.size ≤ 140737488355328) (hBw : B ≤ w.heap.size) :
    Calls Tryd.prog 56 #[.pointer (some ⟨b, 0, none⟩), .string s] w fun e w' => e = .returned (.tuple #[.int .i64 s.size, .nilIface]) ∧ Bld B b (l ++ s.data.toList) w' ∧ Below B w w' ∧ KeepT w w' := by
  obtain ⟨i0, hi, hz0, hz1, hz2⟩ := info_parts infoU8
  have hl0 := Lib.byteCells_length l
  have HL := Lib.hid hl0
  clear hl0
  go_enter Tryd.func56, Tryd.ntmps56
  go_wp2_with (go_at_call 105; refine (copyCheck_T B b (Lib.byteCells l) _ h).mono ?_)
  rintro e w1 ⟨rfl, h1, hb1, hkt1⟩
  have HKT := Lib.hid hkt1
  clear hkt1
  obtain ⟨hB, v, hbk, hown, hne⟩ := h1
  have c0 : w1.cell? ⟨b, 0, none⟩ = some (.pointer (some ⟨b, 0, none⟩)) := by rw [Lib.cell_of_heap hbk]; rfl
  have c1 : w1.cell? ⟨b, 1, none⟩ = some v := by rw [Lib.cell_of_heap hbk]; rfl
  go_wp2_with (at_builtin; refine Lib.wpList_append_own_string _ rfl _ _ 22 9 rfl B 5 i0 Tryd.underlying22 Tryd.underlying9 hi hz0 hz1 hz2 _ _ _ rfl hown s rfl ?c3 ?c4 ?c5 ?_)
  case c3 => rw [HL.out]; unfold maxLen; omega
  case c4 => rw [HL.out]; omega
  case c5 => have := hb1.size; omega
  intro v' w2 hown' hgrow _
  have hlt : b < w1.heap.size := by
    rcases Nat.lt_or_ge b w1.heap.size with h' | h'
    · exact h'
    · simp [Array.getElem?_eq_none h'] at hbk
  have hb2 : w2.heap[b]? = some (.cells #[.pointer (some ⟨b, 0, none⟩), v] 99 (0, 0)) := by
    rw [hgrow.block b hlt (fun e => hne e.symm)]
    exact hbk
  have d0 : w2.cell? ⟨b, 0, none⟩ = some (.pointer (some ⟨b, 0, none⟩)) := by rw [Lib.cell_of_heap hb2]; rfl
  have d1 : w2.cell? ⟨b, 1, none⟩ = some v := by rw [Lib.cell_of_heap hb2]; rfl
  have f1 : w2.frozen? ⟨b, 1, none⟩ = false := Lib.frozen_of_heap hb2 1
  obtain ⟨ao, n', cap, rfl⟩ : ∃ ao n' cap, v' = .slice ao n' cap := by
    rcases hown'.2 with ⟨hv, _⟩ | ⟨g, cap, cur, hv, _⟩
    · exact ⟨_, _, _, hv⟩
    · exact ⟨_, _, _, hv⟩
  go_wp2
  go_ret2
  refine ⟨rfl, Or.inr ?_, ?_, ?_⟩
  · rw [byteCells_app, ← strCells_eq]
    exact Lib.BuilderAt.put (T := 99) (e := 5) hB hb2 (bs' := Lib.byteCells l ++ Lib.strCells s) (by simpa [Lib.strCells_length] using hown') (by decide)
  · exact (hb1.grown hgrow (by have := hb1.size; omega) (fun k hk => (hown.lt k hk).1)).setCell (p := ⟨b, 1, none⟩) hB _
  · exact HKT.out.trans ((KeepT.grown hgrow hown).trans (KeepT.set hb2 1 _))
end Go.Proofs.YtkhjpobhdpcglaaDoor.X
end
section
namespace Go.Proofs.YtkhjpobhdpcglaaDoor.X
open Go.RowKit Go.Proofs.YtkhjpobhdpcglaaDoorW.PrintWords Go.Proofs.YtkhjpobhdpcglaaDoorW.PrintLast Go.Proofs.YtkhjpobhdpcglaaDoorW.PrintMore
set_option linter.unusedVariables false
set_option linter.unusedSimpArgs false

/-- a byte as it stands in a document -/
def escU (c : UInt8) : List UInt8 :=
  if c == 38 then [38, 97, 109, 112, 59] else if c == 60 then [38, 108, 116, 59] else if c == 62 then [38, 103, 116, 59] else if c == 34 then [38, 113, 117, 111, 116, 59] else if c == 13 then [38, 35, 49, 51, 59] else [c]
def escL (l : List UInt8) : List UInt8 := l.flatMap escU
theorem escU_len (c : UInt8) : (escU c).length ≤ 6 := by
  unfold escU
  repeat' split
  all_goals simp
theorem escL_snoc (l : List UInt8) (c : UInt8) : escL (l ++ [c]) = escL l ++ escU c := by simp [escL]
theorem escL_len (l : List UInt8) : (escL l).length ≤ 6 * l.length := by
  induction l with
  | nil => simp [escL]
  | cons b l ih => have := escU_len b; simp only [escL, List.flatMap_cons, List.length_append, List.length_cons] at ih ⊢; omega
theorem take_snoc (s : ByteArray) (k : Nat) (h : k < s.size) : s.data.toList.take (k + 1) = s.data.toList.take k ++ [s[k]] := by
  rw [List.take_succ_eq_append_getElem (by simpa using h)]; rfl
theorem esc_step (s : ByteArray) (i : Nat) (h : i < s.size) {l' : List UInt8} (hl : escU s[i] = l') : escL (s.data.toList.take i) ++ l' = escL (s.data.toList.take (i + 1)) := by
  rw [take_snoc s i h, escL_snoc, hl]
theorem u8_yes {c : UInt8} {n : Nat} (hn : n < 256) (h : ((c.toNat : Int) == (n : Int)) = true) : c = n.toUInt8 := by
  have h1 : c.toNat = n := by have := eq_of_beq h; omega
  rw [← h1]; simp [Nat.toUInt8]
theorem u8_no {c : UInt8} {n : Nat} (hn : n < 256) (h : ((c.toNat : Int) == (n : Int)) = false) : (c == n.toUInt8) = false := by
  rw [beq_eq_false_iff_ne] at h ⊢
  rintro rfl
  exact h (by simp [Nat.toUInt8]; omega)
theorem escU_other {c : UInt8} (h1 : (c == (38 : Nat).toUInt8) = false) (h2 : (c == (60 : Nat).toUInt8) = false) (h3 : (c == (62 : Nat).toUInt8) = false) (h4 : (c == (34 : Nat).toUInt8) = false) (h5 : (c == (13 : Nat).toUInt8) = false) : escU c = [c] := by
  unfold escU
  rw [if_neg (by rw [show (38 : UInt8) = (38 : Nat).toUInt8 from rfl, h1]; decide), if_neg (by rw [show (60 : UInt8) = (60 : Nat).toUInt8 from rfl, h2]; decide), if_neg (by rw [show (62 : UInt8) = (62 : Nat).toUInt8 from rfl, h3]; decide), if_neg (by rw [show (34 : UInt8) = (34 : Nat).toUInt8 from rfl, h4]; decide), if_neg (by rw [show (13 : UInt8) = (13 : Nat).toUInt8 from rfl, h5]; decide)]
theorem Bld.cast {B b : Nat} {l m : List UInt8} {w : World} (h : l = m) (hb : Bld B b l w) : Bld B b m w := h ▸ hb
theorem wlen {l : List UInt8} {s : ByteArray} (h1 : l.length ≤ 6597069766656) (h2 : s.size ≤ 6) : l.length + s.size ≤ 140737488355328 := by omega
def xml_Escape.f (a0 : ByteArray) : Option ByteArray := if a0.size ≤ 1099511627776 then some ⟨(escL a0.data.toList).toArray⟩ else none

set_option maxHeartbeats 4000000 in
set_option maxRecDepth 1000000 in
theorem xml_Escape.calls (a0 : ByteArray) (r : ByteArray) (w : World) (h : xml_Escape.f a0 = some r) :
    Calls Tryd.prog 25 #[.string a0] w fun e w' => e = .returned (.string r) ∧ Below w.heap.size w w' := by
  unfold xml_Escape.f at h
  split at h
  case isFalse => cases h
  rename_i hs
  have hv := Option.some.inj h
  have H := Aside0.mk hv
  clear h hv
  go_enter Tryd.func25, Tryd.ntmps25
  go_wp2
  go_loopw [7] (fun v wr => ∃ (i : Nat), v = .int .i64 i ∧ i ≤ a0.size ∧ Aside0 (Bld w.heap.size w.heap.size (escL (a0.data.toList.take i)) wr) ∧ Below w.heap.size w wr) (fun v _ => a0.size - (intOf v).toNat)
  case atStart => exact ⟨0, rfl, by omega, ⟨by simpa [escL] using Bld.fresh w⟩, below_alloc (Below.refl _ _) _⟩
  case round =>
    obtain ⟨i, rfl, hi, HB, hbel⟩ := hrel
    have hsz := hbel.size
    have HN : Aside0 ((escL (a0.data.toList.take i)).length ≤ 6597069766656) := ⟨by
      have h1 := escL_len (a0.data.toList.take i)
      have h2 : (a0.data.toList.take i).length ≤ i := List.length_take_le _ _
      omega⟩
    by_cases hlt : i < a0.size
    · go_wp2_with (first | (go_at_call 56; (with_reducible refine (Builder_WriteString w.heap.size w.heap.size (escL (a0.data.toList.take i)) _ _ (by exact HB.out) (wlen HN.out (by decide)) (by exact hsz)).mono ?_); rintro e w2 ⟨rfl, hB2, hb2⟩) | (go_at_call 65; (with_reducible refine (Builder_WriteByte w.heap.size w.heap.size (escL (a0.data.toList.take i)) _ _ (by exact HB.out) (by have := a0[i].toNat_lt; omega) (by have := HN.out; omega) (by exact hsz)).mono ?_); rintro e w2 ⟨rfl, hB2, hb2⟩))
      all_goals
        go_roundw
        case rel =>
          refine ⟨i + 1, by go_num, by omega, ⟨?_⟩, hbel.trans hb2⟩
          first
          | (have hc : a0[i] = 38 := u8_yes (n := 38) (by decide) (by assumption)
             exact Bld.cast (esc_step a0 i hlt (l' := [38, 97, 109, 112, 59]) (by rw [hc]; rfl)) hB2)
          | (have hc : a0[i] = 60 := u8_yes (n := 60) (by decide) (by assumption)
             exact Bld.cast (esc_step a0 i hlt (l' := [38, 108, 116, 59]) (by rw [hc]; rfl)) hB2)
          | (have hc : a0[i] = 62 := u8_yes (n := 62) (by decide) (by assumption)
             exact Bld.cast (esc_step a0 i hlt (l' := [38, 103, 116, 59]) (by rw [hc]; rfl)) hB2)
          | (have hc : a0[i] = 34 := u8_yes (n := 34) (by decide) (by assumption)
             exact Bld.cast (esc_step a0 i hlt (l' := [38, 113, 117, 111, 116, 59]) (by rw [hc]; rfl)) hB2)
          | (have hc : a0[i] = 13 := u8_yes (n := 13) (by decide) (by assumption)
             exact Bld.cast (esc_step a0 i hlt (l' := [38, 35, 49, 51, 59]) (by rw [hc]; rfl)) hB2)
          | (have h1 := u8_no (c := a0[i]) (n := 38) (by decide) (by assumption)
             have h2 := u8_no (c := a0[i]) (n := 60) (by decide) (by assumption)
             have h3 := u8_no (c := a0[i]) (n := 62) (by decide) (by assumption)
             have h4 := u8_no (c := a0[i]) (n := 34) (by decide) (by assumption)
             have h5 := u8_no (c := a0[i]) (n := 13) (by decide) (by assumption)
             have hself : ((a0[i].toNat : Int)).toNat.toUInt8 = a0[i] := by simp [Nat.toUInt8]
             exact Bld.cast (esc_step a0 i hlt (l' := [((a0[i].toNat : Int)).toNat.toUInt8]) (by rw [hself]; exact escU_other h1 h2 h3 h4 h5)) hB2)
        case measure => simp [intOf]; omega
    · have H2 := H.out
      have HT : Aside0 (a0.data.toList.take i = a0.data.toList) := ⟨List.take_of_length_le (by simp; omega)⟩
      rw [HT.out] at HB
      go_wp2_with (go_at_call 57; (with_reducible refine (Builder_String w.heap.size w.heap.size (escL a0.data.toList) _ (by exact HB.out) (by exact hsz)).mono ?_); rintro e w2 ⟨rfl, hb2⟩)
      go_ret
      exact ⟨by rw [← H.out]; rfl, hbel.trans hb2⟩
end Go.Proofs.YtkhjpobhdpcglaaDoor.X
end
section
namespace Go.Proofs.YtkhjpobhdpcglaaDoor.X
open Go.RowKit Go.Proofs.YtkhjpobhdpcglaaDoorW.PrintWords Go.Proofs.YtkhjpobhdpcglaaDoorW.PrintLast Go.Proofs.YtkhjpobhdpcglaaDoorW.PrintMore
set_option linter.unusedVariables false
set_option linter.unusedSimpArgs false

def catO (f : S36 → Option (List UInt8)) : List S36 → Option (List UInt8)
  | [] => some []
  | m :: r => (f m).bind fun a => (catO f r).map fun b => a ++ b
/-- an element printed: so many may lie within each other -/
def printV : Nat → S36 → List UInt8 → Option (List UInt8)
  | 0, _, _ => none
  | k + 1, n, more => (catO (fun m => printV k m []) n.f2).map fun m => ([60] ++ n.f0.data.toList ++ more ++ [62] ++ escL n.f1.data.toList) ++ m ++ ([60, 47] ++ n.f0.data.toList ++ [62])
theorem below_weak2 {B : Nat} {w w1 w2 : World} (h : Below w.heap.size w w1) (hB : B ≤ w.heap.size) (k : Below B w1 w2) : Below B w w2 := (h.mono hB).trans k
theorem Bld.below2 {B b : Nat} {l : List UInt8} {w w' : World} (h : Bld B b l w) (hb : Below w.heap.size w w') : Bld B b l w' := h.below hb
theorem head_list (a m e : ByteArray) (l : List UInt8) : l ++ (((((⟨#[60]⟩ : ByteArray) ++ a) ++ m) ++ ⟨#[62]⟩) ++ e).data.toList = l ++ ([60] ++ a.data.toList ++ m.data.toList ++ [62] ++ e.data.toList) := by simp
theorem head_size (a m e : ByteArray) : (((((⟨#[60]⟩ : ByteArray) ++ a) ++ m) ++ ⟨#[62]⟩) ++ e).size = 1 + a.size + m.size + 1 + e.size := by
  simp only [ByteArray.size_append]
  rfl
theorem tail_size (a : ByteArray) : ((⟨#[60, 47]⟩ : ByteArray) ++ a ++ ⟨#[62]⟩).size = 2 + a.size + 1 := by
  simp only [ByteArray.size_append]
  rfl
theorem tail_list (a : ByteArray) (l : List UInt8) : l ++ ((⟨#[60, 47]⟩ : ByteArray) ++ a ++ ⟨#[62]⟩).data.toList = l ++ ([60, 47] ++ a.data.toList ++ [62]) := by simp
def PrFr (b gb : Nat) (a' : Act) : Prop := ∃ u : Nat → Value, a' = { tmps := #[.pointer (some ⟨b, 0, none⟩), u 1, u 2, u 3, .pointer (some ⟨gb, 0, none⟩), u 5, u 6, u 7, u 8, u 9, u 10, u 11, u 12, u 13, u 14, u 15, u 16, u 17, u 18, u 19, u 20, u 21, u 22, u 23, u 24, u 25, u 26, u 27, u 28, u 29, u 30, u 31, u 32, u 33, u 34, u 35, u 36], defers := [] }
theorem PrFr.mk {b gb : Nat} {u1 u2 u3 u5 u6 u7 u8 u9 u10 u11 u12 u13 u14 u15 u16 u17 u18 u19 u20 u21 u22 u23 u24 u25 u26 u27 u28 u29 u30 u31 u32 u33 u34 u35 u36 : Value} : PrFr b gb { tmps := #[.pointer (some ⟨b, 0, none⟩), u1, u2, u3, .pointer (some ⟨gb, 0, none⟩), u5, u6, u7, u8, u9, u10, u11, u12, u13, u14, u15, u16, u17, u18, u19, u20, u21, u22, u23, u24, u25, u26, u27, u28, u29, u30, u31, u32, u33, u34, u35, u36], defers := [] } := ⟨fun k => ([undef, u1, u2, u3, undef, u5, u6, u7, u8, u9, u10, u11, u12, u13, u14, u15, u16, u17, u18, u19, u20, u21, u22, u23, u24, u25, u26, u27, u28, u29, u30, u31, u32, u33, u34, u35, u36] : List Value).getD k undef, rfl⟩

set_option maxHeartbeats 4000000 in
set_option maxRecDepth 1000000 in
theorem print_r1 {Q : Exit → Act → World → Prop} {w : World} {B b gb c : Nat} {l : List UInt8} {more : ByteArray} {A : Option Addr} {n : S36} {u1 u3 u5 u6 u7 u8 u9 u10 u11 u12 u13 u14 u15 u16 u17 u18 u19 u20 u21 u22 u23 u24 u25 u26 u27 u28 u29 u30 u31 u32 u33 u34 u35 u36 : Value} (hp : ∀ c (N : Option Tmp) v a w, Q (.panic c) (a.put N v) w → Q (.panic c) a w)
    (hbox : w.drew.heap[gb]? = some (.cells #[.string n.f0, .string n.f1, .slice A n.f2.length c] 36 (0, 0))) (hbl : Bld B b l w.drew) (hBw : B ≤ w.drew.heap.size) (hf1 : n.f1.size ≤ 1099511627776) (hlen : l.length + (1 + n.f0.size + more.size + 1 + (escL n.f1.data.toList).length) ≤ 140737488355328)
    (hQ : ∀ a' w', PrFr b gb a' → Bld B b (l ++ ([60] ++ n.f0.data.toList ++ more.data.toList ++ [62] ++ escL n.f1.data.toList)) w' → Below B w w' → KeepT w w' → Q .normal a' w') :
    (codeIn Tryd.f67 [1, 0]).wp Tryd.prog Q { tmps := #[.pointer (some ⟨b, 0, none⟩), u1, .string more, u3, .pointer (some ⟨gb, 0, none⟩), u5, u6, u7, u8, u9, u10, u11, u12, u13, u14, u15, u16, u17, u18, u19, u20, u21, u22, u23, u24, u25, u26, u27, u28, u29, u30, u31, u32, u33, u34, u35, u36], defers := [] } w := by
  have c1 : 1 + n.f0.size ≤ 9223372036854775807 := by omega
  have c2 : 1 + n.f0.size + more.size ≤ 9223372036854775807 := by omega
  have c3 : 1 + n.f0.size + more.size + 1 ≤ 9223372036854775807 := by omega
  have c4 : 1 + n.f0.size + more.size + 1 + (escL n.f1.data.toList).length ≤ 9223372036854775807 := by omega
  simp only [codeIn, Tryd.f67, Option.getD_some, codeAt]
  refine start_ (n := 12) (S := fun W => W.heap[gb]? = some (.cells #[.string n.f0, .string n.f1, .slice A n.f2.length c] 36 (0, 0))) (ds := [11]) #[false, false, false, false, false, false, false, false, false, false, false, false] (by kernel_rfl) rfl rfl hbox (fun hHeld => ?_)
  refine pure_ (i := 0) (N := (some 8)) (v := ?_) (a' := ?_) #[true, false, false, false, false, false, false, false, false, false, false, false] rfl rfl (by kernel_rfl) (fun c_ _ w_ h_ => hp c_ _ _ _ w_ h_) (Or.inl ⟨by kernel_rfl, ?_⟩) ?_ ?_
  rotate_left
  · intro w_
    go_simp
    with_reducible rfl
  rotate_left
  · simp only [Act.put, List.setIfInBounds_toArray, List.set_cons_zero, List.set_cons_succ]
    rfl
  refine pure_ (i := 1) (N := (some 9)) (v := ?_) (a' := ?_) #[true, true, false, false, false, false, false, false, false, false, false, false] rfl rfl (by kernel_rfl) (fun c_ _ w_ h_ => hp c_ _ _ _ w_ h_) (Or.inl ⟨by kernel_rfl, ?_⟩) ?_ ?_
  rotate_left
  · intro w_
    go_simp
    with_reducible rfl
  rotate_left
  · simp only [Act.put, List.setIfInBounds_toArray, List.set_cons_zero, List.set_cons_succ]
    rfl
  refine take_ (i := 2) (N := some 10) (v := ?_) (a' := ?_) #[true, true, true, false, false, false, false, false, false, false, false, false] rfl rfl (by kernel_rfl) (fun c_ _ w_ h_ => hp c_ _ _ _ w_ h_) (Or.inl ⟨by kernel_rfl, ?_⟩) hHeld ?_ ?_
  rotate_left
  · rintro w_ sA
    have s0 := blk_cell sA 0
    go_simp
    with_reducible rfl
  rotate_left
  · simp only [Act.put, List.setIfInBounds_toArray, List.set_cons_zero, List.set_cons_succ]
    rfl
  refine pure_ (i := 3) (N := some 11) (v := .string ((⟨#[60]⟩ : ByteArray) ++ n.f0)) (a' := ?_) #[true, true, true, true, false, false, false, false, false, false, false, false] rfl rfl (by kernel_rfl) (fun c_ _ w_ h_ => hp c_ _ _ _ w_ h_) (Or.inl ⟨by kernel_rfl, ?_⟩) ?_ ?_
  · intro w_
    go_simp
    first | done | rw [if_neg (by omega)]
  rotate_left
  · simp only [Act.put, List.setIfInBounds_toArray, List.set_cons_zero, List.set_cons_succ]
    rfl
  refine pure_ (i := 4) (N := (some 12)) (v := ?_) (a' := ?_) #[true, true, true, true, true, false, false, false, false, false, false, false] rfl rfl (by kernel_rfl) (fun c_ _ w_ h_ => hp c_ _ _ _ w_ h_) (Or.inl ⟨by kernel_rfl, ?_⟩) ?_ ?_
  rotate_left
  · intro w_
    go_simp
    with_reducible rfl
  rotate_left
  · simp only [Act.put, List.setIfInBounds_toArray, List.set_cons_zero, List.set_cons_succ]
    rfl
  refine pure_ (i := 5) (N := some 13) (v := .string (((⟨#[60]⟩ : ByteArray) ++ n.f0) ++ more)) (a' := ?_) #[true, true, true, true, true, true, false, false, false, false, false, false] rfl rfl (by kernel_rfl) (fun c_ _ w_ h_ => hp c_ _ _ _ w_ h_) (Or.inl ⟨by kernel_rfl, ?_⟩) ?_ ?_
  · intro w_
    go_simp
    first | done | rw [if_neg (by omega)]
  rotate_left
  · simp only [Act.put, List.setIfInBounds_toArray, List.set_cons_zero, List.set_cons_succ]
    rfl
  refine pure_ (i := 6) (N := some 14) (v := .string ((((⟨#[60]⟩ : ByteArray) ++ n.f0) ++ more) ++ ⟨#[62]⟩)) (a' := ?_) #[true, true, true, true, true, true, true, false, false, false, false, false] rfl rfl (by kernel_rfl) (fun c_ _ w_ h_ => hp c_ _ _ _ w_ h_) (Or.inl ⟨by kernel_rfl, ?_⟩) ?_ ?_
  · intro w_
    go_simp
    first | done | rw [if_neg (by omega)]
  rotate_left
  · simp only [Act.put, List.setIfInBounds_toArray, List.set_cons_zero, List.set_cons_succ]
    rfl
  refine pure_ (i := 7) (N := (some 15)) (v := ?_) (a' := ?_) #[true, true, true, true, true, true, true, true, false, false, false, false] rfl rfl (by kernel_rfl) (fun c_ _ w_ h_ => hp c_ _ _ _ w_ h_) (Or.inl ⟨by kernel_rfl, ?_⟩) ?_ ?_
  rotate_left
  · intro w_
    go_simp
    with_reducible rfl
  rotate_left
  · simp only [Act.put, List.setIfInBounds_toArray, List.set_cons_zero, List.set_cons_succ]
    rfl
  refine take_ (i := 8) (N := some 16) (v := ?_) (a' := ?_) #[true, true, true, true, true, true, true, true, true, false, false, false] rfl rfl (by kernel_rfl) (fun c_ _ w_ h_ => hp c_ _ _ _ w_ h_) (Or.inl ⟨by kernel_rfl, ?_⟩) hHeld ?_ ?_
  rotate_left
  · rintro w_ sA
    have s0 := blk_cell sA 1
    go_simp
    with_reducible rfl
  rotate_left
  · simp only [Act.put, List.setIfInBounds_toArray, List.set_cons_zero, List.set_cons_succ]
    rfl
  refine one_ (i := 9) (N := some 17) #[true, true, true, true, true, true, true, true, true, true, false, false] rfl rfl (by kernel_rfl) (by decide) (fun K hK => ?_)
  refine goes_ Tryd.func25 (by kernel_rfl) rfl #[.string n.f1] (by kernel_rfl) rfl rfl (by kernel_rfl) ?_
  refine (xml_Escape.calls n.f1 _ _ (by rw [xml_Escape.f, if_pos hf1])).mono ?_
  rintro e w2 ⟨rfl, hb2⟩
  refine ⟨_, rfl, ?_⟩
  refine hK.out _ _ (blk_below hHeld hb2) (fun hHeld2 => ?_)
  clear hK K
  refine norm_ (a' := ?_) ?_ ?_
  rotate_left
  · show Act.put _ (some 17) _ = _
    simp only [Act.put, List.setIfInBounds_toArray, List.set_cons_zero, List.set_cons_succ]
    rfl
  refine pure_ (i := 10) (N := some 18) (v := .string (((((⟨#[60]⟩ : ByteArray) ++ n.f0) ++ more) ++ ⟨#[62]⟩) ++ ⟨(escL n.f1.data.toList).toArray⟩)) (a' := ?_) #[true, true, true, true, true, true, true, true, true, true, true, false] rfl rfl (by kernel_rfl) (fun c_ _ w_ h_ => hp c_ _ _ _ w_ h_) (Or.inl ⟨by kernel_rfl, ?_⟩) ?_ ?_
  · intro w_
    go_simp
    first | done | rw [if_neg (by omega)]
  rotate_left
  · simp only [Act.put, List.setIfInBounds_toArray, List.set_cons_zero, List.set_cons_succ]
    rfl
  refine last_ (i := 11) (N := some 19) #[true, true, true, true, true, true, true, true, true, true, true, true] rfl rfl (by kernel_rfl) (by decide) (fun K hK => ?_)
  refine goes_ Tryd.func56 (by kernel_rfl) rfl #[.pointer (some ⟨b, 0, none⟩), .string (((((⟨#[60]⟩ : ByteArray) ++ n.f0) ++ more) ++ ⟨#[62]⟩) ++ ⟨(escL n.f1.data.toList).toArray⟩)] (by kernel_rfl) rfl rfl (by kernel_rfl) ?_
  refine (Builder_WriteString_T B b l _ w2 (hbl.below2 hb2) ?_ (Nat.le_trans hBw hb2.size)).mono ?_
  · rw [head_size]; have he_ : (⟨(escL n.f1.data.toList).toArray⟩ : ByteArray).size = (escL n.f1.data.toList).length := by simp [ByteArray.size]
    rw [he_]; exact hlen
  rintro e w3 ⟨rfl, hbl3, hb3, hkt3⟩
  refine ⟨_, rfl, ?_⟩
  refine hK.out _ _ ?_
  clear hK K
  refine norm_ (a' := ?_) ?_ ?_
  rotate_left
  · show Act.put _ (some 19) _ = _
    simp only [Act.put, List.setIfInBounds_toArray, List.set_cons_zero, List.set_cons_succ]
    rfl
  refine done_ (by kernel_rfl) ?_
  rw [head_list] at hbl3
  have hb4 := below_weak2 (w := w.drew) hb2 hBw hb3
  exact hQ _ _ PrFr.mk hbl3 ⟨hb4.os, hb4.tape, hb4.output, hb4.size, hb4.block⟩ ((KeepT.below hb2).trans hkt3)

def PrLp (b gb c j : Nat) (A : Option Addr) (n : S36) (a' : Act) : Prop := ∃ u : Nat → Value, a' = { tmps := #[.pointer (some ⟨b, 0, none⟩), u 1, u 2, u 3, .pointer (some ⟨gb, 0, none⟩), u 5, u 6, u 7, u 8, u 9, u 10, u 11, u 12, u 13, u 14, u 15, u 16, u 17, u 18, u 19, u 20, .slice A n.f2.length c, .int .i64 n.f2.length, .int .i64 (j : Nat), u 24, u 25, u 26, u 27, u 28, u 29, u 30, u 31, u 32, u 33, u 34, u 35, u 36], defers := [] }
theorem PrLp.mk {b gb c j : Nat} {A : Option Addr} {n : S36} {x : Int} {u1 u2 u3 u5 u6 u7 u8 u9 u10 u11 u12 u13 u14 u15 u16 u17 u18 u19 u20 u24 u25 u26 u27 u28 u29 u30 u31 u32 u33 u34 u35 u36 : Value} (hx : x = (j : Int)) : PrLp b gb c j A n { tmps := #[.pointer (some ⟨b, 0, none⟩), u1, u2, u3, .pointer (some ⟨gb, 0, none⟩), u5, u6, u7, u8, u9, u10, u11, u12, u13, u14, u15, u16, u17, u18, u19, u20, .slice A n.f2.length c, .int .i64 n.f2.length, .int .i64 x, u24, u25, u26, u27, u28, u29, u30, u31, u32, u33, u34, u35, u36], defers := [] } := ⟨fun k => ([undef, u1, u2, u3, undef, u5, u6, u7, u8, u9, u10, u11, u12, u13, u14, u15, u16, u17, u18, u19, u20, undef, undef, undef, u24, u25, u26, u27, u28, u29, u30, u31, u32, u33, u34, u35, u36] : List Value).getD k undef, by subst hx; rfl⟩
theorem escL_ge (l : List UInt8) : l.length ≤ (escL l).length := by
  induction l with
  | nil => exact Nat.le_refl _
  | cons x l ih =>
    have h1 : escL (x :: l) = escU x ++ escL l := by simp [escL]
    have h2 : 1 ≤ (escU x).length := by
      unfold escU
      repeat' split
      all_goals simp
    rw [h1, List.length_append, List.length_cons]
    omega
theorem catO_len {f : S36 → Option (List UInt8)} (hf : ∀ m a, f m = some a → 1 ≤ a.length) : ∀ {l : List S36} {r : List UInt8}, catO f l = some r → l.length ≤ r.length
  | [], r, h => Nat.zero_le _
  | m :: l, r, h => by
    simp only [catO] at h
    obtain ⟨a, ha, h2⟩ := Option.bind_eq_some_iff.1 h
    obtain ⟨b, hb, rfl⟩ := Option.map_eq_some_iff.1 h2
    have h3 := hf m a ha
    have h4 := catO_len hf hb
    rw [List.length_append, List.length_cons]
    omega
theorem printV_len : ∀ {k : Nat} {n : S36} {more r : List UInt8}, printV k n more = some r → 1 ≤ r.length
  | 0, n, more, r, h => by cases h
  | k + 1, n, more, r, h => by
    unfold printV at h
    obtain ⟨m, hm, rfl⟩ := Option.map_eq_some_iff.1 h
    simp only [List.length_append, List.length_cons, List.length_nil]
    omega
theorem catO_split {f : S36 → Option (List UInt8)} : ∀ {l : List S36} {j : Nat} {r : List UInt8}, catO f (l.drop j) = some r → j < l.length → ∃ a b, f (l.getD j z36) = some a ∧ catO f (l.drop (j + 1)) = some b ∧ r = a ++ b
  | [], j, r, h, hj => by simp at hj
  | m :: l, 0, r, h, hj => by
    simp only [List.drop_zero, catO] at h
    obtain ⟨a, ha, h2⟩ := Option.bind_eq_some_iff.1 h
    obtain ⟨b, hb, rfl⟩ := Option.map_eq_some_iff.1 h2
    exact ⟨a, b, ha, hb, rfl⟩
  | m :: l, j + 1, r, h, hj => by
    have := catO_split (f := f) (l := l) (j := j) (r := r) h (by simpa using hj)
    simpa using this
set_option maxHeartbeats 4000000 in
set_option maxRecDepth 1000000 in
theorem print_calls (k : Nat) : ∀ (B b : Nat) (l : List UInt8) (n : S36) (A : Option Addr) (c : Nat) (more : ByteArray) (w0 w : World) (r : List UInt8) (hw0 : Below w0.heap.size w0 w) (hB : w0.heap.size ≤ B) (hBw : B ≤ w.heap.size) (hC : Kd.C k36 w0 A n.f2.length n.f2) (hc : n.f2.length ≤ c) (hbl : Bld B b l w) (hp : printV k n more.data.toList = some r) (hlen : l.length + r.length ≤ 1099511627776),
    Calls Tryd.prog 67 #[.pointer (some ⟨b, 0, none⟩), .agg #[.string n.f0, .string n.f1, .slice A n.f2.length c], .string more] w fun e w' => e = .returned (.tuple #[]) ∧ Bld B b (l ++ r) w' ∧ Below B w w' ∧ KeepT w w' := by
  induction k with
  | zero =>
    intro B b l n A c more w0 w r hw0 hB hBw hC hc hbl hp hlen
    cases hp
  | succ k ih =>
    intro B b l n A c more w0 w r hw0 hB hBw hC hc hbl hp hlen
    unfold printV at hp
    obtain ⟨m, hm, rfl⟩ := Option.map_eq_some_iff.1 hp
    have hesc := escL_ge n.f1.data.toList
    have hsz0 : n.f0.data.toList.length = n.f0.size := by rw [Array.length_toList]; rfl
    have hsz1 : n.f1.data.toList.length = n.f1.size := by rw [Array.length_toList]; rfl
    have hsz2 : more.data.toList.length = more.size := by rw [Array.length_toList]; rfl
    simp only [List.length_append, hsz0, hsz2, List.length_cons, List.length_nil] at hlen
    rw [hsz1] at hesc
    have hln := catO_len (fun m_ a_ ha_ => printV_len ha_) hm
    have hlj : n.f2.length ≤ 1099511627776 := by omega
    have HIH := Aside0.mk ih
    have HC := Aside0.mk hC
    have HBL := Aside0.mk hbl
    have HW0 := Aside0.mk hw0
    have HM := Aside0.mk hm
    have HLEN := Aside0.mk hlen
    have HESC := Aside0.mk hesc
    have HSZ0 := Aside0.mk hsz0
    have HSZ2 := Aside0.mk hsz2
    obtain ⟨gb, hgb⟩ : ∃ gb, gb = w.heap.size := ⟨_, rfl⟩
    obtain ⟨w1, hw1⟩ : ∃ w1, w1 = w.alloc (.cells #[.string n.f0, .string n.f1, .slice A n.f2.length c] 36) := ⟨_, rfl⟩
    have hb1 : Below w.heap.size w w1 := by rw [hw1]; exact below_alloc (Below.refl _ _) _
    have hbox : w1.heap[gb]? = some (.cells #[.string n.f0, .string n.f1, .slice A n.f2.length c] 36 (0, 0)) := by rw [hw1, hgb]; exact heap_alloc_new w _
    have HBOX := Aside0.mk hbox
    have HB1 := Aside0.mk hb1
    have HW1 := Aside0.mk hw1
    have HGB := Aside0.mk hgb
    clear hsz0 hsz1 hsz2 hp hm hln ih hC hbl hw0 hlen hesc hbox hb1 hw1 hgb
    go_enter Tryd.func67, Tryd.ntmps67
    go_wp2_with fail
    rw [← HW1.out, ← HGB.out]
    refine print_r1 (fun c_ N_ _ _ w_ h_ => by cases N_ <;> exact h_) (n := n) (A := A) (c := c) (B := B) (l := l) HBOX.out ((HBL.out.below2 HB1.out).drewN 1) (Nat.le_trans hBw HB1.out.size) (by have := HLEN.out; have := HESC.out; omega) (by have := HLEN.out; omega) ?_
    intro a2 w2 hF2 hbl2 hb2 hkt2
    obtain ⟨u, rfl⟩ := hF2
    have hbox2 := hkt2.2 _ _ _ (by decide) (by decide) HBOX.out
    have HBOX2 := Aside0.mk hbox2
    have HBL2 := Aside0.mk hbl2
    have HB2 : Aside0 (Below B w w2) := ⟨(HB1.out.mono hBw).trans hb2⟩
    have HKT2 : Aside0 (KeepT w w2) := ⟨(KeepT.below HB1.out).trans hkt2⟩
    have s2 := blk_cell hbox2 2
    clear hbox2 hbl2 hb2 hkt2 HBL HBOX HB1 HW1 HGB
    go_wp2_with fail
    rename_i Kl hKl
    -- behind the loop
    have hend : ∀ (a3 : Act) (w3 : World), PrLp b gb c n.f2.length A n a3 → w3.heap[gb]? = some (.cells #[.string n.f0, .string n.f1, .slice A n.f2.length c] 36 (0, 0)) → Bld B b (l ++ ([60] ++ n.f0.data.toList ++ more.data.toList ++ [62] ++ escL n.f1.data.toList) ++ m) w3 → Below B w w3 → KeepT w w3 → Kl a3 w3 := by
      intro a3 w3 hF3 hbox3 hbl3 hb3 hkt3
      refine hKl a3 w3 ?_
      clear hKl Kl s2
      obtain ⟨u3, rfl⟩ := hF3
      have s0 := blk_cell hbox3 0
      have d1 : 2 + n.f0.size ≤ 9223372036854775807 := by have := HLEN.out; omega
      have d2 : 2 + n.f0.size + 1 ≤ 9223372036854775807 := by have := HLEN.out; omega
      have HBL3 := Aside0.mk hbl3
      have HB3 := Aside0.mk hb3
      have HKT3 := Aside0.mk hkt3
      clear hbox3 hbl3 hb3 hkt3
      go_wp2_with fail
      refine (Builder_WriteString_T B b _ _ w3 HBL3.out ?_ (Nat.le_trans hBw HB3.out.size)).mono ?_
      · have h1 := HLEN.out
        rw [tail_size]
        simp only [List.length_append, List.length_cons, List.length_nil, HSZ0.out, HSZ2.out]
        omega
      rintro e w4 ⟨rfl, hbl4, hb4, hkt4⟩
      rw [tail_list] at hbl4
      have HBL4 := Aside0.mk hbl4
      have HB4 := Aside0.mk (HB3.out.trans hb4)
      have HKT4 := Aside0.mk (HKT3.out.trans hkt4)
      clear hbl4 hb4 hkt4
      go_wp2_with fail
      go_end0
      exact ⟨rfl, by simpa only [List.append_assoc, List.cons_append, List.nil_append] using HBL4.out, HB4.out, HKT4.out⟩
    have HEND := Aside0.mk hend
    clear hend hKl
    refine wp_loop_ghost_k (fun kq a' wr => ∃ (j : Nat) (p q : List UInt8), j ≤ n.f2.length ∧ n.f2.length - j < kq ∧ PrLp b gb c j A n a' ∧ catO (fun m => printV k m []) (n.f2.drop j) = some q ∧ m = p ++ q ∧ wr.heap[gb]? = some (.cells #[.string n.f0, .string n.f1, .slice A n.f2.length c] 36 (0, 0)) ∧ Bld B b (l ++ ([60] ++ n.f0.data.toList ++ more.data.toList ++ [62] ++ escL n.f1.data.toList) ++ p) wr ∧ Below B w wr ∧ KeepT w wr) (n.f2.length + 1) ?_ ?_
    · exact ⟨0, [], m, Nat.zero_le _, by omega, PrLp.mk rfl, by simpa using HM.out, rfl, HBOX2.out, by simpa using HBL2.out, HB2.out, HKT2.out⟩
    · intro kq a' wr hI J K hJ hK
      obtain ⟨j, p, q, hj, hjk, hFr, hq, hpq, hboxr, hblr, hbr, hktr⟩ := hI
      have HJ := Aside0.mk hJ
      have HKK := Aside0.mk hK
      have HQ := Aside0.mk hq
      have HPQ := Aside0.mk hpq
      have HBOXR := Aside0.mk hboxr
      have HBLR := Aside0.mk hblr
      have HBR := Aside0.mk hbr
      have HKTR := Aside0.mk hktr
      clear hJ hK hq hpq hboxr hblr hbr hktr HBOX2 HBL2 HB2 HKT2 s2
      obtain ⟨u3, rfl⟩ := hFr
      by_cases hlt : j < n.f2.length
      · obtain ⟨ad, A2, c2, hA, hx0, hx1, hx2, hl2, hi2⟩ := at_T36 HC.out (j : Int) (by omega) (by omega)
        obtain ⟨qa, qb, hqa, hqb, hq2⟩ := catO_split HQ.out hlt
        have hw0r : Below w0.heap.size w0 wr := below_weaken HW0.out hB HBR.out
        rw [hA] at HEND HBOXR
        have hx0' := (hw0r.cell (World.block_lt_of_cell? w0 _ hx0)).trans hx0
        have hx1' := (hw0r.cell (World.block_lt_of_cell? w0 _ hx1)).trans hx1
        have hx2' := (hw0r.cell (World.block_lt_of_cell? w0 _ hx2)).trans hx2
        simp only [Int.toNat_natCast] at hx0' hx1' hx2'
        have hrd : rd_T36 n.f2 (j : Int) = n.f2.getD j z36 := rfl
        obtain ⟨nk, hnk⟩ : ∃ nk, nk = n.f2.getD j z36 := ⟨_, rfl⟩
        rw [hrd, ← hnk] at hx0' hx1' hx2' hl2 hi2
        rw [← hnk] at hqa
        have p104 := eq_true (show (0 : Int) ≤ (j : Int) by omega)
        have q104 := eq_true (show (j : Int) < (n.f2.length : Int) by omega)
        have HW0R := Aside0.mk hw0r
        have HQA := Aside0.mk hqa
        have HQB := Aside0.mk hqb
        have HQ2 := Aside0.mk hq2
        have HL2 := Aside0.mk hl2
        have HI2 := Aside0.mk hi2
        have HA := Aside0.mk hA
        subst hA
        clear hx0 hx1 hx2 hrd hnk hw0r hqa hqb hq2 hl2 hi2
        have hbA : Below wr.heap.size wr (wr.alloc (.cells #[.string nk.f0, .string nk.f1, .slice A2 nk.f2.length c2] 36)) := below_alloc (Below.refl _ _) _
        have HBA := Aside0.mk hbA
        obtain ⟨wa, hwa⟩ : ∃ wa, wa = wr.alloc (.cells #[.string nk.f0, .string nk.f1, .slice A2 nk.f2.length c2] 36) := ⟨_, rfl⟩
        rw [← hwa] at HBA
        have HWA := Aside0.mk hwa
        clear hwa hbA
        go_wp2_with fail
        rw [← HWA.out]
        refine (HIH.out B b _ nk A2 c2 ⟨#[]⟩ w0 wa qa (below_then HW0R.out HW0R.out.size HBA.out) hB (Nat.le_trans (Nat.le_trans hBw HBR.out.size) HBA.out.size) HI2.out HL2.out (HBLR.out.below2 HBA.out) HQA.out ?_).mono ?_
        · have h1 := HLEN.out
          have h2 := congrArg List.length HPQ.out
          have h3 := congrArg List.length HQ2.out
          simp only [List.length_append, List.length_cons, List.length_nil, HSZ0.out, HSZ2.out] at h2 h3 ⊢
          omega
        rintro e w5 ⟨rfl, hbl5, hb5, hkt5⟩
        have HBL5 := Aside0.mk hbl5
        have HB5 : Aside0 (Below B w w5) := ⟨HBR.out.trans ((HBA.out.mono (Nat.le_trans hBw HBR.out.size)).trans hb5)⟩
        have HKT5 : Aside0 (KeepT w w5) := ⟨HKTR.out.trans ((KeepT.below HBA.out).trans hkt5)⟩
        have HBOX5 := Aside0.mk (hkt5.2 _ _ _ (by decide) (by decide) (blk_below HBOXR.out HBA.out))
        clear hbl5 hb5 hkt5
        go_wp2_with fail
        refine HKK.out _ _ ⟨n.f2.length - j, by omega, HJ.out _ _ _ ⟨j + 1, p ++ qa, qb, by omega, by omega, PrLp.mk (by first | omega | (unfold wrap64; omega)), HQB.out, by rw [HPQ.out, HQ2.out, List.append_assoc], HBOX5.out, by simpa only [List.append_assoc, List.cons_append, List.nil_append] using HBL5.out, HB5.out, HKT5.out⟩⟩
      · obtain rfl : j = n.f2.length := by omega
        have hlt2 : ¬ ((n.f2.length : Int) < (n.f2.length : Int)) := by omega
        have hq0 := HQ.out
        rw [List.drop_length] at hq0
        obtain rfl : [] = q := by injection hq0
        have hm0 : m = p := by have := HPQ.out; simpa using this
        subst hm0
        clear hlt hlt2 hq0 hjk
        go_wp2_with fail
        exact HEND.out _ _ (PrLp.mk rfl) HBOXR.out HBLR.out HBR.out HKTR.out
end Go.Proofs.YtkhjpobhdpcglaaDoor.X
end
section
namespace Go.Proofs.YtkhjpobhdpcglaaDoor.X
open Go.RowKit Go.Proofs.YtkhjpobhdpcglaaDoorW.PrintWords Go.Proofs.YtkhjpobhdpcglaaDoorW.PrintLast Go.Proofs.YtkhjpobhdpcglaaDoorW.PrintMore
attribute [local go_sem] max2_int min2_int max_two min_two max_three min_three max_four min_four
set_option linter.unusedVariables false
set_option linter.unusedSimpArgs false

/-! ### xml_may: function 66 -/
mutual
def xml_may.j0 : Nat → Int → Bool → ByteArray → ByteArray → List (S36) → Option (Bool)
  | 0, _, _, _, _, _ => none
  | k + 1, x1, x31, x102000, x102001, x102002 => if x31 = true then (some false) else (xml_may.l0 k x1 x102002 (x102002.length : Int) 0)
def xml_may.l0 : Nat → Int → List (S36) → Int → Int → Option (Bool)
  | 0, _, _, _, _ => none
  | k + 1, x1, x33, x34, x35 => if x35 < x34 then (if 0 ≤ x35 then (if x35 < (x33.length : Int) then ((xml_may.f k ((rd_T36 x33 x35).f0) ((rd_T36 x33 x35).f1) ((rd_T36 x33 x35).f2) (wrap64 (x1 + 1))).bind fun t106 => (if t106 = true then (xml_may.l0 k x1 x33 x34 (wrap64 (x35 + 1))) else (some false))) else (none)) else (none)) else (some true)
def xml_may.f : Nat → ByteArray → ByteArray → List (S36) → Int → Option (Bool)
  | 0, _, _, _, _ => none
  | k + 1, a0_0, a0_1, l0_2, a1 => if a1 > 16 then (xml_may.j0 k a1 true a0_0 a0_1 l0_2) else ((xml_Name.f a0_0).bind fun t102 => (if t102 = true then ((chars_Legal.f a0_1).bind fun t103 => (if t103 = true then (if a0_1.toList = ([] : List UInt8) then (xml_may.j0 k a1 false a0_0 a0_1 l0_2) else (xml_may.j0 k a1 (decide ((l0_2.length : Int) > 0)) a0_0 a0_1 l0_2)) else (xml_may.j0 k a1 true a0_0 a0_1 l0_2))) else (xml_may.j0 k a1 true a0_0 a0_1 l0_2)))
end
theorem xml_may.mono_l : ∀ k, (∀ y0 y1 y2 y3, LeO (xml_may.f k y0 y1 y2 y3) (xml_may.f (k + 1) y0 y1 y2 y3)) ∧ (∀ y0 y1 y2 y3 y4, LeO (xml_may.j0 k y0 y1 y2 y3 y4) (xml_may.j0 (k + 1) y0 y1 y2 y3 y4)) ∧ (∀ y0 y1 y2 y3, LeO (xml_may.l0 k y0 y1 y2 y3) (xml_may.l0 (k + 1) y0 y1 y2 y3))
  | 0 => ⟨fun _ _ _ _ r h => by simp [xml_may.f] at h, fun _ _ _ _ _ r h => by simp [xml_may.j0] at h, fun _ _ _ _ r h => by simp [xml_may.l0] at h⟩
  | k + 1 => by
    obtain ⟨ih0, ih1, ih2⟩ := xml_may.mono_l k
    refine ⟨?_, ?_, ?_⟩
    · intro y0 y1 y2 y3
      unfold xml_may.f
      repeat' first
      | (with_reducible exact ih0 _ _ _ _)
      | (with_reducible exact ih1 _ _ _ _ _)
      | (with_reducible exact ih2 _ _ _ _)
      | (with_reducible exact LeO.refl _)
      | (with_reducible exact LeO.none _)
      | (with_reducible refine LeO.ite ?_ ?_)
      | (with_reducible refine LeO.bind ?_ (fun _ => ?_))
      | exact ih0 _ _ _ _
      | exact ih1 _ _ _ _ _
      | exact ih2 _ _ _ _
      | exact LeO.none _
      | refine LeO.ite ?_ ?_
      | refine LeO.bind ?_ (fun _ => ?_)
    · intro y0 y1 y2 y3 y4
      unfold xml_may.j0
      repeat' first
      | (with_reducible exact ih0 _ _ _ _)
      | (with_reducible exact ih1 _ _ _ _ _)
      | (with_reducible exact ih2 _ _ _ _)
      | (with_reducible exact LeO.refl _)
      | (with_reducible exact LeO.none _)
      | (with_reducible refine LeO.ite ?_ ?_)
      | (with_reducible refine LeO.bind ?_ (fun _ => ?_))
      | exact ih0 _ _ _ _
      | exact ih1 _ _ _ _ _
      | exact ih2 _ _ _ _
      | exact LeO.none _
      | refine LeO.ite ?_ ?_
      | refine LeO.bind ?_ (fun _ => ?_)
    · intro y0 y1 y2 y3
      unfold xml_may.l0
      repeat' first
      | (with_reducible exact ih0 _ _ _ _)
      | (with_reducible exact ih1 _ _ _ _ _)
      | (with_reducible exact ih2 _ _ _ _)
      | (with_reducible exact LeO.refl _)
      | (with_reducible exact LeO.none _)
      | (with_reducible refine LeO.ite ?_ ?_)
      | (with_reducible refine LeO.bind ?_ (fun _ => ?_))
      | exact ih0 _ _ _ _
      | exact ih1 _ _ _ _ _
      | exact ih2 _ _ _ _
      | exact LeO.none _
      | refine LeO.ite ?_ ?_
      | refine LeO.bind ?_ (fun _ => ?_)
theorem xml_may.mono : ∀ a0 a1 a2 a3 k, LeO (xml_may.f k a0 a1 a2 a3) (xml_may.f (k + 1) a0 a1 a2 a3) := by
  intro a0 a1 a2 a3 k
  obtain ⟨ih0, ih1, ih2⟩ := xml_may.mono_l k
  exact ih0 a0 a1 a2 a3
set_option maxHeartbeats 8000000 in
set_option maxRecDepth 100000 in
theorem xml_may.calls (k : Nat) : ∀ (a0_0 : ByteArray) (a0_1 : ByteArray) (A0_2 : Option Addr) (c0_2 : Nat) (l0_2 : List (S36)) (a1 : Int) (r : Bool) (w : World) (hr0_2 : Kd.C k36 w A0_2 l0_2.length l0_2) (hc0_2 : l0_2.length ≤ c0_2) (h : xml_may.f k a0_0 a0_1 l0_2 a1 = some r),
    Calls Tryd.prog 66 #[.agg #[.string a0_0, .string a0_1, .slice A0_2 l0_2.length c0_2], .int .i64 a1] w fun e w' => e = .returned (.bool r) ∧ Below w.heap.size w w' := by
  induction k using Nat.strongRecOn with
  | _ k ih =>
  intro a0_0 a0_1 A0_2 c0_2 l0_2 a1 r w hr0_2 hc0_2 h
  cases k with
  | zero => exact absurd h (by simp [xml_may.f])
  | succ k =>
  simp only [xml_may.f] at h
  have hu36 := Tryd.underlying36
  have HR0_2 := Aside0.mk hr0_2
  have HC0_2 := Aside0.mk hc0_2
  clear hr0_2 hc0_2
  have HB := Aside0.mk (Below.refl w.heap.size w)
  have H : (if a1 > 16 then (xml_may.j0 k a1 true a0_0 a0_1 l0_2) else ((xml_Name.f a0_0).bind fun t102 => (if t102 = true then ((chars_Legal.f a0_1).bind fun t103 => (if t103 = true then (if a0_1.toList = ([] : List UInt8) then (xml_may.j0 k a1 false a0_0 a0_1 l0_2) else (xml_may.j0 k a1 (decide ((l0_2.length : Int) > 0)) a0_0 a0_1 l0_2)) else (xml_may.j0 k a1 true a0_0 a0_1 l0_2))) else (xml_may.j0 k a1 true a0_0 a0_1 l0_2)))) = some r := h
  clear h
  have HC3 := Aside0.mk H
  clear H
  go_enter Tryd.func66, Tryd.ntmps66
  go_upto_region 1 with (first | ((with_reducible refine gate_dst (N := 2) rfl ?_); (try (refine gate_guard (by rfl) ?_; dsimp only)); refine box_event ?hg (N := 2) ?hd (cs := #[.string a0_0, .string a0_1, .slice A0_2 l0_2.length c0_2]) (t := 36) ?hr ?_; (case hd => rfl); (case hg => rfl); (case hr => first | (go_simp; done) | (go_simp; rfl)); intro gb101 hg w4 hbox hb; have n0_ := Aside0.mk (below_step (by repeat (first | (with_reducible first | exact HB.out | apply below_alloc | apply pw_below_drewN | apply below_drew1) | exact HB.out)) hb); have n1_ := Aside0.mk (hbox); have n2_ := Aside0.mk ((by rw [hg]; exact (below_size (by repeat (first | (with_reducible first | exact HB.out | apply below_alloc | apply pw_below_drewN | apply below_drew1) | exact HB.out))) : w.heap.size ≤ gb101)); have n3_ := Aside0.mk ((by rw [hg]; exact (below_size (by repeat (first | (with_reducible first | exact HB.out | apply below_alloc | apply pw_below_drewN | apply below_drew1) | exact HB.out))) : w.heap.size ≤ gb101)); clear HB; have HB := n0_; have BK101 := n1_; have GW101 := n2_; have GE101 := n3_; clear n0_ n1_ n2_ n3_; clear hb hbox hg))
  (try simp only [Act.put, List.setIfInBounds_toArray, List.set_cons_zero, List.set_cons_succ])
  go_cut [31] (fun v31 wc => ∃ (kq : Nat) (x31_2 : Bool), v31 = .bool x31_2 ∧ Aside0 (xml_may.j0 kq a1 x31_2 a0_0 a0_1 l0_2 = some r) ∧ Aside0 (kq ≤ k) ∧ Aside0 (wc.heap[gb101]? = some (.cells #[.string a0_0, .string a0_1, (.slice A0_2 l0_2.length c0_2)] 36 (0, 0))) ∧ Aside0 (Below w.heap.size w wc))
  case first =>
    have H := HC3.out
    clear HC3
    by_cases c5 : a1 > 16
    · rw [if_pos c5] at H
      have c5b0 : decide (16 < a1) = true := decide_eq_true c5
      clear c5
      (first | rw [c5b0] | (simp only [i64_w, i32_w]; rw [c5b0]) | skip)
      have H' := Aside0.mk H
      clear H
      go_wp2
      go_meet
      case rel => exact ⟨_, (true), (by first | rfl | (simp; done) | (simp [*]; done)), H', ⟨by first | omega | exact Nat.le_refl _⟩, ⟨by (with_reducible repeat (first | refine blk_drewN ?_ _ | refine blk_drew ?_ | refine blk_alloc ?_ _)); exact BK101.out⟩, ⟨by repeat (first | (with_reducible first | exact HB.out | apply below_alloc | apply pw_below_drewN | apply below_drew1 | refine below_set ?_ GE101.out) | exact HB.out)⟩⟩
    · rw [if_neg c5] at H
      have c5b0 : decide (16 < a1) = false := decide_eq_false c5
      clear c5
      (first | rw [c5b0] | (simp only [i64_w, i32_w]; rw [c5b0]) | skip)
      replace H := Option.bind_eq_some_iff.mp H
      obtain ⟨t102, A60, H⟩ := H
      replace H : (if t102 = true then ((chars_Legal.f a0_1).bind fun t103 => (if t103 = true then (if a0_1.toList = ([] : List UInt8) then (xml_may.j0 k a1 false a0_0 a0_1 l0_2) else (xml_may.j0 k a1 (decide ((l0_2.length : Int) > 0)) a0_0 a0_1 l0_2)) else (xml_may.j0 k a1 true a0_0 a0_1 l0_2))) else (xml_may.j0 k a1 true a0_0 a0_1 l0_2)) = some r := H
      have A6 := Aside0.mk A60
      clear A60
      by_cases c7 : t102 = true
      · subst c7
        have H1 : ((chars_Legal.f a0_1).bind fun t103 => (if t103 = true then (if a0_1.toList = ([] : List UInt8) then (xml_may.j0 k a1 false a0_0 a0_1 l0_2) else (xml_may.j0 k a1 (decide ((l0_2.length : Int) > 0)) a0_0 a0_1 l0_2)) else (xml_may.j0 k a1 true a0_0 a0_1 l0_2))) = some r := by rw [if_pos rfl] at H; exact H
        clear H
        have H := H1
        clear H1
        replace H := Option.bind_eq_some_iff.mp H
        obtain ⟨t103, A80, H⟩ := H
        replace H : (if t103 = true then (if a0_1.toList = ([] : List UInt8) then (xml_may.j0 k a1 false a0_0 a0_1 l0_2) else (xml_may.j0 k a1 (decide ((l0_2.length : Int) > 0)) a0_0 a0_1 l0_2)) else (xml_may.j0 k a1 true a0_0 a0_1 l0_2)) = some r := H
        have A8 := Aside0.mk A80
        clear A80
        by_cases c9 : t103 = true
        · subst c9
          have H1 : (if a0_1.toList = ([] : List UInt8) then (xml_may.j0 k a1 false a0_0 a0_1 l0_2) else (xml_may.j0 k a1 (decide ((l0_2.length : Int) > 0)) a0_0 a0_1 l0_2)) = some r := by rw [if_pos rfl] at H; exact H
          clear H
          have H := H1
          clear H1
          by_cases c10 : a0_1.toList = ([] : List UInt8)
          · rw [if_pos c10] at H
            have c10b0 : (a0_1.toList == ([] : List UInt8)) = true := beq_iff_eq.mpr c10
            have c10b1 : (a0_1.toList != ([] : List UInt8)) = false := bne_eq_false_iff_eq.mpr c10
            clear c10
            have H' := Aside0.mk H
            clear H
            have hcz11_0 : w4.cell? ⟨gb101, 0, none⟩ = some (.string a0_0) := (blk_cell BK101.out 0).trans rfl
            have hcz11_1 : w4.cell? ⟨gb101, 1, none⟩ = some (.string a0_1) := (blk_cell BK101.out 1).trans rfl
            have hcz11_2 : w4.cell? ⟨gb101, 2, none⟩ = some (.slice A0_2 l0_2.length c0_2) := (blk_cell BK101.out 2).trans rfl
            have hfz11_0 := blk_frozen BK101.out 0
            have hfz11_1 := blk_frozen BK101.out 1
            have hfz11_2 := blk_frozen BK101.out 2
            go_wp2_with (first | (go_at_call 23; (with_reducible refine (xml_Name.calls a0_0 true _ A6.out).mono ?_); rintro e w' ⟨rfl, ⟨nd, rfl⟩⟩) | (go_at_call 46; (with_reducible refine (chars_Legal.calls a0_1 true _ A8.out).mono ?_); rintro e w12 ⟨rfl, hb⟩; have n0_ := Aside0.mk (blk_below (g := gb101) (o := .cells #[.string a0_0, .string a0_1, .slice A0_2 l0_2.length c0_2] 36 (0, 0)) (by (with_reducible repeat (first | refine blk_drewN ?_ _ | refine blk_drew ?_ | refine blk_alloc ?_ _)); exact BK101.out) hb); have n1_ := Aside0.mk (below_step (by repeat (first | (with_reducible first | exact HB.out | apply below_alloc | apply pw_below_drewN | apply below_drew1 | refine below_set ?_ GE101.out) | exact HB.out)) hb); clear BK101; clear HB; have BK101 := n0_; have HB := n1_; clear n0_ n1_; (try clear hb); (try clear hb2); (try clear hk); (try clear hi); have hcz13_0 : w12.cell? ⟨gb101, 0, none⟩ = some (.string a0_0) := (blk_cell BK101.out 0).trans rfl; have hcz13_1 : w12.cell? ⟨gb101, 1, none⟩ = some (.string a0_1) := (blk_cell BK101.out 1).trans rfl; have hcz13_2 : w12.cell? ⟨gb101, 2, none⟩ = some (.slice A0_2 l0_2.length c0_2) := (blk_cell BK101.out 2).trans rfl; have hfz13_0 := blk_frozen BK101.out 0; have hfz13_1 := blk_frozen BK101.out 1; have hfz13_2 := blk_frozen BK101.out 2))
            go_meet
            case rel => exact ⟨_, (false), (by first | rfl | (simp; done) | (simp [*]; done)), H', ⟨by first | omega | exact Nat.le_refl _⟩, ⟨by (with_reducible repeat (first | refine blk_drewN ?_ _ | refine blk_drew ?_ | refine blk_alloc ?_ _)); exact BK101.out⟩, ⟨by repeat (first | (with_reducible first | exact HB.out | apply below_alloc | apply pw_below_drewN | apply below_drew1 | refine below_set ?_ GE101.out) | exact HB.out)⟩⟩
          · rw [if_neg c10] at H
            have c10b0 : (a0_1.toList == ([] : List UInt8)) = false := beq_eq_false_iff_ne.mpr c10
            have c10b1 : (a0_1.toList != ([] : List UInt8)) = true := bne_iff_ne.mpr c10
            have H' := Aside0.mk H
            clear H
            have hcz14_0 : w4.cell? ⟨gb101, 0, none⟩ = some (.string a0_0) := (blk_cell BK101.out 0).trans rfl
            have hcz14_1 : w4.cell? ⟨gb101, 1, none⟩ = some (.string a0_1) := (blk_cell BK101.out 1).trans rfl
            have hcz14_2 : w4.cell? ⟨gb101, 2, none⟩ = some (.slice A0_2 l0_2.length c0_2) := (blk_cell BK101.out 2).trans rfl
            have hfz14_0 := blk_frozen BK101.out 0
            have hfz14_1 := blk_frozen BK101.out 1
            have hfz14_2 := blk_frozen BK101.out 2
            go_wp2_with (first | (go_at_call 23; (with_reducible refine (xml_Name.calls a0_0 true _ A6.out).mono ?_); rintro e w' ⟨rfl, ⟨nd, rfl⟩⟩) | (go_at_call 46; (with_reducible refine (chars_Legal.calls a0_1 true _ A8.out).mono ?_); rintro e w15 ⟨rfl, hb⟩; have n0_ := Aside0.mk (blk_below (g := gb101) (o := .cells #[.string a0_0, .string a0_1, .slice A0_2 l0_2.length c0_2] 36 (0, 0)) (by (with_reducible repeat (first | refine blk_drewN ?_ _ | refine blk_drew ?_ | refine blk_alloc ?_ _)); exact BK101.out) hb); have n1_ := Aside0.mk (below_step (by repeat (first | (with_reducible first | exact HB.out | apply below_alloc | apply pw_below_drewN | apply below_drew1 | refine below_set ?_ GE101.out) | exact HB.out)) hb); clear BK101; clear HB; have BK101 := n0_; have HB := n1_; clear n0_ n1_; (try clear hb); (try clear hb2); (try clear hk); (try clear hi); have hcz16_0 : w15.cell? ⟨gb101, 0, none⟩ = some (.string a0_0) := (blk_cell BK101.out 0).trans rfl; have hcz16_1 : w15.cell? ⟨gb101, 1, none⟩ = some (.string a0_1) := (blk_cell BK101.out 1).trans rfl; have hcz16_2 : w15.cell? ⟨gb101, 2, none⟩ = some (.slice A0_2 l0_2.length c0_2) := (blk_cell BK101.out 2).trans rfl; have hfz16_0 := blk_frozen BK101.out 0; have hfz16_1 := blk_frozen BK101.out 1; have hfz16_2 := blk_frozen BK101.out 2))
            go_meet
            case rel => exact ⟨_, (decide ((l0_2.length : Int) > 0)), (by first | rfl | (simp; done) | (simp [*]; done)), H', ⟨by first | omega | exact Nat.le_refl _⟩, ⟨by (with_reducible repeat (first | refine blk_drewN ?_ _ | refine blk_drew ?_ | refine blk_alloc ?_ _)); exact BK101.out⟩, ⟨by repeat (first | (with_reducible first | exact HB.out | apply below_alloc | apply pw_below_drewN | apply below_drew1 | refine below_set ?_ GE101.out) | exact HB.out)⟩⟩
        · replace c9 := Bool.eq_false_iff.mpr c9
          subst c9
          have H1 : (xml_may.j0 k a1 true a0_0 a0_1 l0_2) = some r := by rw [if_neg (show ¬ (false = true) by decide)] at H; exact H
          clear H
          have H := H1
          clear H1
          have H' := Aside0.mk H
          clear H
          have hcz17_0 : w4.cell? ⟨gb101, 0, none⟩ = some (.string a0_0) := (blk_cell BK101.out 0).trans rfl
          have hcz17_1 : w4.cell? ⟨gb101, 1, none⟩ = some (.string a0_1) := (blk_cell BK101.out 1).trans rfl
          have hcz17_2 : w4.cell? ⟨gb101, 2, none⟩ = some (.slice A0_2 l0_2.length c0_2) := (blk_cell BK101.out 2).trans rfl
          have hfz17_0 := blk_frozen BK101.out 0
          have hfz17_1 := blk_frozen BK101.out 1
          have hfz17_2 := blk_frozen BK101.out 2
          go_wp2_with (first | (go_at_call 23; (with_reducible refine (xml_Name.calls a0_0 true _ A6.out).mono ?_); rintro e w' ⟨rfl, ⟨nd, rfl⟩⟩) | (go_at_call 46; (with_reducible refine (chars_Legal.calls a0_1 false _ A8.out).mono ?_); rintro e w18 ⟨rfl, hb⟩; have n0_ := Aside0.mk (blk_below (g := gb101) (o := .cells #[.string a0_0, .string a0_1, .slice A0_2 l0_2.length c0_2] 36 (0, 0)) (by (with_reducible repeat (first | refine blk_drewN ?_ _ | refine blk_drew ?_ | refine blk_alloc ?_ _)); exact BK101.out) hb); have n1_ := Aside0.mk (below_step (by repeat (first | (with_reducible first | exact HB.out | apply below_alloc | apply pw_below_drewN | apply below_drew1 | refine below_set ?_ GE101.out) | exact HB.out)) hb); clear BK101; clear HB; have BK101 := n0_; have HB := n1_; clear n0_ n1_; (try clear hb); (try clear hb2); (try clear hk); (try clear hi)))
          go_meet
          case rel => exact ⟨_, (true), (by first | rfl | (simp; done) | (simp [*]; done)), H', ⟨by first | omega | exact Nat.le_refl _⟩, ⟨by (with_reducible repeat (first | refine blk_drewN ?_ _ | refine blk_drew ?_ | refine blk_alloc ?_ _)); exact BK101.out⟩, ⟨by repeat (first | (with_reducible first | exact HB.out | apply below_alloc | apply pw_below_drewN | apply below_drew1 | refine below_set ?_ GE101.out) | exact HB.out)⟩⟩
      · replace c7 := Bool.eq_false_iff.mpr c7
        subst c7
        have H1 : (xml_may.j0 k a1 true a0_0 a0_1 l0_2) = some r := by rw [if_neg (show ¬ (false = true) by decide)] at H; exact H
        clear H
        have H := H1
        clear H1
        have H' := Aside0.mk H
        clear H
        have hcz19_0 : w4.cell? ⟨gb101, 0, none⟩ = some (.string a0_0) := (blk_cell BK101.out 0).trans rfl
        have hcz19_1 : w4.cell? ⟨gb101, 1, none⟩ = some (.string a0_1) := (blk_cell BK101.out 1).trans rfl
        have hcz19_2 : w4.cell? ⟨gb101, 2, none⟩ = some (.slice A0_2 l0_2.length c0_2) := (blk_cell BK101.out 2).trans rfl
        have hfz19_0 := blk_frozen BK101.out 0
        have hfz19_1 := blk_frozen BK101.out 1
        have hfz19_2 := blk_frozen BK101.out 2
        go_wp2_with (first | (go_at_call 23; (with_reducible refine (xml_Name.calls a0_0 false _ A6.out).mono ?_); rintro e w' ⟨rfl, ⟨nd, rfl⟩⟩))
        go_meet
        case rel => exact ⟨_, (true), (by first | rfl | (simp; done) | (simp [*]; done)), H', ⟨by first | omega | exact Nat.le_refl _⟩, ⟨by (with_reducible repeat (first | refine blk_drewN ?_ _ | refine blk_drew ?_ | refine blk_alloc ?_ _)); exact BK101.out⟩, ⟨by repeat (first | (with_reducible first | exact HB.out | apply below_alloc | apply pw_below_drewN | apply below_drew1 | refine below_set ?_ GE101.out) | exact HB.out)⟩⟩
  case rest =>
    clear HC3
    try clear c1
    try clear p2
    try clear c5
    try clear c5b0
    try clear c6
    try clear c7
    try clear c9
    try clear c10
    try clear c10b0
    try clear c10b1
    try clear hcz11_0
    try clear hcz11_1
    try clear hcz11_2
    try clear hcz13_0
    try clear hcz13_1
    try clear hcz13_2
    try clear hcz14_0
    try clear hcz14_1
    try clear hcz14_2
    try clear hcz16_0
    try clear hcz16_1
    try clear hcz16_2
    try clear hcz17_0
    try clear hcz17_1
    try clear hcz17_2
    try clear hcz19_0
    try clear hcz19_1
    try clear hcz19_2
    try clear hfz11_0
    try clear hfz11_1
    try clear hfz11_2
    try clear hfz13_0
    try clear hfz13_1
    try clear hfz13_2
    try clear hfz14_0
    try clear hfz14_1
    try clear hfz14_2
    try clear hfz16_0
    try clear hfz16_1
    try clear hfz16_2
    try clear hfz17_0
    try clear hfz17_1
    try clear hfz17_2
    try clear hfz19_0
    try clear hfz19_1
    try clear hfz19_2
    obtain ⟨kq, x31_2, rfl, HA, HJ2, BK101, HB⟩ := hcut
    cases kq with
    | zero => exact absurd HA.out (by simp [xml_may.j0])
    | succ kj2 =>
      have H := HA.out
      clear HA
      simp only [xml_may.j0] at H
      by_cases c20 : x31_2 = true
      · subst c20
        have H1 : (some false) = some r := by rw [if_pos rfl] at H; exact H
        clear H
        have H := H1
        clear H1
        obtain rfl := Option.some.inj H
        go_wp2
        go_ret
        exact ⟨by first | rfl | (simp [errW_none, errW_some] <;> rfl) | (simp [*, errW_none, errW_some] <;> rfl), by repeat (first | (with_reducible first | exact HB.out | apply below_alloc | apply pw_below_drewN | apply below_drew1 | refine below_set ?_ GE101.out) | exact HB.out)⟩
      · replace c20 := Bool.eq_false_iff.mpr c20
        subst c20
        have H1 : (xml_may.l0 kj2 a1 l0_2 (l0_2.length : Int) 0) = some r := by rw [if_neg (show ¬ (false = true) by decide)] at H; exact H
        clear H
        have H := H1
        clear H1
        have H' := Aside0.mk H
        clear H
        have hcz21_0 : wc.cell? ⟨gb101, 0, none⟩ = some (.string a0_0) := (blk_cell BK101.out 0).trans rfl
        have hcz21_1 : wc.cell? ⟨gb101, 1, none⟩ = some (.string a0_1) := (blk_cell BK101.out 1).trans rfl
        have hcz21_2 : wc.cell? ⟨gb101, 2, none⟩ = some (.slice A0_2 l0_2.length c0_2) := (blk_cell BK101.out 2).trans rfl
        have hfz21_0 := blk_frozen BK101.out 0
        have hfz21_1 := blk_frozen BK101.out 1
        have hfz21_2 := blk_frozen BK101.out 2
        go_wp2
        go_loopg [35] kj2 (fun kq v35 w' => ∃ (x35_2 : Int), v35 = .int .i64 x35_2 ∧ Aside0 (xml_may.l0 kq a1 l0_2 (l0_2.length : Int) x35_2 = some r) ∧ Aside0 (kq ≤ kj2) ∧ Aside0 (w'.heap[gb101]? = some (.cells #[.string a0_0, .string a0_1, (.slice A0_2 l0_2.length c0_2)] 36 (0, 0))) ∧ Aside0 (Below w.heap.size w w'))
        case atStart => exact ⟨(0), (by first | rfl | (simp; done) | (simp [*]; done)), H', ⟨Nat.le_refl _⟩, ⟨by (with_reducible repeat (first | refine blk_drewN ?_ _ | refine blk_drew ?_ | refine blk_alloc ?_ _)); exact BK101.out⟩, ⟨by repeat (first | (with_reducible first | exact HB.out | apply below_alloc | apply pw_below_drewN | apply below_drew1 | refine below_set ?_ GE101.out) | exact HB.out)⟩⟩
        case round =>
          clear H'
          try clear c1
          try clear c2
          try clear p2
          try clear c5
          try clear c5b0
          try clear c6
          try clear c7
          try clear c9
          try clear c10
          try clear c10b0
          try clear c10b1
          try clear c20
          try clear hcz11_0
          try clear hcz11_1
          try clear hcz11_2
          try clear hcz13_0
          try clear hcz13_1
          try clear hcz13_2
          try clear hcz14_0
          try clear hcz14_1
          try clear hcz14_2
          try clear hcz16_0
          try clear hcz16_1
          try clear hcz16_2
          try clear hcz17_0
          try clear hcz17_1
          try clear hcz17_2
          try clear hcz19_0
          try clear hcz19_1
          try clear hcz19_2
          try clear hcz21_0
          try clear hcz21_1
          try clear hcz21_2
          try clear hfz11_0
          try clear hfz11_1
          try clear hfz11_2
          try clear hfz13_0
          try clear hfz13_1
          try clear hfz13_2
          try clear hfz14_0
          try clear hfz14_1
          try clear hfz14_2
          try clear hfz16_0
          try clear hfz16_1
          try clear hfz16_2
          try clear hfz17_0
          try clear hfz17_1
          try clear hfz17_2
          try clear hfz19_0
          try clear hfz19_1
          try clear hfz19_2
          try clear hfz21_0
          try clear hfz21_1
          try clear hfz21_2
          try clear p2
          obtain ⟨x35_2, rfl, HA, HK2, BK101, HB⟩ := hrel
          cases gk with
          | zero => exact absurd HA.out (by simp [xml_may.l0])
          | succ k2 =>
            have H := HA.out
            clear HA
            simp only [xml_may.l0] at H
            by_cases c22 : x35_2 < (l0_2.length : Int)
            · rw [if_pos c22] at H
              have c22b0 : decide (x35_2 < (l0_2.length : Int)) = true := decide_eq_true c22
              clear c22
              by_cases c23 : 0 ≤ x35_2
              · rw [if_pos c23] at H
                have c23b0 : decide (0 ≤ x35_2) = true := decide_eq_true c23
                clear c23
                by_cases c24 : x35_2 < (l0_2.length : Int)
                · rw [if_pos c24] at H
                  have c24b0 : decide (x35_2 < (l0_2.length : Int)) = true := decide_eq_true c24
                  clear c24
                  replace H := Option.bind_eq_some_iff.mp H
                  obtain ⟨t106, A250, H⟩ := H
                  replace H : (if t106 = true then (xml_may.l0 k2 a1 l0_2 (l0_2.length : Int) (wrap64 (x35_2 + 1))) else (some false)) = some r := H
                  have A25 := Aside0.mk A250
                  clear A250
                  by_cases c26 : t106 = true
                  · subst c26
                    have H1 : (xml_may.l0 k2 a1 l0_2 (l0_2.length : Int) (wrap64 (x35_2 + 1))) = some r := by rw [if_pos rfl] at H; exact H
                    clear H
                    have H := H1
                    clear H1
                    have H' := Aside0.mk H
                    clear H
                    have p104 : 0 ≤ (x35_2 : Int) := of_decide_eq_true (by first | (with_reducible assumption) | assumption)
                    have q104 : x35_2 < (l0_2.length : Int) := of_decide_eq_true (by first | (with_reducible assumption) | assumption)
                    obtain ⟨ad104, A104_2, c104_2, e104, hx104_0, hx104_1, hx104_2, hl104_2, hi104_2⟩ := at_T36 HR0_2.out x35_2 p104 q104
                    cases e104
                    replace hx104_0 := (HB.out.cell (World.block_lt_of_cell? w _ hx104_0)).trans hx104_0
                    replace hx104_1 := (HB.out.cell (World.block_lt_of_cell? w _ hx104_1)).trans hx104_1
                    replace hx104_2 := (HB.out.cell (World.block_lt_of_cell? w _ hx104_2)).trans hx104_2
                    have HR104_2 := Aside0.mk hi104_2
                    have HC104_2 := Aside0.mk hl104_2
                    clear hi104_2 hl104_2
                    replace p104 := eq_true p104
                    replace q104 := eq_true q104
                    go_wp2_with (first | ((with_reducible refine gate_dst (N := 6) rfl ?_); (try (refine gate_guard (by rfl) ?_; dsimp only)); refine box_event ?hg (N := 6) ?hd (cs := #[.string (⟨#[]⟩ : ByteArray), .string (⟨#[]⟩ : ByteArray), .slice none 0 0]) (t := 36) ?hr ?_; (case hd => rfl); (case hg => rfl); (case hr => first | (go_simp; done) | (go_simp; rfl)); intro gb105 hg w27 hbox hb; have n0_ := Aside0.mk (blk_below (g := gb101) (o := .cells #[.string a0_0, .string a0_1, .slice (some ad104) l0_2.length c0_2] 36 (0, 0)) (by (with_reducible repeat (first | refine blk_drewN ?_ _ | refine blk_drew ?_ | refine blk_alloc ?_ _)); exact BK101.out) hb); have n1_ := Aside0.mk (below_step (by repeat (first | (with_reducible first | exact HB.out | apply below_alloc | apply pw_below_drewN | apply below_drew1 | refine below_set ?_ GE101.out) | exact HB.out)) hb); have n2_ := Aside0.mk (hbox); have n3_ := Aside0.mk ((by rw [hg]; exact (below_size (by repeat (first | (with_reducible first | exact HB.out | apply below_alloc | apply pw_below_drewN | apply below_drew1 | refine below_set ?_ GE101.out) | exact HB.out))) : w.heap.size ≤ gb105)); have n4_ := Aside0.mk ((by rw [hg]; exact (below_size (by repeat (first | (with_reducible first | exact HB.out | apply below_alloc | apply pw_below_drewN | apply below_drew1 | refine below_set ?_ GE101.out) | exact HB.out))) : w.heap.size ≤ gb105)); have n5_ := Aside0.mk ((by rw [hg]; exact Nat.ne_of_lt (blk_lt (g := gb101) (o := .cells #[.string a0_0, .string a0_1, .slice (some ad104) l0_2.length c0_2] 36 (0, 0)) (by (with_reducible repeat (first | refine blk_drewN ?_ _ | refine blk_drew ?_ | refine blk_alloc ?_ _)); exact BK101.out)) : gb101 ≠ gb105)); have n6_ := Aside0.mk ((by rw [hg]; exact Nat.ne_of_gt (blk_lt (g := gb101) (o := .cells #[.string a0_0, .string a0_1, .slice (some ad104) l0_2.length c0_2] 36 (0, 0)) (by (with_reducible repeat (first | refine blk_drewN ?_ _ | refine blk_drew ?_ | refine blk_alloc ?_ _)); exact BK101.out)) : gb105 ≠ gb101)); clear BK101; clear HB; have BK101 := n0_; have HB := n1_; have BK105 := n2_; have GW105 := n3_; have GE105 := n4_; have NB101_105 := n5_; have NB105_101 := n6_; clear n0_ n1_ n2_ n3_ n4_ n5_ n6_; clear hb hbox hg; have hnb28 := NB105_101.out; have hnc28 := NB101_105.out; have hcz29_0 : w27.cell? ⟨gb105, 0, none⟩ = some (.string (⟨#[]⟩ : ByteArray)) := (blk_cell BK105.out 0).trans rfl; have hcz29_1 : w27.cell? ⟨gb105, 1, none⟩ = some (.string (⟨#[]⟩ : ByteArray)) := (blk_cell BK105.out 1).trans rfl; have hcz29_2 : w27.cell? ⟨gb105, 2, none⟩ = some (.slice none 0 0) := (blk_cell BK105.out 2).trans rfl; have hfz29_0 := blk_frozen BK105.out 0; have hfz29_1 := blk_frozen BK105.out 1; have hfz29_2 := blk_frozen BK105.out 2) | ((with_reducible refine gate_callee (f := 66) rfl ?_); refine goesL_ (some 42) rfl rfl Tryd.func66 (by kernel_rfl) rfl #[.agg #[.string ((rd_T36 l0_2 x35_2).f0), .string ((rd_T36 l0_2 x35_2).f1), .slice A104_2 ((rd_T36 l0_2 x35_2).f2).length c104_2], .int .i64 (wrap64 (a1 + 1))] rfl (by (try simp only [List.map_toArray, List.map_cons, List.map_nil]); first | done | rfl | (simp only [List.length_drop, List.length_take]; rfl)) ?_; (with_reducible refine (ih k2 (by have := HJ2.out; have := HK2.out; omega) ((rd_T36 l0_2 x35_2).f0) ((rd_T36 l0_2 x35_2).f1) _ _ ((rd_T36 l0_2 x35_2).f2) (wrap64 (a1 + 1)) true _ ?side1 ?side2 A25.out).mono ?_); (case side1 => exact Kd.C_below HR104_2.out (by repeat (first | (with_reducible first | exact HB.out | apply below_alloc | apply pw_below_drewN | apply below_drew1 | refine below_set ?_ GE101.out | refine below_set ?_ GE105.out) | exact HB.out))); (case side2 => exact HC104_2.out); rintro e w30 ⟨rfl, hb⟩; refine ⟨_, rfl, ?_⟩; have n0_ := Aside0.mk (blk_below (g := gb101) (o := .cells #[.string a0_0, .string a0_1, .slice (some ad104) l0_2.length c0_2] 36 (0, 0)) (by (with_reducible repeat (first | refine blk_drewN ?_ _ | refine blk_drew ?_ | refine blk_alloc ?_ _)); refine blk_far ?_ NB101_105.out _; (with_reducible repeat (first | refine blk_drewN ?_ _ | refine blk_drew ?_ | refine blk_alloc ?_ _)); refine blk_far ?_ NB101_105.out _; (with_reducible repeat (first | refine blk_drewN ?_ _ | refine blk_drew ?_ | refine blk_alloc ?_ _)); refine blk_far ?_ NB101_105.out _; (with_reducible repeat (first | refine blk_drewN ?_ _ | refine blk_drew ?_ | refine blk_alloc ?_ _)); exact BK101.out) hb); have n1_ := Aside0.mk (blk_below (g := gb105) (o := .cells #[.string ((rd_T36 l0_2 x35_2).f0), .string ((rd_T36 l0_2 x35_2).f1), .slice A104_2 ((rd_T36 l0_2 x35_2).f2).length c104_2] 36 (0, 0)) (by (with_reducible repeat (first | refine blk_drewN ?_ _ | refine blk_drew ?_ | refine blk_alloc ?_ _)); refine blk_put (cs := #[.string ((rd_T36 l0_2 x35_2).f0), .string ((rd_T36 l0_2 x35_2).f1), .slice none 0 0]) ?_ 2 _ rfl; (with_reducible repeat (first | refine blk_drewN ?_ _ | refine blk_drew ?_ | refine blk_alloc ?_ _)); refine blk_put (cs := #[.string ((rd_T36 l0_2 x35_2).f0), .string (⟨#[]⟩ : ByteArray), .slice none 0 0]) ?_ 1 _ rfl; (with_reducible repeat (first | refine blk_drewN ?_ _ | refine blk_drew ?_ | refine blk_alloc ?_ _)); refine blk_put (cs := #[.string (⟨#[]⟩ : ByteArray), .string (⟨#[]⟩ : ByteArray), .slice none 0 0]) ?_ 0 _ rfl; (with_reducible repeat (first | refine blk_drewN ?_ _ | refine blk_drew ?_ | refine blk_alloc ?_ _)); exact BK105.out) hb); have n2_ := Aside0.mk (below_step (by repeat (first | (with_reducible first | exact HB.out | apply below_alloc | apply pw_below_drewN | apply below_drew1 | refine below_set ?_ GE101.out | refine below_set ?_ GE105.out) | exact HB.out)) hb); clear BK101; clear BK105; clear HB; have BK101 := n0_; have BK105 := n1_; have HB := n2_; clear n0_ n1_ n2_; (try clear hb); (try clear hb2); (try clear hk); (try clear hi)))
                    go_roundg k2
                    case measure => have := HJ2.out; have := HK2.out; omega
                    case rel => exact ⟨(wrap64 (x35_2 + 1)), (by first | rfl | (simp; done) | (simp [*]; done)), H', ⟨by have := HJ2.out; have := HK2.out; omega⟩, ⟨by (with_reducible repeat (first | refine blk_drewN ?_ _ | refine blk_drew ?_ | refine blk_alloc ?_ _)); exact BK101.out⟩, ⟨by repeat (first | (with_reducible first | exact HB.out | apply below_alloc | apply pw_below_drewN | apply below_drew1 | refine below_set ?_ GE101.out | refine below_set ?_ GE105.out) | exact HB.out)⟩⟩
                  · replace c26 := Bool.eq_false_iff.mpr c26
                    subst c26
                    have H1 : (some false) = some r := by rw [if_neg (show ¬ (false = true) by decide)] at H; exact H
                    clear H
                    have H := H1
                    clear H1
                    obtain rfl := Option.some.inj H
                    have p104 : 0 ≤ (x35_2 : Int) := of_decide_eq_true (by first | (with_reducible assumption) | assumption)
                    have q104 : x35_2 < (l0_2.length : Int) := of_decide_eq_true (by first | (with_reducible assumption) | assumption)
                    obtain ⟨ad104, A104_2, c104_2, e104, hx104_0, hx104_1, hx104_2, hl104_2, hi104_2⟩ := at_T36 HR0_2.out x35_2 p104 q104
                    cases e104
                    replace hx104_0 := (HB.out.cell (World.block_lt_of_cell? w _ hx104_0)).trans hx104_0
                    replace hx104_1 := (HB.out.cell (World.block_lt_of_cell? w _ hx104_1)).trans hx104_1
                    replace hx104_2 := (HB.out.cell (World.block_lt_of_cell? w _ hx104_2)).trans hx104_2
                    have HR104_2 := Aside0.mk hi104_2
                    have HC104_2 := Aside0.mk hl104_2
                    clear hi104_2 hl104_2
                    replace p104 := eq_true p104
                    replace q104 := eq_true q104
                    go_wp2_with (first | ((with_reducible refine gate_dst (N := 6) rfl ?_); (try (refine gate_guard (by rfl) ?_; dsimp only)); refine box_event ?hg (N := 6) ?hd (cs := #[.string (⟨#[]⟩ : ByteArray), .string (⟨#[]⟩ : ByteArray), .slice none 0 0]) (t := 36) ?hr ?_; (case hd => rfl); (case hg => rfl); (case hr => first | (go_simp; done) | (go_simp; rfl)); intro gb105 hg w31 hbox hb; have n0_ := Aside0.mk (blk_below (g := gb101) (o := .cells #[.string a0_0, .string a0_1, .slice (some ad104) l0_2.length c0_2] 36 (0, 0)) (by (with_reducible repeat (first | refine blk_drewN ?_ _ | refine blk_drew ?_ | refine blk_alloc ?_ _)); exact BK101.out) hb); have n1_ := Aside0.mk (below_step (by repeat (first | (with_reducible first | exact HB.out | apply below_alloc | apply pw_below_drewN | apply below_drew1 | refine below_set ?_ GE101.out) | exact HB.out)) hb); have n2_ := Aside0.mk (hbox); have n3_ := Aside0.mk ((by rw [hg]; exact (below_size (by repeat (first | (with_reducible first | exact HB.out | apply below_alloc | apply pw_below_drewN | apply below_drew1 | refine below_set ?_ GE101.out) | exact HB.out))) : w.heap.size ≤ gb105)); have n4_ := Aside0.mk ((by rw [hg]; exact (below_size (by repeat (first | (with_reducible first | exact HB.out | apply below_alloc | apply pw_below_drewN | apply below_drew1 | refine below_set ?_ GE101.out) | exact HB.out))) : w.heap.size ≤ gb105)); have n5_ := Aside0.mk ((by rw [hg]; exact Nat.ne_of_lt (blk_lt (g := gb101) (o := .cells #[.string a0_0, .string a0_1, .slice (some ad104) l0_2.length c0_2] 36 (0, 0)) (by (with_reducible repeat (first | refine blk_drewN ?_ _ | refine blk_drew ?_ | refine blk_alloc ?_ _)); exact BK101.out)) : gb101 ≠ gb105)); have n6_ := Aside0.mk ((by rw [hg]; exact Nat.ne_of_gt (blk_lt (g := gb101) (o := .cells #[.string a0_0, .string a0_1, .slice (some ad104) l0_2.length c0_2] 36 (0, 0)) (by (with_reducible repeat (first | refine blk_drewN ?_ _ | refine blk_drew ?_ | refine blk_alloc ?_ _)); exact BK101.out)) : gb105 ≠ gb101)); clear BK101; clear HB; have BK101 := n0_; have HB := n1_; have BK105 := n2_; have GW105 := n3_; have GE105 := n4_; have NB101_105 := n5_; have NB105_101 := n6_; clear n0_ n1_ n2_ n3_ n4_ n5_ n6_; clear hb hbox hg; have hnb32 := NB105_101.out; have hnc32 := NB101_105.out; have hcz33_0 : w31.cell? ⟨gb105, 0, none⟩ = some (.string (⟨#[]⟩ : ByteArray)) := (blk_cell BK105.out 0).trans rfl; have hcz33_1 : w31.cell? ⟨gb105, 1, none⟩ = some (.string (⟨#[]⟩ : ByteArray)) := (blk_cell BK105.out 1).trans rfl; have hcz33_2 : w31.cell? ⟨gb105, 2, none⟩ = some (.slice none 0 0) := (blk_cell BK105.out 2).trans rfl; have hfz33_0 := blk_frozen BK105.out 0; have hfz33_1 := blk_frozen BK105.out 1; have hfz33_2 := blk_frozen BK105.out 2) | ((with_reducible refine gate_callee (f := 66) rfl ?_); refine goesL_ (some 42) rfl rfl Tryd.func66 (by kernel_rfl) rfl #[.agg #[.string ((rd_T36 l0_2 x35_2).f0), .string ((rd_T36 l0_2 x35_2).f1), .slice A104_2 ((rd_T36 l0_2 x35_2).f2).length c104_2], .int .i64 (wrap64 (a1 + 1))] rfl (by (try simp only [List.map_toArray, List.map_cons, List.map_nil]); first | done | rfl | (simp only [List.length_drop, List.length_take]; rfl)) ?_; (with_reducible refine (ih k2 (by have := HJ2.out; have := HK2.out; omega) ((rd_T36 l0_2 x35_2).f0) ((rd_T36 l0_2 x35_2).f1) _ _ ((rd_T36 l0_2 x35_2).f2) (wrap64 (a1 + 1)) false _ ?side1 ?side2 A25.out).mono ?_); (case side1 => exact Kd.C_below HR104_2.out (by repeat (first | (with_reducible first | exact HB.out | apply below_alloc | apply pw_below_drewN | apply below_drew1 | refine below_set ?_ GE101.out | refine below_set ?_ GE105.out) | exact HB.out))); (case side2 => exact HC104_2.out); rintro e w34 ⟨rfl, hb⟩; refine ⟨_, rfl, ?_⟩; have n0_ := Aside0.mk (blk_below (g := gb101) (o := .cells #[.string a0_0, .string a0_1, .slice (some ad104) l0_2.length c0_2] 36 (0, 0)) (by (with_reducible repeat (first | refine blk_drewN ?_ _ | refine blk_drew ?_ | refine blk_alloc ?_ _)); refine blk_far ?_ NB101_105.out _; (with_reducible repeat (first | refine blk_drewN ?_ _ | refine blk_drew ?_ | refine blk_alloc ?_ _)); refine blk_far ?_ NB101_105.out _; (with_reducible repeat (first | refine blk_drewN ?_ _ | refine blk_drew ?_ | refine blk_alloc ?_ _)); refine blk_far ?_ NB101_105.out _; (with_reducible repeat (first | refine blk_drewN ?_ _ | refine blk_drew ?_ | refine blk_alloc ?_ _)); exact BK101.out) hb); have n1_ := Aside0.mk (blk_below (g := gb105) (o := .cells #[.string ((rd_T36 l0_2 x35_2).f0), .string ((rd_T36 l0_2 x35_2).f1), .slice A104_2 ((rd_T36 l0_2 x35_2).f2).length c104_2] 36 (0, 0)) (by (with_reducible repeat (first | refine blk_drewN ?_ _ | refine blk_drew ?_ | refine blk_alloc ?_ _)); refine blk_put (cs := #[.string ((rd_T36 l0_2 x35_2).f0), .string ((rd_T36 l0_2 x35_2).f1), .slice none 0 0]) ?_ 2 _ rfl; (with_reducible repeat (first | refine blk_drewN ?_ _ | refine blk_drew ?_ | refine blk_alloc ?_ _)); refine blk_put (cs := #[.string ((rd_T36 l0_2 x35_2).f0), .string (⟨#[]⟩ : ByteArray), .slice none 0 0]) ?_ 1 _ rfl; (with_reducible repeat (first | refine blk_drewN ?_ _ | refine blk_drew ?_ | refine blk_alloc ?_ _)); refine blk_put (cs := #[.string (⟨#[]⟩ : ByteArray), .string (⟨#[]⟩ : ByteArray), .slice none 0 0]) ?_ 0 _ rfl; (with_reducible repeat (first | refine blk_drewN ?_ _ | refine blk_drew ?_ | refine blk_alloc ?_ _)); exact BK105.out) hb); have n2_ := Aside0.mk (below_step (by repeat (first | (with_reducible first | exact HB.out | apply below_alloc | apply pw_below_drewN | apply below_drew1 | refine below_set ?_ GE101.out | refine below_set ?_ GE105.out) | exact HB.out)) hb); clear BK101; clear BK105; clear HB; have BK101 := n0_; have BK105 := n1_; have HB := n2_; clear n0_ n1_ n2_; (try clear hb); (try clear hb2); (try clear hk); (try clear hi)))
                    go_ret
                    exact ⟨by first | rfl | (simp [errW_none, errW_some] <;> rfl) | (simp [*, errW_none, errW_some] <;> rfl), by repeat (first | (with_reducible first | exact HB.out | apply below_alloc | apply pw_below_drewN | apply below_drew1 | refine below_set ?_ GE101.out | refine below_set ?_ GE105.out) | exact HB.out)⟩
                · rw [if_neg c24] at H
                  exact absurd H (by simp)
              · rw [if_neg c23] at H
                exact absurd H (by simp)
            · rw [if_neg c22] at H
              have c22b0 : decide (x35_2 < (l0_2.length : Int)) = false := decide_eq_false c22
              clear c22
              obtain rfl := Option.some.inj H
              go_wp2
              go_ret
              exact ⟨by first | rfl | (simp [errW_none, errW_some] <;> rfl) | (simp [*, errW_none, errW_some] <;> rfl), by repeat (first | (with_reducible first | exact HB.out | apply below_alloc | apply pw_below_drewN | apply below_drew1 | refine below_set ?_ GE101.out) | exact HB.out)⟩

end Go.Proofs.YtkhjpobhdpcglaaDoor.X
end
section
namespace Go.Proofs.YtkhjpobhdpcglaaDoor.X
open Go.RowKit Go.Proofs.YtkhjpobhdpcglaaDoorW.PrintWords Go.Proofs.YtkhjpobhdpcglaaDoorW.PrintLast Go.Proofs.YtkhjpobhdpcglaaDoorW.PrintMore
set_option linter.unusedVariables false
set_option linter.unusedSimpArgs false

/-- may an element be printed that so many may lie within (itself counted)? -/
def mayV : Nat → S36 → Bool
  | 0, _ => false
  | d + 1, n => nameV n.f0 && legalV n.f1 && (decide (n.f1.toList = []) || decide (n.f2.length = 0)) && n.f2.all (mayV d)
/-- texts of bounded length, so deep -/
def fitsD : Nat → S36 → Prop
  | 0, _ => True
  | d + 1, n => n.f0.size ≤ 1099511627776 ∧ n.f1.size ≤ 1099511627776 ∧ n.f2.length ≤ 1099511627776 ∧ ∀ m ∈ n.f2, fitsD d m
theorem may_loop {a1 : Int} {d : Nat} (l : List S36) (hl : l.length ≤ 1099511627776) (h : ∀ m ∈ l, Ev (fun k => xml_may.f k m.f0 m.f1 m.f2 (wrap64 (a1 + 1))) (mayV d m)) :
    ∀ (r j : Nat), r + j = l.length → Ev (fun k => xml_may.l0 k a1 l (l.length : Int) (j : Int)) ((l.drop j).all (mayV d)) := by
  intro r
  induction r with
  | zero =>
    intro j hj
    refine Ev.step (f := fun _ => some true) (fun k => ?_) ?_
    · simp only [xml_may.l0]
      rw [if_neg (by omega)]
    · rw [List.drop_of_length_le (by omega)]
      exact Ev.now _
  | succ r ih =>
    intro j hj
    have hjl : j < l.length := by omega
    have hget : rd_T36 l (j : Int) = l[j] := by
      unfold rd_T36
      simp [hjl]
    have hd : l.drop j = l[j] :: l.drop (j + 1) := List.drop_eq_getElem_cons hjl
    refine Ev.step (f := fun k => (xml_may.f k l[j].f0 l[j].f1 l[j].f2 (wrap64 (a1 + 1))).bind fun t => if t = true then xml_may.l0 k a1 l (l.length : Int) ((j + 1 : Nat) : Int) else some false) (fun k => ?_) ?_
    · simp only [xml_may.l0]
      have hw : wrap64 ((j : Int) + 1) = ((j + 1 : Nat) : Int) := by unfold wrap64; omega
      rw [if_pos (by omega), if_pos (by omega), if_pos (by omega), hget, hw]
    · rw [hd, List.all_cons]
      refine Ev.bind (f := fun k t => if t = true then xml_may.l0 k a1 l (l.length : Int) ((j + 1 : Nat) : Int) else some false) (h _ (List.getElem_mem hjl)) ?_
      cases mayV d l[j] with
      | true => simpa using ih (j + 1) (by omega)
      | false => exact Ev.now _
theorem may_ev : ∀ (d : Nat) (n : S36), d ≤ 17 → fitsD d n → Ev (fun k => xml_may.f k n.f0 n.f1 n.f2 (17 - (d : Int))) (mayV d n)
  | 0, n, _, _ => by
    refine Ev.step (f := fun k => xml_may.j0 k 17 true n.f0 n.f1 n.f2) (fun k => ?_) ?_
    · simp only [xml_may.f]
      rfl
    · refine Ev.step (f := fun _ => some false) (fun k => ?_) (Ev.now _)
      simp only [xml_may.j0]
      rfl
  | d + 1, n, hd, hf => by
    obtain ⟨h0, h1, h2, hk⟩ := hf
    have hw : wrap64 (17 - ((d + 1 : Nat) : Int) + 1) = 17 - (d : Int) := by unfold wrap64; omega
    have hj : ∀ x : Bool, Ev (fun k => xml_may.j0 k (17 - ((d + 1 : Nat) : Int)) x n.f0 n.f1 n.f2) (!x && n.f2.all (mayV d)) := by
      intro x
      cases x with
      | true =>
        refine Ev.step (f := fun _ => some false) (fun k => ?_) (Ev.now _)
        simp only [xml_may.j0]
        rfl
      | false =>
        refine Ev.step (f := fun k => xml_may.l0 k (17 - ((d + 1 : Nat) : Int)) n.f2 (n.f2.length : Int) ((0 : Nat) : Int)) (fun k => ?_) ?_
        · simp only [xml_may.j0]
          rfl
        · have := may_loop (a1 := 17 - ((d + 1 : Nat) : Int)) (d := d) n.f2 h2 (fun m hm => by rw [hw]; exact may_ev d m (by omega) (hk m hm)) n.f2.length 0 (by omega)
          simpa using this
    refine Ev.step (f := fun k => if nameV n.f0 = true then (if legalV n.f1 = true then (if n.f1.toList = ([] : List UInt8) then xml_may.j0 k (17 - ((d + 1 : Nat) : Int)) false n.f0 n.f1 n.f2 else xml_may.j0 k (17 - ((d + 1 : Nat) : Int)) (decide ((n.f2.length : Int) > 0)) n.f0 n.f1 n.f2) else xml_may.j0 k (17 - ((d + 1 : Nat) : Int)) true n.f0 n.f1 n.f2) else xml_may.j0 k (17 - ((d + 1 : Nat) : Int)) true n.f0 n.f1 n.f2) (fun k => ?_) ?_
    · simp only [xml_may.f]
      rw [if_neg (by omega), xml_Name.f, if_pos (by omega), chars_Legal.f, if_pos (by omega)]
      rfl
    · unfold mayV
      by_cases hn : nameV n.f0 = true
      · rw [hn]
        simp only [if_true, Bool.true_and]
        by_cases hl : legalV n.f1 = true
        · rw [hl]
          simp only [if_true, Bool.true_and]
          by_cases ht : n.f1.toList = []
          · simp only [ht, if_true, decide_true, Bool.true_or, Bool.true_and]
            simpa using hj false
          · simp only [ht, if_false, decide_false, Bool.false_or]
            have := hj (decide ((n.f2.length : Int) > 0))
            have he : (!decide ((n.f2.length : Int) > 0)) = decide (n.f2.length = 0) := by
              by_cases hz : n.f2.length = 0
              · simp [hz]
              · have : 0 < n.f2.length := by omega
                simp [hz]
                omega
            rw [he] at this
            exact this
        · simp only [hl, if_false, Bool.false_and]
          simpa using hj true
      · simp only [hn, if_false, Bool.false_and]
        simpa using hj true
theorem mayV_print : ∀ (d : Nat) (n : S36) (more : List UInt8), mayV d n = true → ∃ r, printV d n more = some r
  | 0, n, more, h => by cases h
  | d + 1, n, more, h => by
    unfold mayV at h
    have hk := (Bool.and_eq_true _ _ ▸ h).2
    have hall : ∀ l : List S36, l.all (mayV d) = true → ∃ q, catO (fun m => printV d m []) l = some q := by
      intro l
      induction l with
      | nil => intro _; exact ⟨[], rfl⟩
      | cons m l ih =>
        intro hl
        rw [List.all_cons, Bool.and_eq_true] at hl
        obtain ⟨a, ha⟩ := mayV_print d m [] hl.1
        obtain ⟨b, hb⟩ := ih hl.2
        exact ⟨a ++ b, by simp only [catO, ha, hb, Option.bind_some, Option.map_some]⟩
    obtain ⟨q, hq⟩ := hall n.f2 hk
    exact ⟨_, by unfold printV; rw [hq]; rfl⟩
end Go.Proofs.YtkhjpobhdpcglaaDoor.X
end
section
namespace Go.Proofs.YtkhjpobhdpcglaaDoor.X
open Go.RowKit Go.Proofs.YtkhjpobhdpcglaaDoorW.PrintWords Go.Proofs.YtkhjpobhdpcglaaDoorW.PrintLast Go.Proofs.YtkhjpobhdpcglaaDoorW.PrintMore
set_option linter.unusedVariables false
set_option linter.unusedSimpArgs false

def headV : ByteArray := ⟨#[60, 63, 120, 109, 108, 32, 118, 101, 114, 115, 105, 111, 110, 61, 34, 49, 46, 48, 34, 32, 101, 110, 99, 111, 100, 105, 110, 103, 61, 34, 85, 84, 70, 45, 56, 34, 63, 62, 10]⟩
def nsV : ByteArray := ⟨#[32, 120, 109, 108, 110, 115, 61, 34, 104, 116, 116, 112, 58, 47, 47, 115, 51, 46, 97, 109, 97, 122, 111, 110, 97, 119, 115, 46, 99, 111, 109, 47, 100, 111, 99, 47, 50, 48, 48, 54, 45, 48, 51, 45, 48, 49, 47, 34]⟩
def moreV (sp : Bool) : ByteArray := if sp = true then nsV else ⟨#[]⟩
/-- a document -/
def printR (n : S36) (sp : Bool) : ByteArray × Int :=
  if mayV 16 n = true then
    (match printV 16 n (moreV sp).data.toList with
      | some r => if 65536 < headV.data.toList.length + r.length then (⟨#[]⟩, 2) else (⟨(headV.data.toList ++ r).toArray⟩, 0)
      | none => (⟨#[]⟩, 0))
  else (⟨#[]⟩, 130)
theorem may_calls {n : S36} {A : Option Addr} {c : Nat} (hf : fitsD 16 n) (w : World) (hC : Kd.C k36 w A n.f2.length n.f2) (hc : n.f2.length ≤ c) :
    Calls Tryd.prog 66 #[.agg #[.string n.f0, .string n.f1, .slice A n.f2.length c], .int .i64 1] w fun e w' => e = .returned (.bool (mayV 16 n)) ∧ Below w.heap.size w w' := by
  obtain ⟨k, hk⟩ := (may_ev 16 n (by omega) hf).rounds
  exact xml_may.calls k n.f0 n.f1 A c n.f2 1 _ w hC hc hk
set_option maxHeartbeats 4000000 in
set_option maxRecDepth 1000000 in
theorem Print_calls (n : S36) (A : Option Addr) (c : Nat) (sp : Bool) (w : World) (hf : fitsD 16 n) (hC : Kd.C k36 w A n.f2.length n.f2) (hc : n.f2.length ≤ c) (hlen : ∀ r, printV 16 n (moreV sp).data.toList = some r → r.length ≤ 549755813888) :
    Calls Tryd.prog 28 #[.agg #[.string n.f0, .string n.f1, .slice A n.f2.length c], .bool sp] w fun e w' => e = .returned (.tuple #[.string (printR n sp).1, .int .i64 (printR n sp).2]) ∧ Below w.heap.size w w' := by
  obtain ⟨gb, hgb⟩ : ∃ gb, gb = w.heap.size := ⟨_, rfl⟩
  obtain ⟨w1, hw1⟩ : ∃ w1, w1 = w.alloc (.cells #[.string n.f0, .string n.f1, .slice A n.f2.length c] 36) := ⟨_, rfl⟩
  have hb1 : Below w.heap.size w w1 := by rw [hw1]; exact below_alloc (Below.refl _ _) _
  have hbox : w1.heap[gb]? = some (.cells #[.string n.f0, .string n.f1, .slice A n.f2.length c] 36 (0, 0)) := by rw [hw1, hgb]; exact heap_alloc_new w _
  have HM := Aside0.mk (may_calls hf w1 (Kd.C_below hC hb1) hc)
  have s0 := blk_cell hbox 0
  have s1 := blk_cell hbox 1
  have s2 := blk_cell hbox 2
  have HBOX := Aside0.mk hbox
  have HB1 := Aside0.mk hb1
  have HW1 := Aside0.mk hw1
  have HGB := Aside0.mk hgb
  have HC := Aside0.mk hC
  have HLEN := Aside0.mk hlen
  have hu36 := Tryd.underlying36
  clear hf hC hlen hgb hw1 hb1 hbox
  obtain ⟨b, hb⟩ : ∃ b, b = mayV 16 n := ⟨_, rfl⟩
  rw [← hb] at HM
  have HB := Aside0.mk hb
  clear hb
  cases b with
  | false =>
    have HP : Aside0 (printR n sp = (⟨#[]⟩, 130)) := ⟨by rw [printR, if_neg (by rw [← HB.out]; decide)]⟩
    go_enter Tryd.func28, Tryd.ntmps28
    go_wp2_with fail
    rw [← HW1.out, ← HGB.out]
    go_wp2_with fail
    refine HM.out.mono ?_
    rintro e w2 ⟨rfl, hb2⟩
    have HB2 := Aside0.mk (below_step HB1.out hb2)
    clear hb2
    go_wp2_with fail
    go_ret2
    exact ⟨by rw [HP.out]; rfl, HB2.out⟩
  | true =>
    obtain ⟨r, hr⟩ := mayV_print 16 n (moreV sp).data.toList HB.out.symm
    have hrl := HLEN.out r hr
    have HP : Aside0 (printR n sp = if 65536 < headV.data.toList.length + r.length then (⟨#[]⟩, 2) else (⟨(headV.data.toList ++ r).toArray⟩, 0)) := ⟨by rw [printR, if_pos HB.out.symm, hr]⟩
    have HR := Aside0.mk hr
    clear hr HLEN
    have hh : headV.data.toList.length = 39 := rfl
    have HH := Aside0.mk hh
    clear hh
    cases sp
    all_goals
      go_enter Tryd.func28, Tryd.ntmps28
      go_wp2_with fail
      rw [← HW1.out, ← HGB.out]
      go_wp2_with fail
      refine HM.out.mono ?_
      rintro e w2 ⟨rfl, hb2⟩
      have HB2 := Aside0.mk (below_step HB1.out hb2)
      have hbox2 := blk_below HBOX.out hb2
      have t0 := blk_cell hbox2 0
      have t1 := blk_cell hbox2 1
      have t2 := blk_cell hbox2 2
      have HBOX2 := Aside0.mk hbox2
      clear hb2 hbox2
      go_wp2_with fail
      refine (Builder_WriteString_T w2.heap.size w2.heap.size [] headV _ (Bld.fresh w2) (by rw [show headV.size = 39 from rfl]; decide) (by rw [World.size_alloc]; omega)).mono ?_
      rintro e w4 ⟨rfl, hbl4, hb4, hkt4⟩
      have hbA : Below w2.heap.size w2 (w2.alloc (.cells #[.pointer none, .slice none 0 0] 99)) := below_alloc (Below.refl _ _) _
      have hbox4 := hkt4.2 _ _ _ (by decide) (by decide) (blk_below HBOX2.out hbA)
      have hb24 : Below w2.heap.size w2 w4 := hbA.trans hb4
      have t0 := blk_cell hbox4 0
      have t1 := blk_cell hbox4 1
      have t2 := blk_cell hbox4 2
      rw [List.nil_append] at hbl4
      have HBL4 := Aside0.mk hbl4
      have HB4 := Aside0.mk hb24
      clear hbl4 hb4 hkt4 hbA hbox4 hb24 HBOX2
      go_wp2_with fail
      refine (print_calls 16 w2.heap.size w2.heap.size headV.data.toList n A c _ w w4 r (below_step HB2.out HB4.out) HB2.out.size HB4.out.size HC.out hc HBL4.out HR.out ?_).mono ?_
      · rw [HH.out]
        omega
      rintro e w5 ⟨rfl, hbl5, hb5, hkt5⟩
      have HBL5 := Aside0.mk hbl5
      have HB5 : Aside0 (Below w.heap.size w w5) := ⟨(below_step HB2.out HB4.out).trans (hb5.mono HB2.out.size)⟩
      have HB6 : Aside0 (w2.heap.size ≤ w5.heap.size) := ⟨Nat.le_trans HB4.out.size hb5.size⟩
      clear hbl5 hb5 hkt5 HBL4 HB4
      by_cases hlong : 65536 < headV.data.toList.length + r.length
      · have hl2 : (65536 : Int) < ((headV.data.toList.length + r.length : Nat) : Int) := by omega
        have HP2 : Aside0 (printR n _ = (⟨#[]⟩, 2)) := ⟨by rw [HP.out, if_pos hlong]⟩
        have hlen2 : (headV.data.toList ++ r).length = headV.data.toList.length + r.length := List.length_append
        obtain ⟨L, hL⟩ : ∃ L, L = headV.data.toList.length + r.length := ⟨_, rfl⟩
        have HLn := Builder_Len w2.heap.size w2.heap.size _ w5 HBL5.out
        rw [hlen2, ← hL] at HLn
        rw [← hL] at hl2
        have HLN := Aside0.mk HLn
        clear HLn hL hlen2 hlong HP
        go_wp2_with fail
        refine HLN.out.mono ?_
        rintro e w6 ⟨rfl, rfl⟩
        go_wp2_with fail
        go_ret2
        exact ⟨by rw [HP2.out]; rfl, HB5.out⟩
      · have hl2 : ¬ ((65536 : Int) < ((headV.data.toList.length + r.length : Nat) : Int)) := by omega
        have HP2 : Aside0 (printR n _ = (⟨(headV.data.toList ++ r).toArray⟩, 0)) := ⟨by rw [HP.out, if_neg hlong]⟩
        have hlen2 : (headV.data.toList ++ r).length = headV.data.toList.length + r.length := List.length_append
        obtain ⟨L, hL⟩ : ∃ L, L = headV.data.toList.length + r.length := ⟨_, rfl⟩
        have HLn := Builder_Len w2.heap.size w2.heap.size _ w5 HBL5.out
        rw [hlen2, ← hL] at HLn
        rw [← hL] at hl2
        have HLN := Aside0.mk HLn
        clear HLn hL hlen2 hlong HP
        go_wp2_with fail
        refine HLN.out.mono ?_
        rintro e w6 ⟨rfl, rfl⟩
        go_wp2_with fail
        refine (Builder_String w2.heap.size w2.heap.size _ _ HBL5.out HB6.out).mono ?_
        rintro e w7 ⟨rfl, hb7⟩
        have HB7 : Aside0 (Below w.heap.size w w7) := ⟨HB5.out.trans (hb7.mono HB2.out.size)⟩
        clear hb7
        go_wp2_with fail
        go_ret2
        exact ⟨by rw [HP2.out]; rfl, HB7.out⟩
end Go.Proofs.YtkhjpobhdpcglaaDoor.X
end
section
namespace Go.Proofs.YtkhjpobhdpcglaaDoor.X
open Go.RowKit Go.Proofs.YtkhjpobhdpcglaaDoorW.PrintWords Go.Proofs.YtkhjpobhdpcglaaDoorW.PrintLast Go.Proofs.YtkhjpobhdpcglaaDoorW.PrintMore
attribute [local go_sem] max2_int min2_int max_two min_two max_three min_three max_four min_four
set_option linter.unusedVariables false
set_option linter.unusedSimpArgs false

/-! ### xml_Of: function 29 -/
def xml_Of.f (a0 : ByteArray) (a1 : ByteArray) : Option (ByteArray × ByteArray × (List (S36))) := some (a0, a1, ([] : List (S36)))
set_option maxHeartbeats 8000000 in
set_option maxRecDepth 100000 in
theorem xml_Of.calls (a0 : ByteArray) (a1 : ByteArray) (r1 : ByteArray) (r2 : ByteArray) (r3 : List (S36)) (w : World) (h : xml_Of.f a0 a1 = some (r1, r2, r3)) :
    Calls Tryd.prog 29 #[.string a0, .string a1] w fun e w' => ∃ v2_ : Value, e = .returned (.agg #[.string r1, .string r2, v2_]) ∧ Kd.R k36 36 w' w.heap.size (fun _ => True) v2_ r3 ∧ Below w.heap.size w w' := by
  have hu36 := Tryd.underlying36
  have HB := Aside0.mk (Below.refl w.heap.size w)
  have H : (some (a0, a1, ([] : List (S36)))) = some (r1, r2, r3) := h
  clear h
  simp only [Option.some.injEq, Prod.mk.injEq] at H
  obtain ⟨rfl, rfl, rfl⟩ := H
  go_enter Tryd.func29, Tryd.ntmps29
  go_wp2_with (first | ((with_reducible refine gate_dst (N := 4) rfl ?_); refine box_event ?hg (N := 4) ?hd (cs := #[.string (⟨#[]⟩ : ByteArray), .string (⟨#[]⟩ : ByteArray), .slice none 0 0]) (t := 36) ?hr ?_; (case hd => rfl); (case hg => rfl); (case hr => first | (go_simp; done) | (go_simp; rfl)); intro gb101 hg w3 hbox hb; have n0_ := Aside0.mk (below_step (by repeat (first | (with_reducible first | exact HB.out | apply below_alloc | apply pw_below_drewN | apply below_drew1) | exact HB.out)) hb); have n1_ := Aside0.mk (hbox); have n2_ := Aside0.mk ((by rw [hg]; exact (below_size (by repeat (first | (with_reducible first | exact HB.out | apply below_alloc | apply pw_below_drewN | apply below_drew1) | exact HB.out))) : w.heap.size ≤ gb101)); have n3_ := Aside0.mk ((by rw [hg]; exact (below_size (by repeat (first | (with_reducible first | exact HB.out | apply below_alloc | apply pw_below_drewN | apply below_drew1) | exact HB.out))) : w.heap.size ≤ gb101)); clear HB; have HB := n0_; have BK101 := n1_; have GW101 := n2_; have GE101 := n3_; clear n0_ n1_ n2_ n3_; clear hb hbox hg; have hcz4_0 : w3.cell? ⟨gb101, 0, none⟩ = some (.string (⟨#[]⟩ : ByteArray)) := (blk_cell BK101.out 0).trans rfl; have hcz4_1 : w3.cell? ⟨gb101, 1, none⟩ = some (.string (⟨#[]⟩ : ByteArray)) := (blk_cell BK101.out 1).trans rfl; have hcz4_2 : w3.cell? ⟨gb101, 2, none⟩ = some (.slice none 0 0) := (blk_cell BK101.out 2).trans rfl; have hfz4_0 := blk_frozen BK101.out 0; have hfz4_1 := blk_frozen BK101.out 1; have hfz4_2 := blk_frozen BK101.out 2))
  refine bodyPost_ret (results_cell_row rfl _ _ gb101 36 #[.string a0, .string a1, .slice none 0 0] (0, 0) _ rfl (by (with_reducible repeat (first | refine blk_drewN ?_ _ | refine blk_drew ?_ | refine blk_alloc ?_ _)); refine blk_put (cs := #[.string a0, .string a1, .slice none 0 0]) ?_ 2 _ rfl; (with_reducible repeat (first | refine blk_drewN ?_ _ | refine blk_drew ?_ | refine blk_alloc ?_ _)); refine blk_put (cs := #[.string a0, .string (⟨#[]⟩ : ByteArray), .slice none 0 0]) ?_ 1 _ rfl; (with_reducible repeat (first | refine blk_drewN ?_ _ | refine blk_drew ?_ | refine blk_alloc ?_ _)); refine blk_put (cs := #[.string (⟨#[]⟩ : ByteArray), .string (⟨#[]⟩ : ByteArray), .slice none 0 0]) ?_ 0 _ rfl; (with_reducible repeat (first | refine blk_drewN ?_ _ | refine blk_drew ?_ | refine blk_alloc ?_ _)); exact BK101.out) Tryd.underlying36 rfl (by kernel_rfl)) rfl ?_
  exact ⟨_, by first | rfl | (simp [errW_none, errW_some] <;> rfl) | (simp [*, errW_none, errW_some] <;> rfl), by first | exact Kd.R_nil _ _ _ _ _ | exact Kd.N_nil _ _ _ _ _ | exact Kd.V_nil _ _ _ _ _ | exact Kd.Q_nil _ _ _ _ _ | exact Kd.S_nil _ _ _ _ _, by repeat (first | (with_reducible first | exact HB.out | apply below_alloc | apply pw_below_drewN | apply below_drew1 | refine below_set ?_ GE101.out) | exact HB.out)⟩

end Go.Proofs.YtkhjpobhdpcglaaDoor.X
end
section
namespace Go.Proofs.YtkhjpobhdpcglaaDoor.X
open Go.RowKit Go.Proofs.YtkhjpobhdpcglaaDoorW.PrintWords Go.Proofs.YtkhjpobhdpcglaaDoorW.PrintLast Go.Proofs.YtkhjpobhdpcglaaDoorW.PrintMore
set_option linter.unusedVariables false
set_option linter.unusedSimpArgs false

def awakeS : ByteArray := ⟨#[60, 97, 32, 120, 61, 34, 49, 34, 62, 32, 60, 98, 62, 49, 32, 38, 108, 116, 59, 32, 50, 60, 47, 98, 62, 60, 99, 47, 62, 60, 47, 97, 62]⟩
def awakeN : S36 := ⟨⟨#[97]⟩, ⟨#[]⟩, [⟨⟨#[98]⟩, ⟨#[49, 32, 60, 32, 50]⟩, []⟩, ⟨⟨#[99]⟩, ⟨#[]⟩, []⟩]⟩
def awakeM : S36 := ⟨⟨#[97]⟩, ⟨#[120, 38, 121]⟩, []⟩
def awakeP : ByteArray := ⟨#[60, 63, 120, 109, 108, 32, 118, 101, 114, 115, 105, 111, 110, 61, 34, 49, 46, 48, 34, 32, 101, 110, 99, 111, 100, 105, 110, 103, 61, 34, 85, 84, 70, 45, 56, 34, 63, 62, 10, 60, 97, 62, 120, 38, 97, 109, 112, 59, 121, 60, 47, 97, 62]⟩
theorem awake_parse : parseV awakeS = (awakeN, 0) := by kernel_rfl
theorem awake_print : printR awakeM false = (awakeP, 0) := by kernel_rfl
theorem awake_len : printV 16 awakeM (moreV false).data.toList = some [60, 97, 62, 120, 38, 97, 109, 112, 59, 121, 60, 47, 97, 62] := by kernel_rfl
theorem R_shape {w : World} {e base : Nat} {ok : Nat → Prop} {v : Value} {l : List S36} (h : Kd.R k36 e w base ok v l) : ∃ (A : Option Addr) (c : Nat), v = .slice A l.length c ∧ l.length ≤ c ∧ Kd.C k36 w A l.length l := by
  obtain ⟨h0, inner, ho, hr⟩ := id h
  rcases ho.2 with ⟨hv, h1⟩ | ⟨g2, cap', cur, hv, _⟩
  · have hl : l.length = 0 := by simp_all
    subst hv
    obtain ⟨h2, h3, h4⟩ := Kd.R_reads' h
    exact ⟨none, 0, by rw [← h2], by omega, h4⟩
  · subst hv
    obtain ⟨h2, h3, h4⟩ := Kd.R_reads' h
    exact ⟨_, _, rfl, h3, h4⟩
set_option maxHeartbeats 4000000 in
set_option maxRecDepth 1000000 in
theorem awake13_calls (w : World) (hg : GOK w) : Calls Tryd.prog 20 #[] w fun e w' => e = .returned (.bool true) ∧ Below w.heap.size w w' := by
  have hu36 := Tryd.underlying36
  have HG := Aside0.mk hg
  have HP := Aside0.mk (parse_calls awakeS w hg (by decide))
  clear hg
  go_enter Tryd.func20, Tryd.ntmps20
  go_wp2_with fail
  refine HP.out.mono ?_
  rintro e w1 ⟨v, rfl, hN, hb1⟩
  rw [awake_parse] at hN ⊢
  obtain ⟨A, c, rfl, hc, hF, _⟩ := hN
  have hl : (awakeN, (0 : Int)).1.f2.length = 2 := rfl
  have e0 : (awakeN, (0 : Int)).1.f0 = ⟨#[97]⟩ := rfl
  have e1 : (awakeN, (0 : Int)).1.f1 = ⟨#[]⟩ := rfl
  rw [hl] at hF hc
  have hC := Kd.F_now hF
  obtain ⟨ad, A2, c2, rfl, hx0, hx1, hx2, hl2, hi2⟩ := at_T36 hC (0 : Int) (by omega) (by omega)
  have hz : ((0 : Int).toNat * 3) = 0 := rfl
  rw [hz] at hx1
  have hrd : (rd_T36 (awakeN, (0 : Int)).1.f2 (0 : Int)).f1 = ⟨#[49, 32, 60, 32, 50]⟩ := rfl
  rw [hrd] at hx1
  rw [hl, e0, e1]
  have HB1 := Aside0.mk hb1
  have HX1 := Aside0.mk hx1
  obtain ⟨gn, hgn⟩ : ∃ gn, gn = w1.heap.size := ⟨_, rfl⟩
  obtain ⟨w2, hw2⟩ : ∃ w2, w2 = w1.alloc (.cells #[.string ⟨#[97]⟩, .string ⟨#[]⟩, .slice (some ad) 2 c] 36) := ⟨_, rfl⟩
  have hb2 : Below w1.heap.size w1 w2 := by rw [hw2]; exact below_alloc (Below.refl _ _) _
  have hbox : w2.heap[gn]? = some (.cells #[.string ⟨#[97]⟩, .string ⟨#[]⟩, .slice (some ad) 2 c] 36 (0, 0)) := by rw [hw2, hgn]; exact heap_alloc_new w1 _
  have HB2 := Aside0.mk hb2
  have HBOX := Aside0.mk hbox
  have HGN := Aside0.mk hgn
  have HW2 := Aside0.mk hw2
  clear hl e0 e1 hF hC hx0 hx1 hx2 hl2 hi2 hz hrd hb1 hgn hw2 hb2 hbox HP
  go_wp2_with fail
  rw [← HW2.out, ← HGN.out]
  refine (xml_Of.calls ⟨#[97]⟩ ⟨#[120, 38, 121]⟩ _ _ _ w2 rfl).mono ?_
  rintro e w3 ⟨v3, rfl, hR3, hb3⟩
  obtain ⟨A3, c3, rfl, hc3, hC3⟩ := R_shape hR3
  have HB3 := Aside0.mk hb3
  have HPr := Aside0.mk (Print_calls awakeM A3 c3 false w3 ⟨by decide, by decide, by decide, fun m hm => by cases hm⟩ hC3 hc3 (fun r hr => by
    rw [awake_len] at hr
    injection hr with hr
    subst hr
    decide))
  clear hR3 hb3 hC3
  go_wp2_with fail
  refine HPr.out.mono ?_
  rintro e w4 ⟨rfl, hb4⟩
  rw [awake_print]
  have hbox4 := blk_below (blk_below HBOX.out HB3.out) hb4
  have t0 := blk_cell hbox4 0
  have t2 := blk_cell hbox4 2
  have ha0 : ad.add 0 = ad := by simp [Addr.add]
  have hx4 : w4.cell? ⟨ad.block, ad.off + 1, none⟩ = some (.string ⟨#[49, 32, 60, 32, 50]⟩) := pw_cell_below hb4 (pw_cell_below HB3.out (pw_cell_below HB2.out (by have := HX1.out; rw [ha0] at this; exact this)))
  clear ha0
  unfold awakeP
  have HB4 : Aside0 (Below w.heap.size w w4) := ⟨below_step (below_step (below_step HB1.out HB2.out) HB3.out) hb4⟩
  clear hb4 hbox4 HPr
  go_wp2_with fail
  go_ret
  exact ⟨rfl, HB4.out⟩
end Go.Proofs.YtkhjpobhdpcglaaDoor.X
end
section
namespace Go.Proofs.YtkhjpobhdpcglaaDoor.X
open Go.RowKit Go.Proofs.YtkhjpobhdpcglaaDoorW.PrintWords Go.Proofs.YtkhjpobhdpcglaaDoorW.PrintLast Go.Proofs.YtkhjpobhdpcglaaDoorW.PrintMore
attribute [local go_sem] max2_int min2_int max_two min_two max_three min_three max_four min_four
set_option linter.unusedVariables false
set_option linter.unusedSimpArgs false

/-! ### stowageref13_letter: function 64 -/
def stowageref13_letter.f (a0 : Int) : Option (Bool) := if a0 ≥ 65 then (if a0 ≤ 90 then (some true) else (if a0 ≥ 97 then (if a0 ≤ 122 then (some true) else (some (a0 == 95))) else (some (a0 == 95)))) else (if a0 ≥ 97 then (if a0 ≤ 122 then (some true) else (some (a0 == 95))) else (some (a0 == 95)))
set_option maxHeartbeats 8000000 in
set_option maxRecDepth 100000 in
theorem stowageref13_letter.calls (a0 : Int) (r : Bool) (w : World) (h : stowageref13_letter.f a0 = some r) :
    Calls Tryd.prog 64 #[.int .u8 a0] w fun e w' => e = .returned (.bool r) ∧ Drawn0 w w' := by
  have H : (if a0 ≥ 65 then (if a0 ≤ 90 then (some true) else (if a0 ≥ 97 then (if a0 ≤ 122 then (some true) else (some (a0 == 95))) else (some (a0 == 95)))) else (if a0 ≥ 97 then (if a0 ≤ 122 then (some true) else (some (a0 == 95))) else (some (a0 == 95)))) = some r := h
  clear h
  by_cases c2 : a0 ≥ 65
  · rw [if_pos c2] at H
    have c2b0 : decide (65 ≤ a0) = true := decide_eq_true c2
    clear c2
    by_cases c3 : a0 ≤ 90
    · rw [if_pos c3] at H
      have c3b0 : decide (a0 ≤ 90) = true := decide_eq_true c3
      clear c3
      obtain rfl := Option.some.inj H
      go_enter Tryd.func64, Tryd.ntmps64
      go_wp2
      go_ret
      exact ⟨by first | rfl | (simp; done) | (simp [*]; done), by repeat (first | exact Drawn0.refl _ | apply Drawn0.step)⟩
    · rw [if_neg c3] at H
      have c3b0 : decide (a0 ≤ 90) = false := decide_eq_false c3
      clear c3
      by_cases c4 : a0 ≥ 97
      · rw [if_pos c4] at H
        have c4b0 : decide (97 ≤ a0) = true := decide_eq_true c4
        clear c4
        by_cases c5 : a0 ≤ 122
        · rw [if_pos c5] at H
          have c5b0 : decide (a0 ≤ 122) = true := decide_eq_true c5
          clear c5
          obtain rfl := Option.some.inj H
          go_enter Tryd.func64, Tryd.ntmps64
          go_wp2
          go_ret
          exact ⟨by first | rfl | (simp; done) | (simp [*]; done), by repeat (first | exact Drawn0.refl _ | apply Drawn0.step)⟩
        · rw [if_neg c5] at H
          have c5b0 : decide (a0 ≤ 122) = false := decide_eq_false c5
          clear c5
          obtain rfl := Option.some.inj H
          go_enter Tryd.func64, Tryd.ntmps64
          go_wp2
          go_ret
          exact ⟨by first | rfl | (simp; done) | (simp [*]; done), by repeat (first | exact Drawn0.refl _ | apply Drawn0.step)⟩
      · rw [if_neg c4] at H
        have c4b0 : decide (97 ≤ a0) = false := decide_eq_false c4
        clear c4
        obtain rfl := Option.some.inj H
        go_enter Tryd.func64, Tryd.ntmps64
        go_wp2
        go_ret
        exact ⟨by first | rfl | (simp; done) | (simp [*]; done), by repeat (first | exact Drawn0.refl _ | apply Drawn0.step)⟩
  · rw [if_neg c2] at H
    have c2b0 : decide (65 ≤ a0) = false := decide_eq_false c2
    clear c2
    by_cases c6 : a0 ≥ 97
    · rw [if_pos c6] at H
      have c6b0 : decide (97 ≤ a0) = true := decide_eq_true c6
      clear c6
      by_cases c7 : a0 ≤ 122
      · rw [if_pos c7] at H
        have c7b0 : decide (a0 ≤ 122) = true := decide_eq_true c7
        clear c7
        obtain rfl := Option.some.inj H
        go_enter Tryd.func64, Tryd.ntmps64
        go_wp2
        go_ret
        exact ⟨by first | rfl | (simp; done) | (simp [*]; done), by repeat (first | exact Drawn0.refl _ | apply Drawn0.step)⟩
      · rw [if_neg c7] at H
        have c7b0 : decide (a0 ≤ 122) = false := decide_eq_false c7
        clear c7
        obtain rfl := Option.some.inj H
        go_enter Tryd.func64, Tryd.ntmps64
        go_wp2
        go_ret
        exact ⟨by first | rfl | (simp; done) | (simp [*]; done), by repeat (first | exact Drawn0.refl _ | apply Drawn0.step)⟩
    · rw [if_neg c6] at H
      have c6b0 : decide (97 ≤ a0) = false := decide_eq_false c6
      clear c6
      obtain rfl := Option.some.inj H
      go_enter Tryd.func64, Tryd.ntmps64
      go_wp2
      go_ret
      exact ⟨by first | rfl | (simp; done) | (simp [*]; done), by repeat (first | exact Drawn0.refl _ | apply Drawn0.step)⟩

end Go.Proofs.YtkhjpobhdpcglaaDoor.X
end
section
namespace Go.Proofs.YtkhjpobhdpcglaaDoor.X
open Go.RowKit Go.Proofs.YtkhjpobhdpcglaaDoorW.PrintWords Go.Proofs.YtkhjpobhdpcglaaDoorW.PrintLast Go.Proofs.YtkhjpobhdpcglaaDoorW.PrintMore
attribute [local go_sem] max2_int min2_int max_two min_two max_three min_three max_four min_four
set_option linter.unusedVariables false
set_option linter.unusedSimpArgs false

/-! ### stowageref13_inner: function 63 -/
def stowageref13_inner.f (a0 : Int) : Option (Bool) := (stowageref13_letter.f a0).bind fun t101 => (if t101 = true then (some true) else (if a0 ≥ 48 then (if a0 ≤ 57 then (some true) else (if a0 = 45 then (some true) else (some (a0 == 46)))) else (if a0 = 45 then (some true) else (some (a0 == 46)))))
set_option maxHeartbeats 8000000 in
set_option maxRecDepth 100000 in
theorem stowageref13_inner.calls (a0 : Int) (r : Bool) (w : World) (h : stowageref13_inner.f a0 = some r) :
    Calls Tryd.prog 63 #[.int .u8 a0] w fun e w' => e = .returned (.bool r) ∧ Drawn0 w w' := by
  have H : ((stowageref13_letter.f a0).bind fun t101 => (if t101 = true then (some true) else (if a0 ≥ 48 then (if a0 ≤ 57 then (some true) else (if a0 = 45 then (some true) else (some (a0 == 46)))) else (if a0 = 45 then (some true) else (some (a0 == 46)))))) = some r := h
  clear h
  replace H := Option.bind_eq_some_iff.mp H
  obtain ⟨t101, A20, H⟩ := H
  replace H : (if t101 = true then (some true) else (if a0 ≥ 48 then (if a0 ≤ 57 then (some true) else (if a0 = 45 then (some true) else (some (a0 == 46)))) else (if a0 = 45 then (some true) else (some (a0 == 46))))) = some r := H
  have A2 := Aside0.mk A20
  clear A20
  by_cases c3 : t101 = true
  · subst c3
    have H1 : (some true) = some r := by rw [if_pos rfl] at H; exact H
    clear H
    have H := H1
    clear H1
    obtain rfl := Option.some.inj H
    go_enter Tryd.func63, Tryd.ntmps63
    go_wp2_with (first | ((with_reducible refine gate_callee (f := 64) rfl ?_); refine goesL_ (some 4) rfl rfl Tryd.func64 (by kernel_rfl) rfl #[.int .u8 a0] rfl (by (try simp only [List.map_toArray, List.map_cons, List.map_nil]); first | done | rfl | (simp only [List.length_drop, List.length_take]; rfl)) ?_; (with_reducible refine (stowageref13_letter.calls a0 true _ A2.out).mono ?_); rintro e w' ⟨rfl, ⟨nd, rfl⟩⟩; refine ⟨_, rfl, ?_⟩))
    go_ret
    exact ⟨by first | rfl | (simp; done) | (simp [*]; done), by repeat (first | exact Drawn0.refl _ | apply Drawn0.step)⟩
  · replace c3 := Bool.eq_false_iff.mpr c3
    subst c3
    have H1 : (if a0 ≥ 48 then (if a0 ≤ 57 then (some true) else (if a0 = 45 then (some true) else (some (a0 == 46)))) else (if a0 = 45 then (some true) else (some (a0 == 46)))) = some r := by rw [if_neg (show ¬ (false = true) by decide)] at H; exact H
    clear H
    have H := H1
    clear H1
    by_cases c4 : a0 ≥ 48
    · rw [if_pos c4] at H
      have c4b0 : decide (48 ≤ a0) = true := decide_eq_true c4
      clear c4
      by_cases c5 : a0 ≤ 57
      · rw [if_pos c5] at H
        have c5b0 : decide (a0 ≤ 57) = true := decide_eq_true c5
        clear c5
        obtain rfl := Option.some.inj H
        go_enter Tryd.func63, Tryd.ntmps63
        go_wp2_with (first | ((with_reducible refine gate_callee (f := 64) rfl ?_); refine goesL_ (some 4) rfl rfl Tryd.func64 (by kernel_rfl) rfl #[.int .u8 a0] rfl (by (try simp only [List.map_toArray, List.map_cons, List.map_nil]); first | done | rfl | (simp only [List.length_drop, List.length_take]; rfl)) ?_; (with_reducible refine (stowageref13_letter.calls a0 false _ A2.out).mono ?_); rintro e w' ⟨rfl, ⟨nd, rfl⟩⟩; refine ⟨_, rfl, ?_⟩))
        go_ret
        exact ⟨by first | rfl | (simp; done) | (simp [*]; done), by repeat (first | exact Drawn0.refl _ | apply Drawn0.step)⟩
      · rw [if_neg c5] at H
        have c5b0 : decide (a0 ≤ 57) = false := decide_eq_false c5
        clear c5
        by_cases c6 : a0 = 45
        · rw [if_pos c6] at H
          have c6b0 : (a0 == 45) = true := beq_iff_eq.mpr c6
          have c6b1 : (a0 != 45) = false := bne_eq_false_iff_eq.mpr c6
          clear c6
          obtain rfl := Option.some.inj H
          go_enter Tryd.func63, Tryd.ntmps63
          go_wp2_with (first | ((with_reducible refine gate_callee (f := 64) rfl ?_); refine goesL_ (some 4) rfl rfl Tryd.func64 (by kernel_rfl) rfl #[.int .u8 a0] rfl (by (try simp only [List.map_toArray, List.map_cons, List.map_nil]); first | done | rfl | (simp only [List.length_drop, List.length_take]; rfl)) ?_; (with_reducible refine (stowageref13_letter.calls a0 false _ A2.out).mono ?_); rintro e w' ⟨rfl, ⟨nd, rfl⟩⟩; refine ⟨_, rfl, ?_⟩))
          go_ret
          exact ⟨by first | rfl | (simp; done) | (simp [*]; done), by repeat (first | exact Drawn0.refl _ | apply Drawn0.step)⟩
        · rw [if_neg c6] at H
          have c6b0 : (a0 == 45) = false := beq_eq_false_iff_ne.mpr c6
          have c6b1 : (a0 != 45) = true := bne_iff_ne.mpr c6
          obtain rfl := Option.some.inj H
          go_enter Tryd.func63, Tryd.ntmps63
          go_wp2_with (first | ((with_reducible refine gate_callee (f := 64) rfl ?_); refine goesL_ (some 4) rfl rfl Tryd.func64 (by kernel_rfl) rfl #[.int .u8 a0] rfl (by (try simp only [List.map_toArray, List.map_cons, List.map_nil]); first | done | rfl | (simp only [List.length_drop, List.length_take]; rfl)) ?_; (with_reducible refine (stowageref13_letter.calls a0 false _ A2.out).mono ?_); rintro e w' ⟨rfl, ⟨nd, rfl⟩⟩; refine ⟨_, rfl, ?_⟩))
          go_ret
          exact ⟨by first | rfl | (simp; done) | (simp [*]; done), by repeat (first | exact Drawn0.refl _ | apply Drawn0.step)⟩
    · rw [if_neg c4] at H
      have c4b0 : decide (48 ≤ a0) = false := decide_eq_false c4
      clear c4
      by_cases c7 : a0 = 45
      · rw [if_pos c7] at H
        have c7b0 : (a0 == 45) = true := beq_iff_eq.mpr c7
        have c7b1 : (a0 != 45) = false := bne_eq_false_iff_eq.mpr c7
        clear c7
        obtain rfl := Option.some.inj H
        go_enter Tryd.func63, Tryd.ntmps63
        go_wp2_with (first | ((with_reducible refine gate_callee (f := 64) rfl ?_); refine goesL_ (some 4) rfl rfl Tryd.func64 (by kernel_rfl) rfl #[.int .u8 a0] rfl (by (try simp only [List.map_toArray, List.map_cons, List.map_nil]); first | done | rfl | (simp only [List.length_drop, List.length_take]; rfl)) ?_; (with_reducible refine (stowageref13_letter.calls a0 false _ A2.out).mono ?_); rintro e w' ⟨rfl, ⟨nd, rfl⟩⟩; refine ⟨_, rfl, ?_⟩))
        go_ret
        exact ⟨by first | rfl | (simp; done) | (simp [*]; done), by repeat (first | exact Drawn0.refl _ | apply Drawn0.step)⟩
      · rw [if_neg c7] at H
        have c7b0 : (a0 == 45) = false := beq_eq_false_iff_ne.mpr c7
        have c7b1 : (a0 != 45) = true := bne_iff_ne.mpr c7
        obtain rfl := Option.some.inj H
        go_enter Tryd.func63, Tryd.ntmps63
        go_wp2_with (first | ((with_reducible refine gate_callee (f := 64) rfl ?_); refine goesL_ (some 4) rfl rfl Tryd.func64 (by kernel_rfl) rfl #[.int .u8 a0] rfl (by (try simp only [List.map_toArray, List.map_cons, List.map_nil]); first | done | rfl | (simp only [List.length_drop, List.length_take]; rfl)) ?_; (with_reducible refine (stowageref13_letter.calls a0 false _ A2.out).mono ?_); rintro e w' ⟨rfl, ⟨nd, rfl⟩⟩; refine ⟨_, rfl, ?_⟩))
        go_ret
        exact ⟨by first | rfl | (simp; done) | (simp [*]; done), by repeat (first | exact Drawn0.refl _ | apply Drawn0.step)⟩

end Go.Proofs.YtkhjpobhdpcglaaDoor.X
end
section
namespace Go.Proofs.YtkhjpobhdpcglaaDoor.X
open Go.RowKit Go.Proofs.YtkhjpobhdpcglaaDoorW.PrintWords Go.Proofs.YtkhjpobhdpcglaaDoorW.PrintLast Go.Proofs.YtkhjpobhdpcglaaDoorW.PrintMore
attribute [local go_sem] max2_int min2_int max_two min_two max_three min_three max_four min_four
set_option linter.unusedVariables false
set_option linter.unusedSimpArgs false

/-! ### stowageref13_Name: function 24 -/
def stowageref13_Name.l0 : Nat → ByteArray → Int → Option (Bool)
  | 0, _, _ => none
  | k + 1, x0, x3 => if x3 < (x0.size : Int) then (if 0 ≤ x3 then ((stowageref13_inner.f (bt x0 x3)).bind fun t101 => (if t101 = true then (stowageref13_Name.l0 k x0 (wrap64 (x3 + 1))) else (some false))) else (none)) else (if (x0.size : Int) > 0 then (if 0 < (x0.size : Int) then ((stowageref13_letter.f (bt x0 0)).bind fun t102 => (some t102)) else (none)) else (some false))
def stowageref13_Name.f (k : Nat) (a0 : ByteArray) : Option (Bool) := stowageref13_Name.l0 k a0 0
theorem stowageref13_Name.mono_l : ∀ k, (∀ y0 y1, LeO (stowageref13_Name.l0 k y0 y1) (stowageref13_Name.l0 (k + 1) y0 y1))
  | 0 => fun _ _ r h => by simp [stowageref13_Name.l0] at h
  | k + 1 => by
    have ih0 := stowageref13_Name.mono_l k
    · intro y0 y1
      unfold stowageref13_Name.l0
      repeat' first
      | (with_reducible exact ih0 _ _)
      | (with_reducible exact LeO.refl _)
      | (with_reducible exact LeO.none _)
      | (with_reducible refine LeO.ite ?_ ?_)
      | (with_reducible refine LeO.bind ?_ (fun _ => ?_))
      | exact ih0 _ _
      | exact LeO.none _
      | refine LeO.ite ?_ ?_
      | refine LeO.bind ?_ (fun _ => ?_)
theorem stowageref13_Name.mono : ∀ a0 k, LeO (stowageref13_Name.f k a0) (stowageref13_Name.f (k + 1) a0) := by
  intro a0 k
  have ih0 := stowageref13_Name.mono_l k
  unfold stowageref13_Name.f
  repeat' first
      | (with_reducible exact ih0 _ _)
      | (with_reducible exact LeO.refl _)
      | (with_reducible exact LeO.none _)
      | (with_reducible refine LeO.ite ?_ ?_)
      | (with_reducible refine LeO.bind ?_ (fun _ => ?_))
      | exact ih0 _ _
      | exact LeO.none _
      | refine LeO.ite ?_ ?_
      | refine LeO.bind ?_ (fun _ => ?_)
set_option maxHeartbeats 8000000 in
set_option maxRecDepth 100000 in
theorem stowageref13_Name.calls (k : Nat) (a0 : ByteArray) (r : Bool) (w : World) (h : stowageref13_Name.f k a0 = some r) :
    Calls Tryd.prog 24 #[.string a0] w fun e w' => e = .returned (.bool r) ∧ Drawn0 w w' := by
  have H : (stowageref13_Name.l0 k a0 0) = some r := h
  clear h
  have H' := Aside0.mk H
  clear H
  go_enter Tryd.func24, Tryd.ntmps24
  go_wp2
  go_loopg [3] k (fun kq v3 w' => ∃ (x3_1 : Int), v3 = .int .i64 x3_1 ∧ Aside0 (stowageref13_Name.l0 kq a0 x3_1 = some r) ∧ Aside0 (kq ≤ k) ∧ Drawn0 w w')
  case atStart => exact ⟨(0), (by first | rfl | (simp; done) | (simp [*]; done)), H', ⟨Nat.le_refl _⟩, by repeat (first | exact Drawn0.refl _ | apply Drawn0.step)⟩
  case round =>
    clear H'
    obtain ⟨x3_1, rfl, HA, HK1, ⟨m1, rfl⟩⟩ := hrel
    cases gk with
    | zero => exact absurd HA.out (by simp [stowageref13_Name.l0])
    | succ k1 =>
      have H := HA.out
      clear HA
      simp only [stowageref13_Name.l0] at H
      by_cases c2 : x3_1 < (a0.size : Int)
      · rw [if_pos c2] at H
        have c2b0 : decide (x3_1 < (a0.size : Int)) = true := decide_eq_true c2
        clear c2
        by_cases c3 : 0 ≤ x3_1
        · rw [if_pos c3] at H
          have c3b0 : decide (0 ≤ x3_1) = true := decide_eq_true c3
          clear c3
          replace H := Option.bind_eq_some_iff.mp H
          obtain ⟨t101, A50, H⟩ := H
          replace H : (if t101 = true then (stowageref13_Name.l0 k1 a0 (wrap64 (x3_1 + 1))) else (some false)) = some r := H
          have A5 := Aside0.mk A50
          clear A50
          by_cases c6 : t101 = true
          · subst c6
            have H1 : (stowageref13_Name.l0 k1 a0 (wrap64 (x3_1 + 1))) = some r := by rw [if_pos rfl] at H; exact H
            clear H
            have H := H1
            clear H1
            have H' := Aside0.mk H
            clear H
            have p4 : 0 ≤ (x3_1 : Int) := of_decide_eq_true (by first | (with_reducible assumption) | assumption)
            have q4 : x3_1 < (a0.size : Int) := of_decide_eq_true (by first | (with_reducible assumption) | assumption)
            have hx4 := bt_at a0 x3_1
            replace p4 := eq_true p4
            replace q4 := eq_true q4
            go_wp2_with (first | ((with_reducible refine gate_callee (f := 63) rfl ?_); refine goesL_ (some 13) rfl rfl Tryd.func63 (by kernel_rfl) rfl #[.int .u8 (bt a0 x3_1)] rfl (by (try simp only [List.map_toArray, List.map_cons, List.map_nil]); first | done | rfl | (simp only [List.length_drop, List.length_take]; rfl)) ?_; (with_reducible refine (stowageref13_inner.calls (bt a0 x3_1) true _ A5.out).mono ?_); rintro e w' ⟨rfl, ⟨nd, rfl⟩⟩; refine ⟨_, rfl, ?_⟩))
            go_roundg k1
            case measure => have := HK1.out; omega
            case rel => exact ⟨(wrap64 (x3_1 + 1)), (by first | rfl | (simp; done) | (simp [*]; done)), H', ⟨by have := HK1.out; omega⟩, by repeat (first | exact Drawn0.refl _ | apply Drawn0.step)⟩
          · replace c6 := Bool.eq_false_iff.mpr c6
            subst c6
            have H1 : (some false) = some r := by rw [if_neg (show ¬ (false = true) by decide)] at H; exact H
            clear H
            have H := H1
            clear H1
            obtain rfl := Option.some.inj H
            have p4 : 0 ≤ (x3_1 : Int) := of_decide_eq_true (by first | (with_reducible assumption) | assumption)
            have q4 : x3_1 < (a0.size : Int) := of_decide_eq_true (by first | (with_reducible assumption) | assumption)
            have hx4 := bt_at a0 x3_1
            replace p4 := eq_true p4
            replace q4 := eq_true q4
            go_wp2_with (first | ((with_reducible refine gate_callee (f := 63) rfl ?_); refine goesL_ (some 13) rfl rfl Tryd.func63 (by kernel_rfl) rfl #[.int .u8 (bt a0 x3_1)] rfl (by (try simp only [List.map_toArray, List.map_cons, List.map_nil]); first | done | rfl | (simp only [List.length_drop, List.length_take]; rfl)) ?_; (with_reducible refine (stowageref13_inner.calls (bt a0 x3_1) false _ A5.out).mono ?_); rintro e w' ⟨rfl, ⟨nd, rfl⟩⟩; refine ⟨_, rfl, ?_⟩))
            go_ret
            exact ⟨by first | rfl | (simp; done) | (simp [*]; done), by repeat (first | exact Drawn0.refl _ | apply Drawn0.step)⟩
        · rw [if_neg c3] at H
          exact absurd H (by simp)
      · rw [if_neg c2] at H
        have c2b0 : decide (x3_1 < (a0.size : Int)) = false := decide_eq_false c2
        clear c2
        by_cases c7 : (a0.size : Int) > 0
        · rw [if_pos c7] at H
          have c7b0 : decide (0 < (a0.size : Int)) = true := decide_eq_true c7
          have c7b1 : decide (0 < a0.size) = true := decide_eq_true (by omega)
          clear c7
          by_cases c8 : 0 < (a0.size : Int)
          · rw [if_pos c8] at H
            have c8b0 : decide (0 < (a0.size : Int)) = true := decide_eq_true c8
            have c8b1 : decide (0 < a0.size) = true := decide_eq_true (by omega)
            clear c8
            replace H := Option.bind_eq_some_iff.mp H
            obtain ⟨t102, A100, H⟩ := H
            replace H : (some t102) = some r := H
            have A10 := Aside0.mk A100
            clear A100
            obtain rfl := Option.some.inj H
            have p9 : 0 ≤ (0 : Int) := (by omega)
            have q9 : 0 < a0.size := (by have : (0 : Int) < (a0.size : Int) := of_decide_eq_true (by first | (with_reducible assumption) | assumption); omega)
            have hx9 : ∀ h : 0 < a0.size, ((a0[0]'h).toNat : Int) = bt a0 0 := bt_at a0 0
            clear p9
            have qi9 : (0 < (a0.size : Int)) = True := eq_true (of_decide_eq_true (by first | (with_reducible assumption) | assumption))
            replace q9 := eq_true q9
            go_wp2_with (first | (go_at_call 64; (with_reducible refine (stowageref13_letter.calls (bt a0 0) t102 _ A10.out).mono ?_); rintro e w' ⟨rfl, ⟨nd, rfl⟩⟩))
            go_ret
            exact ⟨by first | rfl | (simp; done) | (simp [*]; done), by repeat (first | exact Drawn0.refl _ | apply Drawn0.step)⟩
          · rw [if_neg c8] at H
            exact absurd H (by simp)
        · rw [if_neg c7] at H
          have c7b0 : decide (0 < (a0.size : Int)) = false := decide_eq_false c7
          have c7b1 : decide (0 < a0.size) = false := decide_eq_false (by omega)
          clear c7
          obtain rfl := Option.some.inj H
          go_wp2
          go_ret
          exact ⟨by first | rfl | (simp; done) | (simp [*]; done), by repeat (first | exact Drawn0.refl _ | apply Drawn0.step)⟩

end Go.Proofs.YtkhjpobhdpcglaaDoor.X
end
section
namespace Go.Proofs.YtkhjpobhdpcglaaDoor.X
open Go.RowKit Go.Proofs.YtkhjpobhdpcglaaDoorW.PrintWords Go.Proofs.YtkhjpobhdpcglaaDoorW.PrintLast Go.Proofs.YtkhjpobhdpcglaaDoorW.PrintMore
attribute [local go_sem] max2_int min2_int max_two min_two max_three min_three max_four min_four
set_option linter.unusedVariables false
set_option linter.unusedSimpArgs false

/-! ### stowageref13_Escape: function 26 -/
def stowageref13_Escape.l0 : Nat → ByteArray → ByteArray → Int → Option (ByteArray)
  | 0, _, _, _ => none
  | k + 1, x0, x3, x4 => if x4 < (x0.size : Int) then (if 0 ≤ x4 then (if (bt x0 x4) = 38 then (if x3.size + 5 ≤ 9223372036854775807 then (stowageref13_Escape.l0 k x0 (x3 ++ (⟨#[38, 97, 109, 112, 59]⟩ : ByteArray)) (wrap64 (x4 + 1))) else (none)) else (if (bt x0 x4) = 60 then (if x3.size + 4 ≤ 9223372036854775807 then (stowageref13_Escape.l0 k x0 (x3 ++ (⟨#[38, 108, 116, 59]⟩ : ByteArray)) (wrap64 (x4 + 1))) else (none)) else (if (bt x0 x4) = 62 then (if x3.size + 4 ≤ 9223372036854775807 then (stowageref13_Escape.l0 k x0 (x3 ++ (⟨#[38, 103, 116, 59]⟩ : ByteArray)) (wrap64 (x4 + 1))) else (none)) else (if (bt x0 x4) = 34 then (if x3.size + 6 ≤ 9223372036854775807 then (stowageref13_Escape.l0 k x0 (x3 ++ (⟨#[38, 113, 117, 111, 116, 59]⟩ : ByteArray)) (wrap64 (x4 + 1))) else (none)) else (if (bt x0 x4) = 13 then (if x3.size + 5 ≤ 9223372036854775807 then (stowageref13_Escape.l0 k x0 (x3 ++ (⟨#[38, 35, 49, 51, 59]⟩ : ByteArray)) (wrap64 (x4 + 1))) else (none)) else (if x4 ≤ (wrap64 (x4 + 1)) then (if (wrap64 (x4 + 1)) ≤ (x0.size : Int) then (if x3.size + (x0.extract (x4 : Int).toNat ((wrap64 (x4 + 1)) : Int).toNat).size ≤ 9223372036854775807 then (stowageref13_Escape.l0 k x0 (x3 ++ (x0.extract (x4 : Int).toNat ((wrap64 (x4 + 1)) : Int).toNat)) (wrap64 (x4 + 1))) else (none)) else (none)) else (none))))))) else (none)) else (some x3)
def stowageref13_Escape.f (k : Nat) (a0 : ByteArray) : Option (ByteArray) := stowageref13_Escape.l0 k a0 (⟨#[]⟩ : ByteArray) 0
theorem stowageref13_Escape.mono_l : ∀ k, (∀ y0 y1 y2, LeO (stowageref13_Escape.l0 k y0 y1 y2) (stowageref13_Escape.l0 (k + 1) y0 y1 y2))
  | 0 => fun _ _ _ r h => by simp [stowageref13_Escape.l0] at h
  | k + 1 => by
    have ih0 := stowageref13_Escape.mono_l k
    · intro y0 y1 y2
      unfold stowageref13_Escape.l0
      repeat' first
      | (with_reducible exact ih0 _ _ _)
      | (with_reducible exact LeO.refl _)
      | (with_reducible exact LeO.none _)
      | (with_reducible refine LeO.ite ?_ ?_)
      | (with_reducible refine LeO.bind ?_ (fun _ => ?_))
      | exact ih0 _ _ _
      | exact LeO.none _
      | refine LeO.ite ?_ ?_
      | refine LeO.bind ?_ (fun _ => ?_)
theorem stowageref13_Escape.mono : ∀ a0 k, LeO (stowageref13_Escape.f k a0) (stowageref13_Escape.f (k + 1) a0) := by
  intro a0 k
  have ih0 := stowageref13_Escape.mono_l k
  unfold stowageref13_Escape.f
  repeat' first
      | (with_reducible exact ih0 _ _ _)
      | (with_reducible exact LeO.refl _)
      | (with_reducible exact LeO.none _)
      | (with_reducible refine LeO.ite ?_ ?_)
      | (with_reducible refine LeO.bind ?_ (fun _ => ?_))
      | exact ih0 _ _ _
      | exact LeO.none _
      | refine LeO.ite ?_ ?_
      | refine LeO.bind ?_ (fun _ => ?_)
set_option maxHeartbeats 8000000 in
set_option maxRecDepth 100000 in
theorem stowageref13_Escape.calls (k : Nat) (a0 : ByteArray) (r : ByteArray) (w : World) (h : stowageref13_Escape.f k a0 = some r) :
    Calls Tryd.prog 26 #[.string a0] w fun e w' => e = .returned (.string r) ∧ Drawn0 w w' := by
  have H : (stowageref13_Escape.l0 k a0 (⟨#[]⟩ : ByteArray) 0) = some r := h
  clear h
  have H' := Aside0.mk H
  clear H
  go_enter Tryd.func26, Tryd.ntmps26
  go_wp2
  go_loopg [3, 4] k (fun kq v3 v4 w' => ∃ (x3_1 : ByteArray) (x4_1 : Int), v3 = .string x3_1 ∧ v4 = .int .i64 x4_1 ∧ Aside0 (stowageref13_Escape.l0 kq a0 x3_1 x4_1 = some r) ∧ Aside0 (kq ≤ k) ∧ Drawn0 w w')
  case atStart => exact ⟨((⟨#[]⟩ : ByteArray)), (0), (by first | rfl | (simp; done) | (simp [*]; done)), (by first | rfl | (simp; done) | (simp [*]; done)), H', ⟨Nat.le_refl _⟩, by repeat (first | exact Drawn0.refl _ | apply Drawn0.step)⟩
  case round =>
    clear H'
    obtain ⟨x3_1, x4_1, rfl, rfl, HA, HK1, ⟨m1, rfl⟩⟩ := hrel
    cases gk with
    | zero => exact absurd HA.out (by simp [stowageref13_Escape.l0])
    | succ k1 =>
      have H := HA.out
      clear HA
      simp only [stowageref13_Escape.l0] at H
      by_cases c2 : x4_1 < (a0.size : Int)
      · rw [if_pos c2] at H
        have c2b0 : decide (x4_1 < (a0.size : Int)) = true := decide_eq_true c2
        clear c2
        by_cases c3 : 0 ≤ x4_1
        · rw [if_pos c3] at H
          have c3b0 : decide (0 ≤ x4_1) = true := decide_eq_true c3
          clear c3
          by_cases c5 : (bt a0 x4_1) = 38
          · rw [if_pos c5] at H
            have c5b0 : ((bt a0 x4_1) == 38) = true := beq_iff_eq.mpr c5
            have c5b1 : ((bt a0 x4_1) != 38) = false := bne_eq_false_iff_eq.mpr c5
            clear c5
            by_cases c6 : x3_1.size + 5 ≤ 9223372036854775807
            · rw [if_pos c6] at H
              have c6b0 := eq_true c6
              have c6b1 : decide (x3_1.size + 5 ≤ 9223372036854775807) = true := decide_eq_true c6
              try have c6b2 : (9223372036854775807 < x3_1.size + 5) = False := eq_false (Nat.not_lt.2 c6)
              have H' := Aside0.mk H
              clear H
              have p4 : 0 ≤ (x4_1 : Int) := of_decide_eq_true (by first | (with_reducible assumption) | assumption)
              have q4 : x4_1 < (a0.size : Int) := of_decide_eq_true (by first | (with_reducible assumption) | assumption)
              have hx4 := bt_at a0 x4_1
              replace p4 := eq_true p4
              replace q4 := eq_true q4
              go_wp2
              go_roundg k1
              case measure => have := HK1.out; omega
              case rel => exact ⟨(x3_1 ++ (⟨#[38, 97, 109, 112, 59]⟩ : ByteArray)), (wrap64 (x4_1 + 1)), (by first | rfl | (simp; done) | (simp [*]; done)), (by first | rfl | (simp; done) | (simp [*]; done)), H', ⟨by have := HK1.out; omega⟩, by repeat (first | exact Drawn0.refl _ | apply Drawn0.step)⟩
            · rw [if_neg c6] at H
              exact absurd H (by simp)
          · rw [if_neg c5] at H
            have c5b0 : ((bt a0 x4_1) == 38) = false := beq_eq_false_iff_ne.mpr c5
            have c5b1 : ((bt a0 x4_1) != 38) = true := bne_iff_ne.mpr c5
            by_cases c7 : (bt a0 x4_1) = 60
            · rw [if_pos c7] at H
              have c7b0 : ((bt a0 x4_1) == 60) = true := beq_iff_eq.mpr c7
              have c7b1 : ((bt a0 x4_1) != 60) = false := bne_eq_false_iff_eq.mpr c7
              clear c7
              by_cases c8 : x3_1.size + 4 ≤ 9223372036854775807
              · rw [if_pos c8] at H
                have c8b0 := eq_true c8
                have c8b1 : decide (x3_1.size + 4 ≤ 9223372036854775807) = true := decide_eq_true c8
                try have c8b2 : (9223372036854775807 < x3_1.size + 4) = False := eq_false (Nat.not_lt.2 c8)
                have H' := Aside0.mk H
                clear H
                have p4 : 0 ≤ (x4_1 : Int) := of_decide_eq_true (by first | (with_reducible assumption) | assumption)
                have q4 : x4_1 < (a0.size : Int) := of_decide_eq_true (by first | (with_reducible assumption) | assumption)
                have hx4 := bt_at a0 x4_1
                replace p4 := eq_true p4
                replace q4 := eq_true q4
                go_wp2
                go_roundg k1
                case measure => have := HK1.out; omega
                case rel => exact ⟨(x3_1 ++ (⟨#[38, 108, 116, 59]⟩ : ByteArray)), (wrap64 (x4_1 + 1)), (by first | rfl | (simp; done) | (simp [*]; done)), (by first | rfl | (simp; done) | (simp [*]; done)), H', ⟨by have := HK1.out; omega⟩, by repeat (first | exact Drawn0.refl _ | apply Drawn0.step)⟩
              · rw [if_neg c8] at H
                exact absurd H (by simp)
            · rw [if_neg c7] at H
              have c7b0 : ((bt a0 x4_1) == 60) = false := beq_eq_false_iff_ne.mpr c7
              have c7b1 : ((bt a0 x4_1) != 60) = true := bne_iff_ne.mpr c7
              by_cases c9 : (bt a0 x4_1) = 62
              · rw [if_pos c9] at H
                have c9b0 : ((bt a0 x4_1) == 62) = true := beq_iff_eq.mpr c9
                have c9b1 : ((bt a0 x4_1) != 62) = false := bne_eq_false_iff_eq.mpr c9
                clear c9
                by_cases c10 : x3_1.size + 4 ≤ 9223372036854775807
                · rw [if_pos c10] at H
                  have c10b0 := eq_true c10
                  have c10b1 : decide (x3_1.size + 4 ≤ 9223372036854775807) = true := decide_eq_true c10
                  try have c10b2 : (9223372036854775807 < x3_1.size + 4) = False := eq_false (Nat.not_lt.2 c10)
                  have H' := Aside0.mk H
                  clear H
                  have p4 : 0 ≤ (x4_1 : Int) := of_decide_eq_true (by first | (with_reducible assumption) | assumption)
                  have q4 : x4_1 < (a0.size : Int) := of_decide_eq_true (by first | (with_reducible assumption) | assumption)
                  have hx4 := bt_at a0 x4_1
                  replace p4 := eq_true p4
                  replace q4 := eq_true q4
                  go_wp2
                  go_roundg k1
                  case measure => have := HK1.out; omega
                  case rel => exact ⟨(x3_1 ++ (⟨#[38, 103, 116, 59]⟩ : ByteArray)), (wrap64 (x4_1 + 1)), (by first | rfl | (simp; done) | (simp [*]; done)), (by first | rfl | (simp; done) | (simp [*]; done)), H', ⟨by have := HK1.out; omega⟩, by repeat (first | exact Drawn0.refl _ | apply Drawn0.step)⟩
                · rw [if_neg c10] at H
                  exact absurd H (by simp)
              · rw [if_neg c9] at H
                have c9b0 : ((bt a0 x4_1) == 62) = false := beq_eq_false_iff_ne.mpr c9
                have c9b1 : ((bt a0 x4_1) != 62) = true := bne_iff_ne.mpr c9
                by_cases c11 : (bt a0 x4_1) = 34
                · rw [if_pos c11] at H
                  have c11b0 : ((bt a0 x4_1) == 34) = true := beq_iff_eq.mpr c11
                  have c11b1 : ((bt a0 x4_1) != 34) = false := bne_eq_false_iff_eq.mpr c11
                  clear c11
                  by_cases c12 : x3_1.size + 6 ≤ 9223372036854775807
                  · rw [if_pos c12] at H
                    have c12b0 := eq_true c12
                    have c12b1 : decide (x3_1.size + 6 ≤ 9223372036854775807) = true := decide_eq_true c12
                    try have c12b2 : (9223372036854775807 < x3_1.size + 6) = False := eq_false (Nat.not_lt.2 c12)
                    have H' := Aside0.mk H
                    clear H
                    have p4 : 0 ≤ (x4_1 : Int) := of_decide_eq_true (by first | (with_reducible assumption) | assumption)
                    have q4 : x4_1 < (a0.size : Int) := of_decide_eq_true (by first | (with_reducible assumption) | assumption)
                    have hx4 := bt_at a0 x4_1
                    replace p4 := eq_true p4
                    replace q4 := eq_true q4
                    go_wp2
                    go_roundg k1
                    case measure => have := HK1.out; omega
                    case rel => exact ⟨(x3_1 ++ (⟨#[38, 113, 117, 111, 116, 59]⟩ : ByteArray)), (wrap64 (x4_1 + 1)), (by first | rfl | (simp; done) | (simp [*]; done)), (by first | rfl | (simp; done) | (simp [*]; done)), H', ⟨by have := HK1.out; omega⟩, by repeat (first | exact Drawn0.refl _ | apply Drawn0.step)⟩
                  · rw [if_neg c12] at H
                    exact absurd H (by simp)
                · rw [if_neg c11] at H
                  have c11b0 : ((bt a0 x4_1) == 34) = false := beq_eq_false_iff_ne.mpr c11
                  have c11b1 : ((bt a0 x4_1) != 34) = true := bne_iff_ne.mpr c11
                  by_cases c13 : (bt a0 x4_1) = 13
                  · rw [if_pos c13] at H
                    have c13b0 : ((bt a0 x4_1) == 13) = true := beq_iff_eq.mpr c13
                    have c13b1 : ((bt a0 x4_1) != 13) = false := bne_eq_false_iff_eq.mpr c13
                    clear c13
                    by_cases c14 : x3_1.size + 5 ≤ 9223372036854775807
                    · rw [if_pos c14] at H
                      have c14b0 := eq_true c14
                      have c14b1 : decide (x3_1.size + 5 ≤ 9223372036854775807) = true := decide_eq_true c14
                      try have c14b2 : (9223372036854775807 < x3_1.size + 5) = False := eq_false (Nat.not_lt.2 c14)
                      have H' := Aside0.mk H
                      clear H
                      have p4 : 0 ≤ (x4_1 : Int) := of_decide_eq_true (by first | (with_reducible assumption) | assumption)
                      have q4 : x4_1 < (a0.size : Int) := of_decide_eq_true (by first | (with_reducible assumption) | assumption)
                      have hx4 := bt_at a0 x4_1
                      replace p4 := eq_true p4
                      replace q4 := eq_true q4
                      go_wp2
                      go_roundg k1
                      case measure => have := HK1.out; omega
                      case rel => exact ⟨(x3_1 ++ (⟨#[38, 35, 49, 51, 59]⟩ : ByteArray)), (wrap64 (x4_1 + 1)), (by first | rfl | (simp; done) | (simp [*]; done)), (by first | rfl | (simp; done) | (simp [*]; done)), H', ⟨by have := HK1.out; omega⟩, by repeat (first | exact Drawn0.refl _ | apply Drawn0.step)⟩
                    · rw [if_neg c14] at H
                      exact absurd H (by simp)
                  · rw [if_neg c13] at H
                    have c13b0 : ((bt a0 x4_1) == 13) = false := beq_eq_false_iff_ne.mpr c13
                    have c13b1 : ((bt a0 x4_1) != 13) = true := bne_iff_ne.mpr c13
                    have c15b0 := eq_true (of_decide_eq_true (by first | (with_reducible assumption) | assumption) : 0 ≤ x4_1)
                    by_cases c16 : x4_1 ≤ (wrap64 (x4_1 + 1))
                    · rw [if_pos c16] at H
                      have c16b0 := eq_true c16
                      have c16b1 : decide (x4_1 ≤ (wrap64 (x4_1 + 1))) = true := decide_eq_true c16
                      by_cases c17 : (wrap64 (x4_1 + 1)) ≤ (a0.size : Int)
                      · rw [if_pos c17] at H
                        have c17b0 := eq_true c17
                        have c17b1 : decide ((wrap64 (x4_1 + 1)) ≤ (a0.size : Int)) = true := decide_eq_true c17
                        by_cases c18 : x3_1.size + (a0.extract (x4_1 : Int).toNat ((wrap64 (x4_1 + 1)) : Int).toNat).size ≤ 9223372036854775807
                        · rw [if_pos c18] at H
                          have c18b0 := eq_true c18
                          have c18b1 : decide (x3_1.size + (a0.extract (x4_1 : Int).toNat ((wrap64 (x4_1 + 1)) : Int).toNat).size ≤ 9223372036854775807) = true := decide_eq_true c18
                          try have c18b2 : (9223372036854775807 < x3_1.size + (a0.extract (x4_1 : Int).toNat ((wrap64 (x4_1 + 1)) : Int).toNat).size) = False := eq_false (Nat.not_lt.2 c18)
                          have H' := Aside0.mk H
                          clear H
                          have p4 : 0 ≤ (x4_1 : Int) := of_decide_eq_true (by first | (with_reducible assumption) | assumption)
                          have q4 : x4_1 < (a0.size : Int) := of_decide_eq_true (by first | (with_reducible assumption) | assumption)
                          have hx4 := bt_at a0 x4_1
                          replace p4 := eq_true p4
                          replace q4 := eq_true q4
                          go_wp2
                          go_roundg k1
                          case measure => have := HK1.out; omega
                          case rel => exact ⟨(x3_1 ++ (a0.extract (x4_1 : Int).toNat ((wrap64 (x4_1 + 1)) : Int).toNat)), (wrap64 (x4_1 + 1)), (by first | rfl | (simp; done) | (simp [*]; done)), (by first | rfl | (simp; done) | (simp [*]; done)), H', ⟨by have := HK1.out; omega⟩, by repeat (first | exact Drawn0.refl _ | apply Drawn0.step)⟩
                        · rw [if_neg c18] at H
                          exact absurd H (by simp)
                      · rw [if_neg c17] at H
                        exact absurd H (by simp)
                    · rw [if_neg c16] at H
                      exact absurd H (by simp)
        · rw [if_neg c3] at H
          exact absurd H (by simp)
      · rw [if_neg c2] at H
        have c2b0 : decide (x4_1 < (a0.size : Int)) = false := decide_eq_false c2
        clear c2
        obtain rfl := Option.some.inj H
        go_wp2
        go_ret
        exact ⟨by first | rfl | (simp; done) | (simp [*]; done), by repeat (first | exact Drawn0.refl _ | apply Drawn0.step)⟩

end Go.Proofs.YtkhjpobhdpcglaaDoor.X
end
