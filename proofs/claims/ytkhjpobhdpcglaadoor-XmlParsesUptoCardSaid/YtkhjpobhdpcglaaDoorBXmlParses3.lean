/- XmlParses: part 3 of what its proof leans on. -/
import Derived.Deep.RegionHeld3
import Derived.ScopeJumps
import Derived.WalkMore
import Derived.Laws.ResultCell
import Derived.Laws.Rows
import Derived.Lib.IndexMore
import Derived.Test.YtkhjpobhdpcglaaDoorBXmlParses1
import Derived.Test.YtkhjpobhdpcglaaDoorBXmlParses2
set_option linter.unusedVariables false
set_option linter.unusedSimpArgs false
section
namespace Go.Proofs.YtkhjpobhdpcglaaDoor.X
open Go.RowKit Go.Proofs.YtkhjpobhdpcglaaDoorW.PrintWords Go.Proofs.YtkhjpobhdpcglaaDoorW.PrintLast Go.Proofs.YtkhjpobhdpcglaaDoorW.PrintMore
def ContOk (s : ByteArray) (d : Nat) : Prop := ∀ (w0 w : World) (g gn i : Nat) (nm : ByteArray), Rd w0 w g s i → GOK w → 0 < w0.heap.size → w0.heap.size ≤ gn → gn ≠ g → w.heap[gn]? = some (.cells #[.string nm, .string ⟨#[]⟩, .slice none 0 0] 36 (0, 0)) →
      Calls Tryd.prog 95 #[.pointer (some ⟨g, 0, none⟩), .pointer (some ⟨gn, 0, none⟩), .int .i64 (16 - (d : Int))] w (ContPost w0 w g gn s nm (contV (elemV s d) s i))
theorem Rd.alloc {w0 w : World} {g : Nat} {s : ByteArray} {i : Nat} (h : Rd w0 w g s i) (o : Obj) : Rd w0 (w.alloc o) g s i := h.stays (below_alloc (Below.refl w.heap.size w) o)
theorem GOK.keep {w w' : World} {g : Nat} {row : Option Nat} (h : GOK w) (hk : KeepBut w w' g row) (hg : g ≠ 0) (hr : row ≠ some 0) : GOK w' := by
  obtain ⟨m, hm⟩ := h
  have h0 : w'.heap[0]? = w.heap[0]? := hk.2 0 (World.block_lt_of_cell? w _ hm) (fun e => hg e.symm) (fun e => hr e.symm)
  exact ⟨m, by simp only [World.cell?] at hm ⊢; rw [h0]; exact hm⟩
theorem elem_results {T : Array Value} {w : World} {gn : Nat} {x y z : Value} {b : Bool} (h4 : T.getD 4 undef = .pointer (some ⟨gn, 0, none⟩)) (h5 : T.getD 5 undef = .bool b) (hb : w.heap[gn]? = some (.cells #[x, y, z] 36 (0, 0))) :
    (results Tryd.f49 T).run Tryd.prog w = .ok (.tuple #[.agg #[x, y, z], .bool b]) w := by
  rw [results_cell_tmp (p := 4) (u := 5) (ty := 36) rfl, h4, h5]
  have h := run_loadVar_row (P := Tryd.prog) w gn 36 36 #[x, y, z] (0, 0) _ hb Tryd.underlying36 rfl (by kernel_rfl)
  simp [asAddr, h, Result.andThen]
theorem blk_set3 {w : World} {g t : Nat} {a b c a' b' c' : Value} (h : w.heap[g]? = some (.cells #[a, b, c] t (0, 0))) :
    (((w.setCell ⟨g, 0, none⟩ a').setCell ⟨g, 1, none⟩ b').setCell ⟨g, 2, none⟩ c').heap[g]? = some (.cells #[a', b', c'] t (0, 0)) := blk_put (blk_put (blk_put h 0 a' rfl) 1 b' rfl) 2 c' rfl
def ElemJ (w0 w : World) (g gn : Nat) (s : ByteArray) (o : Option (S36 × Nat)) (a' : Act) (w' : World) : Prop :=
  (∃ u0 u1 u2 u3 u5 u6 u7 u8 u9 u10 u11 u12 u13 u14 u15 u16 u17 u18 u19 u20 u21 u22 u23 u24 u25 u26 u27 u28 u29 u30 u31 u32 u33 u34 u35 u36 u37 u38 u39 u40 u41 u42 u43 u44 u45 u46 u47 u48 u49 u50 u51 u52 u53 u54 u55 u56 u57 u58 u59 u60 u61 u62 u63 u64 u65 u66 u67 u68 u69 u70 u71 u72 u73 u74 u75 u76 u77 u78 u79 u80 u81 : Value, a' = { tmps := #[u0, u1, u2, u3, .pointer (some ⟨gn, 0, none⟩), u5, u6, u7, u8, u9, u10, u11, u12, u13, u14, u15, u16, u17, u18, u19, u20, u21, u22, u23, u24, u25, u26, u27, u28, u29, u30, u31, u32, u33, u34, u35, u36, u37, u38, u39, u40, u41, u42, u43, u44, u45, u46, u47, u48, u49, u50, u51, u52, u53, u54, u55, u56, u57, u58, u59, u60, u61, u62, u63, u64, u65, u66, u67, u68, u69, u70, u71, u72, u73, u74, u75, u76, u77, u78, u79, u80, u81], defers := [] }) ∧ (∃ j, Rd w0 w' g s j) ∧ KeepBut w w' g none ∧ (∃ x y z, w'.heap[gn]? = some (.cells #[x, y, z] 36 (0, 0))) ∧ o = none
theorem ElemJ.mk {w0 w : World} {g gn : Nat} {s : ByteArray} {o : Option (S36 × Nat)} {w' : World} {u0 u1 u2 u3 u5 u6 u7 u8 u9 u10 u11 u12 u13 u14 u15 u16 u17 u18 u19 u20 u21 u22 u23 u24 u25 u26 u27 u28 u29 u30 u31 u32 u33 u34 u35 u36 u37 u38 u39 u40 u41 u42 u43 u44 u45 u46 u47 u48 u49 u50 u51 u52 u53 u54 u55 u56 u57 u58 u59 u60 u61 u62 u63 u64 u65 u66 u67 u68 u69 u70 u71 u72 u73 u74 u75 u76 u77 u78 u79 u80 u81 : Value} {j : Nat} {x y z : Value} (h : Rd w0 w' g s j) (hk : KeepBut w w' g none) (hb : w'.heap[gn]? = some (.cells #[x, y, z] 36 (0, 0))) (ho : o = none) :
    ElemJ w0 w g gn s o { tmps := #[u0, u1, u2, u3, .pointer (some ⟨gn, 0, none⟩), u5, u6, u7, u8, u9, u10, u11, u12, u13, u14, u15, u16, u17, u18, u19, u20, u21, u22, u23, u24, u25, u26, u27, u28, u29, u30, u31, u32, u33, u34, u35, u36, u37, u38, u39, u40, u41, u42, u43, u44, u45, u46, u47, u48, u49, u50, u51, u52, u53, u54, u55, u56, u57, u58, u59, u60, u61, u62, u63, u64, u65, u66, u67, u68, u69, u70, u71, u72, u73, u74, u75, u76, u77, u78, u79, u80, u81], defers := [] } w' := ⟨⟨u0, u1, u2, u3, u5, u6, u7, u8, u9, u10, u11, u12, u13, u14, u15, u16, u17, u18, u19, u20, u21, u22, u23, u24, u25, u26, u27, u28, u29, u30, u31, u32, u33, u34, u35, u36, u37, u38, u39, u40, u41, u42, u43, u44, u45, u46, u47, u48, u49, u50, u51, u52, u53, u54, u55, u56, u57, u58, u59, u60, u61, u62, u63, u64, u65, u66, u67, u68, u69, u70, u71, u72, u73, u74, u75, u76, u77, u78, u79, u80, u81, rfl⟩, ⟨j, h⟩, hk, ⟨x, y, z, hb⟩, ho⟩
def ElemM (w0 w : World) (g gn d : Nat) (s nm : ByteArray) (k : Nat) (a' : Act) (w' : World) : Prop :=
  (∃ u2 u3 u5 u6 u7 u8 u9 u10 u11 u12 u13 u14 u15 u16 u17 u18 u19 u20 u21 u22 u23 u24 u25 u26 u27 u28 u29 u30 u31 u32 u33 u34 u35 u36 u37 u38 u39 u40 u41 u42 u43 u44 u45 u46 u47 u48 u49 u50 u51 u52 u53 u54 u55 u56 u57 u58 u59 u60 u61 u62 u63 u64 u65 u66 u67 u68 u69 u70 u71 u72 u73 u74 u75 u76 u77 u78 u79 u80 u81 : Value, a' = { tmps := #[.pointer (some ⟨g, 0, none⟩), .int .i64 (16 - (d : Int)), u2, u3, .pointer (some ⟨gn, 0, none⟩), u5, u6, u7, u8, u9, u10, u11, u12, u13, u14, u15, u16, u17, u18, u19, u20, u21, u22, u23, u24, u25, u26, u27, u28, u29, u30, u31, u32, u33, u34, u35, u36, u37, u38, u39, u40, u41, u42, u43, u44, u45, u46, u47, u48, u49, u50, u51, u52, u53, u54, u55, u56, u57, u58, u59, u60, u61, u62, u63, u64, u65, u66, u67, u68, u69, u70, u71, u72, u73, u74, u75, u76, u77, u78, u79, u80, u81], defers := [] }) ∧ Rd w0 w' g s k ∧ KeepBut w w' g none ∧ w'.heap[gn]? = some (.cells #[.string nm, .string ⟨#[]⟩, .slice none 0 0] 36 (0, 0))
theorem ElemM.mk {w0 w : World} {g gn d : Nat} {s nm : ByteArray} {k : Nat} {w' : World} {u2 u3 u5 u6 u7 u8 u9 u10 u11 u12 u13 u14 u15 u16 u17 u18 u19 u20 u21 u22 u23 u24 u25 u26 u27 u28 u29 u30 u31 u32 u33 u34 u35 u36 u37 u38 u39 u40 u41 u42 u43 u44 u45 u46 u47 u48 u49 u50 u51 u52 u53 u54 u55 u56 u57 u58 u59 u60 u61 u62 u63 u64 u65 u66 u67 u68 u69 u70 u71 u72 u73 u74 u75 u76 u77 u78 u79 u80 u81 : Value} (h : Rd w0 w' g s k) (hk : KeepBut w w' g none) (hb : w'.heap[gn]? = some (.cells #[.string nm, .string ⟨#[]⟩, .slice none 0 0] 36 (0, 0))) :
    ElemM w0 w g gn d s nm k { tmps := #[.pointer (some ⟨g, 0, none⟩), .int .i64 (16 - (d : Int)), u2, u3, .pointer (some ⟨gn, 0, none⟩), u5, u6, u7, u8, u9, u10, u11, u12, u13, u14, u15, u16, u17, u18, u19, u20, u21, u22, u23, u24, u25, u26, u27, u28, u29, u30, u31, u32, u33, u34, u35, u36, u37, u38, u39, u40, u41, u42, u43, u44, u45, u46, u47, u48, u49, u50, u51, u52, u53, u54, u55, u56, u57, u58, u59, u60, u61, u62, u63, u64, u65, u66, u67, u68, u69, u70, u71, u72, u73, u74, u75, u76, u77, u78, u79, u80, u81], defers := [] } w' := ⟨⟨u2, u3, u5, u6, u7, u8, u9, u10, u11, u12, u13, u14, u15, u16, u17, u18, u19, u20, u21, u22, u23, u24, u25, u26, u27, u28, u29, u30, u31, u32, u33, u34, u35, u36, u37, u38, u39, u40, u41, u42, u43, u44, u45, u46, u47, u48, u49, u50, u51, u52, u53, u54, u55, u56, u57, u58, u59, u60, u61, u62, u63, u64, u65, u66, u67, u68, u69, u70, u71, u72, u73, u74, u75, u76, u77, u78, u79, u80, u81, rfl⟩, h, hk, hb⟩
theorem Wr.keep {w w1 : World} {b g : Nat} {A : Option Addr} (h : Wr w b A) (hk : KeepBut w w1 g Option.none) (hg : g < b) : Wr w1 b A := fun ad ha => by
  obtain ⟨g', cells, rfl, hb, hc⟩ := h ad ha
  exact ⟨g', cells, rfl, hb, hk.blk hc (by omega) (by simp)⟩
theorem Wr.far {w : World} {b : Nat} {A : Option Addr} (h : Wr w b A) {p : Addr} (hp : p.block < b) (u : Value) : Wr (w.setCell p u) b A := fun ad ha => by
  obtain ⟨g', cells, rfl, hb, hc⟩ := h ad ha
  exact ⟨g', cells, rfl, hb, (Below.heap_setCell w p u g' (by omega)).trans hc⟩
theorem Wr.lower {w : World} {b b' : Nat} {A : Option Addr} (h : Wr w b A) (hb' : b' ≤ b) : Wr w b' A := fun ad ha => by
  obtain ⟨g', cells, rfl, hb, hc⟩ := h ad ha
  exact ⟨g', cells, rfl, by omega, hc⟩
theorem ba_inj {a b : ByteArray} (h : a.toList = b.toList) : a = b := by
  rw [ByteArray.toList_eq, ByteArray.toList_eq] at h
  obtain ⟨⟨a⟩⟩ := a
  obtain ⟨⟨b⟩⟩ := b
  simpa using h
theorem HasPrefix_calls (s : ByteArray) (j : Nat) (t : ByteArray) (hs : s.size ≤ 1073741824) (ht : t.size ≤ 1024) (w : World) :
    Calls Tryd.prog 89 #[.string (s.extract j s.size), .string t] w fun e w' => e = .returned (.bool (hasP s j t)) ∧ Drawn0 w w' := by
  refine q4_.calls _ _ _ w ?_
  have hsz : (s.extract j s.size).size = s.size - j := by simp
  rw [hasPrefix_f _ _ (by omega) (by omega), hsz]
  rfl
set_option maxHeartbeats 4000000 in
set_option maxRecDepth 1000000 in
theorem element_step {d : Nat} {s : ByteArray} (hc : ContOk s d) (hd16 : d < 16)
    {w0 w : World} {g i : Nat} (h : Rd w0 w g s i) (hg : GOK w) (h0 : 0 < w0.heap.size) :
    Calls Tryd.prog 49 #[.pointer (some ⟨g, 0, none⟩), .int .i64 (16 - (d : Int))] w (ElemPost w0 w g s (elemV s (d + 1) i)) := by
  have HC := Aside0.mk hc
  have hsm := h.small
  have hlt := h.lt
  have hge := h.ge
  obtain ⟨gn, hgn⟩ : ∃ gn, gn = w.heap.size := ⟨_, rfl⟩
  have hgg : gn ≠ g := by omega
  obtain ⟨W0, hW0⟩ : ∃ W0, W0 = w.alloc (.cells #[.string ⟨#[]⟩, .string ⟨#[]⟩, .slice none 0 0] 36 (0, 0)) := ⟨_, rfl⟩
  have HR : Aside0 (Rd w0 W0 g s i) := ⟨by rw [hW0]; exact h.alloc _⟩
  have HK : Aside0 (KeepBut w W0 g none) := ⟨by rw [hW0]; exact keep_alloc (KeepBut.refl w g none) _⟩
  have HB : Aside0 (W0.heap[gn]? = some (.cells #[.string ⟨#[]⟩, .string ⟨#[]⟩, .slice none 0 0] 36 (0, 0))) := ⟨by rw [hW0, hgn]; exact heap_alloc_new w _⟩
  have HG2 : Aside0 (GOK w) := ⟨hg⟩
  have hq16 : decide ((16 : Int) < 16 - (d : Int)) = false := decide_eq_false (by omega)
  clear h hc hg
  go_enter Tryd.func49, Tryd.ntmps49
  go_wp2_with fail
  rw [← hW0, ← hgn]
  have hgw : w.heap.size ≤ gn := by omega
  have hgw0 : w0.heap.size ≤ gn := by have := hge; omega
  have hu36 := Tryd.underlying36
  clear hW0 hgn
  refine wp_scope_jumps 0 (ElemJ w0 w g gn s (elemV s (d + 1) i)) (fun _ _ => 0) rfl ?_ ?_
  case refine_2 =>
    rintro a' w' ⟨⟨u0, u1, u2, u3, u5, u6, u7, u8, u9, u10, u11, u12, u13, u14, u15, u16, u17, u18, u19, u20, u21, u22, u23, u24, u25, u26, u27, u28, u29, u30, u31, u32, u33, u34, u35, u36, u37, u38, u39, u40, u41, u42, u43, u44, u45, u46, u47, u48, u49, u50, u51, u52, u53, u54, u55, u56, u57, u58, u59, u60, u61, u62, u63, u64, u65, u66, u67, u68, u69, u70, u71, u72, u73, u74, u75, u76, u77, u78, u79, u80, u81, rfl⟩, ⟨j, hj⟩, hk, ⟨x, y, z, hb⟩, ho⟩
    have cz0 := blk_cell hb 0
    have cz1 := blk_cell hb 1
    have cz2 := blk_cell hb 2
    have fz0 := blk_frozen hb 0
    have fz1 := blk_frozen hb 1
    have fz2 := blk_frozen hb 2
    have HB := Aside0.mk hb
    clear hb
    go_wp2
    simp only [Exit.jump]
    exact bodyPost_ret (elem_results rfl rfl (x := .string ⟨#[]⟩) (y := .string ⟨#[]⟩) (z := .slice none 0 0) (blk_set3 HB.out)) rfl (ElemPost.no (j := j) ho (((hj.far (p := ⟨gn, 0, none⟩) hgg hgw0 _).far (p := ⟨gn, 1, none⟩) hgg hgw0 _).far (p := ⟨gn, 2, none⟩) hgg hgw0 _) (keep_far (keep_far (keep_far hk (p := ⟨gn, 0, none⟩) hgw _) (p := ⟨gn, 1, none⟩) hgw _) (p := ⟨gn, 2, none⟩) hgw _))
  case refine_1 =>
    go_wp2_with fail
    refine (eat_calls HR.out ⟨#[60]⟩ (by decide)).mono ?_
    rintro e w1 ⟨rfl, h1, hk1⟩
    have hK1 := HK.out.trans hk1 (.inl rfl)
    have hB1 := hk1.blk HB.out hgg (by simp)
    clear hk1
    cases hq1 : hasP s i ⟨#[60]⟩ with
    | false =>
      go_wp2_with fail
      apply wp_goto
      exact ⟨rfl, ElemJ.mk h1 hK1 hB1 (by unfold elemV; rw [if_neg (by rw [hq1]; decide)])⟩
    | true =>
      rw [if_pos hq1] at h1
      go_wp2_with fail
      refine (name_calls (show Rd w0 w1 g s (i + 1) from h1)).mono ?_
      rintro e w2 ⟨rfl, h2, hk2⟩
      have hK2 := hK1.trans hk2 (.inl rfl)
      have hB2 := hk2.blk hB1 hgg (by simp)
      clear hk2 hK1 hB1 h1
      have cz0 := blk_cell hB2 0
      have fz0 := blk_frozen hB2 0
      obtain ⟨nm, hnm⟩ : ∃ nm, nm = s.extract (i + 1) (skip innerV s (i + 1)) := ⟨_, rfl⟩
      rw [← hnm]
      have hE1 : elemV s (d + 1) i = (if nameV nm = true then atV (elemV s d) s nm (skip innerV s (i + 1)) else none) := by
        rw [elemV, if_pos hq1, hnm]
      have HE1 := Aside0.mk hE1
      have hnml : nm.size ≤ 4611686018427387904 := by rw [hnm]; exact ex_le _ _ _ hsm
      obtain ⟨j0, hj0⟩ : ∃ j0, j0 = skip innerV s (i + 1) := ⟨_, rfl⟩
      rw [← hj0] at hE1 h2
      have HE2 := Aside0.mk hE1
      have H2 := Aside0.mk h2
      have HK2 := Aside0.mk hK2
      have HB2 := Aside0.mk hB2
      clear hE1 HE1 hnm hj0 h2 hK2 hB2 hq1 HK HB HR
      go_wp2_with fail
      refine (Name_calls nm hnml _).mono ?_
      rintro e w3 ⟨rfl, ⟨n3, rfl⟩⟩
      have H3 : Aside0 (Rd w0 ((w2.setCell ⟨gn, 0, none⟩ (.string nm)).drewN n3) g s j0) := ⟨(H2.out.far (p := ⟨gn, 0, none⟩) hgg hgw0 _).drewN n3⟩
      have HK3 : Aside0 (KeepBut w ((w2.setCell ⟨gn, 0, none⟩ (.string nm)).drewN n3) g none) := ⟨keep_drewN (keep_far HK2.out (p := ⟨gn, 0, none⟩) hgw _) n3⟩
      have HB3 : Aside0 (((w2.setCell ⟨gn, 0, none⟩ (.string nm)).drewN n3).heap[gn]? = some (.cells #[.string nm, .string ⟨#[]⟩, .slice none 0 0] 36 (0, 0))) := ⟨blk_drewN (blk_put HB2.out 0 (.string nm) rfl) n3⟩
      clear cz0 fz0
      obtain ⟨w3, hw3⟩ : ∃ w3, w3 = (w2.setCell ⟨gn, 0, none⟩ (.string nm)).drewN n3 := ⟨_, rfl⟩
      rw [← hw3] at H3 HK3 HB3 ⊢
      clear hw3 H2 HK2 HB2
      cases hq2 : nameV nm with
      | false =>
        go_wp2_with fail
        apply wp_goto
        exact ⟨rfl, ElemJ.mk H3.out HK3.out HB3.out (by rw [HE2.out, hq2]; rfl)⟩
      | true =>
        have hE3 : elemV s (d + 1) i = atV (elemV s d) s nm j0 := by rw [HE2.out, if_pos hq2]
        have HE3 := Aside0.mk hE3
        clear hE3 HE2 hnml
        go_wp2_with fail
        rename_i Kl hKl
        have hM : ∀ (k : Nat) (a' : Act) (w' : World), attrsV (s.size + 1) s j0 = some k → ElemM w0 w g gn d s nm k a' w' → Kl a' w' := by
          intro k a' w' hat hM
          refine hKl a' w' ?_
          clear hKl Kl H3 HK3 HB3
          obtain ⟨⟨u2, u3, u5, u6, u7, u8, u9, u10, u11, u12, u13, u14, u15, u16, u17, u18, u19, u20, u21, u22, u23, u24, u25, u26, u27, u28, u29, u30, u31, u32, u33, u34, u35, u36, u37, u38, u39, u40, u41, u42, u43, u44, u45, u46, u47, u48, u49, u50, u51, u52, u53, u54, u55, u56, u57, u58, u59, u60, u61, u62, u63, u64, u65, u66, u67, u68, u69, u70, u71, u72, u73, u74, u75, u76, u77, u78, u79, u80, u81, rfl⟩, h4, hk4, hb4⟩ := hM
          have HE4 : Aside0 (elemV s (d + 1) i = restV (elemV s d) s nm k) := ⟨by rw [HE3.out]; unfold atV; rw [hat]⟩
          clear HE3 hat
          go_wp2_with fail
          refine (eat_calls h4 ⟨#[47, 62]⟩ (by decide)).mono ?_
          rintro e w7 ⟨rfl, h7, hk7⟩
          have hK7 := hk4.trans hk7 (.inl rfl)
          have hB7 := hk7.blk hb4 hgg (by simp)
          have HB7 := Aside0.mk hB7
          have HK7 := Aside0.mk hK7
          clear hk7 hk4 hb4 h4 hK7
          have cz0 := blk_cell hB7 0
          have cz1 := blk_cell hB7 1
          have cz2 := blk_cell hB7 2
          have fz0 := blk_frozen hB7 0
          have fz1 := blk_frozen hB7 1
          have fz2 := blk_frozen hB7 2
          clear hB7
          cases hq3 : hasP s k ⟨#[47, 62]⟩ with
          | true =>
            rw [if_pos hq3] at h7
            have HE5 : Aside0 (elemV s (d + 1) i = some (⟨nm, ⟨#[]⟩, []⟩, k + 2)) := ⟨by rw [HE4.out]; unfold restV; rw [if_pos hq3]⟩
            have H7 := Aside0.mk h7
            clear HE4 hq3 h7
            go_wp2
            simp only [Exit.jump]
            exact bodyPost_ret (elem_results rfl rfl (blk_set3 HB7.out)) rfl ⟨⟨nm, ⟨#[]⟩, []⟩, none, 0, true, k + 2, rfl, Nat.le_refl _, fun W _ => Kd.C_nil _ _, Wr.none _ _, (((H7.out.far (p := ⟨gn, 0, none⟩) hgg hgw0 _).far (p := ⟨gn, 1, none⟩) hgg hgw0 _).far (p := ⟨gn, 2, none⟩) hgg hgw0 _), (keep_far (keep_far (keep_far HK7.out (p := ⟨gn, 0, none⟩) hgw _) (p := ⟨gn, 1, none⟩) hgw _) (p := ⟨gn, 2, none⟩) hgw _), by rw [HE5.out]; exact ⟨rfl, rfl, rfl⟩⟩
          | false =>
            rw [if_neg (by rw [hq3]; decide)] at h7
            have HE5 : Aside0 (elemV s (d + 1) i = (if hasP s k ⟨#[62]⟩ = true then (match contV (elemV s d) s (k + 1) with | some (t, kids, m) => endV s nm t kids m | none => none) else none)) := ⟨by rw [HE4.out]; unfold restV; rw [if_neg (by rw [hq3]; decide)]; first | done | rfl⟩
            have H7 := Aside0.mk h7
            clear HE4 hq3 h7
            go_wp2_with fail
            cases hq4 : hasP s k ⟨#[62]⟩ with
            | false =>
              refine start_ (n := 21) (S := fun w_ => w_.cell? ⟨gn, 0, none⟩ = some (.string nm)) (ds := []) #[false, false, false, false, false, false, false, false, false, false, false, false, false, false, false, false, false, false, false, false, false] (by kernel_rfl) rfl rfl ((blk_cell HB7.out 0).trans rfl) (fun hHeld => ?_)
              refine pure_ (i := 0) (N := (some 54)) (v := ?_) (a' := ?_) #[true, false, false, false, false, false, false, false, false, false, false, false, false, false, false, false, false, false, false, false, false] rfl rfl (by kernel_rfl) (fun _ _ _ h => h) (Or.inl ⟨by kernel_rfl, ?_⟩) ?_ ?_
              rotate_left
              · intro w_
                go_simp
                with_reducible rfl
              rotate_left
              · simp only [Act.put, List.setIfInBounds_toArray, List.set_cons_zero, List.set_cons_succ]
                rfl
              refine one_ (i := 1) (N := (some 55)) #[true, true, false, false, false, false, false, false, false, false, false, false, false, false, false, false, false, false, false, false, false] rfl rfl (by kernel_rfl) (by decide) (fun K hK => ?_)
              refine goes_ Tryd.func92 (by kernel_rfl) rfl #[.pointer (some ⟨g, 0, none⟩), .string ⟨#[62]⟩] (by kernel_rfl) rfl rfl (by kernel_rfl) ?_
              refine (eat_calls (H7.out.drewN 1) ⟨#[62]⟩ (by decide)).mono ?_
              rintro e w8 ⟨rfl, h8, hk8⟩
              rw [hq4]
              have HB8 := Aside0.mk (hk8.blk HB7.out hgg (by simp))
              have HK8 := Aside0.mk ((keep_drewN HK7.out 1).trans hk8 (.inl rfl))
              rw [if_neg (by rw [hq4]; decide)] at h8
              refine ⟨_, rfl, ?_⟩
              refine hK.out _ _ ((blk_cell HB8.out 0).trans rfl) (fun hHeld => ?_)
              clear hK K
              refine norm_ (a' := ?_) ?_ ?_
              rotate_left
              · show Act.put _ (some 55) _ = _
                simp only [Act.put, List.setIfInBounds_toArray, List.set_cons_zero, List.set_cons_succ]
                rfl
              refine pure_ (i := 2) (N := (some 56)) (v := ?_) (a' := ?_) #[true, true, true, false, false, false, false, false, false, false, false, false, false, false, false, false, false, false, false, false, false] rfl rfl (by kernel_rfl) (fun _ _ _ h => h) (Or.inl ⟨by kernel_rfl, ?_⟩) ?_ ?_
              rotate_left
              · intro w_
                go_simp
                with_reducible rfl
              rotate_left
              · simp only [Act.put, List.setIfInBounds_toArray, List.set_cons_zero, List.set_cons_succ]
                rfl
              refine pure_ (i := 3) (N := (some 57)) (v := ?_) (a' := ?_) #[true, true, true, true, false, false, false, false, false, false, false, false, false, false, false, false, false, false, false, false, false] rfl rfl (by kernel_rfl) (fun _ _ _ h => h) (Or.inl ⟨by kernel_rfl, ?_⟩) ?_ ?_
              rotate_left
              · intro w_
                go_simp
                with_reducible rfl
              rotate_left
              · simp only [Act.put, List.setIfInBounds_toArray, List.set_cons_zero, List.set_cons_succ]
                rfl
              refine pure_ (i := 4) (N := (some 58)) (v := undef) (a' := ?_) #[true, true, true, true, true, false, false, false, false, false, false, false, false, false, false, false, false, false, false, false, false] rfl rfl (by kernel_rfl) (fun _ _ _ h => h) (Or.inr ⟨by kernel_rfl, rfl⟩) ?_ ?_
              rotate_left
              · simp only [Act.put, List.setIfInBounds_toArray, List.set_cons_zero, List.set_cons_succ]
                rfl
              refine pure_ (i := 5) (N := (some 59)) (v := undef) (a' := ?_) #[true, true, true, true, true, true, false, false, false, false, false, false, false, false, false, false, false, false, false, false, false] rfl rfl (by kernel_rfl) (fun _ _ _ h => h) (Or.inr ⟨by kernel_rfl, rfl⟩) ?_ ?_
              rotate_left
              · simp only [Act.put, List.setIfInBounds_toArray, List.set_cons_zero, List.set_cons_succ]
                rfl
              refine pure_ (i := 6) (N := (some 60)) (v := undef) (a' := ?_) #[true, true, true, true, true, true, true, false, false, false, false, false, false, false, false, false, false, false, false, false, false] rfl rfl (by kernel_rfl) (fun _ _ _ h => h) (Or.inr ⟨by kernel_rfl, rfl⟩) ?_ ?_
              rotate_left
              · simp only [Act.put, List.setIfInBounds_toArray, List.set_cons_zero, List.set_cons_succ]
                rfl
              refine pure_ (i := 7) (N := (some 61)) (v := undef) (a' := ?_) #[true, true, true, true, true, true, true, true, false, false, false, false, false, false, false, false, false, false, false, false, false] rfl rfl (by kernel_rfl) (fun _ _ _ h => h) (Or.inr ⟨by kernel_rfl, rfl⟩) ?_ ?_
              rotate_left
              · simp only [Act.put, List.setIfInBounds_toArray, List.set_cons_zero, List.set_cons_succ]
                rfl
              refine pure_ (i := 8) (N := (some 62)) (v := ?_) (a' := ?_) #[true, true, true, true, true, true, true, true, true, false, false, false, false, false, false, false, false, false, false, false, false] rfl rfl (by kernel_rfl) (fun _ _ _ h => h) (Or.inl ⟨by kernel_rfl, ?_⟩) ?_ ?_
              rotate_left
              · intro w_
                go_simp
                with_reducible rfl
              rotate_left
              · simp only [Act.put, List.setIfInBounds_toArray, List.set_cons_zero, List.set_cons_succ]
                rfl
              refine pure_ (i := 9) (N := (some 63)) (v := ?_) (a' := ?_) #[true, true, true, true, true, true, true, true, true, true, false, false, false, false, false, false, false, false, false, false, false] rfl rfl (by kernel_rfl) (fun _ _ _ h => h) (Or.inl ⟨by kernel_rfl, ?_⟩) ?_ ?_
              rotate_left
              · intro w_
                go_simp
                with_reducible rfl
              rotate_left
              · simp only [Act.put, List.setIfInBounds_toArray, List.set_cons_zero, List.set_cons_succ]
                rfl
              refine pure_ (i := 10) (N := (some 64)) (v := undef) (a' := ?_) #[true, true, true, true, true, true, true, true, true, true, true, false, false, false, false, false, false, false, false, false, false] rfl rfl (by kernel_rfl) (fun _ _ _ h => h) (Or.inr ⟨by kernel_rfl, rfl⟩) ?_ ?_
              rotate_left
              · simp only [Act.put, List.setIfInBounds_toArray, List.set_cons_zero, List.set_cons_succ]
                rfl
              refine pure_ (i := 11) (N := (some 65)) (v := undef) (a' := ?_) #[true, true, true, true, true, true, true, true, true, true, true, true, false, false, false, false, false, false, false, false, false] rfl rfl (by kernel_rfl) (fun _ _ _ h => h) (Or.inr ⟨by kernel_rfl, rfl⟩) ?_ ?_
              rotate_left
              · simp only [Act.put, List.setIfInBounds_toArray, List.set_cons_zero, List.set_cons_succ]
                rfl
              refine pure_ (i := 12) (N := (some 66)) (v := undef) (a' := ?_) #[true, true, true, true, true, true, true, true, true, true, true, true, true, false, false, false, false, false, false, false, false] rfl rfl (by kernel_rfl) (fun _ _ _ h => h) (Or.inr ⟨by kernel_rfl, rfl⟩) ?_ ?_
              rotate_left
              · simp only [Act.put, List.setIfInBounds_toArray, List.set_cons_zero, List.set_cons_succ]
                rfl
              refine pure_ (i := 13) (N := (some 67)) (v := ?_) (a' := ?_) #[true, true, true, true, true, true, true, true, true, true, true, true, true, true, false, false, false, false, false, false, false] rfl rfl (by kernel_rfl) (fun _ _ _ h => h) (Or.inl ⟨by kernel_rfl, ?_⟩) ?_ ?_
              rotate_left
              · intro w_
                go_simp
                with_reducible rfl
              rotate_left
              · simp only [Act.put, List.setIfInBounds_toArray, List.set_cons_zero, List.set_cons_succ]
                rfl
              refine pure_ (i := 14) (N := (some 68)) (v := ?_) (a' := ?_) #[true, true, true, true, true, true, true, true, true, true, true, true, true, true, true, false, false, false, false, false, false] rfl rfl (by kernel_rfl) (fun _ _ _ h => h) (Or.inl ⟨by kernel_rfl, ?_⟩) ?_ ?_
              rotate_left
              · intro w_
                go_simp
                with_reducible rfl
              rotate_left
              · simp only [Act.put, List.setIfInBounds_toArray, List.set_cons_zero, List.set_cons_succ]
                rfl
              refine pure_ (i := 15) (N := (some 69)) (v := undef) (a' := ?_) #[true, true, true, true, true, true, true, true, true, true, true, true, true, true, true, true, false, false, false, false, false] rfl rfl (by kernel_rfl) (fun _ _ _ h => h) (Or.inr ⟨by kernel_rfl, rfl⟩) ?_ ?_
              rotate_left
              · simp only [Act.put, List.setIfInBounds_toArray, List.set_cons_zero, List.set_cons_succ]
                rfl
              refine pure_ (i := 16) (N := (some 70)) (v := undef) (a' := ?_) #[true, true, true, true, true, true, true, true, true, true, true, true, true, true, true, true, true, false, false, false, false] rfl rfl (by kernel_rfl) (fun _ _ _ h => h) (Or.inr ⟨by kernel_rfl, rfl⟩) ?_ ?_
              rotate_left
              · simp only [Act.put, List.setIfInBounds_toArray, List.set_cons_zero, List.set_cons_succ]
                rfl
              refine pure_ (i := 17) (N := (some 71)) (v := undef) (a' := ?_) #[true, true, true, true, true, true, true, true, true, true, true, true, true, true, true, true, true, true, false, false, false] rfl rfl (by kernel_rfl) (fun _ _ _ h => h) (Or.inr ⟨by kernel_rfl, rfl⟩) ?_ ?_
              rotate_left
              · simp only [Act.put, List.setIfInBounds_toArray, List.set_cons_zero, List.set_cons_succ]
                rfl
              refine pure_ (i := 18) (N := (some 72)) (v := undef) (a' := ?_) #[true, true, true, true, true, true, true, true, true, true, true, true, true, true, true, true, true, true, true, false, false] rfl rfl (by kernel_rfl) (fun _ _ _ h => h) (Or.inr ⟨by kernel_rfl, rfl⟩) ?_ ?_
              rotate_left
              · simp only [Act.put, List.setIfInBounds_toArray, List.set_cons_zero, List.set_cons_succ]
                rfl
              refine pure_ (i := 19) (N := (some 73)) (v := undef) (a' := ?_) #[true, true, true, true, true, true, true, true, true, true, true, true, true, true, true, true, true, true, true, true, false] rfl rfl (by kernel_rfl) (fun _ _ _ h => h) (Or.inr ⟨by kernel_rfl, rfl⟩) ?_ ?_
              rotate_left
              · simp only [Act.put, List.setIfInBounds_toArray, List.set_cons_zero, List.set_cons_succ]
                rfl
              refine pure_ (i := 20) (N := (some 74)) (v := ?_) (a' := ?_) #[true, true, true, true, true, true, true, true, true, true, true, true, true, true, true, true, true, true, true, true, true] rfl rfl (by kernel_rfl) (fun _ _ _ h => h) (Or.inl ⟨by kernel_rfl, ?_⟩) ?_ ?_
              rotate_left
              · intro w_
                go_simp
                with_reducible rfl
              rotate_left
              · simp only [Act.put, List.setIfInBounds_toArray, List.set_cons_zero, List.set_cons_succ]
                rfl
              refine done_ (by kernel_rfl) ?_
              go_wp2_with fail
              apply wp_goto
              exact ⟨rfl, ElemJ.mk h8 HK8.out HB8.out (by rw [HE5.out, if_neg (by rw [hq4]; decide)])⟩
            | true =>
              have HE6 : Aside0 (elemV s (d + 1) i = (match contV (elemV s d) s (k + 1) with | some (t, kids, m) => endV s nm t kids m | none => none)) := ⟨by rw [HE5.out, if_pos hq4]⟩
              clear HE5
              cases hcv : contV (elemV s d) s (k + 1) with
              | none =>
                have HE7 : Aside0 (elemV s (d + 1) i = none) := ⟨by rw [HE6.out, hcv]⟩
                refine start_ (n := 21) (S := fun w_ => w_.cell? ⟨gn, 0, none⟩ = some (.string nm)) (ds := []) #[false, false, false, false, false, false, false, false, false, false, false, false, false, false, false, false, false, false, false, false, false] (by kernel_rfl) rfl rfl ((blk_cell HB7.out 0).trans rfl) (fun hHeld => ?_)
                refine pure_ (i := 0) (N := (some 54)) (v := ?_) (a' := ?_) #[true, false, false, false, false, false, false, false, false, false, false, false, false, false, false, false, false, false, false, false, false] rfl rfl (by kernel_rfl) (fun _ _ _ h => h) (Or.inl ⟨by kernel_rfl, ?_⟩) ?_ ?_
                rotate_left
                · intro w_
                  go_simp
                  with_reducible rfl
                rotate_left
                · simp only [Act.put, List.setIfInBounds_toArray, List.set_cons_zero, List.set_cons_succ]
                  rfl
                refine one_ (i := 1) (N := (some 55)) #[true, true, false, false, false, false, false, false, false, false, false, false, false, false, false, false, false, false, false, false, false] rfl rfl (by kernel_rfl) (by decide) (fun K hK => ?_)
                refine goes_ Tryd.func92 (by kernel_rfl) rfl #[.pointer (some ⟨g, 0, none⟩), .string ⟨#[62]⟩] (by kernel_rfl) rfl rfl (by kernel_rfl) ?_
                refine (eat_calls (H7.out.drewN 1) ⟨#[62]⟩ (by decide)).mono ?_
                rintro e w8 ⟨rfl, h8, hk8⟩
                rw [hq4]
                have HB8 := Aside0.mk (hk8.blk HB7.out hgg (by simp))
                have HK8 := Aside0.mk ((keep_drewN HK7.out 1).trans hk8 (.inl rfl))
                rw [if_pos (by rw [hq4])] at h8
                refine ⟨_, rfl, ?_⟩
                refine hK.out _ _ ((blk_cell HB8.out 0).trans rfl) (fun hHeld => ?_)
                clear hK K
                refine norm_ (a' := ?_) ?_ ?_
                rotate_left
                · show Act.put _ (some 55) _ = _
                  simp only [Act.put, List.setIfInBounds_toArray, List.set_cons_zero, List.set_cons_succ]
                  rfl
                refine pure_ (i := 2) (N := (some 56)) (v := ?_) (a' := ?_) #[true, true, true, false, false, false, false, false, false, false, false, false, false, false, false, false, false, false, false, false, false] rfl rfl (by kernel_rfl) (fun _ _ _ h => h) (Or.inl ⟨by kernel_rfl, ?_⟩) ?_ ?_
                rotate_left
                · intro w_
                  go_simp
                  with_reducible rfl
                rotate_left
                · simp only [Act.put, List.setIfInBounds_toArray, List.set_cons_zero, List.set_cons_succ]
                  rfl
                refine pure_ (i := 3) (N := (some 57)) (v := ?_) (a' := ?_) #[true, true, true, true, false, false, false, false, false, false, false, false, false, false, false, false, false, false, false, false, false] rfl rfl (by kernel_rfl) (fun _ _ _ h => h) (Or.inl ⟨by kernel_rfl, ?_⟩) ?_ ?_
                rotate_left
                · intro w_
                  go_simp
                  with_reducible rfl
                rotate_left
                · simp only [Act.put, List.setIfInBounds_toArray, List.set_cons_zero, List.set_cons_succ]
                  rfl
                refine pure_ (i := 4) (N := (some 58)) (v := ?_) (a' := ?_) #[true, true, true, true, true, false, false, false, false, false, false, false, false, false, false, false, false, false, false, false, false] rfl rfl (by kernel_rfl) (fun _ _ _ h => h) (Or.inl ⟨by kernel_rfl, ?_⟩) ?_ ?_
                rotate_left
                · intro w_
                  go_simp
                  with_reducible rfl
                rotate_left
                · simp only [Act.put, List.setIfInBounds_toArray, List.set_cons_zero, List.set_cons_succ]
                  rfl
                refine pure_ (i := 5) (N := (some 59)) (v := ?_) (a' := ?_) #[true, true, true, true, true, true, false, false, false, false, false, false, false, false, false, false, false, false, false, false, false] rfl rfl (by kernel_rfl) (fun _ _ _ h => h) (Or.inl ⟨by kernel_rfl, ?_⟩) ?_ ?_
                rotate_left
                · intro w_
                  go_simp
                  with_reducible rfl
                rotate_left
                · simp only [Act.put, List.setIfInBounds_toArray, List.set_cons_zero, List.set_cons_succ]
                  rfl
                refine one_ (i := 6) (N := (some 60)) #[true, true, true, true, true, true, true, false, false, false, false, false, false, false, false, false, false, false, false, false, false] rfl rfl (by kernel_rfl) (by decide) (fun K hK => ?_)
                refine goes_ Tryd.func95 (by kernel_rfl) rfl #[.pointer (some ⟨g, 0, none⟩), .pointer (some ⟨gn, 0, none⟩), .int .i64 (16 - (d : Int))] (by kernel_rfl) rfl rfl (by kernel_rfl) ?_
                refine (HC.out w0 w8 g gn (k + 1) nm h8 ((HG2.out).keep HK8.out (by omega) (by simp)) h0 hgw0 hgg HB8.out).mono ?_
                rintro e w9 ⟨t0_, l0_, A0, c0, b0, j0_, rfl, hB9, hle0, hF9, hW9, hR9, hk9, hm9⟩
                rw [hcv] at hm9
                obtain rfl : b0 = false := hm9
                have HB9 := Aside0.mk hB9
                have HR9 := Aside0.mk hR9
                have HK9 := Aside0.mk (HK8.out.trans hk9 (.inr ⟨gn, rfl, hgw⟩))
                have HF9 := Aside0.mk hF9
                have HW9 := Aside0.mk hW9
                have hgb : gn < w8.heap.size := blk_lt HB8.out
                have hgb2 : g < w8.heap.size := h8.lt
                have hwb : w.heap.size ≤ w8.heap.size := keep_size HK8.out
                clear hB9 hR9 hk9 hF9 hW9
                refine ⟨_, rfl, ?_⟩
                refine hK.out _ _ ((blk_cell HB9.out 0).trans rfl) (fun hHeld => ?_)
                clear hK K
                refine norm_ (a' := ?_) ?_ ?_
                rotate_left
                · show Act.put _ (some 60) _ = _
                  simp only [Act.put, List.setIfInBounds_toArray, List.set_cons_zero, List.set_cons_succ]
                  rfl
                refine pure_ (i := 7) (N := (some 61)) (v := ?_) (a' := ?_) #[true, true, true, true, true, true, true, true, false, false, false, false, false, false, false, false, false, false, false, false, false] rfl rfl (by kernel_rfl) (fun _ _ _ h => h) (Or.inl ⟨by kernel_rfl, ?_⟩) ?_ ?_
                rotate_left
                · intro w_
                  go_simp
                  with_reducible rfl
                rotate_left
                · simp only [Act.put, List.setIfInBounds_toArray, List.set_cons_zero, List.set_cons_succ]
                  rfl
                refine pure_ (i := 8) (N := (some 62)) (v := ?_) (a' := ?_) #[true, true, true, true, true, true, true, true, true, false, false, false, false, false, false, false, false, false, false, false, false] rfl rfl (by kernel_rfl) (fun _ _ _ h => h) (Or.inl ⟨by kernel_rfl, ?_⟩) ?_ ?_
                rotate_left
                · intro w_
                  go_simp
                  with_reducible rfl
                rotate_left
                · simp only [Act.put, List.setIfInBounds_toArray, List.set_cons_zero, List.set_cons_succ]
                  rfl
                refine pure_ (i := 9) (N := (some 63)) (v := ?_) (a' := ?_) #[true, true, true, true, true, true, true, true, true, true, false, false, false, false, false, false, false, false, false, false, false] rfl rfl (by kernel_rfl) (fun _ _ _ h => h) (Or.inl ⟨by kernel_rfl, ?_⟩) ?_ ?_
                rotate_left
                · intro w_
                  go_simp
                  with_reducible rfl
                rotate_left
                · simp only [Act.put, List.setIfInBounds_toArray, List.set_cons_zero, List.set_cons_succ]
                  rfl
                refine pure_ (i := 10) (N := (some 64)) (v := undef) (a' := ?_) #[true, true, true, true, true, true, true, true, true, true, true, false, false, false, false, false, false, false, false, false, false] rfl rfl (by kernel_rfl) (fun _ _ _ h => h) (Or.inr ⟨by kernel_rfl, rfl⟩) ?_ ?_
                rotate_left
                · simp only [Act.put, List.setIfInBounds_toArray, List.set_cons_zero, List.set_cons_succ]
                  rfl
                refine pure_ (i := 11) (N := (some 65)) (v := undef) (a' := ?_) #[true, true, true, true, true, true, true, true, true, true, true, true, false, false, false, false, false, false, false, false, false] rfl rfl (by kernel_rfl) (fun _ _ _ h => h) (Or.inr ⟨by kernel_rfl, rfl⟩) ?_ ?_
                rotate_left
                · simp only [Act.put, List.setIfInBounds_toArray, List.set_cons_zero, List.set_cons_succ]
                  rfl
                refine pure_ (i := 12) (N := (some 66)) (v := undef) (a' := ?_) #[true, true, true, true, true, true, true, true, true, true, true, true, true, false, false, false, false, false, false, false, false] rfl rfl (by kernel_rfl) (fun _ _ _ h => h) (Or.inr ⟨by kernel_rfl, rfl⟩) ?_ ?_
                rotate_left
                · simp only [Act.put, List.setIfInBounds_toArray, List.set_cons_zero, List.set_cons_succ]
                  rfl
                refine pure_ (i := 13) (N := (some 67)) (v := ?_) (a' := ?_) #[true, true, true, true, true, true, true, true, true, true, true, true, true, true, false, false, false, false, false, false, false] rfl rfl (by kernel_rfl) (fun _ _ _ h => h) (Or.inl ⟨by kernel_rfl, ?_⟩) ?_ ?_
                rotate_left
                · intro w_
                  go_simp
                  with_reducible rfl
                rotate_left
                · simp only [Act.put, List.setIfInBounds_toArray, List.set_cons_zero, List.set_cons_succ]
                  rfl
                refine pure_ (i := 14) (N := (some 68)) (v := ?_) (a' := ?_) #[true, true, true, true, true, true, true, true, true, true, true, true, true, true, true, false, false, false, false, false, false] rfl rfl (by kernel_rfl) (fun _ _ _ h => h) (Or.inl ⟨by kernel_rfl, ?_⟩) ?_ ?_
                rotate_left
                · intro w_
                  go_simp
                  with_reducible rfl
                rotate_left
                · simp only [Act.put, List.setIfInBounds_toArray, List.set_cons_zero, List.set_cons_succ]
                  rfl
                refine pure_ (i := 15) (N := (some 69)) (v := undef) (a' := ?_) #[true, true, true, true, true, true, true, true, true, true, true, true, true, true, true, true, false, false, false, false, false] rfl rfl (by kernel_rfl) (fun _ _ _ h => h) (Or.inr ⟨by kernel_rfl, rfl⟩) ?_ ?_
                rotate_left
                · simp only [Act.put, List.setIfInBounds_toArray, List.set_cons_zero, List.set_cons_succ]
                  rfl
                refine pure_ (i := 16) (N := (some 70)) (v := undef) (a' := ?_) #[true, true, true, true, true, true, true, true, true, true, true, true, true, true, true, true, true, false, false, false, false] rfl rfl (by kernel_rfl) (fun _ _ _ h => h) (Or.inr ⟨by kernel_rfl, rfl⟩) ?_ ?_
                rotate_left
                · simp only [Act.put, List.setIfInBounds_toArray, List.set_cons_zero, List.set_cons_succ]
                  rfl
                refine pure_ (i := 17) (N := (some 71)) (v := undef) (a' := ?_) #[true, true, true, true, true, true, true, true, true, true, true, true, true, true, true, true, true, true, false, false, false] rfl rfl (by kernel_rfl) (fun _ _ _ h => h) (Or.inr ⟨by kernel_rfl, rfl⟩) ?_ ?_
                rotate_left
                · simp only [Act.put, List.setIfInBounds_toArray, List.set_cons_zero, List.set_cons_succ]
                  rfl
                refine pure_ (i := 18) (N := (some 72)) (v := undef) (a' := ?_) #[true, true, true, true, true, true, true, true, true, true, true, true, true, true, true, true, true, true, true, false, false] rfl rfl (by kernel_rfl) (fun _ _ _ h => h) (Or.inr ⟨by kernel_rfl, rfl⟩) ?_ ?_
                rotate_left
                · simp only [Act.put, List.setIfInBounds_toArray, List.set_cons_zero, List.set_cons_succ]
                  rfl
                refine pure_ (i := 19) (N := (some 73)) (v := undef) (a' := ?_) #[true, true, true, true, true, true, true, true, true, true, true, true, true, true, true, true, true, true, true, true, false] rfl rfl (by kernel_rfl) (fun _ _ _ h => h) (Or.inr ⟨by kernel_rfl, rfl⟩) ?_ ?_
                rotate_left
                · simp only [Act.put, List.setIfInBounds_toArray, List.set_cons_zero, List.set_cons_succ]
                  rfl
                refine pure_ (i := 20) (N := (some 74)) (v := ?_) (a' := ?_) #[true, true, true, true, true, true, true, true, true, true, true, true, true, true, true, true, true, true, true, true, true] rfl rfl (by kernel_rfl) (fun _ _ _ h => h) (Or.inl ⟨by kernel_rfl, ?_⟩) ?_ ?_
                rotate_left
                · intro w_
                  go_simp
                  with_reducible rfl
                rotate_left
                · simp only [Act.put, List.setIfInBounds_toArray, List.set_cons_zero, List.set_cons_succ]
                  rfl
                refine done_ (by kernel_rfl) ?_
                go_wp2_with fail
                apply wp_goto
                exact ⟨rfl, ElemJ.mk HR9.out HK9.out HB9.out HE7.out⟩
              | some r =>
                obtain ⟨t0, l0, m0⟩ := r
                have HE7 : Aside0 (elemV s (d + 1) i = endV s nm t0 l0 m0) := ⟨by rw [HE6.out, hcv]⟩
                clear HE6
                cases hq5 : hasP s m0 ⟨#[60, 47]⟩ with
                | false =>
                  refine start_ (n := 21) (S := fun w_ => w_.cell? ⟨gn, 0, none⟩ = some (.string nm)) (ds := []) #[false, false, false, false, false, false, false, false, false, false, false, false, false, false, false, false, false, false, false, false, false] (by kernel_rfl) rfl rfl ((blk_cell HB7.out 0).trans rfl) (fun hHeld => ?_)
                  refine pure_ (i := 0) (N := (some 54)) (v := ?_) (a' := ?_) #[true, false, false, false, false, false, false, false, false, false, false, false, false, false, false, false, false, false, false, false, false] rfl rfl (by kernel_rfl) (fun _ _ _ h => h) (Or.inl ⟨by kernel_rfl, ?_⟩) ?_ ?_
                  rotate_left
                  · intro w_
                    go_simp
                    with_reducible rfl
                  rotate_left
                  · simp only [Act.put, List.setIfInBounds_toArray, List.set_cons_zero, List.set_cons_succ]
                    rfl
                  refine one_ (i := 1) (N := (some 55)) #[true, true, false, false, false, false, false, false, false, false, false, false, false, false, false, false, false, false, false, false, false] rfl rfl (by kernel_rfl) (by decide) (fun K hK => ?_)
                  refine goes_ Tryd.func92 (by kernel_rfl) rfl #[.pointer (some ⟨g, 0, none⟩), .string ⟨#[62]⟩] (by kernel_rfl) rfl rfl (by kernel_rfl) ?_
                  refine (eat_calls (H7.out.drewN 1) ⟨#[62]⟩ (by decide)).mono ?_
                  rintro e w8 ⟨rfl, h8, hk8⟩
                  rw [hq4]
                  have HB8 := Aside0.mk (hk8.blk HB7.out hgg (by simp))
                  have HK8 := Aside0.mk ((keep_drewN HK7.out 1).trans hk8 (.inl rfl))
                  rw [if_pos (by rw [hq4])] at h8
                  refine ⟨_, rfl, ?_⟩
                  refine hK.out _ _ ((blk_cell HB8.out 0).trans rfl) (fun hHeld => ?_)
                  clear hK K
                  refine norm_ (a' := ?_) ?_ ?_
                  rotate_left
                  · show Act.put _ (some 55) _ = _
                    simp only [Act.put, List.setIfInBounds_toArray, List.set_cons_zero, List.set_cons_succ]
                    rfl
                  refine pure_ (i := 2) (N := (some 56)) (v := ?_) (a' := ?_) #[true, true, true, false, false, false, false, false, false, false, false, false, false, false, false, false, false, false, false, false, false] rfl rfl (by kernel_rfl) (fun _ _ _ h => h) (Or.inl ⟨by kernel_rfl, ?_⟩) ?_ ?_
                  rotate_left
                  · intro w_
                    go_simp
                    with_reducible rfl
                  rotate_left
                  · simp only [Act.put, List.setIfInBounds_toArray, List.set_cons_zero, List.set_cons_succ]
                    rfl
                  refine pure_ (i := 3) (N := (some 57)) (v := ?_) (a' := ?_) #[true, true, true, true, false, false, false, false, false, false, false, false, false, false, false, false, false, false, false, false, false] rfl rfl (by kernel_rfl) (fun _ _ _ h => h) (Or.inl ⟨by kernel_rfl, ?_⟩) ?_ ?_
                  rotate_left
                  · intro w_
                    go_simp
                    with_reducible rfl
                  rotate_left
                  · simp only [Act.put, List.setIfInBounds_toArray, List.set_cons_zero, List.set_cons_succ]
                    rfl
                  refine pure_ (i := 4) (N := (some 58)) (v := ?_) (a' := ?_) #[true, true, true, true, true, false, false, false, false, false, false, false, false, false, false, false, false, false, false, false, false] rfl rfl (by kernel_rfl) (fun _ _ _ h => h) (Or.inl ⟨by kernel_rfl, ?_⟩) ?_ ?_
                  rotate_left
                  · intro w_
                    go_simp
                    with_reducible rfl
                  rotate_left
                  · simp only [Act.put, List.setIfInBounds_toArray, List.set_cons_zero, List.set_cons_succ]
                    rfl
                  refine pure_ (i := 5) (N := (some 59)) (v := ?_) (a' := ?_) #[true, true, true, true, true, true, false, false, false, false, false, false, false, false, false, false, false, false, false, false, false] rfl rfl (by kernel_rfl) (fun _ _ _ h => h) (Or.inl ⟨by kernel_rfl, ?_⟩) ?_ ?_
                  rotate_left
                  · intro w_
                    go_simp
                    with_reducible rfl
                  rotate_left
                  · simp only [Act.put, List.setIfInBounds_toArray, List.set_cons_zero, List.set_cons_succ]
                    rfl
                  refine one_ (i := 6) (N := (some 60)) #[true, true, true, true, true, true, true, false, false, false, false, false, false, false, false, false, false, false, false, false, false] rfl rfl (by kernel_rfl) (by decide) (fun K hK => ?_)
                  refine goes_ Tryd.func95 (by kernel_rfl) rfl #[.pointer (some ⟨g, 0, none⟩), .pointer (some ⟨gn, 0, none⟩), .int .i64 (16 - (d : Int))] (by kernel_rfl) rfl rfl (by kernel_rfl) ?_
                  refine (HC.out w0 w8 g gn (k + 1) nm h8 ((HG2.out).keep HK8.out (by omega) (by simp)) h0 hgw0 hgg HB8.out).mono ?_
                  rintro e w9 ⟨t0_, l0_, A0, c0, b0, j0_, rfl, hB9, hle0, hF9, hW9, hR9, hk9, hm9⟩
                  rw [hcv] at hm9
                  obtain ⟨rfl, h1_, h2_, h3_⟩ := hm9
                  obtain rfl := h1_.symm
                  obtain rfl := h2_.symm
                  obtain rfl := h3_.symm
                  have HB9 := Aside0.mk hB9
                  have HR9 := Aside0.mk hR9
                  have HK9 := Aside0.mk (HK8.out.trans hk9 (.inr ⟨gn, rfl, hgw⟩))
                  have HF9 := Aside0.mk hF9
                  have HW9 := Aside0.mk hW9
                  have hgb : gn < w8.heap.size := blk_lt HB8.out
                  have hgb2 : g < w8.heap.size := h8.lt
                  have hwb : w.heap.size ≤ w8.heap.size := keep_size HK8.out
                  clear hB9 hR9 hk9 hF9 hW9
                  refine ⟨_, rfl, ?_⟩
                  refine hK.out _ _ ((blk_cell HB9.out 0).trans rfl) (fun hHeld => ?_)
                  clear hK K
                  refine norm_ (a' := ?_) ?_ ?_
                  rotate_left
                  · show Act.put _ (some 60) _ = _
                    simp only [Act.put, List.setIfInBounds_toArray, List.set_cons_zero, List.set_cons_succ]
                    rfl
                  refine pure_ (i := 7) (N := (some 61)) (v := ?_) (a' := ?_) #[true, true, true, true, true, true, true, true, false, false, false, false, false, false, false, false, false, false, false, false, false] rfl rfl (by kernel_rfl) (fun _ _ _ h => h) (Or.inl ⟨by kernel_rfl, ?_⟩) ?_ ?_
                  rotate_left
                  · intro w_
                    go_simp
                    with_reducible rfl
                  rotate_left
                  · simp only [Act.put, List.setIfInBounds_toArray, List.set_cons_zero, List.set_cons_succ]
                    rfl
                  refine pure_ (i := 8) (N := (some 62)) (v := ?_) (a' := ?_) #[true, true, true, true, true, true, true, true, true, false, false, false, false, false, false, false, false, false, false, false, false] rfl rfl (by kernel_rfl) (fun _ _ _ h => h) (Or.inl ⟨by kernel_rfl, ?_⟩) ?_ ?_
                  rotate_left
                  · intro w_
                    go_simp
                    with_reducible rfl
                  rotate_left
                  · simp only [Act.put, List.setIfInBounds_toArray, List.set_cons_zero, List.set_cons_succ]
                    rfl
                  refine pure_ (i := 9) (N := (some 63)) (v := ?_) (a' := ?_) #[true, true, true, true, true, true, true, true, true, true, false, false, false, false, false, false, false, false, false, false, false] rfl rfl (by kernel_rfl) (fun _ _ _ h => h) (Or.inl ⟨by kernel_rfl, ?_⟩) ?_ ?_
                  rotate_left
                  · intro w_
                    go_simp
                    with_reducible rfl
                  rotate_left
                  · simp only [Act.put, List.setIfInBounds_toArray, List.set_cons_zero, List.set_cons_succ]
                    rfl
                  refine pure_ (i := 10) (N := (some 64)) (v := ?_) (a' := ?_) #[true, true, true, true, true, true, true, true, true, true, true, false, false, false, false, false, false, false, false, false, false] rfl rfl (by kernel_rfl) (fun _ _ _ h => h) (Or.inl ⟨by kernel_rfl, ?_⟩) ?_ ?_
                  rotate_left
                  · intro w_
                    go_simp
                    with_reducible rfl
                  rotate_left
                  · simp only [Act.put, List.setIfInBounds_toArray, List.set_cons_zero, List.set_cons_succ]
                    rfl
                  refine one_ (i := 11) (N := (some 65)) #[true, true, true, true, true, true, true, true, true, true, true, true, false, false, false, false, false, false, false, false, false] rfl rfl (by kernel_rfl) (by decide) (fun K hK => ?_)
                  refine goes_ Tryd.func92 (by kernel_rfl) rfl #[.pointer (some ⟨g, 0, none⟩), .string ⟨#[60, 47]⟩] (by kernel_rfl) rfl rfl (by kernel_rfl) ?_
                  refine (eat_calls HR9.out ⟨#[60, 47]⟩ (by decide)).mono ?_
                  rintro e w10 ⟨rfl, h10, hk10⟩
                  rw [hq5]
                  have HB10 := Aside0.mk (hk10.blk HB9.out hgg (by simp))
                  have HK10 := Aside0.mk (HK9.out.trans hk10 (.inl rfl))
                  have HF10 := Aside0.mk (Kd.F_keep HF9.out hk10 (fun k_ hk_ e_ => by have := hk_; omega))
                  have HW10 := Aside0.mk (HW9.out.keep hk10 (by omega))
                  rw [if_neg (by rw [hq5]; decide)] at h10
                  have H10 := Aside0.mk h10
                  clear h10 hk10
                  refine ⟨_, rfl, ?_⟩
                  refine hK.out _ _ ((blk_cell HB10.out 0).trans rfl) (fun hHeld => ?_)
                  clear hK K
                  refine norm_ (a' := ?_) ?_ ?_
                  rotate_left
                  · show Act.put _ (some 65) _ = _
                    simp only [Act.put, List.setIfInBounds_toArray, List.set_cons_zero, List.set_cons_succ]
                    rfl
                  refine pure_ (i := 12) (N := (some 66)) (v := ?_) (a' := ?_) #[true, true, true, true, true, true, true, true, true, true, true, true, true, false, false, false, false, false, false, false, false] rfl rfl (by kernel_rfl) (fun _ _ _ h => h) (Or.inl ⟨by kernel_rfl, ?_⟩) ?_ ?_
                  rotate_left
                  · intro w_
                    go_simp
                    with_reducible rfl
                  rotate_left
                  · simp only [Act.put, List.setIfInBounds_toArray, List.set_cons_zero, List.set_cons_succ]
                    rfl
                  refine pure_ (i := 13) (N := (some 67)) (v := ?_) (a' := ?_) #[true, true, true, true, true, true, true, true, true, true, true, true, true, true, false, false, false, false, false, false, false] rfl rfl (by kernel_rfl) (fun _ _ _ h => h) (Or.inl ⟨by kernel_rfl, ?_⟩) ?_ ?_
                  rotate_left
                  · intro w_
                    go_simp
                    with_reducible rfl
                  rotate_left
                  · simp only [Act.put, List.setIfInBounds_toArray, List.set_cons_zero, List.set_cons_succ]
                    rfl
                  refine pure_ (i := 14) (N := (some 68)) (v := ?_) (a' := ?_) #[true, true, true, true, true, true, true, true, true, true, true, true, true, true, true, false, false, false, false, false, false] rfl rfl (by kernel_rfl) (fun _ _ _ h => h) (Or.inl ⟨by kernel_rfl, ?_⟩) ?_ ?_
                  rotate_left
                  · intro w_
                    go_simp
                    with_reducible rfl
                  rotate_left
                  · simp only [Act.put, List.setIfInBounds_toArray, List.set_cons_zero, List.set_cons_succ]
                    rfl
                  refine pure_ (i := 15) (N := (some 69)) (v := undef) (a' := ?_) #[true, true, true, true, true, true, true, true, true, true, true, true, true, true, true, true, false, false, false, false, false] rfl rfl (by kernel_rfl) (fun _ _ _ h => h) (Or.inr ⟨by kernel_rfl, rfl⟩) ?_ ?_
                  rotate_left
                  · simp only [Act.put, List.setIfInBounds_toArray, List.set_cons_zero, List.set_cons_succ]
                    rfl
                  refine pure_ (i := 16) (N := (some 70)) (v := undef) (a' := ?_) #[true, true, true, true, true, true, true, true, true, true, true, true, true, true, true, true, true, false, false, false, false] rfl rfl (by kernel_rfl) (fun _ _ _ h => h) (Or.inr ⟨by kernel_rfl, rfl⟩) ?_ ?_
                  rotate_left
                  · simp only [Act.put, List.setIfInBounds_toArray, List.set_cons_zero, List.set_cons_succ]
                    rfl
                  refine pure_ (i := 17) (N := (some 71)) (v := undef) (a' := ?_) #[true, true, true, true, true, true, true, true, true, true, true, true, true, true, true, true, true, true, false, false, false] rfl rfl (by kernel_rfl) (fun _ _ _ h => h) (Or.inr ⟨by kernel_rfl, rfl⟩) ?_ ?_
                  rotate_left
                  · simp only [Act.put, List.setIfInBounds_toArray, List.set_cons_zero, List.set_cons_succ]
                    rfl
                  refine pure_ (i := 18) (N := (some 72)) (v := undef) (a' := ?_) #[true, true, true, true, true, true, true, true, true, true, true, true, true, true, true, true, true, true, true, false, false] rfl rfl (by kernel_rfl) (fun _ _ _ h => h) (Or.inr ⟨by kernel_rfl, rfl⟩) ?_ ?_
                  rotate_left
                  · simp only [Act.put, List.setIfInBounds_toArray, List.set_cons_zero, List.set_cons_succ]
                    rfl
                  refine pure_ (i := 19) (N := (some 73)) (v := undef) (a' := ?_) #[true, true, true, true, true, true, true, true, true, true, true, true, true, true, true, true, true, true, true, true, false] rfl rfl (by kernel_rfl) (fun _ _ _ h => h) (Or.inr ⟨by kernel_rfl, rfl⟩) ?_ ?_
                  rotate_left
                  · simp only [Act.put, List.setIfInBounds_toArray, List.set_cons_zero, List.set_cons_succ]
                    rfl
                  refine pure_ (i := 20) (N := (some 74)) (v := ?_) (a' := ?_) #[true, true, true, true, true, true, true, true, true, true, true, true, true, true, true, true, true, true, true, true, true] rfl rfl (by kernel_rfl) (fun _ _ _ h => h) (Or.inl ⟨by kernel_rfl, ?_⟩) ?_ ?_
                  rotate_left
                  · intro w_
                    go_simp
                    with_reducible rfl
                  rotate_left
                  · simp only [Act.put, List.setIfInBounds_toArray, List.set_cons_zero, List.set_cons_succ]
                    rfl
                  refine done_ (by kernel_rfl) ?_
                  go_wp2_with fail
                  apply wp_goto
                  exact ⟨rfl, ElemJ.mk H10.out HK10.out HB10.out (by rw [HE7.out]; unfold endV; rw [if_neg (by rw [hq5]; decide)])⟩
                | true =>
                  have HE8 : Aside0 (elemV s (d + 1) i = (if s.extract (m0 + 2) (skip innerV s (m0 + 2)) = nm then (if hasP s (skip whiteV s (skip innerV s (m0 + 2))) ⟨#[62]⟩ = true then some (⟨nm, t0, l0⟩, skip whiteV s (skip innerV s (m0 + 2)) + 1) else none) else none)) := ⟨by rw [HE7.out]; unfold endV; rw [if_pos hq5]⟩
                  clear HE7
                  obtain ⟨x2, hx2⟩ : ∃ x2, x2 = s.extract (m0 + 2) (skip innerV s (m0 + 2)) := ⟨_, rfl⟩
                  obtain ⟨j2, hj2⟩ : ∃ j2, j2 = skip innerV s (m0 + 2) := ⟨_, rfl⟩
                  have hE8 := HE8.out
                  rw [← hx2, ← hj2] at hE8
                  have HE9 := Aside0.mk hE8
                  have HX2 := Aside0.mk hx2
                  have HJ2 := Aside0.mk hj2
                  clear HE8 hE8 hx2 hj2
                  by_cases hnx : x2 = nm
                  · have hbx : (x2.toList == nm.toList) = true := by rw [hnx]; simp
                    have HE10 : Aside0 (elemV s (d + 1) i = (if hasP s (skip whiteV s j2) ⟨#[62]⟩ = true then some (⟨nm, t0, l0⟩, skip whiteV s j2 + 1) else none)) := ⟨by rw [HE9.out, if_pos hnx]⟩
                    clear HE9 hnx
                    refine start_ (n := 21) (S := fun w_ => w_.cell? ⟨gn, 0, none⟩ = some (.string nm)) (ds := []) #[false, false, false, false, false, false, false, false, false, false, false, false, false, false, false, false, false, false, false, false, false] (by kernel_rfl) rfl rfl ((blk_cell HB7.out 0).trans rfl) (fun hHeld => ?_)
                    refine pure_ (i := 0) (N := (some 54)) (v := ?_) (a' := ?_) #[true, false, false, false, false, false, false, false, false, false, false, false, false, false, false, false, false, false, false, false, false] rfl rfl (by kernel_rfl) (fun _ _ _ h => h) (Or.inl ⟨by kernel_rfl, ?_⟩) ?_ ?_
                    rotate_left
                    · intro w_
                      go_simp
                      with_reducible rfl
                    rotate_left
                    · simp only [Act.put, List.setIfInBounds_toArray, List.set_cons_zero, List.set_cons_succ]
                      rfl
                    refine one_ (i := 1) (N := (some 55)) #[true, true, false, false, false, false, false, false, false, false, false, false, false, false, false, false, false, false, false, false, false] rfl rfl (by kernel_rfl) (by decide) (fun K hK => ?_)
                    refine goes_ Tryd.func92 (by kernel_rfl) rfl #[.pointer (some ⟨g, 0, none⟩), .string ⟨#[62]⟩] (by kernel_rfl) rfl rfl (by kernel_rfl) ?_
                    refine (eat_calls (H7.out.drewN 1) ⟨#[62]⟩ (by decide)).mono ?_
                    rintro e w8 ⟨rfl, h8, hk8⟩
                    rw [hq4]
                    have HB8 := Aside0.mk (hk8.blk HB7.out hgg (by simp))
                    have HK8 := Aside0.mk ((keep_drewN HK7.out 1).trans hk8 (.inl rfl))
                    rw [if_pos (by rw [hq4])] at h8
                    refine ⟨_, rfl, ?_⟩
                    refine hK.out _ _ ((blk_cell HB8.out 0).trans rfl) (fun hHeld => ?_)
                    clear hK K
                    refine norm_ (a' := ?_) ?_ ?_
                    rotate_left
                    · show Act.put _ (some 55) _ = _
                      simp only [Act.put, List.setIfInBounds_toArray, List.set_cons_zero, List.set_cons_succ]
                      rfl
                    refine pure_ (i := 2) (N := (some 56)) (v := ?_) (a' := ?_) #[true, true, true, false, false, false, false, false, false, false, false, false, false, false, false, false, false, false, false, false, false] rfl rfl (by kernel_rfl) (fun _ _ _ h => h) (Or.inl ⟨by kernel_rfl, ?_⟩) ?_ ?_
                    rotate_left
                    · intro w_
                      go_simp
                      with_reducible rfl
                    rotate_left
                    · simp only [Act.put, List.setIfInBounds_toArray, List.set_cons_zero, List.set_cons_succ]
                      rfl
                    refine pure_ (i := 3) (N := (some 57)) (v := ?_) (a' := ?_) #[true, true, true, true, false, false, false, false, false, false, false, false, false, false, false, false, false, false, false, false, false] rfl rfl (by kernel_rfl) (fun _ _ _ h => h) (Or.inl ⟨by kernel_rfl, ?_⟩) ?_ ?_
                    rotate_left
                    · intro w_
                      go_simp
                      with_reducible rfl
                    rotate_left
                    · simp only [Act.put, List.setIfInBounds_toArray, List.set_cons_zero, List.set_cons_succ]
                      rfl
                    refine pure_ (i := 4) (N := (some 58)) (v := ?_) (a' := ?_) #[true, true, true, true, true, false, false, false, false, false, false, false, false, false, false, false, false, false, false, false, false] rfl rfl (by kernel_rfl) (fun _ _ _ h => h) (Or.inl ⟨by kernel_rfl, ?_⟩) ?_ ?_
                    rotate_left
                    · intro w_
                      go_simp
                      with_reducible rfl
                    rotate_left
                    · simp only [Act.put, List.setIfInBounds_toArray, List.set_cons_zero, List.set_cons_succ]
                      rfl
                    refine pure_ (i := 5) (N := (some 59)) (v := ?_) (a' := ?_) #[true, true, true, true, true, true, false, false, false, false, false, false, false, false, false, false, false, false, false, false, false] rfl rfl (by kernel_rfl) (fun _ _ _ h => h) (Or.inl ⟨by kernel_rfl, ?_⟩) ?_ ?_
                    rotate_left
                    · intro w_
                      go_simp
                      with_reducible rfl
                    rotate_left
                    · simp only [Act.put, List.setIfInBounds_toArray, List.set_cons_zero, List.set_cons_succ]
                      rfl
                    refine one_ (i := 6) (N := (some 60)) #[true, true, true, true, true, true, true, false, false, false, false, false, false, false, false, false, false, false, false, false, false] rfl rfl (by kernel_rfl) (by decide) (fun K hK => ?_)
                    refine goes_ Tryd.func95 (by kernel_rfl) rfl #[.pointer (some ⟨g, 0, none⟩), .pointer (some ⟨gn, 0, none⟩), .int .i64 (16 - (d : Int))] (by kernel_rfl) rfl rfl (by kernel_rfl) ?_
                    refine (HC.out w0 w8 g gn (k + 1) nm h8 ((HG2.out).keep HK8.out (by omega) (by simp)) h0 hgw0 hgg HB8.out).mono ?_
                    rintro e w9 ⟨t0_, l0_, A0, c0, b0, j0_, rfl, hB9, hle0, hF9, hW9, hR9, hk9, hm9⟩
                    rw [hcv] at hm9
                    obtain ⟨rfl, h1_, h2_, h3_⟩ := hm9
                    obtain rfl := h1_.symm
                    obtain rfl := h2_.symm
                    obtain rfl := h3_.symm
                    have HB9 := Aside0.mk hB9
                    have HR9 := Aside0.mk hR9
                    have HK9 := Aside0.mk (HK8.out.trans hk9 (.inr ⟨gn, rfl, hgw⟩))
                    have HF9 := Aside0.mk hF9
                    have HW9 := Aside0.mk hW9
                    have hgb : gn < w8.heap.size := blk_lt HB8.out
                    have hgb2 : g < w8.heap.size := h8.lt
                    have hwb : w.heap.size ≤ w8.heap.size := keep_size HK8.out
                    clear hB9 hR9 hk9 hF9 hW9
                    refine ⟨_, rfl, ?_⟩
                    refine hK.out _ _ ((blk_cell HB9.out 0).trans rfl) (fun hHeld => ?_)
                    clear hK K
                    refine norm_ (a' := ?_) ?_ ?_
                    rotate_left
                    · show Act.put _ (some 60) _ = _
                      simp only [Act.put, List.setIfInBounds_toArray, List.set_cons_zero, List.set_cons_succ]
                      rfl
                    refine pure_ (i := 7) (N := (some 61)) (v := ?_) (a' := ?_) #[true, true, true, true, true, true, true, true, false, false, false, false, false, false, false, false, false, false, false, false, false] rfl rfl (by kernel_rfl) (fun _ _ _ h => h) (Or.inl ⟨by kernel_rfl, ?_⟩) ?_ ?_
                    rotate_left
                    · intro w_
                      go_simp
                      with_reducible rfl
                    rotate_left
                    · simp only [Act.put, List.setIfInBounds_toArray, List.set_cons_zero, List.set_cons_succ]
                      rfl
                    refine pure_ (i := 8) (N := (some 62)) (v := ?_) (a' := ?_) #[true, true, true, true, true, true, true, true, true, false, false, false, false, false, false, false, false, false, false, false, false] rfl rfl (by kernel_rfl) (fun _ _ _ h => h) (Or.inl ⟨by kernel_rfl, ?_⟩) ?_ ?_
                    rotate_left
                    · intro w_
                      go_simp
                      with_reducible rfl
                    rotate_left
                    · simp only [Act.put, List.setIfInBounds_toArray, List.set_cons_zero, List.set_cons_succ]
                      rfl
                    refine pure_ (i := 9) (N := (some 63)) (v := ?_) (a' := ?_) #[true, true, true, true, true, true, true, true, true, true, false, false, false, false, false, false, false, false, false, false, false] rfl rfl (by kernel_rfl) (fun _ _ _ h => h) (Or.inl ⟨by kernel_rfl, ?_⟩) ?_ ?_
                    rotate_left
                    · intro w_
                      go_simp
                      with_reducible rfl
                    rotate_left
                    · simp only [Act.put, List.setIfInBounds_toArray, List.set_cons_zero, List.set_cons_succ]
                      rfl
                    refine pure_ (i := 10) (N := (some 64)) (v := ?_) (a' := ?_) #[true, true, true, true, true, true, true, true, true, true, true, false, false, false, false, false, false, false, false, false, false] rfl rfl (by kernel_rfl) (fun _ _ _ h => h) (Or.inl ⟨by kernel_rfl, ?_⟩) ?_ ?_
                    rotate_left
                    · intro w_
                      go_simp
                      with_reducible rfl
                    rotate_left
                    · simp only [Act.put, List.setIfInBounds_toArray, List.set_cons_zero, List.set_cons_succ]
                      rfl
                    refine one_ (i := 11) (N := (some 65)) #[true, true, true, true, true, true, true, true, true, true, true, true, false, false, false, false, false, false, false, false, false] rfl rfl (by kernel_rfl) (by decide) (fun K hK => ?_)
                    refine goes_ Tryd.func92 (by kernel_rfl) rfl #[.pointer (some ⟨g, 0, none⟩), .string ⟨#[60, 47]⟩] (by kernel_rfl) rfl rfl (by kernel_rfl) ?_
                    refine (eat_calls HR9.out ⟨#[60, 47]⟩ (by decide)).mono ?_
                    rintro e w10 ⟨rfl, h10, hk10⟩
                    rw [hq5]
                    have HB10 := Aside0.mk (hk10.blk HB9.out hgg (by simp))
                    have HK10 := Aside0.mk (HK9.out.trans hk10 (.inl rfl))
                    have HF10 := Aside0.mk (Kd.F_keep HF9.out hk10 (fun k_ hk_ e_ => by have := hk_; omega))
                    have HW10 := Aside0.mk (HW9.out.keep hk10 (by omega))
                    rw [if_pos (by rw [hq5])] at h10
                    have H10 := Aside0.mk h10
                    clear h10 hk10
                    refine ⟨_, rfl, ?_⟩
                    refine hK.out _ _ ((blk_cell HB10.out 0).trans rfl) (fun hHeld => ?_)
                    clear hK K
                    refine norm_ (a' := ?_) ?_ ?_
                    rotate_left
                    · show Act.put _ (some 65) _ = _
                      simp only [Act.put, List.setIfInBounds_toArray, List.set_cons_zero, List.set_cons_succ]
                      rfl
                    refine pure_ (i := 12) (N := (some 66)) (v := ?_) (a' := ?_) #[true, true, true, true, true, true, true, true, true, true, true, true, true, false, false, false, false, false, false, false, false] rfl rfl (by kernel_rfl) (fun _ _ _ h => h) (Or.inl ⟨by kernel_rfl, ?_⟩) ?_ ?_
                    rotate_left
                    · intro w_
                      go_simp
                      with_reducible rfl
                    rotate_left
                    · simp only [Act.put, List.setIfInBounds_toArray, List.set_cons_zero, List.set_cons_succ]
                      rfl
                    refine pure_ (i := 13) (N := (some 67)) (v := ?_) (a' := ?_) #[true, true, true, true, true, true, true, true, true, true, true, true, true, true, false, false, false, false, false, false, false] rfl rfl (by kernel_rfl) (fun _ _ _ h => h) (Or.inl ⟨by kernel_rfl, ?_⟩) ?_ ?_
                    rotate_left
                    · intro w_
                      go_simp
                      with_reducible rfl
                    rotate_left
                    · simp only [Act.put, List.setIfInBounds_toArray, List.set_cons_zero, List.set_cons_succ]
                      rfl
                    refine pure_ (i := 14) (N := (some 68)) (v := ?_) (a' := ?_) #[true, true, true, true, true, true, true, true, true, true, true, true, true, true, true, false, false, false, false, false, false] rfl rfl (by kernel_rfl) (fun _ _ _ h => h) (Or.inl ⟨by kernel_rfl, ?_⟩) ?_ ?_
                    rotate_left
                    · intro w_
                      go_simp
                      with_reducible rfl
                    rotate_left
                    · simp only [Act.put, List.setIfInBounds_toArray, List.set_cons_zero, List.set_cons_succ]
                      rfl
                    refine pure_ (i := 15) (N := (some 69)) (v := ?_) (a' := ?_) #[true, true, true, true, true, true, true, true, true, true, true, true, true, true, true, true, false, false, false, false, false] rfl rfl (by kernel_rfl) (fun _ _ _ h => h) (Or.inl ⟨by kernel_rfl, ?_⟩) ?_ ?_
                    rotate_left
                    · intro w_
                      go_simp
                      with_reducible rfl
                    rotate_left
                    · simp only [Act.put, List.setIfInBounds_toArray, List.set_cons_zero, List.set_cons_succ]
                      rfl
                    refine pure_ (i := 17) (N := (some 71)) (v := ?_) (a' := ?_) #[true, true, true, true, true, true, true, true, true, true, true, true, true, true, true, true, false, true, false, false, false] rfl rfl (by kernel_rfl) (fun _ _ _ h => h) (Or.inl ⟨by kernel_rfl, ?_⟩) ?_ ?_
                    rotate_left
                    · intro w_
                      go_simp
                      with_reducible rfl
                    rotate_left
                    · simp only [Act.put, List.setIfInBounds_toArray, List.set_cons_zero, List.set_cons_succ]
                      rfl
                    refine take_ (i := 18) (N := (some 72)) (v := ?_) (a' := ?_) #[true, true, true, true, true, true, true, true, true, true, true, true, true, true, true, true, false, true, true, false, false] rfl rfl (by kernel_rfl) (fun _ _ _ h => h) (Or.inl ⟨by kernel_rfl, ?_⟩) hHeld ?_ ?_
                    rotate_left
                    · rintro w_ s0
                      go_simp
                      with_reducible rfl
                    rotate_left
                    · simp only [Act.put, List.setIfInBounds_toArray, List.set_cons_zero, List.set_cons_succ]
                      rfl
                    refine one_ (i := 16) (N := (some 70)) #[true, true, true, true, true, true, true, true, true, true, true, true, true, true, true, true, true, true, true, false, false] rfl rfl (by kernel_rfl) (by decide) (fun K hK => ?_)
                    refine goes_ Tryd.func93 (by kernel_rfl) rfl #[.pointer (some ⟨g, 0, none⟩)] (by kernel_rfl) rfl rfl (by kernel_rfl) ?_
                    refine (name_calls (show Rd w0 w10 g s (m0 + 2) from H10.out)).mono ?_
                    rintro e w11 ⟨rfl, h11, hk11⟩
                    rw [← HX2.out]
                    rw [← HJ2.out] at h11
                    have H11 := Aside0.mk h11
                    have HB11 := Aside0.mk (hk11.blk HB10.out hgg (by simp))
                    have HK11 := Aside0.mk (HK10.out.trans hk11 (.inl rfl))
                    have HF11 := Aside0.mk (Kd.F_keep HF10.out hk11 (fun k_ hk_ e_ => by have := hk_; omega))
                    have HW11 := Aside0.mk (HW10.out.keep hk11 (by omega))
                    clear h11 hk11
                    refine ⟨_, rfl, ?_⟩
                    refine hK.out _ _ ((blk_cell HB11.out 0).trans rfl) (fun hHeld => ?_)
                    clear hK K
                    refine norm_ (a' := ?_) ?_ ?_
                    rotate_left
                    · show Act.put _ (some 70) _ = _
                      simp only [Act.put, List.setIfInBounds_toArray, List.set_cons_zero, List.set_cons_succ]
                      rfl
                    refine pure_ (i := 19) (N := (some 73)) (v := ?_) (a' := ?_) #[true, true, true, true, true, true, true, true, true, true, true, true, true, true, true, true, true, true, true, true, false] rfl rfl (by kernel_rfl) (fun _ _ _ h => h) (Or.inl ⟨by kernel_rfl, ?_⟩) ?_ ?_
                    rotate_left
                    · intro w_
                      go_simp
                      with_reducible rfl
                    rotate_left
                    · simp only [Act.put, List.setIfInBounds_toArray, List.set_cons_zero, List.set_cons_succ]
                      rfl
                    refine pure_ (i := 20) (N := (some 74)) (v := ?_) (a' := ?_) #[true, true, true, true, true, true, true, true, true, true, true, true, true, true, true, true, true, true, true, true, true] rfl rfl (by kernel_rfl) (fun _ _ _ h => h) (Or.inl ⟨by kernel_rfl, ?_⟩) ?_ ?_
                    rotate_left
                    · intro w_
                      go_simp
                      with_reducible rfl
                    rotate_left
                    · simp only [Act.put, List.setIfInBounds_toArray, List.set_cons_zero, List.set_cons_succ]
                      rfl
                    refine done_ (by kernel_rfl) ?_
                    go_wp2_with fail
                    refine (space_calls H11.out).mono ?_
                    rintro e w12 ⟨rfl, h12, hk12⟩
                    have HK12 := Aside0.mk (HK11.out.trans hk12 (.inl rfl))
                    have HB12 := Aside0.mk (hk12.blk HB11.out hgg (by simp))
                    have HF12 := Aside0.mk (Kd.F_keep HF11.out hk12 (fun k_ hk_ e_ => by have := hk_; omega))
                    have HW12 := Aside0.mk (HW11.out.keep hk12 (by omega))
                    go_wp2_with fail
                    refine (eat_calls h12 ⟨#[62]⟩ (by decide)).mono ?_
                    rintro e w13 ⟨rfl, h13, hk13⟩
                    have HK13 := Aside0.mk (HK12.out.trans hk13 (.inl rfl))
                    have hB13 := hk13.blk HB12.out hgg (by simp)
                    have HB13 := Aside0.mk hB13
                    have HF13 := Aside0.mk (Kd.F_keep HF12.out hk13 (fun k_ hk_ e_ => by have := hk_; omega))
                    have HW13 := Aside0.mk (HW12.out.keep hk13 (by omega))
                    clear HK11 HB11 HF11 HW11 HK12 HB12 HF12 HW12 hk12 hk13 h12 H11
                    cases hq6 : hasP s (skip whiteV s j2) ⟨#[62]⟩ with
                    | false =>
                      go_wp2_with fail
                      apply wp_goto
                      exact ⟨rfl, ElemJ.mk h13 HK13.out HB13.out (by rw [HE10.out, if_neg (by rw [hq6]; decide)])⟩
                    | true =>
                      have H13 := Aside0.mk h13
                      clear h13
                      have dz0 := blk_cell hB13 0
                      have dz1 := blk_cell hB13 1
                      have dz2 := blk_cell hB13 2
                      have gz0 := blk_frozen hB13 0
                      have gz1 := blk_frozen hB13 1
                      have gz2 := blk_frozen hB13 2
                      clear hB13
                      go_wp2
                      simp only [Exit.jump]
                      refine bodyPost_ret (elem_results rfl rfl (blk_set3 HB13.out)) rfl ⟨⟨nm, t0, l0⟩, A0, c0, true, skip whiteV s j2 + 1, rfl, hle0, ?_, ?_, ?_, ?_, ?_⟩
                      · exact Kd.F_mono (Kd.F_far (Kd.F_far (Kd.F_far HF13.out (p := ⟨gn, 0, none⟩) (fun k_ hk_ e_ => by have := hk_; have e2_ : k_ = gn := e_; omega) _) (p := ⟨gn, 1, none⟩) (fun k_ hk_ e_ => by have := hk_; have e2_ : k_ = gn := e_; omega) _) (p := ⟨gn, 2, none⟩) (fun k_ hk_ e_ => by have := hk_; have e2_ : k_ = gn := e_; omega) _) (fun k_ hk_ => by have := hk_; omega)
                      · exact (((HW13.out.far (p := ⟨gn, 0, none⟩) hgb _).far (p := ⟨gn, 1, none⟩) hgb _).far (p := ⟨gn, 2, none⟩) hgb _).lower (by omega)
                      · have h := H13.out
                        rw [if_pos hq6] at h
                        exact ((h.far (p := ⟨gn, 0, none⟩) hgg hgw0 _).far (p := ⟨gn, 1, none⟩) hgg hgw0 _).far (p := ⟨gn, 2, none⟩) hgg hgw0 _
                      · exact keep_far (keep_far (keep_far HK13.out (p := ⟨gn, 0, none⟩) hgw _) (p := ⟨gn, 1, none⟩) hgw _) (p := ⟨gn, 2, none⟩) hgw _
                      · rw [HE10.out, if_pos hq6]; exact ⟨rfl, rfl, rfl⟩
                  · have hbx : (x2.toList == nm.toList) = false := by rw [beq_eq_false_iff_ne]; exact fun h_ => hnx (ba_inj h_)
                    refine start_ (n := 21) (S := fun w_ => w_.cell? ⟨gn, 0, none⟩ = some (.string nm)) (ds := []) #[false, false, false, false, false, false, false, false, false, false, false, false, false, false, false, false, false, false, false, false, false] (by kernel_rfl) rfl rfl ((blk_cell HB7.out 0).trans rfl) (fun hHeld => ?_)
                    refine pure_ (i := 0) (N := (some 54)) (v := ?_) (a' := ?_) #[true, false, false, false, false, false, false, false, false, false, false, false, false, false, false, false, false, false, false, false, false] rfl rfl (by kernel_rfl) (fun _ _ _ h => h) (Or.inl ⟨by kernel_rfl, ?_⟩) ?_ ?_
                    rotate_left
                    · intro w_
                      go_simp
                      with_reducible rfl
                    rotate_left
                    · simp only [Act.put, List.setIfInBounds_toArray, List.set_cons_zero, List.set_cons_succ]
                      rfl
                    refine one_ (i := 1) (N := (some 55)) #[true, true, false, false, false, false, false, false, false, false, false, false, false, false, false, false, false, false, false, false, false] rfl rfl (by kernel_rfl) (by decide) (fun K hK => ?_)
                    refine goes_ Tryd.func92 (by kernel_rfl) rfl #[.pointer (some ⟨g, 0, none⟩), .string ⟨#[62]⟩] (by kernel_rfl) rfl rfl (by kernel_rfl) ?_
                    refine (eat_calls (H7.out.drewN 1) ⟨#[62]⟩ (by decide)).mono ?_
                    rintro e w8 ⟨rfl, h8, hk8⟩
                    rw [hq4]
                    have HB8 := Aside0.mk (hk8.blk HB7.out hgg (by simp))
                    have HK8 := Aside0.mk ((keep_drewN HK7.out 1).trans hk8 (.inl rfl))
                    rw [if_pos (by rw [hq4])] at h8
                    refine ⟨_, rfl, ?_⟩
                    refine hK.out _ _ ((blk_cell HB8.out 0).trans rfl) (fun hHeld => ?_)
                    clear hK K
                    refine norm_ (a' := ?_) ?_ ?_
                    rotate_left
                    · show Act.put _ (some 55) _ = _
                      simp only [Act.put, List.setIfInBounds_toArray, List.set_cons_zero, List.set_cons_succ]
                      rfl
                    refine pure_ (i := 2) (N := (some 56)) (v := ?_) (a' := ?_) #[true, true, true, false, false, false, false, false, false, false, false, false, false, false, false, false, false, false, false, false, false] rfl rfl (by kernel_rfl) (fun _ _ _ h => h) (Or.inl ⟨by kernel_rfl, ?_⟩) ?_ ?_
                    rotate_left
                    · intro w_
                      go_simp
                      with_reducible rfl
                    rotate_left
                    · simp only [Act.put, List.setIfInBounds_toArray, List.set_cons_zero, List.set_cons_succ]
                      rfl
                    refine pure_ (i := 3) (N := (some 57)) (v := ?_) (a' := ?_) #[true, true, true, true, false, false, false, false, false, false, false, false, false, false, false, false, false, false, false, false, false] rfl rfl (by kernel_rfl) (fun _ _ _ h => h) (Or.inl ⟨by kernel_rfl, ?_⟩) ?_ ?_
                    rotate_left
                    · intro w_
                      go_simp
                      with_reducible rfl
                    rotate_left
                    · simp only [Act.put, List.setIfInBounds_toArray, List.set_cons_zero, List.set_cons_succ]
                      rfl
                    refine pure_ (i := 4) (N := (some 58)) (v := ?_) (a' := ?_) #[true, true, true, true, true, false, false, false, false, false, false, false, false, false, false, false, false, false, false, false, false] rfl rfl (by kernel_rfl) (fun _ _ _ h => h) (Or.inl ⟨by kernel_rfl, ?_⟩) ?_ ?_
                    rotate_left
                    · intro w_
                      go_simp
                      with_reducible rfl
                    rotate_left
                    · simp only [Act.put, List.setIfInBounds_toArray, List.set_cons_zero, List.set_cons_succ]
                      rfl
                    refine pure_ (i := 5) (N := (some 59)) (v := ?_) (a' := ?_) #[true, true, true, true, true, true, false, false, false, false, false, false, false, false, false, false, false, false, false, false, false] rfl rfl (by kernel_rfl) (fun _ _ _ h => h) (Or.inl ⟨by kernel_rfl, ?_⟩) ?_ ?_
                    rotate_left
                    · intro w_
                      go_simp
                      with_reducible rfl
                    rotate_left
                    · simp only [Act.put, List.setIfInBounds_toArray, List.set_cons_zero, List.set_cons_succ]
                      rfl
                    refine one_ (i := 6) (N := (some 60)) #[true, true, true, true, true, true, true, false, false, false, false, false, false, false, false, false, false, false, false, false, false] rfl rfl (by kernel_rfl) (by decide) (fun K hK => ?_)
                    refine goes_ Tryd.func95 (by kernel_rfl) rfl #[.pointer (some ⟨g, 0, none⟩), .pointer (some ⟨gn, 0, none⟩), .int .i64 (16 - (d : Int))] (by kernel_rfl) rfl rfl (by kernel_rfl) ?_
                    refine (HC.out w0 w8 g gn (k + 1) nm h8 ((HG2.out).keep HK8.out (by omega) (by simp)) h0 hgw0 hgg HB8.out).mono ?_
                    rintro e w9 ⟨t0_, l0_, A0, c0, b0, j0_, rfl, hB9, hle0, hF9, hW9, hR9, hk9, hm9⟩
                    rw [hcv] at hm9
                    obtain ⟨rfl, h1_, h2_, h3_⟩ := hm9
                    obtain rfl := h1_.symm
                    obtain rfl := h2_.symm
                    obtain rfl := h3_.symm
                    have HB9 := Aside0.mk hB9
                    have HR9 := Aside0.mk hR9
                    have HK9 := Aside0.mk (HK8.out.trans hk9 (.inr ⟨gn, rfl, hgw⟩))
                    have HF9 := Aside0.mk hF9
                    have HW9 := Aside0.mk hW9
                    have hgb : gn < w8.heap.size := blk_lt HB8.out
                    have hgb2 : g < w8.heap.size := h8.lt
                    have hwb : w.heap.size ≤ w8.heap.size := keep_size HK8.out
                    clear hB9 hR9 hk9 hF9 hW9
                    refine ⟨_, rfl, ?_⟩
                    refine hK.out _ _ ((blk_cell HB9.out 0).trans rfl) (fun hHeld => ?_)
                    clear hK K
                    refine norm_ (a' := ?_) ?_ ?_
                    rotate_left
                    · show Act.put _ (some 60) _ = _
                      simp only [Act.put, List.setIfInBounds_toArray, List.set_cons_zero, List.set_cons_succ]
                      rfl
                    refine pure_ (i := 7) (N := (some 61)) (v := ?_) (a' := ?_) #[true, true, true, true, true, true, true, true, false, false, false, false, false, false, false, false, false, false, false, false, false] rfl rfl (by kernel_rfl) (fun _ _ _ h => h) (Or.inl ⟨by kernel_rfl, ?_⟩) ?_ ?_
                    rotate_left
                    · intro w_
                      go_simp
                      with_reducible rfl
                    rotate_left
                    · simp only [Act.put, List.setIfInBounds_toArray, List.set_cons_zero, List.set_cons_succ]
                      rfl
                    refine pure_ (i := 8) (N := (some 62)) (v := ?_) (a' := ?_) #[true, true, true, true, true, true, true, true, true, false, false, false, false, false, false, false, false, false, false, false, false] rfl rfl (by kernel_rfl) (fun _ _ _ h => h) (Or.inl ⟨by kernel_rfl, ?_⟩) ?_ ?_
                    rotate_left
                    · intro w_
                      go_simp
                      with_reducible rfl
                    rotate_left
                    · simp only [Act.put, List.setIfInBounds_toArray, List.set_cons_zero, List.set_cons_succ]
                      rfl
                    refine pure_ (i := 9) (N := (some 63)) (v := ?_) (a' := ?_) #[true, true, true, true, true, true, true, true, true, true, false, false, false, false, false, false, false, false, false, false, false] rfl rfl (by kernel_rfl) (fun _ _ _ h => h) (Or.inl ⟨by kernel_rfl, ?_⟩) ?_ ?_
                    rotate_left
                    · intro w_
                      go_simp
                      with_reducible rfl
                    rotate_left
                    · simp only [Act.put, List.setIfInBounds_toArray, List.set_cons_zero, List.set_cons_succ]
                      rfl
                    refine pure_ (i := 10) (N := (some 64)) (v := ?_) (a' := ?_) #[true, true, true, true, true, true, true, true, true, true, true, false, false, false, false, false, false, false, false, false, false] rfl rfl (by kernel_rfl) (fun _ _ _ h => h) (Or.inl ⟨by kernel_rfl, ?_⟩) ?_ ?_
                    rotate_left
                    · intro w_
                      go_simp
                      with_reducible rfl
                    rotate_left
                    · simp only [Act.put, List.setIfInBounds_toArray, List.set_cons_zero, List.set_cons_succ]
                      rfl
                    refine one_ (i := 11) (N := (some 65)) #[true, true, true, true, true, true, true, true, true, true, true, true, false, false, false, false, false, false, false, false, false] rfl rfl (by kernel_rfl) (by decide) (fun K hK => ?_)
                    refine goes_ Tryd.func92 (by kernel_rfl) rfl #[.pointer (some ⟨g, 0, none⟩), .string ⟨#[60, 47]⟩] (by kernel_rfl) rfl rfl (by kernel_rfl) ?_
                    refine (eat_calls HR9.out ⟨#[60, 47]⟩ (by decide)).mono ?_
                    rintro e w10 ⟨rfl, h10, hk10⟩
                    rw [hq5]
                    have HB10 := Aside0.mk (hk10.blk HB9.out hgg (by simp))
                    have HK10 := Aside0.mk (HK9.out.trans hk10 (.inl rfl))
                    have HF10 := Aside0.mk (Kd.F_keep HF9.out hk10 (fun k_ hk_ e_ => by have := hk_; omega))
                    have HW10 := Aside0.mk (HW9.out.keep hk10 (by omega))
                    rw [if_pos (by rw [hq5])] at h10
                    have H10 := Aside0.mk h10
                    clear h10 hk10
                    refine ⟨_, rfl, ?_⟩
                    refine hK.out _ _ ((blk_cell HB10.out 0).trans rfl) (fun hHeld => ?_)
                    clear hK K
                    refine norm_ (a' := ?_) ?_ ?_
                    rotate_left
                    · show Act.put _ (some 65) _ = _
                      simp only [Act.put, List.setIfInBounds_toArray, List.set_cons_zero, List.set_cons_succ]
                      rfl
                    refine pure_ (i := 12) (N := (some 66)) (v := ?_) (a' := ?_) #[true, true, true, true, true, true, true, true, true, true, true, true, true, false, false, false, false, false, false, false, false] rfl rfl (by kernel_rfl) (fun _ _ _ h => h) (Or.inl ⟨by kernel_rfl, ?_⟩) ?_ ?_
                    rotate_left
                    · intro w_
                      go_simp
                      with_reducible rfl
                    rotate_left
                    · simp only [Act.put, List.setIfInBounds_toArray, List.set_cons_zero, List.set_cons_succ]
                      rfl
                    refine pure_ (i := 13) (N := (some 67)) (v := ?_) (a' := ?_) #[true, true, true, true, true, true, true, true, true, true, true, true, true, true, false, false, false, false, false, false, false] rfl rfl (by kernel_rfl) (fun _ _ _ h => h) (Or.inl ⟨by kernel_rfl, ?_⟩) ?_ ?_
                    rotate_left
                    · intro w_
                      go_simp
                      with_reducible rfl
                    rotate_left
                    · simp only [Act.put, List.setIfInBounds_toArray, List.set_cons_zero, List.set_cons_succ]
                      rfl
                    refine pure_ (i := 14) (N := (some 68)) (v := ?_) (a' := ?_) #[true, true, true, true, true, true, true, true, true, true, true, true, true, true, true, false, false, false, false, false, false] rfl rfl (by kernel_rfl) (fun _ _ _ h => h) (Or.inl ⟨by kernel_rfl, ?_⟩) ?_ ?_
                    rotate_left
                    · intro w_
                      go_simp
                      with_reducible rfl
                    rotate_left
                    · simp only [Act.put, List.setIfInBounds_toArray, List.set_cons_zero, List.set_cons_succ]
                      rfl
                    refine pure_ (i := 15) (N := (some 69)) (v := ?_) (a' := ?_) #[true, true, true, true, true, true, true, true, true, true, true, true, true, true, true, true, false, false, false, false, false] rfl rfl (by kernel_rfl) (fun _ _ _ h => h) (Or.inl ⟨by kernel_rfl, ?_⟩) ?_ ?_
                    rotate_left
                    · intro w_
                      go_simp
                      with_reducible rfl
                    rotate_left
                    · simp only [Act.put, List.setIfInBounds_toArray, List.set_cons_zero, List.set_cons_succ]
                      rfl
                    refine pure_ (i := 17) (N := (some 71)) (v := ?_) (a' := ?_) #[true, true, true, true, true, true, true, true, true, true, true, true, true, true, true, true, false, true, false, false, false] rfl rfl (by kernel_rfl) (fun _ _ _ h => h) (Or.inl ⟨by kernel_rfl, ?_⟩) ?_ ?_
                    rotate_left
                    · intro w_
                      go_simp
                      with_reducible rfl
                    rotate_left
                    · simp only [Act.put, List.setIfInBounds_toArray, List.set_cons_zero, List.set_cons_succ]
                      rfl
                    refine take_ (i := 18) (N := (some 72)) (v := ?_) (a' := ?_) #[true, true, true, true, true, true, true, true, true, true, true, true, true, true, true, true, false, true, true, false, false] rfl rfl (by kernel_rfl) (fun _ _ _ h => h) (Or.inl ⟨by kernel_rfl, ?_⟩) hHeld ?_ ?_
                    rotate_left
                    · rintro w_ s0
                      go_simp
                      with_reducible rfl
                    rotate_left
                    · simp only [Act.put, List.setIfInBounds_toArray, List.set_cons_zero, List.set_cons_succ]
                      rfl
                    refine one_ (i := 16) (N := (some 70)) #[true, true, true, true, true, true, true, true, true, true, true, true, true, true, true, true, true, true, true, false, false] rfl rfl (by kernel_rfl) (by decide) (fun K hK => ?_)
                    refine goes_ Tryd.func93 (by kernel_rfl) rfl #[.pointer (some ⟨g, 0, none⟩)] (by kernel_rfl) rfl rfl (by kernel_rfl) ?_
                    refine (name_calls (show Rd w0 w10 g s (m0 + 2) from H10.out)).mono ?_
                    rintro e w11 ⟨rfl, h11, hk11⟩
                    rw [← HX2.out]
                    rw [← HJ2.out] at h11
                    have H11 := Aside0.mk h11
                    have HB11 := Aside0.mk (hk11.blk HB10.out hgg (by simp))
                    have HK11 := Aside0.mk (HK10.out.trans hk11 (.inl rfl))
                    have HF11 := Aside0.mk (Kd.F_keep HF10.out hk11 (fun k_ hk_ e_ => by have := hk_; omega))
                    have HW11 := Aside0.mk (HW10.out.keep hk11 (by omega))
                    clear h11 hk11
                    refine ⟨_, rfl, ?_⟩
                    refine hK.out _ _ ((blk_cell HB11.out 0).trans rfl) (fun hHeld => ?_)
                    clear hK K
                    refine norm_ (a' := ?_) ?_ ?_
                    rotate_left
                    · show Act.put _ (some 70) _ = _
                      simp only [Act.put, List.setIfInBounds_toArray, List.set_cons_zero, List.set_cons_succ]
                      rfl
                    refine pure_ (i := 19) (N := (some 73)) (v := ?_) (a' := ?_) #[true, true, true, true, true, true, true, true, true, true, true, true, true, true, true, true, true, true, true, true, false] rfl rfl (by kernel_rfl) (fun _ _ _ h => h) (Or.inl ⟨by kernel_rfl, ?_⟩) ?_ ?_
                    rotate_left
                    · intro w_
                      go_simp
                      with_reducible rfl
                    rotate_left
                    · simp only [Act.put, List.setIfInBounds_toArray, List.set_cons_zero, List.set_cons_succ]
                      rfl
                    refine pure_ (i := 20) (N := (some 74)) (v := ?_) (a' := ?_) #[true, true, true, true, true, true, true, true, true, true, true, true, true, true, true, true, true, true, true, true, true] rfl rfl (by kernel_rfl) (fun _ _ _ h => h) (Or.inl ⟨by kernel_rfl, ?_⟩) ?_ ?_
                    rotate_left
                    · intro w_
                      go_simp
                      with_reducible rfl
                    rotate_left
                    · simp only [Act.put, List.setIfInBounds_toArray, List.set_cons_zero, List.set_cons_succ]
                      rfl
                    refine done_ (by kernel_rfl) ?_
                    go_wp2_with fail
                    apply wp_goto
                    exact ⟨rfl, ElemJ.mk H11.out HK11.out HB11.out (by rw [HE9.out, if_neg hnx])⟩
        clear hKl
        go_loopg [20] (s.size + 1) (fun kq v wr => ∃ j, Aside0 (attrsV kq s j = attrsV (s.size + 1) s j0) ∧ s.size - j < kq ∧ Aside0 (Rd w0 wr g s j) ∧ Aside0 (KeepBut w wr g none) ∧ Aside0 (wr.heap[gn]? = some (.cells #[.string nm, .string ⟨#[]⟩, .slice none 0 0] 36 (0, 0))))
        case atStart => exact ⟨j0, ⟨rfl⟩, by omega, H3, HK3, HB3⟩
        case round =>
          obtain ⟨j, HA, hjk, HRj, HKj, HBj⟩ := hrel
          clear H3 HK3 HB3
          obtain ⟨k1, rfl⟩ : ∃ k1, gk = k1 + 1 := ⟨gk - 1, by omega⟩
          have hA := HA.out
          rw [attrsV] at hA
          obtain ⟨j', hj'⟩ : ∃ j', j' = skip whiteV s j := ⟨_, rfl⟩
          rw [← hj'] at hA
          have HA2 := Aside0.mk hA
          have hjs : j' ≤ s.size := by rw [hj']; exact skip_max HRj.out.le
          have hjj : j ≤ j' := by rw [hj']; exact le_skip _ _ _
          have HJ := Aside0.mk hj'
          clear hA HA hj'
          have p0 : (0 : Int) ≤ (j' : Int) := by omega
          have p1 : (j' : Int) ≤ (s.size : Int) := by omega
          have cA := HRj.out.cell0
          have HSP : ∀ w' : World, w' = wr.drew → Calls Tryd.prog 48 #[.pointer (some ⟨g, 0, none⟩)] w' fun e w' => e = .returned (.bool (decide (j < j'))) ∧ Rd w0 w' g s j' ∧ KeepBut wr w' g none := by
            rintro w' rfl
            have h := space_calls (HRj.out.drewN 1)
            rw [← HJ.out] at h
            exact h
          have HSP' := Aside0.mk HSP
          clear HSP
          have p2 : j' ≤ s.size := hjs
          have hc1 : ∃ c1, c1 = decide (j < j') := ⟨_, rfl⟩
          obtain ⟨c1, hc1⟩ := hc1
          obtain ⟨c2, hc2⟩ : ∃ c2, c2 = hasP s j' ⟨#[47]⟩ := ⟨_, rfl⟩
          obtain ⟨c3, hc3⟩ : ∃ c3, c3 = hasP s j' ⟨#[62]⟩ := ⟨_, rfl⟩
          have HP2 : Aside0 (∀ w' : World, Calls Tryd.prog 89 #[.string (s.extract j' s.size), .string ⟨#[47]⟩] w' fun e w2 => e = .returned (.bool c2) ∧ Drawn0 w' w2) := ⟨fun w' => by rw [hc2]; exact HasPrefix_calls s j' ⟨#[47]⟩ hsm (by decide) w'⟩
          have HP3 : Aside0 (∀ w' : World, Calls Tryd.prog 89 #[.string (s.extract j' s.size), .string ⟨#[62]⟩] w' fun e w2 => e = .returned (.bool c3) ∧ Drawn0 w' w2) := ⟨fun w' => by rw [hc3]; exact HasPrefix_calls s j' ⟨#[62]⟩ hsm (by decide) w'⟩
          have hA := HA2.out
          rw [← hc1, ← hc2, ← hc3] at hA
          have HSP : ∀ w' : World, w' = wr.drew → Calls Tryd.prog 48 #[.pointer (some ⟨g, 0, none⟩)] w' fun e w' => e = .returned (.bool c1) ∧ Rd w0 w' g s j' ∧ KeepBut wr w' g none := by
            rintro w' rfl
            have h := space_calls (HRj.out.drewN 1)
            rw [← HJ.out, ← hc1] at h
            exact h
          have HSP' := Aside0.mk HSP
          have HA3 := Aside0.mk hA
          have HC1 := Aside0.mk hc1
          clear HSP hA hc1 hc2 hc3 HA2
          have hcase : (c1 = false) ∨ (c1 = true ∧ c2 = true) ∨ (c1 = true ∧ c2 = false ∧ c3 = true) ∨ (c1 = true ∧ c2 = false ∧ c3 = false) := by
            cases c1 <;> cases c2 <;> cases c3 <;> simp
          rcases hcase with rfl | ⟨rfl, rfl⟩ | ⟨rfl, rfl, rfl⟩ | ⟨rfl, rfl, rfl⟩
          · go_wp2
            refine wp_region_2q (by kernel_rfl) (by kernel_rfl) (by kernel_rfl) (by kernel_rfl) (by kernel_rfl) (fun K hK => ?_)
            go_simp
            refine hK.out _ _ (fun K1 hK1 => ?_)
            clear hK K
            go_simp
            refine (HSP'.out _ rfl).mono ?_
            rintro e w5 ⟨rfl, h5, hk5⟩
            refine hK1.out _ _ ?_
            clear hK1 K1
            have cA5 := h5.cell0
            have cB5 := h5.cell1
            have H5 := Aside0.mk h5
            have HK5 := Aside0.mk (HKj.out.trans hk5 (.inl rfl))
            have HB5 := Aside0.mk (hk5.blk HBj.out hgg (by simp))
            clear h5 hk5 cA
            repeat (go_big_quiet_step (first | (go_at_call 89; with_reducible refine (HP2.out _).mono ?_; rintro e w2 ⟨rfl, ⟨n7, rfl⟩⟩; exact ⟨rfl, _, World.drewN_drewN _ _ _⟩) | (go_at_call 89; with_reducible refine (HP3.out _).mono ?_; rintro e w2 ⟨rfl, ⟨n7, rfl⟩⟩; exact ⟨rfl, _, World.drewN_drewN _ _ _⟩)))
            refine wpQuiet_nil ?_
            intro _ hw'
            obtain ⟨nq, hw''⟩ := hw'
            subst hw''
            go_wp2
            exact hM j' _ _ (by have := HA3.out; simpa using this.symm) (ElemM.mk (H5.out.drewN _) (keep_drewN HK5.out _) (blk_drewN HB5.out _))
          · go_wp2
            refine wp_region_2q (by kernel_rfl) (by kernel_rfl) (by kernel_rfl) (by kernel_rfl) (by kernel_rfl) (fun K hK => ?_)
            go_simp
            refine hK.out _ _ (fun K1 hK1 => ?_)
            clear hK K
            go_simp
            refine (HSP'.out _ rfl).mono ?_
            rintro e w5 ⟨rfl, h5, hk5⟩
            refine hK1.out _ _ ?_
            clear hK1 K1
            have cA5 := h5.cell0
            have cB5 := h5.cell1
            have H5 := Aside0.mk h5
            have HK5 := Aside0.mk (HKj.out.trans hk5 (.inl rfl))
            have HB5 := Aside0.mk (hk5.blk HBj.out hgg (by simp))
            clear h5 hk5 cA
            repeat (go_big_quiet_step (first | (go_at_call 89; with_reducible refine (HP2.out _).mono ?_; rintro e w2 ⟨rfl, ⟨n7, rfl⟩⟩; exact ⟨rfl, _, World.drewN_drewN _ _ _⟩) | (go_at_call 89; with_reducible refine (HP3.out _).mono ?_; rintro e w2 ⟨rfl, ⟨n7, rfl⟩⟩; exact ⟨rfl, _, World.drewN_drewN _ _ _⟩)))
            refine wpQuiet_nil ?_
            intro _ hw'
            obtain ⟨nq, hw''⟩ := hw'
            subst hw''
            go_wp2
            exact hM j' _ _ (by have := HA3.out; simpa using this.symm) (ElemM.mk (H5.out.drewN _) (keep_drewN HK5.out _) (blk_drewN HB5.out _))
          · go_wp2
            refine wp_region_2q (by kernel_rfl) (by kernel_rfl) (by kernel_rfl) (by kernel_rfl) (by kernel_rfl) (fun K hK => ?_)
            go_simp
            refine hK.out _ _ (fun K1 hK1 => ?_)
            clear hK K
            go_simp
            refine (HSP'.out _ rfl).mono ?_
            rintro e w5 ⟨rfl, h5, hk5⟩
            refine hK1.out _ _ ?_
            clear hK1 K1
            have cA5 := h5.cell0
            have cB5 := h5.cell1
            have H5 := Aside0.mk h5
            have HK5 := Aside0.mk (HKj.out.trans hk5 (.inl rfl))
            have HB5 := Aside0.mk (hk5.blk HBj.out hgg (by simp))
            clear h5 hk5 cA
            repeat (go_big_quiet_step (first | (go_at_call 89; with_reducible refine (HP2.out _).mono ?_; rintro e w2 ⟨rfl, ⟨n7, rfl⟩⟩; exact ⟨rfl, _, World.drewN_drewN _ _ _⟩) | (go_at_call 89; with_reducible refine (HP3.out _).mono ?_; rintro e w2 ⟨rfl, ⟨n7, rfl⟩⟩; exact ⟨rfl, _, World.drewN_drewN _ _ _⟩)))
            refine wpQuiet_nil ?_
            intro _ hw'
            obtain ⟨nq, hw''⟩ := hw'
            subst hw''
            go_wp2
            exact hM j' _ _ (by have := HA3.out; simpa using this.symm) (ElemM.mk (H5.out.drewN _) (keep_drewN HK5.out _) (blk_drewN HB5.out _))
          · go_wp2
            refine wp_region_2q (by kernel_rfl) (by kernel_rfl) (by kernel_rfl) (by kernel_rfl) (by kernel_rfl) (fun K hK => ?_)
            go_simp
            refine hK.out _ _ (fun K1 hK1 => ?_)
            clear hK K
            go_simp
            refine (HSP'.out _ rfl).mono ?_
            rintro e w5 ⟨rfl, h5, hk5⟩
            refine hK1.out _ _ ?_
            clear hK1 K1
            have cA5 := h5.cell0
            have cB5 := h5.cell1
            have H5 := Aside0.mk h5
            have HK5 := Aside0.mk (HKj.out.trans hk5 (.inl rfl))
            have HB5 := Aside0.mk (hk5.blk HBj.out hgg (by simp))
            clear h5 hk5 cA
            repeat (go_big_quiet_step (first | (go_at_call 89; with_reducible refine (HP2.out _).mono ?_; rintro e w2 ⟨rfl, ⟨n7, rfl⟩⟩; exact ⟨rfl, _, World.drewN_drewN _ _ _⟩) | (go_at_call 89; with_reducible refine (HP3.out _).mono ?_; rintro e w2 ⟨rfl, ⟨n7, rfl⟩⟩; exact ⟨rfl, _, World.drewN_drewN _ _ _⟩)))
            refine wpQuiet_nil ?_
            intro _ hw'
            obtain ⟨nq, hw''⟩ := hw'
            subst hw''
            go_wp2_with fail
            refine (attribute_calls (H5.out.drewN _)).mono ?_
            rintro e w6 ⟨b, m, rfl, h6, hk6, hm6⟩
            have H6 := Aside0.mk h6
            have HK6 := Aside0.mk ((keep_drewN HK5.out _).trans hk6 (.inl rfl))
            have HB6 := Aside0.mk (hk6.blk (blk_drewN HB5.out _) hgg (by simp))
            have hm6le := h6.le
            clear h6 hk6 cA5 cB5 H5 HK5 HB5
            have hA3 := HA3.out
            cases hv : attrV s j' with
            | none =>
              rw [hv] at hm6 hA3
              simp only [] at hm6
              subst hm6
              have HN : Aside0 (elemV s (d + 1) i = none) := ⟨by
                rw [HE3.out]
                unfold atV
                rw [← hA3]
                simp⟩
              clear hA3
              go_wp2_with fail
              apply wp_goto
              exact ⟨rfl, ElemJ.mk H6.out HK6.out HB6.out HN.out⟩
            | some m' =>
              have hgt := attrV_gt hv
              rw [hv] at hm6 hA3
              simp only [] at hm6
              obtain ⟨rfl, rfl⟩ := hm6
              have HA4 : Aside0 (attrsV k1 s m = attrsV (s.size + 1) s j0) := ⟨by simpa using hA3⟩
              clear hA3
              go_wp2
              go_roundg k1
              case measure => omega
              case rel => exact ⟨m, HA4, by omega, H6, HK6, HB6⟩
def codeAt : List Nat → Code → Code
  | 0 :: r, .seq a _ => codeAt r a
  | 1 :: r, .seq _ b => codeAt r b
  | 0 :: r, .cond _ a _ => codeAt r a
  | 1 :: r, .cond _ _ b => codeAt r b
  | 0 :: r, .block _ a => codeAt r a
  | 0 :: r, .loop a => codeAt r a
  | 0 :: r, .scope a => codeAt r a
  | _, c => c
def codeIn (f : Func) (l : List Nat) : Code := codeAt l (f.body.getD .skip)
def ElemOk (s : ByteArray) (d : Nat) : Prop := ∀ (w0 w : World) (g i : Nat), Rd w0 w g s i → GOK w → 0 < w0.heap.size →
      Calls Tryd.prog 49 #[.pointer (some ⟨g, 0, none⟩), .int .i64 (16 - (d : Int) + 1)] w (ElemPost w0 w g s (elemV s d i))
structure KidsAt (w wr : World) (gn : Nat) (nm : ByteArray) (l : List S36) (A : Option Addr) (c : Nat) : Prop where
  blk : wr.heap[gn]? = some (.cells #[.string nm, .string ⟨#[]⟩, .slice A l.length c] 36 (0, 0))
  row : Kd.N k36 36 wr w.heap.size (fun k => w.heap.size ≤ k) (.slice A l.length c) l
  nil : l = [] → A = none ∧ c = 0
theorem keepWeak {w w' : World} {g : Nat} (h : KeepBut w w' g none) (row : Option Nat) : KeepBut w w' g row := ⟨h.1, fun i hi hg _ => h.2 i hi hg (by simp)⟩
theorem KidsAt.wr {w wr : World} {gn : Nat} {nm : ByteArray} {l : List S36} {A : Option Addr} {c : Nat} (h : KidsAt w wr gn nm l A c) : Wr wr w.heap.size A := fun ad hA => by
  subst hA
  obtain ⟨g', rfl⟩ : ∃ g', ad = ⟨g', 0, none⟩ := by
    obtain ⟨_, rows, _, hR, _⟩ := h.row
    exact Kd.R_head hR
  have hb := Kd.N_base h.row g' (by simp [Value.ownBlock])
  obtain ⟨cells, hc⟩ := Kd.N_typed h.row g' (by simp [Value.ownBlock])
  exact ⟨g', cells, rfl, hb, hc⟩
theorem KidsAt.f {w wr : World} {gn : Nat} {nm : ByteArray} {l : List S36} {A : Option Addr} {c : Nat} (h : KidsAt w wr gn nm l A c) : Kd.F k36 wr (fun k => w.heap.size ≤ k) A l.length l := Kd.N_F h.row
theorem KidsAt.le {w wr : World} {gn : Nat} {nm : ByteArray} {l : List S36} {A : Option Addr} {c : Nat} (h : KidsAt w wr gn nm l A c) : l.length ≤ c := (Kd.N_reads' h.row).2.1
theorem KidsAt.drewN {w wr : World} {gn : Nat} {nm : ByteArray} {l : List S36} {A : Option Addr} {c : Nat} (h : KidsAt w wr gn nm l A c) (n : Nat) : KidsAt w (wr.drewN n) gn nm l A c := ⟨blk_drewN h.blk n, Kd.N_drewN h.row n, h.nil⟩
theorem KidsAt.keep {w wr w' : World} {g gn : Nat} {nm : ByteArray} {l : List S36} {A : Option Addr} {c : Nat} (h : KidsAt w wr gn nm l A c) (hk : KeepBut wr w' g none) (hg : g < w.heap.size) (hgn : gn ≠ g) : KidsAt w w' gn nm l A c :=
  ⟨hk.blk h.blk hgn (by simp), Kd.N_keep h.row hk (fun k hk_ e_ => by have := hk_; omega), h.nil⟩
theorem two_last_ {P : Program} {ops : Array Oper} {Q : Exit → Act → World → Prop} {md : Region.Mode} {S : World → Prop} {ds : List Nat} {i j : Nat} {Ni Nj : Option Tmp} {oi oj : Oper} {fuel : Nat} {l : Array Bool} {a : Act} {w : World} (li lj : Array Bool) (hi : ops[i]? = some oi) (hj : ops[j]? = some oj) (hNi : oi.dst = Ni) (hNj : oj.dst = Nj)
    (hc : (Region.ready md ops l == [i, j] && l.setIfInBounds i true == li && l.setIfInBounds j true == lj) = true) (hdi : i ∈ ds) (hdj : j ∈ ds)
    (h1 : ∀ K : Act → World → Prop, Shut (∀ a' w', wpAnyLast P md ops Q S ds fuel li a' w' → K a' w') → if Region.wanted oi (yielded ops a.tmps) = true then Oper.wp P oi a w K Q else K (a.put Ni undef) w)
    (h2 : ∀ K : Act → World → Prop, Shut (∀ a' w', wpAnyLast P md ops Q S ds fuel lj a' w' → K a' w') → if Region.wanted oj (yielded ops a.tmps) = true then Oper.wp P oj a w K Q else K (a.put Nj undef) w) :
    wpAnyLast P md ops Q S ds (fuel + 1) l a w := by
  subst hNi
  subst hNj
  simp only [Bool.and_eq_true, beq_iff_eq] at hc
  obtain ⟨⟨h3, h4⟩, h5⟩ := hc
  subst h4
  subst h5
  exact wpAnyLast_ready h3 (by simp) (AllReadyL.cons_last hi hdi (fun K hK => h1 K hK) (AllReadyL.cons_last hj hdj (fun K hK => h2 K hK) AllReadyL.nil))
theorem store3_run {P : Program} {oi : Oper} {a : Act} {w : World} {p x : Operand} {g o : Nat} {cur : Array Value} {x0 x1 x2 : Value} (hop : oi.op = .store 36 p x) (hp : a.eval p = .pointer (some ⟨g, o, none⟩)) (hx : a.eval x = .agg #[x0, x1, x2]) (hi : (P.info? 36).map (·.size) = some 3)
    (hh : w.heap[g]? = some (.cells cur 36 (0, 0))) (hfit : o + 3 ≤ cur.size) (h0 : x0.oneCell' = true) (h1 : x1.oneCell' = true) (h2 : x2.oneCell' = true) (hc : (Value.agg #[x0, x1, x2]).cells.toList = [x0, x1, x2]) :
    (execOp a.eval oi).run P w = .ok .skip (w.setCells g o [x0, x1, x2]) := by
  have hrun := run_store_run (P := P) (w := w) 36 (.agg #[x0, x1, x2]) [x0, x1, x2] hh hc hi hfit (by intro q hq; simp only [List.mem_cons, List.not_mem_nil, or_false] at hq; rcases hq with rfl | rfl | rfl <;> assumption)
  unfold execOp
  simp only [hop, hp, hx, Sem.run_bind, Sem.run_pure, Result.andThen_ok, hrun]
def ContFr (g gn d i : Nat) (a' : Act) : Prop := ∃ u : Nat → Value, a' = { tmps := #[.pointer (some ⟨g, 0, none⟩), .pointer (some ⟨gn, 0, none⟩), .int .i64 (16 - (d : Int)), u 3, u 4, u 5, u 6, .int .i64 i, u 8, u 9, u 10, u 11, u 12, u 13, u 14, u 15, u 16, u 17, u 18, u 19, u 20, u 21, u 22, u 23, u 24, u 25, u 26, u 27, u 28, u 29, u 30, u 31, u 32, u 33, u 34, u 35, u 36, u 37, u 38, u 39, u 40, u 41, u 42, u 43, u 44, u 45, u 46, u 47, u 48, u 49, u 50, u 51, u 52, u 53, u 54, u 55, u 56, u 57, u 58, u 59, u 60, u 61, u 62, u 63, u 64, u 65, u 66, u 67, u 68, u 69, u 70, u 71, u 72, u 73, u 74, u 75, u 76, u 77, u 78, u 79, u 80, u 81, u 82, u 83, u 84, u 85, u 86, u 87, u 88, u 89, u 90, u 91, u 92, u 93, u 94, u 95, u 96, u 97, u 98, u 99, u 100, u 101, u 102, u 103, u 104, u 105, u 106, u 107, u 108, u 109, u 110, u 111, u 112, u 113, u 114, u 115, u 116, u 117, u 118, u 119, u 120], defers := [] }
theorem ContFr.mk {g gn d i : Nat} {u3 u4 u5 u6 u8 u9 u10 u11 u12 u13 u14 u15 u16 u17 u18 u19 u20 u21 u22 u23 u24 u25 u26 u27 u28 u29 u30 u31 u32 u33 u34 u35 u36 u37 u38 u39 u40 u41 u42 u43 u44 u45 u46 u47 u48 u49 u50 u51 u52 u53 u54 u55 u56 u57 u58 u59 u60 u61 u62 u63 u64 u65 u66 u67 u68 u69 u70 u71 u72 u73 u74 u75 u76 u77 u78 u79 u80 u81 u82 u83 u84 u85 u86 u87 u88 u89 u90 u91 u92 u93 u94 u95 u96 u97 u98 u99 u100 u101 u102 u103 u104 u105 u106 u107 u108 u109 u110 u111 u112 u113 u114 u115 u116 u117 u118 u119 u120 : Value} : ContFr g gn d i { tmps := #[.pointer (some ⟨g, 0, none⟩), .pointer (some ⟨gn, 0, none⟩), .int .i64 (16 - (d : Int)), u3, u4, u5, u6, .int .i64 i, u8, u9, u10, u11, u12, u13, u14, u15, u16, u17, u18, u19, u20, u21, u22, u23, u24, u25, u26, u27, u28, u29, u30, u31, u32, u33, u34, u35, u36, u37, u38, u39, u40, u41, u42, u43, u44, u45, u46, u47, u48, u49, u50, u51, u52, u53, u54, u55, u56, u57, u58, u59, u60, u61, u62, u63, u64, u65, u66, u67, u68, u69, u70, u71, u72, u73, u74, u75, u76, u77, u78, u79, u80, u81, u82, u83, u84, u85, u86, u87, u88, u89, u90, u91, u92, u93, u94, u95, u96, u97, u98, u99, u100, u101, u102, u103, u104, u105, u106, u107, u108, u109, u110, u111, u112, u113, u114, u115, u116, u117, u118, u119, u120], defers := [] } := ⟨fun k => ([undef, undef, undef, u3, u4, u5, u6, undef, u8, u9, u10, u11, u12, u13, u14, u15, u16, u17, u18, u19, u20, u21, u22, u23, u24, u25, u26, u27, u28, u29, u30, u31, u32, u33, u34, u35, u36, u37, u38, u39, u40, u41, u42, u43, u44, u45, u46, u47, u48, u49, u50, u51, u52, u53, u54, u55, u56, u57, u58, u59, u60, u61, u62, u63, u64, u65, u66, u67, u68, u69, u70, u71, u72, u73, u74, u75, u76, u77, u78, u79, u80, u81, u82, u83, u84, u85, u86, u87, u88, u89, u90, u91, u92, u93, u94, u95, u96, u97, u98, u99, u100, u101, u102, u103, u104, u105, u106, u107, u108, u109, u110, u111, u112, u113, u114, u115, u116, u117, u118, u119, u120] : List Value).getD k undef, rfl⟩
theorem Rd.upto {w0 w w' : World} {g : Nat} {s : ByteArray} {i B : Nat} (h : Rd w0 w g s i) (hb : Below B w w') (hg : g < B) (h0 : w0.heap.size ≤ B) : Rd w0 w' g s i :=
  ⟨⟨(hb.block g hg).trans h.st.1, h.st.2⟩, below_weaken h.below h0 hb, h.le, h.small⟩
theorem N_shape {w : World} {e base : Nat} {ok : Nat → Prop} {v : Value} {l : List S36} (h : Kd.N k36 e w base ok v l) (hl0 : 0 < l.length) : ∃ g' c', v = .slice (some ⟨g', 0, none⟩) l.length c' := by
  obtain ⟨_, rows, hl, ⟨_, inner, ho, hr⟩, _⟩ := h
  rcases ho.2 with ⟨hv, h0⟩ | ⟨g2, cap', cur, hv, _⟩
  · simp_all
  · exact ⟨g2, cap', by rw [hv, hl]⟩
theorem N_cur {w : World} {base : Nat} {ok : Nat → Prop} {g' n c : Nat} {l : List S36} (h : Kd.N k36 36 w base ok (.slice (some ⟨g', 0, none⟩) n c) l) : ∃ cur, w.heap[g']? = some (.cells cur 36 (0, 0)) ∧ n * 3 ≤ cur.size := by
  obtain ⟨_, rows, hl, ⟨_, inner, ho, hr⟩, _⟩ := h
  rcases ho.2 with ⟨hv, _⟩ | ⟨g2, cap', cur, hv, hb, hh, hnc, hcm, hcs, ht⟩
  · cases hv
  injection hv with ha hn hc
  injection ha with ha
  injection ha with hg'
  subst hg'
  subst hc
  refine ⟨cur, hh, ?_⟩
  have h3 : rows.length * 3 ≤ c * 3 := Nat.mul_le_mul_right _ hnc
  have h4 : cur.size = c * 3 := hcs
  omega
theorem kids_put {w w8 : World} {gn g' c' : Nat} {nm : ByteArray} {l : List S36} {n : S36} {A1 : Option Addr} {d1 b5 : Nat} {x : Value}
    (hgn : gn < w.heap.size) (hb : w8.heap[gn]? = some (.cells #[.string nm, .string ⟨#[]⟩, x] 36 (0, 0)))
    (hN : Kd.N k36 36 w8 w.heap.size (fun k => w.heap.size ≤ k) (.slice (some ⟨g', 0, none⟩) (l.length + 1) c') (l ++ [z36]))
    (hle : n.f2.length ≤ d1) (hF : Kd.F k36 w8 (fun k => b5 ≤ k ∧ k ≠ g') A1 n.f2.length n.f2) (hb5 : w.heap.size ≤ b5) :
    (∃ cur, w8.heap[g']? = some (.cells cur 36 (0, 0)) ∧ l.length * 3 + 3 ≤ cur.size) ∧ gn ≠ g' ∧
    (KidsAt w ((w8.setCells g' (l.length * 3) [.string n.f0, .string n.f1, .slice A1 n.f2.length d1]).setCell ⟨gn, 2, none⟩ (.slice (some ⟨g', 0, none⟩) (l.length + 1) c')) gn nm (l ++ [n]) (some ⟨g', 0, none⟩) c') ∧
    (KidsAt w ((w8.setCell ⟨gn, 2, none⟩ (.slice (some ⟨g', 0, none⟩) (l.length + 1) c')).setCells g' (l.length * 3) [.string n.f0, .string n.f1, .slice A1 n.f2.length d1]) gn nm (l ++ [n]) (some ⟨g', 0, none⟩) c') ∧
    (∀ {w0 : World} {g m : Nat} {s : ByteArray}, Rd w0 w8 g s m → KeepBut w w8 g (some gn) → gn ≠ g → w0.heap.size ≤ gn → g < w.heap.size → (Rd w0 ((w8.setCells g' (l.length * 3) [.string n.f0, .string n.f1, .slice A1 n.f2.length d1]).setCell ⟨gn, 2, none⟩ (.slice (some ⟨g', 0, none⟩) (l.length + 1) c')) g s m ∧ KeepBut w ((w8.setCells g' (l.length * 3) [.string n.f0, .string n.f1, .slice A1 n.f2.length d1]).setCell ⟨gn, 2, none⟩ (.slice (some ⟨g', 0, none⟩) (l.length + 1) c')) g (some gn)) ∧ Rd w0 ((w8.setCell ⟨gn, 2, none⟩ (.slice (some ⟨g', 0, none⟩) (l.length + 1) c')).setCells g' (l.length * 3) [.string n.f0, .string n.f1, .slice A1 n.f2.length d1]) g s m ∧ KeepBut w ((w8.setCell ⟨gn, 2, none⟩ (.slice (some ⟨g', 0, none⟩) (l.length + 1) c')).setCells g' (l.length * 3) [.string n.f0, .string n.f1, .slice A1 n.f2.length d1]) g (some gn)) := by
  have hbase := Kd.N_base hN g' (by simp [Value.ownBlock])
  have hne : gn ≠ g' := by omega
  have hset : (l ++ [z36]).set l.length n = l ++ [n] := by
    rw [List.set_append_right _ _ (Nat.le_refl _)]
    simp
  have hlen : (l ++ [n]).length = l.length + 1 := by simp
  have seg : ∀ W, Kd.N k36 36 W w.heap.size (fun k => w.heap.size ≤ k) (.slice (some ⟨g', 0, none⟩) (l.length + 1) c') (l ++ [z36]) → Kd.F k36 W (fun k => b5 ≤ k ∧ k ≠ g') A1 n.f2.length n.f2 →
      Kd.N k36 36 (W.setCells g' (l.length * 3) [.string n.f0, .string n.f1, .slice A1 n.f2.length d1]) w.heap.size (fun k => w.heap.size ≤ k) (.slice (some ⟨g', 0, none⟩) (l.length + 1) c') (l ++ [n]) ∧ W.grownBy (W.setCells g' (l.length * 3) [.string n.f0, .string n.f1, .slice A1 n.f2.length d1]) (some g') := by
    intro W h1 h2
    have hK : Kd.FK k36 W (fun k => b5 ≤ k ∧ k ≠ g') n [.string n.f0, .string n.f1, .slice A1 n.f2.length d1] := k36_mkF W _ n hle h2
    obtain ⟨c, hc1, _, hc2, _⟩ := Kd.N_elem h1 z36 (l.length : Int) (by omega) (by omega)
    have h3 := Kd.N_seg h1 (l.length : Int) (by omega) (by omega) (c := c) (seg := [.string n.f0, .string n.f1, .slice A1 n.f2.length d1]) (j := 0) hc1 hc2 (by show 0 + 3 ≤ 3; omega) (x' := n)
      (okp := fun k => b5 ≤ k ∧ k ≠ g') (by
        have : c.drop (0 + ([.string n.f0, .string n.f1, .slice A1 n.f2.length d1] : List Value).length) = [] := List.drop_of_length_le (by rw [hc1]; exact Nat.le_refl 3)
        rw [this]
        simpa using hK) (fun k hk => ⟨by omega, hk.2⟩)
    have h4 : ((l.length : Int).toNat * k36.sz + 0) = l.length * 3 := rfl
    rw [h4, Int.toNat_natCast, hset] at h3
    exact h3
  obtain ⟨cur, hcur, hsz⟩ := N_cur hN
  have hnl : ∀ (W : World) (A : Option Addr) (c : Nat) (nm' : ByteArray), l ++ [n] = [] → A = Option.none ∧ c = 0 := fun _ _ _ _ h => by simp at h
  have hba : ∀ k, w.heap.size ≤ k → k ≠ gn := fun k hk he => by omega
  have hbb : ∀ k, (b5 ≤ k ∧ k ≠ g') → k ≠ gn := fun k hk he => by omega
  obtain ⟨s1, s2⟩ := seg w8 hN hF
  obtain ⟨s3, s4⟩ := seg (w8.setCell ⟨gn, 2, none⟩ (.slice (some ⟨g', 0, none⟩) (l.length + 1) c')) (Kd.N_far (p := ⟨gn, 2, none⟩) hN hba _) (Kd.F_step hF (fun k hk _ => Below.heap_setCell w8 ⟨gn, 2, none⟩ _ k (hbb k hk)))
  have b1 : (w8.setCells g' (l.length * 3) [.string n.f0, .string n.f1, .slice A1 n.f2.length d1]).heap[gn]? = some (.cells #[.string nm, .string ⟨#[]⟩, x] 36 (0, 0)) := blk_grown hb s2 (by intro h; injection h with h; omega)
  have b2 : (w8.setCell ⟨gn, 2, none⟩ (.slice (some ⟨g', 0, none⟩) (l.length + 1) c')).heap[gn]? = some (.cells #[.string nm, .string ⟨#[]⟩, .slice (some ⟨g', 0, none⟩) (l.length + 1) c'] 36 (0, 0)) := blk_put hb 2 _ rfl
  refine ⟨⟨cur, hcur, by omega⟩, hne, ⟨?_, ?_, fun h => by simp at h⟩, ⟨?_, ?_, fun h => by simp at h⟩, ?_⟩
  · rw [hlen]
    exact blk_put b1 2 _ rfl
  · rw [hlen]
    exact Kd.N_far (p := ⟨gn, 2, none⟩) s1 hba _
  · rw [hlen]
    exact blk_grown b2 s4 (by intro h; injection h with h; omega)
  · rw [hlen]
    exact s3
  · intro w0 g m s hR hK hgg h0 hg
    have hw : w.heap.size ≤ w8.heap.size := hK.1
    have below : ∀ {W W' : World}, W.grownBy W' (some g') → w.heap.size ≤ W.heap.size → Below w.heap.size W W' := fun h hw_ => pw_below_grown (Below.refl _ _) (some g') hw_ h (fun k hk => by injection hk with hk; omega)
    have keepg : ∀ {W W' : World}, W.grownBy W' (some g') → KeepBut w W g (some gn) → KeepBut w W' g (some gn) := fun h hk_ => ⟨Nat.le_trans hk_.1 h.size, fun i hi h1 h2 => (h.block i (Nat.lt_of_lt_of_le hi hk_.1) (by intro he; injection he with he; omega)).trans (hk_.2 i hi h1 h2)⟩
    have keepc : ∀ {W : World} (u : Value), KeepBut w W g (some gn) → KeepBut w (W.setCell ⟨gn, 2, none⟩ u) g (some gn) := fun u hk_ => ⟨by rw [World.size_setCell]; exact hk_.1, fun i hi h1 h2 => (Below.heap_setCell _ ⟨gn, 2, none⟩ u i (fun he => h2 (by rw [he]))).trans (hk_.2 i hi h1 h2)⟩
    refine ⟨⟨?_, keepc _ (keepg s2 hK)⟩, ?_, keepg s4 (keepc _ hK)⟩
    · exact (hR.upto (below s2 hw) hg (by omega)).far (p := ⟨gn, 2, none⟩) hgg h0 _
    · exact (hR.far (p := ⟨gn, 2, none⟩) hgg h0 _).upto (below s4 (by rw [World.size_setCell]; exact hw)) hg (by omega)
theorem info36c : (Tryd.prog.info? 36).map (fun i => (i.zero, i.size, i.bytes)) = some (some (.agg #[.string ⟨#[]⟩, .string ⟨#[]⟩, .slice none 0 0]), 3, 56) := by kernel_rfl
set_option maxHeartbeats 4000000 in
set_option maxRecDepth 1000000 in
theorem cont_r7 {Q : Exit → Act → World → Prop} {w0 w w5 w7 : World} {g gn gk i d m c d1 : Nat} {s nm : ByteArray} {l : List S36} {A A1 : Option Addr} {n : S36} {u3 u4 u5 u6 u9 u10 u11 u12 u13 u14 u15 u16 u17 u18 u19 u20 u21 u22 u23 u24 u25 u26 u27 u28 u29 u30 u31 u32 u33 u34 u35 u36 u37 u38 u39 u40 u41 u42 u43 u44 u45 u46 u47 u48 u49 u50 u51 u52 u53 u54 u55 u56 u57 u58 u59 u60 u61 u62 u63 u64 u65 u66 u67 u68 u69 u70 u71 u72 u73 u74 u75 u76 u77 u78 u79 u80 u81 u82 u83 u84 u85 u86 u87 u88 u89 u90 u91 u92 u93 u94 u95 u96 u97 u98 u99 u100 u101 u102 u103 u104 u105 u106 u107 u108 u109 u110 u111 u112 u113 u114 u115 u116 u117 u118 u119 u120 : Value}
    (hp : ∀ c (N : Option Tmp) v a w, Q (.panic c) (a.put N v) w → Q (.panic c) a w) (hR : Rd w0 w7 g s m) (hK : KeepBut w w7 g (some gn)) (hA : KidsAt w w7 gn nm l A c) (hb : w7.heap[gk]? = some (.cells #[.string n.f0, .string n.f1, .slice A1 n.f2.length d1] 36 (0, 0))) (hle : n.f2.length ≤ d1)
    (hF : Kd.F k36 w7 (fun k => w5.heap.size ≤ k) A1 n.f2.length n.f2) (hv : ∀ k, (Value.slice A l.length c).ownBlock = some k → k < w5.heap.size) (hgn : gn < w.heap.size) (hgk : w5.heap.size ≤ gk) (hw5 : w.heap.size ≤ w5.heap.size) (hgg : gn ≠ g) (hg : g < w.heap.size) (hgw0 : w0.heap.size ≤ gn) (hlen : l.length ≤ 1073741824)
    (hQ : ∀ (a' : Act) (w' : World) (A' : Option Addr) (c' : Nat), ContFr g gn d i a' → Rd w0 w' g s m → KeepBut w w' g (some gn) → KidsAt w w' gn nm (l ++ [n]) A' c' → Q .normal a' w') :
    (codeIn Tryd.f95 [1, 1, 1, 0, 0, 0, 1, 0, 1, 1, 0]).wp Tryd.prog Q { tmps := #[.pointer (some ⟨g, 0, none⟩), .pointer (some ⟨gn, 0, none⟩), .int .i64 (16 - (d : Int)), u3, u4, u5, u6, .int .i64 i, .pointer (some ⟨gk, 0, none⟩), u9, u10, u11, u12, u13, u14, u15, u16, u17, u18, u19, u20, u21, u22, u23, u24, u25, u26, u27, u28, u29, u30, u31, u32, u33, u34, u35, u36, u37, u38, u39, u40, u41, u42, u43, u44, u45, u46, u47, u48, u49, u50, u51, u52, u53, u54, u55, u56, u57, u58, u59, u60, u61, u62, u63, u64, u65, u66, u67, u68, u69, u70, u71, u72, u73, u74, u75, u76, u77, u78, u79, u80, u81, u82, u83, u84, u85, u86, u87, u88, u89, u90, u91, u92, u93, u94, u95, u96, u97, u98, u99, u100, u101, u102, u103, u104, u105, u106, u107, u108, u109, u110, u111, u112, u113, u114, u115, u116, u117, u118, u119, u120], defers := [] } w7 := by
  have hK0 : KeepBut w w7.drew g (some gn) := hK
  simp only [codeIn, Tryd.f95, Option.getD_some, codeAt]
  refine start_ (n := 13) (S := fun W => W.heap[gn]? = some (.cells #[.string nm, .string ⟨#[]⟩, .slice A l.length c] 36 (0, 0)) ∧ W.heap[gk]? = some (.cells #[.string n.f0, .string n.f1, .slice A1 n.f2.length d1] 36 (0, 0))) (ds := [7, 9, 12]) #[false, false, false, false, false, false, false, false, false, false, false, false, false] (by kernel_rfl) rfl rfl ⟨hA.blk, hb⟩ (fun hHeld => ?_)
  refine pure_ (i := 0) (N := (some 51)) (v := ?_) (a' := ?_) #[true, false, false, false, false, false, false, false, false, false, false, false, false] rfl rfl (by kernel_rfl) (fun c_ _ w_ h_ => hp c_ _ _ _ w_ h_) (Or.inl ⟨by kernel_rfl, ?_⟩) ?_ ?_
  rotate_left
  · intro w_
    go_simp
    with_reducible rfl
  rotate_left
  · simp only [Act.put, List.setIfInBounds_toArray, List.set_cons_zero, List.set_cons_succ]
    rfl
  refine pure_ (i := 1) (N := (some 52)) (v := ?_) (a' := ?_) #[true, true, false, false, false, false, false, false, false, false, false, false, false] rfl rfl (by kernel_rfl) (fun c_ _ w_ h_ => hp c_ _ _ _ w_ h_) (Or.inl ⟨by kernel_rfl, ?_⟩) ?_ ?_
  rotate_left
  · intro w_
    go_simp
    with_reducible rfl
  rotate_left
  · simp only [Act.put, List.setIfInBounds_toArray, List.set_cons_zero, List.set_cons_succ]
    rfl
  refine pure_ (i := 2) (N := (some 53)) (v := ?_) (a' := ?_) #[true, true, true, false, false, false, false, false, false, false, false, false, false] rfl rfl (by kernel_rfl) (fun c_ _ w_ h_ => hp c_ _ _ _ w_ h_) (Or.inl ⟨by kernel_rfl, ?_⟩) ?_ ?_
  rotate_left
  · intro w_
    go_simp
    with_reducible rfl
  rotate_left
  · simp only [Act.put, List.setIfInBounds_toArray, List.set_cons_zero, List.set_cons_succ]
    rfl
  refine take_ (i := 3) (N := some 54) (v := ?_) (a' := ?_) #[true, true, true, true, false, false, false, false, false, false, false, false, false] rfl rfl (by kernel_rfl) (fun c_ _ w_ h_ => hp c_ _ _ _ w_ h_) (Or.inl ⟨by kernel_rfl, ?_⟩) hHeld ?_ ?_
  rotate_left
  · rintro w_ ⟨sA, sB⟩
    have s0 := blk_cell sA 2
    go_simp
    with_reducible rfl
  rotate_left
  · simp only [Act.put, List.setIfInBounds_toArray, List.set_cons_zero, List.set_cons_succ]
    rfl
  refine take_ (i := 4) (N := some 55) (v := ?_) (a' := ?_) #[true, true, true, true, true, false, false, false, false, false, false, false, false] rfl rfl (by kernel_rfl) (fun c_ _ w_ h_ => hp c_ _ _ _ w_ h_) (Or.inl ⟨by kernel_rfl, ?_⟩) hHeld ?_ ?_
  rotate_left
  · rintro w_ ⟨sA, sB⟩
    have s0 := blk_cell sB 0
    have s1 := blk_cell sB 1
    have s2 := blk_cell sB 2
    go_simp
    with_reducible rfl
  rotate_left
  · simp only [Act.put, List.setIfInBounds_toArray, List.set_cons_zero, List.set_cons_succ]
    rfl
  refine pure_ (i := 5) (N := (some 56)) (v := ?_) (a' := ?_) #[true, true, true, true, true, true, false, false, false, false, false, false, false] rfl rfl (by kernel_rfl) (fun c_ _ w_ h_ => hp c_ _ _ _ w_ h_) (Or.inl ⟨by kernel_rfl, ?_⟩) ?_ ?_
  rotate_left
  · intro w_
    go_simp
    with_reducible rfl
  rotate_left
  · simp only [Act.put, List.setIfInBounds_toArray, List.set_cons_zero, List.set_cons_succ]
    rfl
  refine one_ (i := 6) (N := some 57) #[true, true, true, true, true, true, true, false, false, false, false, false, false] rfl rfl (by kernel_rfl) (by decide) (fun K hK => ?_)
  refine value_ (v := .slice (some ⟨w7.drew.heap.size, 0, none⟩) 1 1) (w1 := w7.drew.alloc (.cells [Value.string ⟨#[]⟩, .string ⟨#[]⟩, .slice none 0 0].toArray 36)) (by kernel_rfl) rfl (by go_simp) ?_
  refine hK.out _ _ ⟨blk_alloc hHeld.1 _, blk_alloc hHeld.2 _⟩ (fun hHeld2 => ?_)
  clear hK K
  refine norm_ (a' := ?_) ?_ ?_
  rotate_left
  · show Act.put _ (some 57) _ = _
    simp only [Act.put, List.setIfInBounds_toArray, List.set_cons_zero, List.set_cons_succ]
    rfl
  refine last_ (i := 7) (N := some 58) #[true, true, true, true, true, true, true, true, false, false, false, false, false] rfl rfl (by kernel_rfl) (by decide) (fun K hK => ?_)
  refine Kd.N_append_step k36 (w0 := w7.drew) w.heap.size (by kernel_rfl) (.tmp 54) (.tmp 57) 34 36 _ 56 rfl Tryd.underlying34 info36c rfl (by decide) (by decide) (.slice A l.length c) l z36 _ (fun k => w.heap.size ≤ k) (fun _ => False) rfl rfl ?z1 (fun k hk => hk.elim) (fun k hk => by have := hK0.1; omega) hA.row (Below.refl _ _) hK0.1 (by omega) ?_
  case z1 => exact k36_mkF _ _ z36 (Nat.le_refl 0) (fun W_ _ => Kd.C_nil _ _)
  intro v1 w8 hN8 hB8 hG8 hat8
  refine hK.out _ _ ?_
  clear hK K
  obtain ⟨g', c', hv1⟩ := N_shape hN8 (by simp)
  rw [show (l ++ [z36]).length = l.length + 1 by simp] at hv1
  subst hv1
  have hF8 : Kd.F k36 w8 (fun k => w5.heap.size ≤ k ∧ k ≠ g') A1 n.f2.length n.f2 := by
    refine Kd.F_mono (Kd.F_step (Kd.F_bound (W := w7.drew) hF) (fun k hk hlt => hG8.block k hlt (fun he => ?_))) (fun k hk => ⟨hk.1, fun he => ?_⟩)
    · have := hv k he.symm
      omega
    · subst he
      rcases hat8 with h1 | ⟨b, h1, h2⟩
      · rw [show (Value.slice (some ⟨k, 0, none⟩) (l.length + 1) c').ownBlock = some k from by simp [Value.ownBlock]] at h1
        have := hv k h1.symm
        omega
      · rw [show (Value.slice (some ⟨k, 0, none⟩) (l.length + 1) c').ownBlock = some k from by simp [Value.ownBlock]] at h1
        injection h1 with h1
        have := hk.2
        omega
  have hb8 : w8.heap[gn]? = some (.cells #[.string nm, .string ⟨#[]⟩, .slice A l.length c] 36 (0, 0)) := blk_grown hHeld.1 hG8 (fun he => by
    have := Kd.N_base hA.row gn he.symm
    omega)
  have hR8 : Rd w0 w8 g s m := (show Rd w0 w7.drew g s m from hR.drewN 1).upto hB8 hg (by omega)
  have hK8 : KeepBut w w8 g (some gn) := ⟨Nat.le_trans hK0.1 hG8.size, fun i_ hi h1 h2 => (hB8.block i_ hi).trans (hK0.2 i_ hi h1 h2)⟩
  obtain ⟨⟨cur, hcur, hsz⟩, hne, hX1, hX2, hY⟩ := kids_put hgn hb8 hN8 hle hF8 hw5
  obtain ⟨⟨hRa, hKa⟩, hRb, hKb⟩ := hY hR8 hK8 hgg hgw0 hg
  refine norm_ (a' := ?_) ?_ ?_
  rotate_left
  · show Act.put _ (some 58) _ = _
    simp only [Act.put, List.setIfInBounds_toArray, List.set_cons_zero, List.set_cons_succ]
    rfl
  clear hHeld2 hHeld hat8 hB8 hY
  have hll : (l.length : Int) < (l.length : Int) + 1 := by omega
  refine pure_ (i := 8) (N := (some 59)) (v := ?_) (a' := ?_) #[true, true, true, true, true, true, true, true, true, false, false, false, false] rfl rfl (by kernel_rfl) (fun c_ _ w_ h_ => hp c_ _ _ _ w_ h_) (Or.inl ⟨by kernel_rfl, ?_⟩) ?_ ?_
  rotate_left
  · intro w_
    go_simp
    with_reducible rfl
  rotate_left
  · simp only [Act.put, List.setIfInBounds_toArray, List.set_cons_zero, List.set_cons_succ]
    rfl
  refine pure_ (i := 10) (N := (some 60)) (v := ?_) (a' := ?_) #[true, true, true, true, true, true, true, true, true, false, true, false, false] rfl rfl (by kernel_rfl) (fun c_ _ w_ h_ => hp c_ _ _ _ w_ h_) (Or.inl ⟨by kernel_rfl, ?_⟩) ?_ ?_
  rotate_left
  · intro w_
    go_simp
    with_reducible rfl
  rotate_left
  · simp only [Act.put, List.setIfInBounds_toArray, List.set_cons_zero, List.set_cons_succ]
    rfl
  refine pure_ (i := 11) (N := (some 61)) (v := ?_) (a' := ?_) #[true, true, true, true, true, true, true, true, true, false, true, true, false] rfl rfl (by kernel_rfl) (fun c_ _ w_ h_ => hp c_ _ _ _ w_ h_) (Or.inl ⟨by kernel_rfl, ?_⟩) ?_ ?_
  rotate_left
  · intro w_
    go_simp
    with_reducible rfl
  rotate_left
  · simp only [Act.put, List.setIfInBounds_toArray, List.set_cons_zero, List.set_cons_succ]
    rfl
  refine two_last_ (i := 9) (j := 12) (Ni := none) (Nj := none) #[true, true, true, true, true, true, true, true, true, true, true, true, false] #[true, true, true, true, true, true, true, true, true, false, true, true, true] rfl rfl rfl rfl (by kernel_rfl) (by decide) (by decide) (fun K hK => ?_) (fun K hK => ?_)
  · refine skip_ (w1 := w8.setCells g' (l.length * 3) [.string n.f0, .string n.f1, .slice A1 n.f2.length d1]) (by kernel_rfl) rfl (store3_run rfl rfl rfl (by kernel_rfl) hcur hsz rfl rfl rfl rfl) ?_
    refine hK.out _ _ ?_
    clear hK K
    refine last_ (i := 12) (N := none) #[true, true, true, true, true, true, true, true, true, true, true, true, true] rfl rfl (by kernel_rfl) (by decide) (fun K hK => ?_)
    have hg_ : (w8.setCells g' (l.length * 3) [.string n.f0, .string n.f1, .slice A1 n.f2.length d1]).heap[gn]? = some (.cells #[.string nm, .string ⟨#[]⟩, .slice A l.length c] 36 (0, 0)) := (setCells_far _ _ gn hne).trans hb8
    refine skip_ (w1 := (w8.setCells g' (l.length * 3) [.string n.f0, .string n.f1, .slice A1 n.f2.length d1]).setCell ⟨gn, 2, none⟩ (.slice (some ⟨g', 0, none⟩) (l.length + 1) c')) (by kernel_rfl) rfl (by have s0 := blk_cell hg_ 2; have s1 := blk_frozen hg_ 2; go_simp) ?_
    refine hK.out _ _ ?_
    refine done_ (by kernel_rfl) ?_
    exact hQ _ _ _ _ ContFr.mk hRa hKa hX1
  · refine skip_ (w1 := w8.setCell ⟨gn, 2, none⟩ (.slice (some ⟨g', 0, none⟩) (l.length + 1) c')) (by kernel_rfl) rfl (by have s0 := blk_cell hb8 2; have s1 := blk_frozen hb8 2; go_simp) ?_
    refine hK.out _ _ ?_
    clear hK K
    refine last_ (i := 9) (N := none) #[true, true, true, true, true, true, true, true, true, true, true, true, true] rfl rfl (by kernel_rfl) (by decide) (fun K hK => ?_)
    have hg_ : (w8.setCell ⟨gn, 2, none⟩ (.slice (some ⟨g', 0, none⟩) (l.length + 1) c')).heap[g']? = some (.cells cur 36 (0, 0)) := (Below.heap_setCell w8 ⟨gn, 2, none⟩ _ g' (by intro he; exact hne he.symm)).trans hcur
    refine skip_ (w1 := (w8.setCell ⟨gn, 2, none⟩ (.slice (some ⟨g', 0, none⟩) (l.length + 1) c')).setCells g' (l.length * 3) [.string n.f0, .string n.f1, .slice A1 n.f2.length d1]) (by kernel_rfl) rfl (store3_run rfl rfl rfl (by kernel_rfl) hg_ hsz rfl rfl rfl rfl) ?_
    refine hK.out _ _ ?_
    refine done_ (by kernel_rfl) ?_
    exact hQ _ _ _ _ ContFr.mk hRb hKb hX2
def ContI (w0 w : World) (g gn i d : Nat) (s nm : ByteArray) (j0 : Nat) (kq : Nat) (a' : Act) (w' : World) : Prop :=
  ContFr g gn d i a' ∧ ∃ (j : Nat) (l : List S36) (A : Option Addr) (c : Nat), kidsV (elemV s d) kq s j l = kidsV (elemV s d) (s.size + 1) s j0 [] ∧ s.size - j < kq ∧ l.length + kq = s.size + 1 ∧ Rd w0 w' g s j ∧ KeepBut w w' g (some gn) ∧ KidsAt w w' gn nm l A c
theorem ContI.mk {w0 w : World} {g gn i d : Nat} {s nm : ByteArray} {j0 kq : Nat} {w' : World} {u3 u4 u5 u6 u8 u9 u10 u11 u12 u13 u14 u15 u16 u17 u18 u19 u20 u21 u22 u23 u24 u25 u26 u27 u28 u29 u30 u31 u32 u33 u34 u35 u36 u37 u38 u39 u40 u41 u42 u43 u44 u45 u46 u47 u48 u49 u50 u51 u52 u53 u54 u55 u56 u57 u58 u59 u60 u61 u62 u63 u64 u65 u66 u67 u68 u69 u70 u71 u72 u73 u74 u75 u76 u77 u78 u79 u80 u81 u82 u83 u84 u85 u86 u87 u88 u89 u90 u91 u92 u93 u94 u95 u96 u97 u98 u99 u100 u101 u102 u103 u104 u105 u106 u107 u108 u109 u110 u111 u112 u113 u114 u115 u116 u117 u118 u119 u120 : Value} {j : Nat} {l : List S36} {A : Option Addr} {c : Nat} (h1 : kidsV (elemV s d) kq s j l = kidsV (elemV s d) (s.size + 1) s j0 []) (h2 : s.size - j < kq) (h2' : l.length + kq = s.size + 1) (h3 : Rd w0 w' g s j) (h4 : KeepBut w w' g (some gn)) (h5 : KidsAt w w' gn nm l A c) :
    ContI w0 w g gn i d s nm j0 kq { tmps := #[.pointer (some ⟨g, 0, none⟩), .pointer (some ⟨gn, 0, none⟩), .int .i64 (16 - (d : Int)), u3, u4, u5, u6, .int .i64 i, u8, u9, u10, u11, u12, u13, u14, u15, u16, u17, u18, u19, u20, u21, u22, u23, u24, u25, u26, u27, u28, u29, u30, u31, u32, u33, u34, u35, u36, u37, u38, u39, u40, u41, u42, u43, u44, u45, u46, u47, u48, u49, u50, u51, u52, u53, u54, u55, u56, u57, u58, u59, u60, u61, u62, u63, u64, u65, u66, u67, u68, u69, u70, u71, u72, u73, u74, u75, u76, u77, u78, u79, u80, u81, u82, u83, u84, u85, u86, u87, u88, u89, u90, u91, u92, u93, u94, u95, u96, u97, u98, u99, u100, u101, u102, u103, u104, u105, u106, u107, u108, u109, u110, u111, u112, u113, u114, u115, u116, u117, u118, u119, u120], defers := [] } w' := ⟨ContFr.mk, j, l, A, c, h1, h2, h2', h3, h4, h5⟩
set_option maxHeartbeats 4000000 in
set_option maxRecDepth 1000000 in
theorem cont_round {Q : Exit → Act → World → Prop} {w0 w wr : World} {g gn i d j0 gk0 : Nat} {s nm : ByteArray} {a' : Act} (hp : ∀ c (N : Option Tmp) v a w, Q (.panic c) (a.put N v) w → Q (.panic c) a w) (he : ElemOk s d) (hpos : ∀ i n m, elemV s d i = some (n, m) → i < m) (hd16 : d ≤ 16) (hsm : s.size ≤ 1073741824)
    (hgg : gn ≠ g) (hglt : g < w.heap.size) (hgnlt : gn < w.heap.size) (h0 : 0 < w0.heap.size) (hgw0 : w0.heap.size ≤ gn) (hgw : w0.heap.size ≤ g) (hG : GOK w) (hI : ContI w0 w g gn i d s nm j0 (gk0 + 1) a' wr)
    (hNX : ∀ a' w', ContI w0 w g gn i d s nm j0 gk0 a' w' → Q .normal a' w')
    (hX : ∀ l j a' w', kidsV (elemV s d) (s.size + 1) s j0 [] = some (l, j) → ContFr g gn d i a' → Rd w0 w' g s j → KeepBut w w' g (some gn) → ∀ {A c}, KidsAt w w' gn nm l A c → Q (.exit 0) a' w')
    (hB : ∀ l A c j a' w', kidsV (elemV s d) (s.size + 1) s j0 [] = none → ContFr g gn d i a' → a'.tmps.getD 6 undef = .bool false → Rd w0 w' g s j → KeepBut w w' g (some gn) → KidsAt w w' gn nm l A c → Q .ret a' w') :
    (codeIn Tryd.f95 [1, 1, 1, 0, 0, 0]).wp Tryd.prog Q a' wr := by
  obtain ⟨⟨u, rfl⟩, j, l, A, c, HA0, hjk, hln, HRj0, HKj0, HKa0⟩ := hI
  have HE := Aside0.mk he
  have HP := Aside0.mk hpos
  have HG0 := Aside0.mk hG
  have HNX := Aside0.mk hNX
  have HX := Aside0.mk hX
  have HB := Aside0.mk hB
  have HA := Aside0.mk HA0
  have HRj := Aside0.mk HRj0
  have HKj := Aside0.mk HKj0
  have HKa := Aside0.mk HKa0
  have HLN := Aside0.mk hln
  have HPP := Aside0.mk hp
  have hwd : IntKind.i64.wrap (16 - (d : Int) + 1) = 16 - (d : Int) + 1 := by simp [IntKind.wrap_i64]; omega
  have hu36 := Tryd.underlying36
  clear he hpos hG hNX hX hB HA0 hln HRj0 HKj0 HKa0 hp
  have hA := HA.out
  rw [kidsV] at hA
  have hjs := HRj.out.le
  obtain ⟨c1, hc1⟩ : ∃ c1, c1 = hasP s j ⟨#[60]⟩ := ⟨_, rfl⟩
  obtain ⟨c2, hc2⟩ : ∃ c2, c2 = hasP s j ⟨#[60, 47]⟩ := ⟨_, rfl⟩
  have HP1 : Aside0 (∀ w' : World, Calls Tryd.prog 89 #[.string (s.extract j s.size), .string ⟨#[60]⟩] w' fun e w2 => e = .returned (.bool c1) ∧ Drawn0 w' w2) := ⟨fun w' => by rw [hc1]; exact HasPrefix_calls s j ⟨#[60]⟩ hsm (by decide) w'⟩
  have HP2 : Aside0 (∀ w' : World, Calls Tryd.prog 89 #[.string (s.extract j s.size), .string ⟨#[60, 47]⟩] w' fun e w2 => e = .returned (.bool c2) ∧ Drawn0 w' w2) := ⟨fun w' => by rw [hc2]; exact HasPrefix_calls s j ⟨#[60, 47]⟩ hsm (by decide) w'⟩
  rw [← hc1, ← hc2] at hA
  have HA3 := Aside0.mk hA
  clear hA hc1 hc2 HA
  have p0 : (0 : Int) ≤ (j : Int) := by omega
  have p1 : (j : Int) ≤ (s.size : Int) := by omega
  have cA := HRj.out.cell0
  have cB := HRj.out.cell1
  have hcase : (c1 = false) ∨ (c1 = true ∧ c2 = true) ∨ (c1 = true ∧ c2 = false) := by
    cases c1 <;> cases c2 <;> simp
  simp only [codeIn, Tryd.f95, Option.getD_some, codeAt]
  rcases hcase with rfl | ⟨rfl, rfl⟩ | ⟨rfl, rfl⟩
  · go_wp2
    refine wp_region_quiet_lit (by kernel_rfl) (by kernel_rfl) ?_
    repeat (go_big_quiet_step (first | (go_at_call 89; with_reducible refine (HP1.out _).mono ?_; rintro e w2 ⟨rfl, ⟨n7, rfl⟩⟩; exact ⟨rfl, _, World.drewN_drewN _ _ _⟩) | (go_at_call 89; with_reducible refine (HP2.out _).mono ?_; rintro e w2 ⟨rfl, ⟨n7, rfl⟩⟩; exact ⟨rfl, _, World.drewN_drewN _ _ _⟩)))
    refine wpQuiet_nil ?_
    intro _ hw'
    obtain ⟨nq, hw''⟩ := hw'
    subst hw''
    go_wp2
    exact HX.out l j _ _ (by have := HA3.out; simpa using this.symm) ContFr.mk (HRj.out.drewN _) (keep_drewN HKj.out _) (HKa.out.drewN _)
  · go_wp2
    refine wp_region_quiet_lit (by kernel_rfl) (by kernel_rfl) ?_
    repeat (go_big_quiet_step (first | (go_at_call 89; with_reducible refine (HP1.out _).mono ?_; rintro e w2 ⟨rfl, ⟨n7, rfl⟩⟩; exact ⟨rfl, _, World.drewN_drewN _ _ _⟩) | (go_at_call 89; with_reducible refine (HP2.out _).mono ?_; rintro e w2 ⟨rfl, ⟨n7, rfl⟩⟩; exact ⟨rfl, _, World.drewN_drewN _ _ _⟩)))
    refine wpQuiet_nil ?_
    intro _ hw'
    obtain ⟨nq, hw''⟩ := hw'
    subst hw''
    go_wp2
    exact HX.out l j _ _ (by have := HA3.out; simpa using this.symm) ContFr.mk (HRj.out.drewN _) (keep_drewN HKj.out _) (HKa.out.drewN _)
  · go_wp2
    refine wp_region_quiet_lit (by kernel_rfl) (by kernel_rfl) ?_
    repeat (go_big_quiet_step (first | (go_at_call 89; with_reducible refine (HP1.out _).mono ?_; rintro e w2 ⟨rfl, ⟨n7, rfl⟩⟩; exact ⟨rfl, _, World.drewN_drewN _ _ _⟩) | (go_at_call 89; with_reducible refine (HP2.out _).mono ?_; rintro e w2 ⟨rfl, ⟨n7, rfl⟩⟩; exact ⟨rfl, _, World.drewN_drewN _ _ _⟩)))
    refine wpQuiet_nil ?_
    intro _ hw'
    obtain ⟨nq, hw''⟩ := hw'
    subst hw''
    go_wp2_with fail
    have HGj : Aside0 (GOK (wr.drewN nq)) := ⟨HG0.out.keep (keep_drewN HKj.out nq) (by omega) (by intro e_; injection e_ with e_; omega)⟩
    have H5 : Aside0 (Rd w0 (wr.drewN nq) g s j) := ⟨HRj.out.drewN nq⟩
    have HK5 : Aside0 (KeepBut w (wr.drewN nq) g (some gn)) := ⟨keep_drewN HKj.out nq⟩
    have HA5 : Aside0 (KidsAt w (wr.drewN nq) gn nm l A c) := ⟨HKa.out.drewN nq⟩
    obtain ⟨w5, hw5⟩ : ∃ w5, w5 = wr.drewN nq := ⟨_, rfl⟩
    rw [← hw5] at HGj H5 HK5 HA5 ⊢
    clear hw5 HRj HKj HKa cA cB
    refine (HE.out w0 w5 g j H5.out HGj.out h0).mono ?_
    rintro e w6 ⟨n, A1, d1, b1, m, rfl, hle1, hF1, hW1, hR1, hk1, hm1⟩
    have hw56 : w5.heap.size ≤ w6.heap.size := hk1.1
    have hww5 : w.heap.size ≤ w5.heap.size := HK5.out.1
    obtain ⟨gk, hgk⟩ : ∃ gk, gk = w6.heap.size := ⟨_, rfl⟩
    obtain ⟨w7, hw7⟩ : ∃ w7, w7 = w6.alloc (.cells #[.string n.f0, .string n.f1, .slice A1 n.f2.length d1] 36 (0, 0)) := ⟨_, rfl⟩
    have hb67 : Below w6.heap.size w6 w7 := by
      rw [hw7]
      exact below_alloc (Below.refl _ _) _
    have HBk : Aside0 (w7.heap[gk]? = some (.cells #[.string n.f0, .string n.f1, .slice A1 n.f2.length d1] 36 (0, 0))) := ⟨by rw [hw7, hgk]; exact heap_alloc_new w6 _⟩
    have H7 : Aside0 (Rd w0 w7 g s m) := ⟨hR1.stays hb67⟩
    have HK67 : KeepBut w5 w7 g none := hk1.trans (KeepBut.of_below hb67 g none) (.inl rfl)
    have HK7 : Aside0 (KeepBut w w7 g (some gn)) := ⟨HK5.out.trans (keepWeak HK67 _) (.inl rfl)⟩
    have HA7 : Aside0 (KidsAt w w7 gn nm l A c) := ⟨HA5.out.keep HK67 (by omega) hgg⟩
    have HF7 : Aside0 (Kd.F k36 w7 (fun k => w5.heap.size ≤ k) A1 n.f2.length n.f2) := ⟨Kd.F_below hF1 hb67⟩
    have hv5 : ∀ k_, (Value.slice A l.length c).ownBlock = some k_ → k_ < w5.heap.size := Kd.N_lt HA5.out.row
    have HV5 := Aside0.mk hv5
    clear hv5
    have HW56 := Aside0.mk hw56
    have HWW5 := Aside0.mk hww5
    have HW7 := Aside0.mk hw7
    have HGK := Aside0.mk hgk
    have HLE1 := Aside0.mk hle1
    have hgkn : gk ≠ gn := by omega
    have hgkg : gk ≠ g := by omega
    clear HA5 HK5 H5 HGj HK67 hR1 hk1 hF1 hW1 hw56 hww5 hb67 hw7 hgk hle1
    cases hev : elemV s d j with
    | none =>
      rw [hev] at hm1
      obtain rfl : b1 = false := hm1
      have HN : Aside0 (kidsV (elemV s d) (s.size + 1) s j0 [] = none) := ⟨by
        rw [← HA3.out, hev]
        rfl⟩
      go_wp2
      rw [← HGK.out, ← HW7.out]
      exact HB.out l A c m _ _ HN.out ContFr.mk rfl H7.out HK7.out HA7.out
    | some r =>
      obtain ⟨n0, m0⟩ := r
      rw [hev] at hm1
      obtain ⟨rfl, h1_, h2_⟩ := hm1
      obtain rfl := h1_.symm
      obtain rfl := h2_.symm
      have hgt := HP.out _ _ _ hev
      have hmle := H7.out.le
      have HA6 : Aside0 (kidsV (elemV s d) gk0 s (skip whiteV s m0) (l ++ [n0]) = kidsV (elemV s d) (s.size + 1) s j0 []) := ⟨by
        have := HA3.out
        rw [hev] at this
        simpa using this⟩
      clear hev HA3
      go_wp2
      rw [← HGK.out, ← HW7.out]
      refine cont_r7 (fun c_ _ _ _ w_ h_ => HPP.out c_ _ _ _ w_ h_) H7.out HK7.out HA7.out HBk.out HLE1.out HF7.out HV5.out hgnlt (by have := HGK.out; have := HW56.out; omega) HWW5.out hgg hglt hgw0 (by have := HLN.out; omega) ?_
      intro a' w8 A8 c8 hFr H8 HK8 HA8
      obtain ⟨u_, rfl⟩ := hFr
      clear H7 HK7 HA7 HBk HF7 HGK HW7
      go_wp2_with fail
      refine (space_calls H8).mono ?_
      rintro e w9 ⟨rfl, H9, hk9⟩
      go_wp2
      exact HNX.out _ _ (ContI.mk HA6.out (by have := le_skip whiteV s m0; omega) (by have := HLN.out; rw [List.length_append]; simp; omega) H9 (HK8.trans (keepWeak hk9 _) (.inl rfl)) (HA8.keep hk9 hglt hgg))
theorem indexByte_ge (c : UInt8) : ∀ l : List UInt8, -1 ≤ Lib.indexByte l c
  | [] => Int.le_refl _
  | b :: l => by
    have hun : Lib.indexByte (b :: l) c = (if (b == c) = true then 0 else if (Lib.indexByte l c == -1) = true then -1 else Lib.indexByte l c + 1) := rfl
    have := indexByte_ge c l
    rw [hun]
    repeat' split
    all_goals omega
theorem Kd.F_put {w : World} {b gn n : Nat} {A : Option Addr} {l : List S36} (h : Kd.F k36 w (fun k => b ≤ k) A n l) (hgn : gn < b) (o : Nat) (u : Value) : Kd.F k36 (w.setCell ⟨gn, o, none⟩ u) (fun k => b ≤ k) A n l := Kd.F_far (p := ⟨gn, o, none⟩) h (fun k hk he => by have : k = gn := he; omega) u
theorem keepPut {w W : World} {g gn : Nat} (h : KeepBut w W g (some gn)) (o : Nat) (u : Value) : KeepBut w (W.setCell ⟨gn, o, none⟩ u) g (some gn) :=
  ⟨by rw [World.size_setCell]; exact h.1, fun i hi h1 h2 => (Below.heap_setCell _ ⟨gn, o, none⟩ u i (fun he => h2 (by rw [he]))).trans (h.2 i hi h1 h2)⟩
set_option maxHeartbeats 4000000 in
set_option maxRecDepth 1000000 in
theorem cont_kids {Q : Exit → Act → World → Prop} {w0 w wj : World} {g gn i d j c : Nat} {s nm : ByteArray} {l : List S36} {A : Option Addr} {a' : Act} (hp : ∀ c (N : Option Tmp) v a w, Q (.panic c) (a.put N v) w → Q (.panic c) a w) (hsm : s.size ≤ 1073741824)
    (hgg : gn ≠ g) (hglt : g < w.heap.size) (hgnlt : gn < w.heap.size) (hgw0 : w0.heap.size ≤ gn) (hF : ContFr g gn d i a') (hR : Rd w0 wj g s j) (hK : KeepBut w wj g (some gn)) (hA : KidsAt w wj gn nm l A c) (hl : 0 < l.length)
    (hRet : ∀ a' w' b, a'.defers = [] → a'.tmps.getD 6 undef = .bool b → ContPost w0 w g gn s nm (textV s i l j) (.returned (.bool b)) w' → Q .ret a' w') :
    (codeIn Tryd.f95 [1, 1, 1, 1]).wp Tryd.prog Q a' wj := by
  obtain ⟨u, rfl⟩ := hF
  have HPP := Aside0.mk hp
  have hle := hA.le
  have hblk : wj.drew.heap[gn]? = some (.cells #[.string nm, .string ⟨#[]⟩, .slice A l.length c] 36 (0, 0)) := hA.blk
  have HA := Aside0.mk hA
  have HR := Aside0.mk hR
  have HK := Aside0.mk hK
  have HRet := Aside0.mk hRet
  obtain ⟨g', c', hA1⟩ := N_shape hA.row hl
  have hA' : A = some ⟨g', 0, none⟩ := by injection hA1
  clear hA1
  clear hp hA hR hK hRet
  subst hA'
  have p1 : (l.length : Int) ≤ (c : Int) := by omega
  simp only [codeIn, Tryd.f95, Option.getD_some, codeAt]
  go_wp2_with fail
  refine start_ (n := 19) (S := fun W => W.heap[gn]? = some (.cells #[.string nm, .string ⟨#[]⟩, .slice (some ⟨g', 0, none⟩) l.length c] 36 (0, 0))) (ds := [18]) #[false, false, false, false, false, false, false, false, false, false, false, false, false, false, false, false, false, false, false] (by kernel_rfl) rfl rfl hblk (fun hHeld => ?_)
  refine pure_ (i := 0) (N := (some 64)) (v := ?_) (a' := ?_) #[true, false, false, false, false, false, false, false, false, false, false, false, false, false, false, false, false, false, false] rfl rfl (by kernel_rfl) (fun c_ _ w_ h_ => HPP.out c_ _ _ _ w_ h_) (Or.inl ⟨by kernel_rfl, ?_⟩) ?_ ?_
  rotate_left
  · intro w_
    go_simp
    with_reducible rfl
  rotate_left
  · simp only [Act.put, List.setIfInBounds_toArray, List.set_cons_zero, List.set_cons_succ]
    rfl
  refine pure_ (i := 1) (N := (some 65)) (v := ?_) (a' := ?_) #[true, true, false, false, false, false, false, false, false, false, false, false, false, false, false, false, false, false, false] rfl rfl (by kernel_rfl) (fun c_ _ w_ h_ => HPP.out c_ _ _ _ w_ h_) (Or.inl ⟨by kernel_rfl, ?_⟩) ?_ ?_
  rotate_left
  · intro w_
    go_simp
    with_reducible rfl
  rotate_left
  · simp only [Act.put, List.setIfInBounds_toArray, List.set_cons_zero, List.set_cons_succ]
    rfl
  refine pure_ (i := 2) (N := (some 66)) (v := ?_) (a' := ?_) #[true, true, true, false, false, false, false, false, false, false, false, false, false, false, false, false, false, false, false] rfl rfl (by kernel_rfl) (fun c_ _ w_ h_ => HPP.out c_ _ _ _ w_ h_) (Or.inl ⟨by kernel_rfl, ?_⟩) ?_ ?_
  rotate_left
  · intro w_
    go_simp
    with_reducible rfl
  rotate_left
  · simp only [Act.put, List.setIfInBounds_toArray, List.set_cons_zero, List.set_cons_succ]
    rfl
  refine pure_ (i := 3) (N := (some 67)) (v := ?_) (a' := ?_) #[true, true, true, true, false, false, false, false, false, false, false, false, false, false, false, false, false, false, false] rfl rfl (by kernel_rfl) (fun c_ _ w_ h_ => HPP.out c_ _ _ _ w_ h_) (Or.inl ⟨by kernel_rfl, ?_⟩) ?_ ?_
  rotate_left
  · intro w_
    go_simp
    with_reducible rfl
  rotate_left
  · simp only [Act.put, List.setIfInBounds_toArray, List.set_cons_zero, List.set_cons_succ]
    rfl
  refine take_ (i := 4) (N := some 68) (v := ?_) (a' := ?_) #[true, true, true, true, true, false, false, false, false, false, false, false, false, false, false, false, false, false, false] rfl rfl (by kernel_rfl) (fun c_ _ w_ h_ => HPP.out c_ _ _ _ w_ h_) (Or.inl ⟨by kernel_rfl, ?_⟩) hHeld ?_ ?_
  rotate_left
  · rintro w_ sA
    have s0 := blk_cell sA 2
    go_simp
    with_reducible rfl
  rotate_left
  · simp only [Act.put, List.setIfInBounds_toArray, List.set_cons_zero, List.set_cons_succ]
    rfl
  refine pure_ (i := 5) (N := (some 69)) (v := ?_) (a' := ?_) #[true, true, true, true, true, true, false, false, false, false, false, false, false, false, false, false, false, false, false] rfl rfl (by kernel_rfl) (fun c_ _ w_ h_ => HPP.out c_ _ _ _ w_ h_) (Or.inl ⟨by kernel_rfl, ?_⟩) ?_ ?_
  rotate_left
  · intro w_
    go_simp
    with_reducible rfl
  rotate_left
  · simp only [Act.put, List.setIfInBounds_toArray, List.set_cons_zero, List.set_cons_succ]
    rfl
  refine pure_ (i := 6) (N := (some 70)) (v := ?_) (a' := ?_) #[true, true, true, true, true, true, true, false, false, false, false, false, false, false, false, false, false, false, false] rfl rfl (by kernel_rfl) (fun c_ _ w_ h_ => HPP.out c_ _ _ _ w_ h_) (Or.inl ⟨by kernel_rfl, ?_⟩) ?_ ?_
  rotate_left
  · intro w_
    go_simp
    with_reducible rfl
  rotate_left
  · simp only [Act.put, List.setIfInBounds_toArray, List.set_cons_zero, List.set_cons_succ]
    rfl
  refine pure_ (i := 7) (N := (some 71)) (v := ?_) (a' := ?_) #[true, true, true, true, true, true, true, true, false, false, false, false, false, false, false, false, false, false, false] rfl rfl (by kernel_rfl) (fun c_ _ w_ h_ => HPP.out c_ _ _ _ w_ h_) (Or.inl ⟨by kernel_rfl, ?_⟩) ?_ ?_
  rotate_left
  · intro w_
    go_simp
    with_reducible rfl
  rotate_left
  · simp only [Act.put, List.setIfInBounds_toArray, List.set_cons_zero, List.set_cons_succ]
    rfl
  refine take_ (i := 8) (N := some 72) (v := ?_) (a' := ?_) #[true, true, true, true, true, true, true, true, true, false, false, false, false, false, false, false, false, false, false] rfl rfl (by kernel_rfl) (fun c_ _ w_ h_ => HPP.out c_ _ _ _ w_ h_) (Or.inl ⟨by kernel_rfl, ?_⟩) hHeld ?_ ?_
  rotate_left
  · rintro w_ sA
    have s0 := blk_cell sA 2
    go_simp
    with_reducible rfl
  rotate_left
  · simp only [Act.put, List.setIfInBounds_toArray, List.set_cons_zero, List.set_cons_succ]
    rfl
  refine pure_ (i := 9) (N := (some 73)) (v := ?_) (a' := ?_) #[true, true, true, true, true, true, true, true, true, true, false, false, false, false, false, false, false, false, false] rfl rfl (by kernel_rfl) (fun c_ _ w_ h_ => HPP.out c_ _ _ _ w_ h_) (Or.inl ⟨by kernel_rfl, ?_⟩) ?_ ?_
  rotate_left
  · intro w_
    go_simp
    with_reducible rfl
  rotate_left
  · simp only [Act.put, List.setIfInBounds_toArray, List.set_cons_zero, List.set_cons_succ]
    rfl
  refine pure_ (i := 10) (N := (some 74)) (v := ?_) (a' := ?_) #[true, true, true, true, true, true, true, true, true, true, true, false, false, false, false, false, false, false, false] rfl rfl (by kernel_rfl) (fun c_ _ w_ h_ => HPP.out c_ _ _ _ w_ h_) (Or.inl ⟨by kernel_rfl, ?_⟩) ?_ ?_
  rotate_left
  · intro w_
    go_simp
    with_reducible rfl
  rotate_left
  · simp only [Act.put, List.setIfInBounds_toArray, List.set_cons_zero, List.set_cons_succ]
    rfl
  refine pure_ (i := 11) (N := (some 75)) (v := ?_) (a' := ?_) #[true, true, true, true, true, true, true, true, true, true, true, true, false, false, false, false, false, false, false] rfl rfl (by kernel_rfl) (fun c_ _ w_ h_ => HPP.out c_ _ _ _ w_ h_) (Or.inl ⟨by kernel_rfl, ?_⟩) ?_ ?_
  rotate_left
  · intro w_
    go_simp
    with_reducible rfl
  rotate_left
  · simp only [Act.put, List.setIfInBounds_toArray, List.set_cons_zero, List.set_cons_succ]
    rfl
  refine pure_ (i := 12) (N := (some 76)) (v := ?_) (a' := ?_) #[true, true, true, true, true, true, true, true, true, true, true, true, true, false, false, false, false, false, false] rfl rfl (by kernel_rfl) (fun c_ _ w_ h_ => HPP.out c_ _ _ _ w_ h_) (Or.inl ⟨by kernel_rfl, ?_⟩) ?_ ?_
  rotate_left
  · intro w_
    go_simp
    with_reducible rfl
  rotate_left
  · simp only [Act.put, List.setIfInBounds_toArray, List.set_cons_zero, List.set_cons_succ]
    rfl
  refine take_ (i := 13) (N := some 77) (v := ?_) (a' := ?_) #[true, true, true, true, true, true, true, true, true, true, true, true, true, true, false, false, false, false, false] rfl rfl (by kernel_rfl) (fun c_ _ w_ h_ => HPP.out c_ _ _ _ w_ h_) (Or.inl ⟨by kernel_rfl, ?_⟩) hHeld ?_ ?_
  rotate_left
  · rintro w_ sA
    have s0 := blk_cell sA 2
    go_simp
    with_reducible rfl
  rotate_left
  · simp only [Act.put, List.setIfInBounds_toArray, List.set_cons_zero, List.set_cons_succ]
    rfl
  refine pure_ (i := 14) (N := (some 78)) (v := ?_) (a' := ?_) #[true, true, true, true, true, true, true, true, true, true, true, true, true, true, true, false, false, false, false] rfl rfl (by kernel_rfl) (fun c_ _ w_ h_ => HPP.out c_ _ _ _ w_ h_) (Or.inl ⟨by kernel_rfl, ?_⟩) ?_ ?_
  rotate_left
  · intro w_
    go_simp
    with_reducible rfl
  rotate_left
  · simp only [Act.put, List.setIfInBounds_toArray, List.set_cons_zero, List.set_cons_succ]
    rfl
  refine pure_ (i := 15) (N := (some 79)) (v := ?_) (a' := ?_) #[true, true, true, true, true, true, true, true, true, true, true, true, true, true, true, true, false, false, false] rfl rfl (by kernel_rfl) (fun c_ _ w_ h_ => HPP.out c_ _ _ _ w_ h_) (Or.inl ⟨by kernel_rfl, ?_⟩) ?_ ?_
  rotate_left
  · intro w_
    go_simp
    with_reducible rfl
  rotate_left
  · simp only [Act.put, List.setIfInBounds_toArray, List.set_cons_zero, List.set_cons_succ]
    rfl
  refine pure_ (i := 16) (N := (some 80)) (v := ?_) (a' := ?_) #[true, true, true, true, true, true, true, true, true, true, true, true, true, true, true, true, true, false, false] rfl rfl (by kernel_rfl) (fun c_ _ w_ h_ => HPP.out c_ _ _ _ w_ h_) (Or.inl ⟨by kernel_rfl, ?_⟩) ?_ ?_
  rotate_left
  · intro w_
    go_simp
    with_reducible rfl
  rotate_left
  · simp only [Act.put, List.setIfInBounds_toArray, List.set_cons_zero, List.set_cons_succ]
    rfl
  refine pure_ (i := 17) (N := (some 81)) (v := ?_) (a' := ?_) #[true, true, true, true, true, true, true, true, true, true, true, true, true, true, true, true, true, true, false] rfl rfl (by kernel_rfl) (fun c_ _ w_ h_ => HPP.out c_ _ _ _ w_ h_) (Or.inl ⟨by kernel_rfl, ?_⟩) ?_ ?_
  rotate_left
  · intro w_
    go_simp
    with_reducible rfl
  rotate_left
  · simp only [Act.put, List.setIfInBounds_toArray, List.set_cons_zero, List.set_cons_succ]
    rfl
  refine last_ (i := 18) (N := none) #[true, true, true, true, true, true, true, true, true, true, true, true, true, true, true, true, true, true, true] rfl rfl (by kernel_rfl) (by decide) (fun K hK => ?_)
  refine skip_ (w1 := wj.drew.setCell ⟨gn, 2, none⟩ (.slice (some ⟨g', 0, none⟩) l.length l.length)) (by kernel_rfl) rfl (by have s0 := blk_cell hHeld 2; have s1 := blk_frozen hHeld 2; go_simp) ?_
  refine hK.out _ _ ?_
  clear hK K
  refine done_ (by kernel_rfl) ?_
  obtain ⟨w9, hw9⟩ : ∃ w9, w9 = wj.drew.setCell ⟨gn, 2, none⟩ (.slice (some ⟨g', 0, none⟩) l.length l.length) := ⟨_, rfl⟩
  have hb9 : w9.heap[gn]? = some (.cells #[.string nm, .string ⟨#[]⟩, .slice (some ⟨g', 0, none⟩) l.length l.length] 36 (0, 0)) := by rw [hw9]; exact blk_put hHeld 2 _ rfl
  have H9 : Aside0 (ContPost w0 w g gn s nm (textV s i l j) (.returned (.bool true)) w9) := ⟨⟨⟨#[]⟩, l, some ⟨g', 0, none⟩, l.length, true, j, rfl, hb9, Nat.le_refl _, by rw [hw9]; exact Kd.F_put (w := wj.drew) HA.out.f hgnlt 2 _, by rw [hw9]; exact Wr.far (w := wj.drew) HA.out.wr (p := ⟨gn, 2, none⟩) hgnlt _, by rw [hw9]; exact Rd.far (w := wj.drew) (HR.out.drewN 1) (p := ⟨gn, 2, none⟩) hgg hgw0 _, by rw [hw9]; exact keepPut (W := wj.drew) HK.out 2 _, by rw [textV, if_pos hl]; exact ⟨rfl, rfl, rfl, rfl⟩⟩⟩
  rw [← hw9]
  have s9 := blk_cell hb9 2
  have hl3 : decide ((0 : Int) < (l.length : Int)) = true := decide_eq_true (by omega)
  have hl4 : (0 : Int) < (l.length : Int) := by omega
  clear hb9 hw9 HA HR HK hHeld hblk
  go_wp2_with fail
  exact HRet.out _ _ true rfl rfl H9.out
set_option maxHeartbeats 4000000 in
set_option maxRecDepth 1000000 in
theorem cont_text {Q : Exit → Act → World → Prop} {w0 w wj : World} {g gn i d j c : Nat} {s nm : ByteArray} {A : Option Addr} {a' : Act} (hp : ∀ c (N : Option Tmp) v a w, Q (.panic c) (a.put N v) w → Q (.panic c) a w) (hsm : s.size ≤ 1073741824) (his : i ≤ s.size)
    (hgg : gn ≠ g) (hglt : g < w.heap.size) (hgnlt : gn < w.heap.size) (h0 : 0 < w0.heap.size) (hgw : w0.heap.size ≤ g) (hgw0 : w0.heap.size ≤ gn) (hG : GOK w) (hF : ContFr g gn d i a') (hR : Rd w0 wj g s j) (hK : KeepBut w wj g (some gn)) (hA : KidsAt w wj gn nm [] A c)
    (hRet : ∀ a' w' b, a'.defers = [] → a'.tmps.getD 6 undef = .bool b → ContPost w0 w g gn s nm (textV s i [] j) (.returned (.bool b)) w' → Q .ret a' w') :
    (codeIn Tryd.f95 [1, 1, 1, 1]).wp Tryd.prog Q a' wj := by
  obtain ⟨u, rfl⟩ := hF
  have HPP := Aside0.mk hp
  obtain ⟨rfl, rfl⟩ := hA.nil rfl
  have hblk : wj.drew.heap[gn]? = some (.cells #[.string nm, .string ⟨#[]⟩, .slice none 0 0] 36 (0, 0)) := hA.blk
  have HR := Aside0.mk hR
  have HK := Aside0.mk hK
  have HRet := Aside0.mk hRet
  have HG := Aside0.mk hG
  clear hp hA hR hK hRet hG
  simp only [codeIn, Tryd.f95, Option.getD_some, codeAt]
  go_wp2_with fail
  refine start_ (n := 19) (S := fun W => W.heap[gn]? = some (.cells #[.string nm, .string ⟨#[]⟩, .slice none 0 0] 36 (0, 0))) (ds := [18]) #[false, false, false, false, false, false, false, false, false, false, false, false, false, false, false, false, false, false, false] (by kernel_rfl) rfl rfl hblk (fun hHeld => ?_)
  refine pure_ (i := 0) (N := (some 64)) (v := ?_) (a' := ?_) #[true, false, false, false, false, false, false, false, false, false, false, false, false, false, false, false, false, false, false] rfl rfl (by kernel_rfl) (fun c_ _ w_ h_ => HPP.out c_ _ _ _ w_ h_) (Or.inl ⟨by kernel_rfl, ?_⟩) ?_ ?_
  rotate_left
  · intro w_
    go_simp
    with_reducible rfl
  rotate_left
  · simp only [Act.put, List.setIfInBounds_toArray, List.set_cons_zero, List.set_cons_succ]
    rfl
  refine pure_ (i := 1) (N := (some 65)) (v := ?_) (a' := ?_) #[true, true, false, false, false, false, false, false, false, false, false, false, false, false, false, false, false, false, false] rfl rfl (by kernel_rfl) (fun c_ _ w_ h_ => HPP.out c_ _ _ _ w_ h_) (Or.inl ⟨by kernel_rfl, ?_⟩) ?_ ?_
  rotate_left
  · intro w_
    go_simp
    with_reducible rfl
  rotate_left
  · simp only [Act.put, List.setIfInBounds_toArray, List.set_cons_zero, List.set_cons_succ]
    rfl
  refine pure_ (i := 2) (N := (some 66)) (v := ?_) (a' := ?_) #[true, true, true, false, false, false, false, false, false, false, false, false, false, false, false, false, false, false, false] rfl rfl (by kernel_rfl) (fun c_ _ w_ h_ => HPP.out c_ _ _ _ w_ h_) (Or.inl ⟨by kernel_rfl, ?_⟩) ?_ ?_
  rotate_left
  · intro w_
    go_simp
    with_reducible rfl
  rotate_left
  · simp only [Act.put, List.setIfInBounds_toArray, List.set_cons_zero, List.set_cons_succ]
    rfl
  refine pure_ (i := 3) (N := (some 67)) (v := ?_) (a' := ?_) #[true, true, true, true, false, false, false, false, false, false, false, false, false, false, false, false, false, false, false] rfl rfl (by kernel_rfl) (fun c_ _ w_ h_ => HPP.out c_ _ _ _ w_ h_) (Or.inl ⟨by kernel_rfl, ?_⟩) ?_ ?_
  rotate_left
  · intro w_
    go_simp
    with_reducible rfl
  rotate_left
  · simp only [Act.put, List.setIfInBounds_toArray, List.set_cons_zero, List.set_cons_succ]
    rfl
  refine take_ (i := 4) (N := some 68) (v := ?_) (a' := ?_) #[true, true, true, true, true, false, false, false, false, false, false, false, false, false, false, false, false, false, false] rfl rfl (by kernel_rfl) (fun c_ _ w_ h_ => HPP.out c_ _ _ _ w_ h_) (Or.inl ⟨by kernel_rfl, ?_⟩) hHeld ?_ ?_
  rotate_left
  · rintro w_ sA
    have s0 := blk_cell sA 2
    go_simp
    with_reducible rfl
  rotate_left
  · simp only [Act.put, List.setIfInBounds_toArray, List.set_cons_zero, List.set_cons_succ]
    rfl
  refine pure_ (i := 5) (N := (some 69)) (v := ?_) (a' := ?_) #[true, true, true, true, true, true, false, false, false, false, false, false, false, false, false, false, false, false, false] rfl rfl (by kernel_rfl) (fun c_ _ w_ h_ => HPP.out c_ _ _ _ w_ h_) (Or.inl ⟨by kernel_rfl, ?_⟩) ?_ ?_
  rotate_left
  · intro w_
    go_simp
    with_reducible rfl
  rotate_left
  · simp only [Act.put, List.setIfInBounds_toArray, List.set_cons_zero, List.set_cons_succ]
    rfl
  refine pure_ (i := 6) (N := (some 70)) (v := ?_) (a' := ?_) #[true, true, true, true, true, true, true, false, false, false, false, false, false, false, false, false, false, false, false] rfl rfl (by kernel_rfl) (fun c_ _ w_ h_ => HPP.out c_ _ _ _ w_ h_) (Or.inl ⟨by kernel_rfl, ?_⟩) ?_ ?_
  rotate_left
  · intro w_
    go_simp
    with_reducible rfl
  rotate_left
  · simp only [Act.put, List.setIfInBounds_toArray, List.set_cons_zero, List.set_cons_succ]
    rfl
  refine pure_ (i := 7) (N := (some 71)) (v := ?_) (a' := ?_) #[true, true, true, true, true, true, true, true, false, false, false, false, false, false, false, false, false, false, false] rfl rfl (by kernel_rfl) (fun c_ _ w_ h_ => HPP.out c_ _ _ _ w_ h_) (Or.inl ⟨by kernel_rfl, ?_⟩) ?_ ?_
  rotate_left
  · intro w_
    go_simp
    with_reducible rfl
  rotate_left
  · simp only [Act.put, List.setIfInBounds_toArray, List.set_cons_zero, List.set_cons_succ]
    rfl
  refine take_ (i := 8) (N := some 72) (v := ?_) (a' := ?_) #[true, true, true, true, true, true, true, true, true, false, false, false, false, false, false, false, false, false, false] rfl rfl (by kernel_rfl) (fun c_ _ w_ h_ => HPP.out c_ _ _ _ w_ h_) (Or.inl ⟨by kernel_rfl, ?_⟩) hHeld ?_ ?_
  rotate_left
  · rintro w_ sA
    have s0 := blk_cell sA 2
    go_simp
    with_reducible rfl
  rotate_left
  · simp only [Act.put, List.setIfInBounds_toArray, List.set_cons_zero, List.set_cons_succ]
    rfl
  refine pure_ (i := 9) (N := (some 73)) (v := ?_) (a' := ?_) #[true, true, true, true, true, true, true, true, true, true, false, false, false, false, false, false, false, false, false] rfl rfl (by kernel_rfl) (fun c_ _ w_ h_ => HPP.out c_ _ _ _ w_ h_) (Or.inl ⟨by kernel_rfl, ?_⟩) ?_ ?_
  rotate_left
  · intro w_
    go_simp
    with_reducible rfl
  rotate_left
  · simp only [Act.put, List.setIfInBounds_toArray, List.set_cons_zero, List.set_cons_succ]
    rfl
  refine pure_ (i := 10) (N := (some 74)) (v := ?_) (a' := ?_) #[true, true, true, true, true, true, true, true, true, true, true, false, false, false, false, false, false, false, false] rfl rfl (by kernel_rfl) (fun c_ _ w_ h_ => HPP.out c_ _ _ _ w_ h_) (Or.inl ⟨by kernel_rfl, ?_⟩) ?_ ?_
  rotate_left
  · intro w_
    go_simp
    with_reducible rfl
  rotate_left
  · simp only [Act.put, List.setIfInBounds_toArray, List.set_cons_zero, List.set_cons_succ]
    rfl
  refine pure_ (i := 11) (N := (some 75)) (v := ?_) (a' := ?_) #[true, true, true, true, true, true, true, true, true, true, true, true, false, false, false, false, false, false, false] rfl rfl (by kernel_rfl) (fun c_ _ w_ h_ => HPP.out c_ _ _ _ w_ h_) (Or.inl ⟨by kernel_rfl, ?_⟩) ?_ ?_
  rotate_left
  · intro w_
    go_simp
    with_reducible rfl
  rotate_left
  · simp only [Act.put, List.setIfInBounds_toArray, List.set_cons_zero, List.set_cons_succ]
    rfl
  refine pure_ (i := 12) (N := (some 76)) (v := ?_) (a' := ?_) #[true, true, true, true, true, true, true, true, true, true, true, true, true, false, false, false, false, false, false] rfl rfl (by kernel_rfl) (fun c_ _ w_ h_ => HPP.out c_ _ _ _ w_ h_) (Or.inl ⟨by kernel_rfl, ?_⟩) ?_ ?_
  rotate_left
  · intro w_
    go_simp
    with_reducible rfl
  rotate_left
  · simp only [Act.put, List.setIfInBounds_toArray, List.set_cons_zero, List.set_cons_succ]
    rfl
  refine take_ (i := 13) (N := some 77) (v := ?_) (a' := ?_) #[true, true, true, true, true, true, true, true, true, true, true, true, true, true, false, false, false, false, false] rfl rfl (by kernel_rfl) (fun c_ _ w_ h_ => HPP.out c_ _ _ _ w_ h_) (Or.inl ⟨by kernel_rfl, ?_⟩) hHeld ?_ ?_
  rotate_left
  · rintro w_ sA
    have s0 := blk_cell sA 2
    go_simp
    with_reducible rfl
  rotate_left
  · simp only [Act.put, List.setIfInBounds_toArray, List.set_cons_zero, List.set_cons_succ]
    rfl
  refine pure_ (i := 14) (N := (some 78)) (v := ?_) (a' := ?_) #[true, true, true, true, true, true, true, true, true, true, true, true, true, true, true, false, false, false, false] rfl rfl (by kernel_rfl) (fun c_ _ w_ h_ => HPP.out c_ _ _ _ w_ h_) (Or.inl ⟨by kernel_rfl, ?_⟩) ?_ ?_
  rotate_left
  · intro w_
    go_simp
    with_reducible rfl
  rotate_left
  · simp only [Act.put, List.setIfInBounds_toArray, List.set_cons_zero, List.set_cons_succ]
    rfl
  refine pure_ (i := 15) (N := (some 79)) (v := ?_) (a' := ?_) #[true, true, true, true, true, true, true, true, true, true, true, true, true, true, true, true, false, false, false] rfl rfl (by kernel_rfl) (fun c_ _ w_ h_ => HPP.out c_ _ _ _ w_ h_) (Or.inl ⟨by kernel_rfl, ?_⟩) ?_ ?_
  rotate_left
  · intro w_
    go_simp
    with_reducible rfl
  rotate_left
  · simp only [Act.put, List.setIfInBounds_toArray, List.set_cons_zero, List.set_cons_succ]
    rfl
  refine pure_ (i := 16) (N := (some 80)) (v := ?_) (a' := ?_) #[true, true, true, true, true, true, true, true, true, true, true, true, true, true, true, true, true, false, false] rfl rfl (by kernel_rfl) (fun c_ _ w_ h_ => HPP.out c_ _ _ _ w_ h_) (Or.inl ⟨by kernel_rfl, ?_⟩) ?_ ?_
  rotate_left
  · intro w_
    go_simp
    with_reducible rfl
  rotate_left
  · simp only [Act.put, List.setIfInBounds_toArray, List.set_cons_zero, List.set_cons_succ]
    rfl
  refine pure_ (i := 17) (N := (some 81)) (v := ?_) (a' := ?_) #[true, true, true, true, true, true, true, true, true, true, true, true, true, true, true, true, true, true, false] rfl rfl (by kernel_rfl) (fun c_ _ w_ h_ => HPP.out c_ _ _ _ w_ h_) (Or.inl ⟨by kernel_rfl, ?_⟩) ?_ ?_
  rotate_left
  · intro w_
    go_simp
    with_reducible rfl
  rotate_left
  · simp only [Act.put, List.setIfInBounds_toArray, List.set_cons_zero, List.set_cons_succ]
    rfl
  refine last_ (i := 18) (N := none) #[true, true, true, true, true, true, true, true, true, true, true, true, true, true, true, true, true, true, true] rfl rfl (by kernel_rfl) (by decide) (fun K hK => ?_)
  refine skip_ (w1 := wj.drew.setCell ⟨gn, 2, none⟩ (.slice none 0 0)) (by kernel_rfl) rfl (by have s0 := blk_cell hHeld 2; have s1 := blk_frozen hHeld 2; go_simp) ?_
  refine hK.out _ _ ?_
  clear hK K
  refine done_ (by kernel_rfl) ?_
  obtain ⟨w9, hw9⟩ : ∃ w9, w9 = wj.drew.setCell ⟨gn, 2, none⟩ (.slice none 0 0) := ⟨_, rfl⟩
  have hb9 : w9.heap[gn]? = some (.cells #[.string nm, .string ⟨#[]⟩, .slice none 0 0] 36 (0, 0)) := by rw [hw9]; exact blk_put hHeld 2 _ rfl
  have hR9 : Rd w0 w9 g s j := by rw [hw9]; exact Rd.far (w := wj.drew) (HR.out.drewN 1) (p := ⟨gn, 2, none⟩) hgg hgw0 _
  have hK9 : KeepBut w w9 g (some gn) := by rw [hw9]; exact keepPut (W := wj.drew) HK.out 2 _
  rw [← hw9]
  have s9 := blk_cell hb9 2
  have t9 := hR9.cell0
  have HB9 := Aside0.mk hb9
  have HR9 := Aside0.mk hR9
  have HK9 := Aside0.mk hK9
  clear hb9 hw9 HR HK hHeld hblk hR9 hK9
  have hsz : (s.extract i s.size).size = s.size - i := by simp
  obtain ⟨v, hv⟩ : ∃ v, v = Lib.indexByte (s.extract i s.size).data.toList 60 := ⟨_, rfl⟩
  have hI : ∀ w', Calls Tryd.prog 113 #[.string (s.extract i s.size), .int .u8 60] w' fun e w2 => e = .returned (.int .i64 v) ∧ Drawn0 w' w2 := fun w' => q13_.calls _ _ _ w' (by rw [hv]; rfl)
  have hvb : v < ((s.size - i : Nat) : Int) ∨ v = -1 := by
    have := indexByte_lt 60 (s.extract i s.size).data.toList
    rw [← hv] at this
    simpa [hsz] using this
  have hnn : -1 ≤ v := by rw [hv]; exact indexByte_ge _ _
  have HI := Aside0.mk hI
  have HV := Aside0.mk hv
  have p0 : (0 : Int) ≤ (i : Int) := by omega
  have p1 : (i : Int) ≤ (s.size : Int) := by omega
  clear hI hv hsz
  go_wp2_with fail
  refine (HI.out _).mono ?_
  rintro e w10 ⟨rfl, ⟨n10, rfl⟩⟩
  rcases Int.lt_or_le v 0 with hneg | hpos
  · go_wp2_with fail
    refine HRet.out _ _ false rfl rfl ⟨⟨#[]⟩, [], none, 0, false, j, rfl, blk_drewN HB9.out _, Nat.le_refl _, fun _ _ => Kd.C_nil _ _, Wr.none _ _, HR9.out.drewN _, keep_drewN HK9.out _, ?_⟩
    rw [textV, if_neg (by simp), if_pos (by rw [← HV.out]; exact hneg)]
  · obtain ⟨k, rfl⟩ : ∃ k : Nat, v = (k : Int) := ⟨v.toNat, by omega⟩
    have hk : k < s.size - i := by omega
    have q0 : (i : Int) + (k : Int) ≤ (s.size : Int) := by omega
    have q1 : (i : Int) ≤ (i : Int) + (k : Int) := by omega
    have q2 : 0 ≤ (i : Int) + (k : Int) := by omega
    have q3 : ((i : Int) + (k : Int)).toNat = i + k := by omega
    have hnlt : ¬ ((k : Int) < 0) := by omega
    have hG9 : GOK (w9.drewN n10) := (HG.out.keep HK9.out (by omega) (by intro e_; injection e_ with e_; omega)).drewN _
    obtain ⟨r1, r2, hr⟩ : ∃ r1 r2, (r1, r2) = unV (s.extract i (i + k)) := ⟨_, _, rfl⟩
    have hU := q17_.calls (s.extract i (i + k)) r1 r2 (w9.drewN n10) hG9 (by
      rw [q17_.f, if_pos (by simp; omega), hr])
    have HU := Aside0.mk hU
    have HR1 := Aside0.mk hr
    have HNP := Aside0.mk hnlt
    have hblk2 := fun (w11 : World) (hb : Below (w9.drewN n10).heap.size (w9.drewN n10) w11) => blk_below (blk_drewN HB9.out n10) hb
    have HBK := Aside0.mk hblk2
    clear hU hG9 hr hpos hvb hnn hblk2
    go_wp2_with fail
    refine HU.out.mono ?_
    rintro e w11 ⟨rfl, hb11⟩
    have hbk := HBK.out w11 hb11
    have hR11 : Rd w0 w11 g s j := (HR9.out.drewN n10).stays hb11
    have hK11 : KeepBut w w11 g (some gn) := (keep_drewN HK9.out n10).trans (KeepBut.of_below hb11 g (some gn)) (.inl rfl)
    have s11 := blk_cell hbk 1
    have f11 := blk_frozen hbk 1
    have hR12 : Rd w0 (w11.setCell ⟨gn, 1, none⟩ (.string r1)) g s j := hR11.far (p := ⟨gn, 1, none⟩) hgg hgw0 _
    have s12 := hR12.cell1
    have f12 := hR12.frozen 1
    obtain ⟨w13, hw13⟩ : ∃ w13, w13 = (w11.setCell ⟨gn, 1, none⟩ (.string r1)).setCell ⟨g, 1, none⟩ (.int .i64 (((i + k : Nat) : Int))) := ⟨_, rfl⟩
    have hR13 : Rd w0 w13 g s (i + k) := by rw [hw13]; exact hR12.move (i + k) (by omega)
    have hb13 : w13.heap[gn]? = some (.cells #[.string nm, .string r1, .slice none 0 0] 36 (0, 0)) := by
      rw [hw13]
      exact (Below.heap_setCell _ ⟨g, 1, none⟩ _ gn hgg).trans (blk_put hbk 1 _ rfl)
    have hK13 : KeepBut w w13 g (some gn) := by
      rw [hw13]
      exact (keepPut hK11 1 _).set_ 1 _
    have HF : Aside0 (ContPost w0 w g gn s nm (textV s i [] j) (.returned (.bool r2)) w13) := ⟨⟨r1, [], none, 0, r2, i + k, rfl, hb13, Nat.le_refl _, fun _ _ => Kd.C_nil _ _, Wr.none _ _, hR13, hK13, by
      have hv' := HV.out
      have hu := HR1.out
      rw [textV, if_neg (by simp), if_neg (by rw [← hv']; omega), ← hv', Int.toNat_natCast]
      cases r2 with
      | true => rw [if_pos (by rw [← hu]), ← hu]; exact ⟨rfl, rfl, rfl, rfl⟩
      | false => rw [if_neg (by rw [← hu]; simp)]⟩⟩
    have hcast : ((i + k : Nat) : Int) = (i : Int) + (k : Int) := by omega
    rw [hcast] at hw13
    have HW := Aside0.mk hw13
    have HWc := Aside0.mk hcast
    clear hw13 hcast hR13 hb13 hK13 hR11 hR12 hb11 hbk hK11
    go_wp2_with fail
    rw [← HW.out]
    exact HRet.out _ _ r2 rfl rfl HF.out
set_option maxHeartbeats 4000000 in
set_option maxRecDepth 1000000 in
theorem content_step {d : Nat} {s : ByteArray} (he : ElemOk s d) (hpos : ∀ i n m, elemV s d i = some (n, m) → i < m) (hd16 : d ≤ 16) : ContOk s d := by
  intro w0 w g gn i nm h hg h0 hgw0 hgg hbn
  have HE := Aside0.mk he
  have HP := Aside0.mk hpos
  have hsm := h.small
  have hlt := h.lt
  have hge := h.ge
  have hgnlt : gn < w.heap.size := blk_lt hbn
  have HR := Aside0.mk h
  have HB := Aside0.mk hbn
  have HG := Aside0.mk hg
  have c1 := h.cell1
  clear he hpos hbn hg h
  go_enter Tryd.func95, Tryd.ntmps95
  go_wp2_with fail
  refine (space_calls HR.out).mono ?_
  rintro e w1 ⟨rfl, h1, hk1⟩
  have HK1 : Aside0 (KeepBut w w1 g (some gn)) := ⟨keepWeak hk1 _⟩
  have HB1 : Aside0 (w1.heap[gn]? = some (.cells #[.string nm, .string ⟨#[]⟩, .slice none 0 0] 36 (0, 0))) := ⟨hk1.blk HB.out hgg (by simp)⟩
  obtain ⟨j0, hj0⟩ : ∃ j0, j0 = skip whiteV s i := ⟨_, rfl⟩
  have hC : contV (elemV s d) s i = contW s i (kidsV (elemV s d) (s.size + 1) s j0 []) := by rw [contV, hj0]
  rw [← hj0] at h1
  have HC0 := Aside0.mk hC
  have H1 := Aside0.mk h1
  have hile := HR.out.le
  clear hC hj0 h1 hk1 c1 HR HB
  go_wp2_with fail
  rename_i Kl hKl
  refine wp_loop_ghost_k (ContI w0 w g gn i d s nm j0) (s.size + 1) ?_ ?_
  · exact ContI.mk (A := none) (c := 0) rfl (by omega) (by simp) H1.out HK1.out ⟨HB1.out, Kd.N_nil _ _ _ _ _, fun _ => ⟨rfl, rfl⟩⟩
  · intro gk a' wr hI J K hJ hK
    cases gk with
    | zero => obtain ⟨_, _, _, _, _, _, h2, _⟩ := hI; omega
    | succ gk =>
    refine cont_round (fun c_ N_ _ _ w_ h_ => by cases N_ <;> exact h_) HE.out HP.out hd16 hsm hgg hlt hgnlt h0 hgw0 hge HG.out hI ?_ ?_ ?_
    · intro a2 w2 h2
      exact hK _ _ ⟨gk, Nat.lt_succ_self _, hJ _ _ _ h2⟩
    · intro l j a2 w2 hkv hF h3 h4 A c h5
      refine hKl a2 w2 ?_
      have hCV := HC0.out
      rw [hkv] at hCV
      cases l with
      | nil =>
        refine cont_text (fun c_ N_ _ _ w_ h_ => by cases N_ <;> exact h_) hsm hile hgg hlt hgnlt h0 hge hgw0 HG.out hF h3 h4 h5 ?_
        intro a3 w3 b hd hb hpost
        refine bodyPost_ret (v := .bool b) ?_ hd ?_
        · rw [results_tmp rfl]
          rw [hb]
        · rw [hCV]
          exact hpost
      | cons n l =>
        refine cont_kids (fun c_ N_ _ _ w_ h_ => by cases N_ <;> exact h_) hsm hgg hlt hgnlt hgw0 hF h3 h4 h5 (by simp) ?_
        intro a3 w3 b hd hb hpost
        refine bodyPost_ret (v := .bool b) ?_ hd ?_
        · rw [results_tmp rfl]
          rw [hb]
        · rw [hCV]
          exact hpost
    · intro l A c j a2 w2 hkv hF hb h3 h4 h5
      refine bodyPost_ret (v := .bool false) ?_ (by obtain ⟨u, rfl⟩ := hF; rfl) ?_
      · rw [results_tmp rfl]
        rw [hb]
      · have hCV := HC0.out
        rw [hkv] at hCV
        rw [hCV]
        exact ⟨⟨#[]⟩, l, A, c, false, j, rfl, h5.blk, h5.le, h5.f, h5.wr, h3, h4, rfl⟩
theorem attrsV_ge {s : ByteArray} : ∀ {k i m : Nat}, attrsV k s i = some m → i ≤ m
  | 0, i, m, h => by cases h
  | k + 1, i, m, h => by
    have h2 := le_skip whiteV s i
    unfold attrsV at h
    split at h
    · split at h
      · rename_i m' hm'
        have h3 := attrV_gt hm'
        have h4 := attrsV_ge h
        omega
      · cases h
    · injection h with h
      omega
theorem kidsV_ge {s : ByteArray} {E : Nat → Option (S36 × Nat)} (hE : ∀ i n m, E i = some (n, m) → i < m) : ∀ {k j : Nat} {acc l : List S36} {m : Nat}, kidsV E k s j acc = some (l, m) → j ≤ m
  | 0, j, acc, l, m, h => by cases h
  | k + 1, j, acc, l, m, h => by
    unfold kidsV at h
    split at h
    · split at h
      · rename_i n m' hm'
        have h3 := hE _ _ _ hm'
        have h4 := kidsV_ge hE h
        have h5 := le_skip whiteV s m'
        omega
      · cases h
    · injection h with h
      injection h with h1 h2
      omega
theorem contV_ge {s : ByteArray} {E : Nat → Option (S36 × Nat)} (hE : ∀ i n m, E i = some (n, m) → i < m) {i m : Nat} {t : ByteArray} {l : List S36} (h : contV E s i = some (t, l, m)) : i ≤ m := by
  unfold contV contW at h
  split at h
  · rename_i kids m' hk
    have h1 := kidsV_ge hE hk
    have h2 := le_skip whiteV s i
    unfold textV at h
    split at h
    · injection h with h
      injection h with _ h
      injection h with _ h
      omega
    · split at h
      · cases h
      · split at h
        · injection h with h
          injection h with _ h
          injection h with _ h
          omega
        · cases h
  · cases h
theorem elemV_gt (s : ByteArray) : ∀ (d i : Nat) (n : S36) (m : Nat), elemV s d i = some (n, m) → i < m
  | 0, i, n, m, h => by cases h
  | d + 1, i, n, m, h => by
    unfold elemV at h
    split at h
    · split at h
      · unfold atV at h
        split at h
        · rename_i k hk
          have h1 := attrsV_ge hk
          have h2 := le_skip innerV s (i + 1)
          unfold restV at h
          split at h
          · injection h with h
            injection h with _ h
            omega
          · split at h
            · split at h
              · rename_i t kids m' hc
                have h3 := contV_ge (elemV_gt s d) hc
                unfold endV at h
                split at h
                · split at h
                  · split at h
                    · injection h with h
                      injection h with _ h
                      have h4 := le_skip innerV s (m' + 2)
                      have h5 := le_skip whiteV s (skip innerV s (m' + 2))
                      omega
                    · cases h
                  · cases h
                · cases h
              · cases h
            · cases h
        · cases h
      · cases h
    · cases h
set_option maxHeartbeats 4000000 in
set_option maxRecDepth 1000000 in
theorem element_zero {s : ByteArray}
    {w0 w : World} {g i : Nat} (h : Rd w0 w g s i) (hg : GOK w) (h0 : 0 < w0.heap.size) :
    Calls Tryd.prog 49 #[.pointer (some ⟨g, 0, none⟩), .int .i64 17] w (ElemPost w0 w g s none) := by
  have hsm := h.small
  have hlt := h.lt
  have hge := h.ge
  obtain ⟨gn, hgn⟩ : ∃ gn, gn = w.heap.size := ⟨_, rfl⟩
  have hgg : gn ≠ g := by omega
  obtain ⟨W0, hW0⟩ : ∃ W0, W0 = w.alloc (.cells #[.string ⟨#[]⟩, .string ⟨#[]⟩, .slice none 0 0] 36 (0, 0)) := ⟨_, rfl⟩
  have HR : Aside0 (Rd w0 W0 g s i) := ⟨by rw [hW0]; exact h.alloc _⟩
  have HK : Aside0 (KeepBut w W0 g none) := ⟨by rw [hW0]; exact keep_alloc (KeepBut.refl w g none) _⟩
  have HB : Aside0 (W0.heap[gn]? = some (.cells #[.string ⟨#[]⟩, .string ⟨#[]⟩, .slice none 0 0] 36 (0, 0))) := ⟨by rw [hW0, hgn]; exact heap_alloc_new w _⟩
  have HG2 : Aside0 (GOK w) := ⟨hg⟩
  have hq16 : decide ((16 : Int) < 17) = true := decide_eq_true (by omega)
  clear h hg
  go_enter Tryd.func49, Tryd.ntmps49
  go_wp2_with fail
  rw [← hW0, ← hgn]
  have hgw : w.heap.size ≤ gn := by omega
  have hgw0 : w0.heap.size ≤ gn := by have := hge; omega
  have hu36 := Tryd.underlying36
  clear hW0 hgn
  refine wp_scope_jumps 0 (ElemJ w0 w g gn s none) (fun _ _ => 0) rfl ?_ ?_
  case refine_2 =>
    rintro a' w' ⟨⟨u0, u1, u2, u3, u5, u6, u7, u8, u9, u10, u11, u12, u13, u14, u15, u16, u17, u18, u19, u20, u21, u22, u23, u24, u25, u26, u27, u28, u29, u30, u31, u32, u33, u34, u35, u36, u37, u38, u39, u40, u41, u42, u43, u44, u45, u46, u47, u48, u49, u50, u51, u52, u53, u54, u55, u56, u57, u58, u59, u60, u61, u62, u63, u64, u65, u66, u67, u68, u69, u70, u71, u72, u73, u74, u75, u76, u77, u78, u79, u80, u81, rfl⟩, ⟨j, hj⟩, hk, ⟨x, y, z, hb⟩, ho⟩
    have cz0 := blk_cell hb 0
    have cz1 := blk_cell hb 1
    have cz2 := blk_cell hb 2
    have fz0 := blk_frozen hb 0
    have fz1 := blk_frozen hb 1
    have fz2 := blk_frozen hb 2
    have HB := Aside0.mk hb
    clear hb
    go_wp2
    simp only [Exit.jump]
    exact bodyPost_ret (elem_results rfl rfl (x := .string ⟨#[]⟩) (y := .string ⟨#[]⟩) (z := .slice none 0 0) (blk_set3 HB.out)) rfl (ElemPost.no (j := j) rfl (((hj.far (p := ⟨gn, 0, none⟩) hgg hgw0 _).far (p := ⟨gn, 1, none⟩) hgg hgw0 _).far (p := ⟨gn, 2, none⟩) hgg hgw0 _) (keep_far (keep_far (keep_far hk (p := ⟨gn, 0, none⟩) hgw _) (p := ⟨gn, 1, none⟩) hgw _) (p := ⟨gn, 2, none⟩) hgw _))
  case refine_1 =>
    go_wp2_with fail
    apply wp_goto
    exact ⟨rfl, ElemJ.mk HR.out HK.out HB.out rfl⟩
theorem element_ok (s : ByteArray) : ∀ d, d ≤ 16 → ElemOk s d
  | 0, _ => by
    intro w0 w g i h hg h0
    exact element_zero h hg h0
  | d + 1, hd => by
    intro w0 w g i h hg h0
    have h1 := element_step (content_step (element_ok s d (by omega)) (elemV_gt s d) (by omega)) (by omega) h hg h0
    have h2 : (16 - ((d + 1 : Nat) : Int) + 1) = 16 - (d : Int) := by omega
    rw [h2]
    exact h1
def beginV (s : ByteArray) : Option Nat :=
  if hasP s 0 ⟨#[60, 63, 120, 109, 108]⟩ = true then
    (if Lib.index (s.extract 5 s.size).data.toList [63, 62] < 0 then none
     else if 0 < Lib.index (s.extract 5 s.size).data.toList [63, 62] ∧ whiteV (bt s 5) = false ∧ bt s 5 ≠ 63 then none
     else some (5 + (Lib.index (s.extract 5 s.size).data.toList [63, 62]).toNat + 2))
  else some 0
theorem Index_5 (s : ByteArray) (v : Int) (hs : s.size ≤ 1073741824) (hv : v = Lib.index (s.extract 5 s.size).data.toList [63, 62]) (w : World) (hg : GOK w) :
    Calls Tryd.prog 90 #[.string (s.extract 5 s.size), .string ⟨#[63, 62]⟩] w fun e w' => e = .returned (.int .i64 v) ∧ Drawn0 w w' := by
  have hsz : (s.extract 5 s.size).size = s.size - 5 := by simp
  have := Index_any (s.extract 5 s.size) ⟨#[63, 62]⟩ w hg (by omega)
  rw [hv]
  exact this
theorem begin_room (s : ByteArray) (h : 0 ≤ Lib.index (s.extract 5 s.size).data.toList [63, 62]) : 5 + (Lib.index (s.extract 5 s.size).data.toList [63, 62]).toNat + 2 ≤ s.size := by
  have h1 := Lib.index_room (s.extract 5 s.size).data.toList [63, 62] h
  have hsz : (s.extract 5 s.size).data.toList.length = s.size - 5 := by
    rw [Array.length_toList]
    show (s.extract 5 s.size).size = _
    simp
  rw [hsz] at h1
  have h2 : (([63, 62] : List UInt8).length : Int) = 2 := rfl
  rw [h2] at h1
  generalize Lib.index (s.extract 5 s.size).data.toList [63, 62] = v at h h1 ⊢
  omega
def BeginPost (w0 w : World) (g : Nat) (s : ByteArray) (e : Ending) (w' : World) : Prop := ∃ (b : Bool) (j : Nat), e = .returned (.bool b) ∧ Rd w0 w' g s j ∧ KeepBut w w' g none ∧ (match beginV s with | some k => b = true ∧ j = k | none => b = false)
theorem BeginPost.no {w0 w w' : World} {g : Nat} {s : ByteArray} {j : Nat} (ho : beginV s = none) (h : Rd w0 w' g s j) (hk : KeepBut w w' g none) : BeginPost w0 w g s (.returned (.bool false)) w' := ⟨false, j, rfl, h, hk, by rw [ho]⟩
theorem BeginPost.yes {w0 w w' : World} {g : Nat} {s : ByteArray} {j : Nat} (ho : beginV s = some j) (h : Rd w0 w' g s j) (hk : KeepBut w w' g none) : BeginPost w0 w g s (.returned (.bool true)) w' := ⟨true, j, rfl, h, hk, by rw [ho]; exact ⟨rfl, rfl⟩⟩
set_option maxHeartbeats 4000000 in
set_option maxRecDepth 1000000 in
theorem begin_calls {w0 w : World} {g : Nat} {s : ByteArray} (h : Rd w0 w g s 0) (hg : GOK w) :
    Calls Tryd.prog 47 #[.pointer (some ⟨g, 0, none⟩)] w (BeginPost w0 w g s) := by
  have hsm := h.small
  have c0 := h.cell0
  have c1 := h.cell1
  have f1 := h.frozen 1
  have HR := Aside0.mk h
  have HG := Aside0.mk hg
  obtain ⟨b, hb⟩ : ∃ b, b = hasP s 0 ⟨#[60, 63, 120, 109, 108]⟩ := ⟨_, rfl⟩
  have HP : Aside0 (Calls Tryd.prog 89 #[.string s, .string ⟨#[60, 63, 120, 109, 108]⟩] w fun e w2 => e = .returned (.bool b) ∧ Drawn0 w w2) := ⟨by
    have h1 := HasPrefix_calls s 0 ⟨#[60, 63, 120, 109, 108]⟩ hsm (by decide) w
    have h2 : s.extract 0 s.size = s := by simp
    rw [h2] at h1
    rw [hb]
    exact h1⟩
  have HB := Aside0.mk hb
  clear h hg hb
  cases b with
  | false =>
    go_enter Tryd.func47, Tryd.ntmps47
    go_wp2_with fail
    refine HP.out.mono ?_
    rintro e w1 ⟨rfl, ⟨n1, rfl⟩⟩
    go_wp2_with fail
    go_ret
    exact BeginPost.yes (j := 0) (by rw [beginV, if_neg (by rw [← HB.out]; decide)]) (HR.out.drewN n1) (keep_drewN (KeepBut.refl _ _ _) n1)
  | true =>
    have h5 : 5 ≤ s.size := by
      have h1 := hasP_le HB.out.symm
      have h2 : (⟨#[60, 63, 120, 109, 108]⟩ : ByteArray).size = 5 := rfl
      omega
    obtain ⟨v, hv⟩ : ∃ v, v = Lib.index (s.extract 5 s.size).data.toList [63, 62] := ⟨_, rfl⟩
    have hnn : -1 ≤ v := by rw [hv]; exact Lib.index_ge _ _
    have hroom := begin_room s
    rw [← hv] at hroom
    have HI := fun (w' : World) (hg' : GOK w') => Index_5 s v hsm hv w' hg'
    have HI' := Aside0.mk HI
    have HV := Aside0.mk hv
    have p1 : (5 : Int) ≤ (s.size : Int) := by omega
    clear hv HI
    have hspec : beginV s = if v < 0 then none else if 0 < v ∧ whiteV (bt s 5) = false ∧ bt s 5 ≠ 63 then none else some (5 + v.toNat + 2) := by
      rw [beginV, if_pos HB.out.symm, ← HV.out]
    have HS := Aside0.mk hspec
    clear hspec
    have hwh : ∀ w' : World, Calls Tryd.prog 91 #[.int .u8 (bt s 5)] w' fun e w2 => e = .returned (.bool (whiteV (bt s 5))) ∧ Drawn0 w' w2 := fun w' => q8_.calls _ _ w' (white_f _)
    have HW := Aside0.mk hwh
    clear hwh
    have hx5 : ∀ h : 5 < s.size, ((s[5]'h).toNat : Int) = bt s 5 := fun h => by simp [bt, h]
    have hbr := bt_range s 5
    obtain ⟨x, hx⟩ : ∃ x, x = bt s 5 := ⟨_, rfl⟩
    rw [← hx] at HS HW hx5 hbr
    clear hx
    rcases Int.lt_or_le v 0 with hneg | hpos
    · go_enter Tryd.func47, Tryd.ntmps47
      go_wp2_with fail
      refine HP.out.mono ?_
      rintro e w1 ⟨rfl, ⟨n1, rfl⟩⟩
      go_wp2_with fail
      refine (HI'.out _ (HG.out.drewN n1)).mono ?_
      rintro e w2 ⟨rfl, ⟨n2, rfl⟩⟩
      go_wp2_with fail
      go_ret
      exact BeginPost.no (j := 0) (by rw [HS.out, if_pos hneg]) (HR.out.drewN _) (keep_drewN (KeepBut.refl _ _ _) _)
    · obtain ⟨k, rfl⟩ : ∃ k : Nat, v = (k : Int) := ⟨v.toNat, by omega⟩
      have hr := hroom hpos
      rw [Int.toNat_natCast] at hr
      clear hroom
      have h6 : 5 < s.size := by omega
      have hx6 := hx5 h6
      have q1 : ¬ ((k : Int) < 0) := by omega
      have hs1 : (5 : Int) + (k : Int) + 2 = ((5 + k + 2 : Nat) : Int) := by omega
      have HS1 := Aside0.mk hs1
      have q3 : (5 : Int) < (s.size : Int) := by omega
      clear hs1 hx5 hnn
      have hmv := fun (n : Nat) => (HR.out.drewN n).move (5 + k + 2) hr
      have hkv := fun (n : Nat) => (keep_drewN (KeepBut.refl w g none) n).set_ 1 (.int .i64 ((5 + k + 2 : Nat) : Int))
      have HMV := Aside0.mk hmv
      have HKV := Aside0.mk hkv
      clear hmv hkv
      by_cases hk : 0 < k
      · have q2 : (0 : Int) < (k : Int) := by omega
        cases hw : whiteV x with
        | true =>
          rw [hw] at HW
          have HT : Aside0 (beginV s = some (5 + k + 2)) := ⟨by rw [HS.out, if_neg q1, if_neg (by rw [hw]; simp), Int.toNat_natCast]⟩
          clear hw HS
          go_enter Tryd.func47, Tryd.ntmps47
          go_wp2_with fail
          refine HP.out.mono ?_
          rintro e w1 ⟨rfl, ⟨n1, rfl⟩⟩
          go_wp2_with fail
          refine (HI'.out _ (HG.out.drewN n1)).mono ?_
          rintro e w2 ⟨rfl, ⟨n2, rfl⟩⟩
          go_wp2_with fail
          refine (HW.out _).mono ?_
          rintro e w3 ⟨rfl, ⟨n3, rfl⟩⟩
          go_wp2_with fail
          go_ret
          have h1 := HMV.out (n1 + n2 + n3)
          have h2 := HKV.out (n1 + n2 + n3)
          rw [← HS1.out] at h1 h2
          exact BeginPost.yes HT.out h1 h2
        | false =>
          rw [hw] at HW
          cases hq : x == 63 with
          | true =>
            have hx63 : x = 63 := by simpa using hq
            have HT : Aside0 (beginV s = some (5 + k + 2)) := ⟨by rw [HS.out, if_neg q1, if_neg (by rw [hx63]; simp), Int.toNat_natCast]⟩
            have hq2 : (x != 63) = false := by simp [hx63]
            clear hw HS hx63
            go_enter Tryd.func47, Tryd.ntmps47
            go_wp2_with fail
            refine HP.out.mono ?_
            rintro e w1 ⟨rfl, ⟨n1, rfl⟩⟩
            go_wp2_with fail
            refine (HI'.out _ (HG.out.drewN n1)).mono ?_
            rintro e w2 ⟨rfl, ⟨n2, rfl⟩⟩
            go_wp2_with fail
            refine (HW.out _).mono ?_
            rintro e w3 ⟨rfl, ⟨n3, rfl⟩⟩
            go_wp2_with fail
            go_ret
            have h1 := HMV.out (n1 + n2 + n3)
            have h2 := HKV.out (n1 + n2 + n3)
            rw [← HS1.out] at h1 h2
            exact BeginPost.yes HT.out h1 h2
          | false =>
            have hx63 : x ≠ 63 := by simpa using hq
            have HT : Aside0 (beginV s = none) := ⟨by rw [HS.out, if_neg q1, if_pos ⟨q2, hw, hx63⟩]⟩
            have hq2 : (x != 63) = true := by simp [hx63]
            clear hw HS hx63
            go_enter Tryd.func47, Tryd.ntmps47
            go_wp2_with fail
            refine HP.out.mono ?_
            rintro e w1 ⟨rfl, ⟨n1, rfl⟩⟩
            go_wp2_with fail
            refine (HI'.out _ (HG.out.drewN n1)).mono ?_
            rintro e w2 ⟨rfl, ⟨n2, rfl⟩⟩
            go_wp2_with fail
            refine (HW.out _).mono ?_
            rintro e w3 ⟨rfl, ⟨n3, rfl⟩⟩
            go_wp2_with fail
            go_ret
            exact BeginPost.no (j := 0) HT.out (HR.out.drewN _) (keep_drewN (KeepBut.refl _ _ _) _)
      · obtain rfl : k = 0 := by omega
        have HT : Aside0 (beginV s = some 7) := ⟨by rw [HS.out, if_neg q1, if_neg (by simp)]; rfl⟩
        clear HS
        go_enter Tryd.func47, Tryd.ntmps47
        go_wp2_with fail
        refine HP.out.mono ?_
        rintro e w1 ⟨rfl, ⟨n1, rfl⟩⟩
        go_wp2_with fail
        refine (HI'.out _ (HG.out.drewN n1)).mono ?_
        rintro e w2 ⟨rfl, ⟨n2, rfl⟩⟩
        go_wp2_with fail
        go_ret
        have h1 := HMV.out (n1 + n2)
        have h2 := HKV.out (n1 + n2)
        exact BeginPost.yes (j := 7) HT.out h1 h2
def legalV (s : ByteArray) : Bool := legB s s.size 0 && (cntB s s.size 0 0).2
def docV (s : ByteArray) (j : Nat) : S36 × Int :=
  match elemV s 16 (skip whiteV s j) with
  | some (n, m) => if skip whiteV s m = s.size then (n, 0) else (z36, 130)
  | none => (z36, 130)
def parseV (s : ByteArray) : S36 × Int :=
  if 65536 < s.size then (z36, 2)
  else if legalV s = false then (z36, 130)
  else match beginV s with
    | some j => docV s j
    | none => (z36, 130)
def NewNode (w w' : World) (n : S36) (v : Value) : Prop := ∃ (A : Option Addr) (c : Nat), v = .agg #[.string n.f0, .string n.f1, .slice A n.f2.length c] ∧ n.f2.length ≤ c ∧ Kd.F k36 w' (fun k => w.heap.size ≤ k) A n.f2.length n.f2 ∧ Wr w' w.heap.size A
def ParsePost (w : World) (s : ByteArray) (e : Ending) (w' : World) : Prop := ∃ v, e = .returned (.tuple #[v, .int .i64 (parseV s).2]) ∧ NewNode w w' (parseV s).1 v ∧ Below w.heap.size w w'
theorem NewNode.zero (w w' : World) : NewNode w w' z36 (.agg #[.string ⟨#[]⟩, .string ⟨#[]⟩, .slice none 0 0]) := ⟨none, 0, rfl, Nat.le_refl _, fun W_ _ => Kd.C_nil _ _, Wr.none _ _⟩
theorem ParsePost.no {w w' : World} {s : ByteArray} {c : Int} (h : parseV s = (z36, c)) (hb : Below w.heap.size w w') : ParsePost w s (.returned (.tuple #[.agg #[.string ⟨#[]⟩, .string ⟨#[]⟩, .slice none 0 0], .int .i64 c])) w' := ⟨_, by rw [h], by rw [h]; exact NewNode.zero _ _, hb⟩
theorem parse_results {T : Array Value} {w : World} {gn : Nat} {x y z u : Value} (h2 : T.getD 2 undef = .pointer (some ⟨gn, 0, none⟩)) (h3 : T.getD 3 undef = u) (hb : w.heap[gn]? = some (.cells #[x, y, z] 36 (0, 0))) :
    (results Tryd.f16 T).run Tryd.prog w = .ok (.tuple #[.agg #[x, y, z], u]) w := by
  rw [results_cell_tmp (p := 2) (u := 3) (ty := 36) rfl, h2, h3]
  have h := run_loadVar_row (P := Tryd.prog) w gn 36 36 #[x, y, z] (0, 0) _ hb Tryd.underlying36 rfl (by kernel_rfl)
  simp [asAddr, h, Result.andThen]
set_option maxHeartbeats 4000000 in
set_option maxRecDepth 1000000 in
theorem parse_calls (s : ByteArray) (w : World) (hg : GOK w) (hs : s.size ≤ 140737488351232) : Calls Tryd.prog 16 #[.string s] w (ParsePost w s) := by
  have hu36 := Tryd.underlying36
  have hmax : s.size ≤ 9223372036854775807 := by omega
  by_cases hL : 65536 < s.size
  · have hL2 : (65536 : Int) < (s.size : Int) := by omega
    have HP : Aside0 (parseV s = (z36, 2)) := ⟨by rw [parseV, if_pos hL]⟩
    clear hL
    go_enter Tryd.func16, Tryd.ntmps16
    go_wp2_with fail
    exact bodyPost_ret (parse_results rfl rfl (heap_alloc_new w _)) rfl (ParsePost.no HP.out (below_alloc (Below.refl _ _) _))
  · have hL2 : ¬ ((65536 : Int) < (s.size : Int)) := by omega
    have hsm : s.size ≤ 1073741824 := by omega
    obtain ⟨gr, hgr⟩ : ∃ gr, gr = w.heap.size := ⟨_, rfl⟩
    obtain ⟨W1, hW1⟩ : ∃ W1, W1 = w.alloc (.cells #[.string ⟨#[]⟩, .string ⟨#[]⟩, .slice none 0 0] 36) := ⟨_, rfl⟩
    obtain ⟨W2, hW2⟩ : ∃ W2, W2 = W1.alloc (.cells #[.string s, .int .i64 0] 91) := ⟨_, rfl⟩
    have hW1s : W1.heap.size = w.heap.size + 1 := by rw [hW1]; simp
    have hb1 : Below w.heap.size w W1 := by rw [hW1]; exact below_alloc (Below.refl _ _) _
    have hc1 : W1.heap[gr]? = some (.cells #[.string ⟨#[]⟩, .string ⟨#[]⟩, .slice none 0 0] 36 (0, 0)) := by rw [hW1, hgr]; exact heap_alloc_new w _
    have hR2 : Rd W1 W2 (gr + 1) s 0 := by
      rw [hgr, ← hW1s, hW2]
      exact ⟨IsS91.new W1 W1 s 0 (Below.refl _ _), below_alloc (Below.refl _ _) _, Nat.zero_le _, hsm⟩
    have hg2 : GOK W2 := by
      rw [hW2, hW1]
      exact (hg.below (below_alloc (Below.refl _ _) _) hg.lt).below (below_alloc (Below.refl _ _) _) (by have := hg.lt; rw [World.size_alloc]; omega)
    have h00 : 0 < W1.heap.size := by omega
    have HL := Aside0.mk (q6_.calls s (legalV s) W2 (by rw [q6_.f, if_pos (by omega)]; rfl))
    have HR2 := Aside0.mk hR2
    have HG2 := Aside0.mk hg2
    have HB1 := Aside0.mk hb1
    have HC1 := Aside0.mk hc1
    have HS1 := Aside0.mk hW1s
    have HGR := Aside0.mk hgr
    have HW1 := Aside0.mk hW1
    have HW2 := Aside0.mk hW2
    have hspec : parseV s = if legalV s = false then (z36, 130) else match beginV s with | some j => docV s j | none => (z36, 130) := by rw [parseV, if_neg hL]
    have HS := Aside0.mk hspec
    clear hL hg hR2 hg2 hb1 hc1 hW1s hgr hW1 hW2 hspec hs
    go_enter Tryd.func16, Tryd.ntmps16
    go_wp2_with fail
    rw [← HW1.out, ← HW2.out, ← HGR.out]
    have HGR2 : Aside0 (gr < W1.heap.size) := ⟨by rw [HS1.out, HGR.out]; omega⟩
    refine HL.out.mono ?_
    rintro e w3 ⟨rfl, hb3⟩
    have HR3 : Aside0 (Rd W1 w3 (gr + 1) s 0) := ⟨HR2.out.stays hb3⟩
    have HG3 : Aside0 (GOK w3) := ⟨HG2.out.below hb3 HG2.out.lt⟩
    clear hb3 HR2 HG2 HL
    have hno : ∀ (w' : World) (c : Int), parseV s = (z36, c) → Below W1.heap.size W1 w' → ParsePost w s (.returned (.tuple #[.agg #[.string ⟨#[]⟩, .string ⟨#[]⟩, .slice none 0 0], .int .i64 c])) (((w'.setCell ⟨gr, 0, none⟩ (.string ⟨#[]⟩)).setCell ⟨gr, 1, none⟩ (.string ⟨#[]⟩)).setCell ⟨gr, 2, none⟩ (.slice none 0 0)) := fun w' c h hb => by
      have h1 := below_then HB1.out HB1.out.size hb
      have h2 : w.heap.size ≤ gr := by rw [HGR.out]; exact Nat.le_refl _
      exact ParsePost.no h (((h1.setCell (p := ⟨gr, 0, none⟩) h2 _).setCell (p := ⟨gr, 1, none⟩) h2 _).setCell (p := ⟨gr, 2, none⟩) h2 _)
    have HNO := Aside0.mk hno
    clear hno
    cases hl : legalV s with
    | false =>
      have HP : Aside0 (parseV s = (z36, 130)) := ⟨by rw [HS.out, if_pos hl]⟩
      have hcr : w3.heap[gr]? = some (.cells #[.string ⟨#[]⟩, .string ⟨#[]⟩, .slice none 0 0] 36 (0, 0)) := blk_below HC1.out HR3.out.below
      clear hl
      have cz0 := blk_cell hcr 0
      have cz1 := blk_cell hcr 1
      have cz2 := blk_cell hcr 2
      have fz0 := blk_frozen hcr 0
      have fz1 := blk_frozen hcr 1
      have fz2 := blk_frozen hcr 2
      have HCR := Aside0.mk hcr
      clear hcr
      go_wp2_with fail
      exact bodyPost_ret (parse_results rfl rfl (x := .string ⟨#[]⟩) (y := .string ⟨#[]⟩) (z := .slice none 0 0) (blk_set3 HCR.out)) rfl (HNO.out _ _ HP.out HR3.out.below)
    | true =>
      have HS' : Aside0 (parseV s = match beginV s with | some j => docV s j | none => (z36, 130)) := ⟨by rw [HS.out, if_neg (by rw [hl]; decide)]⟩
      clear hl HS
      go_wp2_with fail
      refine (begin_calls HR3.out HG3.out).mono ?_
      rintro e w4 ⟨b, j, rfl, hR4, hk4, hm⟩
      have HR4 := Aside0.mk hR4
      have HG4 : Aside0 (GOK w4) := ⟨HG3.out.keep hk4 (by omega) (by simp)⟩
      have hcr : w4.heap[gr]? = some (.cells #[.string ⟨#[]⟩, .string ⟨#[]⟩, .slice none 0 0] 36 (0, 0)) := blk_below HC1.out hR4.below
      clear hR4 hk4 HR3 HG3
      cases hbv : beginV s with
      | none =>
        rw [hbv] at hm
        obtain rfl : b = false := hm
        have HP : Aside0 (parseV s = (z36, 130)) := ⟨by rw [HS'.out, hbv]⟩
        clear hbv
        have cz0 := blk_cell hcr 0
        have cz1 := blk_cell hcr 1
        have cz2 := blk_cell hcr 2
        have fz0 := blk_frozen hcr 0
        have fz1 := blk_frozen hcr 1
        have fz2 := blk_frozen hcr 2
        have HCR := Aside0.mk hcr
        clear hcr
        go_wp2_with fail
        exact bodyPost_ret (parse_results rfl rfl (x := .string ⟨#[]⟩) (y := .string ⟨#[]⟩) (z := .slice none 0 0) (blk_set3 HCR.out)) rfl (HNO.out _ _ HP.out HR4.out.below)
      | some j' =>
        rw [hbv] at hm
        obtain ⟨rfl, rfl⟩ := hm
        have HS2 : Aside0 (parseV s = docV s j) := ⟨by rw [HS'.out, hbv]⟩
        clear hbv HS' hcr
        go_wp2_with fail
        refine (space_calls HR4.out).mono ?_
        rintro e w5 ⟨rfl, h5, hk5⟩
        obtain ⟨j1, hj1⟩ : ∃ j1, j1 = skip whiteV s j := ⟨_, rfl⟩
        rw [← hj1] at h5
        have HS3 : Aside0 (parseV s = match elemV s 16 j1 with | some (n, m) => if skip whiteV s m = s.size then (n, 0) else (z36, 130) | none => (z36, 130)) := ⟨by rw [HS2.out, docV, hj1]⟩
        have HG5 : Aside0 (GOK w5) := ⟨HG4.out.keep hk5 (by omega) (by simp)⟩
        have hE := element_ok s 16 (Nat.le_refl _) W1 w5 (gr + 1) j1 h5 HG5.out h00
        rw [show (16 - ((16 : Nat) : Int) + 1) = 1 from rfl] at hE
        have HEl := Aside0.mk hE
        have hw5 : W1.heap.size ≤ w5.heap.size := h5.below.size
        have hgr5 : gr + 1 < w5.heap.size := h5.lt
        clear hj1 hk5 hE h5 HS2 HG4 HR4
        go_wp2_with fail
        refine HEl.out.mono ?_
        rintro e w6 ⟨n, A, c, b, m, rfl, hle, hF6, hW6, hR6, hk6, hm6⟩
        obtain ⟨gk, hgk⟩ : ∃ gk, gk = w6.heap.size := ⟨_, rfl⟩
        obtain ⟨w7, hw7⟩ : ∃ w7, w7 = w6.alloc (.cells #[.string n.f0, .string n.f1, .slice A n.f2.length c] 36) := ⟨_, rfl⟩
        have hb67 : Below w6.heap.size w6 w7 := by
          rw [hw7]
          exact below_alloc (Below.refl _ _) _
        have hbk : w7.heap[gk]? = some (.cells #[.string n.f0, .string n.f1, .slice A n.f2.length c] 36 (0, 0)) := by
          rw [hw7, hgk]
          exact heap_alloc_new w6 _
        have hgkr : gk ≠ gr + 1 := by have := hk6.1; omega
        have HR7 := Aside0.mk (hR6.stays hb67)
        have HF7 := Aside0.mk (Kd.F_below hF6 hb67)
        have HW7' := Aside0.mk (hW6.keep (KeepBut.of_below hb67 (gr + 1) none) hgr5)
        have HBK := Aside0.mk hbk
        have HM6 := Aside0.mk hm6
        have HGK := Aside0.mk hgk
        have HW7 := Aside0.mk hw7
        have HLE := Aside0.mk hle
        clear hle hF6 hW6 hR6 hk6 hm6 hgk hw7 hb67 hbk HEl
        go_wp2_with fail
        rw [← HGK.out, ← HW7.out]
        refine (space_calls HR7.out).mono ?_
        rintro e w8 ⟨rfl, hR8, hk8⟩
        have hbk8 : w8.heap[gk]? = some (.cells #[.string n.f0, .string n.f1, .slice A n.f2.length c] 36 (0, 0)) := hk8.blk HBK.out hgkr (by simp)
        have hcr : w8.heap[gr]? = some (.cells #[.string ⟨#[]⟩, .string ⟨#[]⟩, .slice none 0 0] 36 (0, 0)) := blk_below HC1.out hR8.below
        have cz0 := blk_cell hcr 0
        have cz1 := blk_cell hcr 1
        have cz2 := blk_cell hcr 2
        have fz0 := blk_frozen hcr 0
        have fz1 := blk_frozen hcr 1
        have fz2 := blk_frozen hcr 2
        have ck0 := blk_cell hbk8 0
        have ck1 := blk_cell hbk8 1
        have ck2 := blk_cell hbk8 2
        have cat := hR8.cell1
        have HCR := Aside0.mk hcr
        have HR8 := Aside0.mk hR8
        have HF8 := Aside0.mk (Kd.F_keep HF7.out hk8 (fun k hk he => by have : w5.heap.size ≤ k := hk; omega))
        have HW8 := Aside0.mk (HW7'.out.keep hk8 hgr5)
        obtain ⟨m2, hm2⟩ : ∃ m2, m2 = skip whiteV s m := ⟨_, rfl⟩
        have HM2 := Aside0.mk hm2
        rw [← hm2] at cat
        clear hcr hR8 hk8 HF7 HW7' HR7 HW7 hbk8 hm2
        have h6 := HM6.out
        cases hev : elemV s 16 j1 with
        | none =>
          rw [hev] at h6
          obtain rfl : b = false := h6
          have HP : Aside0 (parseV s = (z36, 130)) := ⟨by rw [HS3.out, hev]⟩
          clear hev HM6 HS3
          go_wp2_with fail
          exact bodyPost_ret (parse_results rfl rfl (x := .string ⟨#[]⟩) (y := .string ⟨#[]⟩) (z := .slice none 0 0) (blk_set3 HCR.out)) rfl (HNO.out _ _ HP.out HR8.out.below)
        | some r =>
          obtain ⟨n0, m0⟩ := r
          rw [hev] at h6
          obtain ⟨rfl, h61, h62⟩ := h6
          have HS4 : Aside0 (parseV s = if m2 = s.size then (n, 0) else (z36, 130)) := ⟨by rw [HS3.out, hev, HM2.out, h61, h62]⟩
          clear hev HM6 HS3 h61 h62 HM2
          by_cases hend : m2 = s.size
          · have HP : Aside0 (parseV s = (n, 0)) := ⟨by rw [HS4.out, if_pos hend]⟩
            subst hend
            clear HS4
            go_wp2_with fail
            refine bodyPost_ret (parse_results rfl rfl (x := .string n.f0) (y := .string n.f1) (z := .slice A n.f2.length c) (blk_set3 HCR.out)) rfl ?_
            have hgr0 : w.heap.size ≤ gr := by rw [HGR.out]; exact Nat.le_refl _
            have hgrw : gr < w5.heap.size := by omega
            refine ⟨_, by rw [HP.out]; rfl, ?_, (((below_then HB1.out HB1.out.size HR8.out.below).setCell (p := ⟨gr, 0, none⟩) hgr0 _).setCell (p := ⟨gr, 1, none⟩) hgr0 _).setCell (p := ⟨gr, 2, none⟩) hgr0 _⟩
            rw [HP.out]
            have hs1 := HS1.out
            exact ⟨A, c, rfl, HLE.out, Kd.F_mono (Kd.F_put (Kd.F_put (Kd.F_put HF8.out hgrw 0 _) hgrw 1 _) hgrw 2 _) (fun k hk => by omega), (((HW8.out.far (p := ⟨gr, 0, none⟩) hgrw _).far (p := ⟨gr, 1, none⟩) hgrw _).far (p := ⟨gr, 2, none⟩) hgrw _).lower (by omega)⟩
          · have HP : Aside0 (parseV s = (z36, 130)) := ⟨by rw [HS4.out, if_neg hend]⟩
            have hne : ((m2 : Int) != (s.size : Int)) = true := by simp; omega
            have hne2 : ((m2 : Int) == (s.size : Int)) = false := by simp; omega
            clear HS4 hend
            go_wp2_with fail
            exact bodyPost_ret (parse_results rfl rfl (x := .string ⟨#[]⟩) (y := .string ⟨#[]⟩) (z := .slice none 0 0) (blk_set3 HCR.out)) rfl (HNO.out _ _ HP.out HR8.out.below)
end Go.Proofs.YtkhjpobhdpcglaaDoor.X
end
section
namespace Go.Proofs.YtkhjpobhdpcglaaDoor.X
open Go.RowKit
def KeepT (w w' : World) : Prop := w.heap.size ≤ w'.heap.size ∧ ∀ (k : Nat) (cells : Array Value) (t : TypeId), t ≠ 99 → t ≠ 5 → w.heap[k]? = some (.cells cells t (0, 0)) → w'.heap[k]? = some (.cells cells t (0, 0))
theorem KeepT.refl (w : World) : KeepT w w := ⟨Nat.le_refl _, fun _ _ _ _ _ h => h⟩
theorem KeepT.trans {w w1 w2 : World} (h : KeepT w w1) (k : KeepT w1 w2) : KeepT w w2 := ⟨Nat.le_trans h.1 k.1, fun i c t h1 h2 h3 => k.2 i c t h1 h2 (h.2 i c t h1 h2 h3)⟩
theorem KeepT.below {w w1 : World} (h : Below w.heap.size w w1) : KeepT w w1 := ⟨h.size, fun i c t _ _ h3 => (h.block i (Array.getElem?_eq_some_iff.1 h3).1).trans h3⟩
theorem KeepT.set {w : World} {b : Nat} {cs : Array Value} (h : w.heap[b]? = some (.cells cs 99 (0, 0))) (o : Nat) (u : Value) : KeepT w (w.setCell ⟨b, o, none⟩ u) :=
  ⟨by rw [World.size_setCell]; exact Nat.le_refl _, fun i c t h1 _ h3 => (Below.heap_setCell w ⟨b, o, none⟩ u i (fun he => by
    have he' : i = b := he
    subst he'
    rw [h] at h3
    injection h3 with h3
    injection h3 with _ h3
    exact h1 h3.symm)).trans h3⟩
theorem KeepT.grown {w w1 : World} {B n : Nat} {v : Value} {xs : List Value} (h : w.grownBy w1 v.ownBlock) (ho : w.ownsRow B 5 1 v n xs) : KeepT w w1 :=
  ⟨h.size, fun i c t _ h2 h3 => (h.block i (Array.getElem?_eq_some_iff.1 h3).1 (fun he => by
    rcases ho.2 with ⟨hv, _⟩ | ⟨g, cap, cur, hv, _, hh, _⟩
    · rw [hv] at he; simp [Value.ownBlock] at he
    · rw [hv] at he
      simp [Value.ownBlock] at he
      subst he
      rw [hh] at h3
      injection h3 with h3
      injection h3 with _ h3
      exact h2 h3.symm)).trans h3⟩
theorem copyCheck_T (B b : Nat) (bs : List Value) (w : World) (h : Lib.IsBuilder 99 5 B b bs w) :
    Calls Tryd.prog 105 #[.pointer (some ⟨b, 0, none⟩)] w fun e w' => e = .returned (.tuple #[]) ∧ (Lib.BuilderAt 99 5 B b (.pointer (some ⟨b, 0, none⟩)) bs w' ∧ Below B w w' ∧ KeepT w w') := by
  rcases h with h | h
  · refine (copyCheck_fresh b w h.cell0 h.shape h.frozen0).mono ?_
    rintro e w' ⟨rfl, rfl⟩
    obtain ⟨hB_, v_, hbk_, _⟩ := id h
    exact ⟨rfl, h.used _, (Below.refl B w).setCell (p := ⟨b, 0, none⟩) h.1 _, KeepT.set hbk_ 0 _⟩
  · refine (copyCheck_used b w h.cell0).mono ?_
    rintro e w' ⟨rfl, rfl⟩
    exact ⟨rfl, h, Below.refl B _, KeepT.refl _⟩
set_option maxHeartbeats 2000000 in
set_option maxRecDepth 100000 in
theorem Builder_WriteString_T (B b : Nat) (l : List UInt8) (s : ByteArray) (w : World) (h : Bld B b l w) (hlen : l.length + s.size ≤ 140737488355328) (hBw : B ≤ w.heap.size) :
    Calls Tryd.prog 56 #[.pointer (some ⟨b, 0, none⟩), .string s] w fun e w' => e = .returned (.tuple #[.int .i64 s.size, .nilIface]) ∧ Bld B b (l ++ s.data.toList) w' ∧ Below B w w' ∧ KeepT w w' := by
  obtain ⟨i0, hi, hz0, hz1, hz2⟩ := info_parts infoU8
  have hl0 := Lib.byteCells_length l
  have HL := Lib.hid hl0
  clear hl0
  go_enter Tryd.func56, Tryd.ntmps56
  go_wp2_with (go_at_call 105; refine (copyCheck_T B b (Lib.byteCells l) _ h).mono ?_)
  rintro e w1 ⟨rfl, h1, hb1, hkt1⟩
  have HKT := Lib.hid hkt1
  clear hkt1
  obtain ⟨hB, v, hbk, hown, hne⟩ := h1
  have c0 : w1.cell? ⟨b, 0, none⟩ = some (.pointer (some ⟨b, 0, none⟩)) := by rw [Lib.cell_of_heap hbk]; rfl
  have c1 : w1.cell? ⟨b, 1, none⟩ = some v := by rw [Lib.cell_of_heap hbk]; rfl
  go_wp2_with (at_builtin; refine Lib.wpList_append_own_string _ rfl _ _ 22 9 rfl B 5 i0 Tryd.underlying22 Tryd.underlying9 hi hz0 hz1 hz2 _ _ _ rfl hown s rfl ?c3 ?c4 ?c5 ?_)
  case c3 => rw [HL.out]; unfold maxLen; omega
  case c4 => rw [HL.out]; omega
  case c5 => have := hb1.size; omega
  intro v' w2 hown' hgrow _
  have hlt : b < w1.heap.size := by
    rcases Nat.lt_or_ge b w1.heap.size with h' | h'
    · exact h'
    · simp [Array.getElem?_eq_none h'] at hbk
  have hb2 : w2.heap[b]? = some (.cells #[.pointer (some ⟨b, 0, none⟩), v] 99 (0, 0)) := by
    rw [hgrow.block b hlt (fun e => hne e.symm)]
    exact hbk
  have d0 : w2.cell? ⟨b, 0, none⟩ = some (.pointer (some ⟨b, 0, none⟩)) := by rw [Lib.cell_of_heap hb2]; rfl
  have d1 : w2.cell? ⟨b, 1, none⟩ = some v := by rw [Lib.cell_of_heap hb2]; rfl
  have f1 : w2.frozen? ⟨b, 1, none⟩ = false := Lib.frozen_of_heap hb2 1
  obtain ⟨ao, n', cap, rfl⟩ : ∃ ao n' cap, v' = .slice ao n' cap := by
    rcases hown'.2 with ⟨hv, _⟩ | ⟨g, cap, cur, hv, _⟩
    · exact ⟨_, _, _, hv⟩
    · exact ⟨_, _, _, hv⟩
  go_wp2
  go_ret2
  refine ⟨rfl, Or.inr ?_, ?_, ?_⟩
  · rw [byteCells_app, ← strCells_eq]
    exact Lib.BuilderAt.put (T := 99) (e := 5) hB hb2 (bs' := Lib.byteCells l ++ Lib.strCells s) (by simpa [Lib.strCells_length] using hown') (by decide)
  · exact (hb1.grown hgrow (by have := hb1.size; omega) (fun k hk => (hown.lt k hk).1)).setCell (p := ⟨b, 1, none⟩) hB _
  · exact HKT.out.trans ((KeepT.grown hgrow hown).trans (KeepT.set hb2 1 _))
end Go.Proofs.YtkhjpobhdpcglaaDoor.X
end
section
namespace Go.Proofs.YtkhjpobhdpcglaaDoor.X
open Go.RowKit Go.Proofs.YtkhjpobhdpcglaaDoorW.PrintWords Go.Proofs.YtkhjpobhdpcglaaDoorW.PrintLast Go.Proofs.YtkhjpobhdpcglaaDoorW.PrintMore
def escU (c : UInt8) : List UInt8 :=
  if c == 38 then [38, 97, 109, 112, 59] else if c == 60 then [38, 108, 116, 59] else if c == 62 then [38, 103, 116, 59] else if c == 34 then [38, 113, 117, 111, 116, 59] else if c == 13 then [38, 35, 49, 51, 59] else [c]
def escL (l : List UInt8) : List UInt8 := l.flatMap escU
theorem escU_len (c : UInt8) : (escU c).length ≤ 6 := by
  unfold escU
  repeat' split
  all_goals simp
theorem escL_snoc (l : List UInt8) (c : UInt8) : escL (l ++ [c]) = escL l ++ escU c := by simp [escL]
theorem escL_len (l : List UInt8) : (escL l).length ≤ 6 * l.length := by
  induction l with
  | nil => simp [escL]
  | cons b l ih => have := escU_len b; simp only [escL, List.flatMap_cons, List.length_append, List.length_cons] at ih ⊢; omega
theorem take_snoc (s : ByteArray) (k : Nat) (h : k < s.size) : s.data.toList.take (k + 1) = s.data.toList.take k ++ [s[k]] := by
  rw [List.take_succ_eq_append_getElem (by simpa using h)]; rfl
theorem esc_step (s : ByteArray) (i : Nat) (h : i < s.size) {l' : List UInt8} (hl : escU s[i] = l') : escL (s.data.toList.take i) ++ l' = escL (s.data.toList.take (i + 1)) := by
  rw [take_snoc s i h, escL_snoc, hl]
theorem u8_yes {c : UInt8} {n : Nat} (hn : n < 256) (h : ((c.toNat : Int) == (n : Int)) = true) : c = n.toUInt8 := by
  have h1 : c.toNat = n := by have := eq_of_beq h; omega
  rw [← h1]; simp [Nat.toUInt8]
theorem u8_no {c : UInt8} {n : Nat} (hn : n < 256) (h : ((c.toNat : Int) == (n : Int)) = false) : (c == n.toUInt8) = false := by
  rw [beq_eq_false_iff_ne] at h ⊢
  rintro rfl
  exact h (by simp [Nat.toUInt8]; omega)
theorem escU_other {c : UInt8} (h1 : (c == (38 : Nat).toUInt8) = false) (h2 : (c == (60 : Nat).toUInt8) = false) (h3 : (c == (62 : Nat).toUInt8) = false) (h4 : (c == (34 : Nat).toUInt8) = false) (h5 : (c == (13 : Nat).toUInt8) = false) : escU c = [c] := by
  unfold escU
  rw [if_neg (by rw [show (38 : UInt8) = (38 : Nat).toUInt8 from rfl, h1]; decide), if_neg (by rw [show (60 : UInt8) = (60 : Nat).toUInt8 from rfl, h2]; decide), if_neg (by rw [show (62 : UInt8) = (62 : Nat).toUInt8 from rfl, h3]; decide), if_neg (by rw [show (34 : UInt8) = (34 : Nat).toUInt8 from rfl, h4]; decide), if_neg (by rw [show (13 : UInt8) = (13 : Nat).toUInt8 from rfl, h5]; decide)]
theorem Bld.cast {B b : Nat} {l m : List UInt8} {w : World} (h : l = m) (hb : Bld B b l w) : Bld B b m w := h ▸ hb
theorem wlen {l : List UInt8} {s : ByteArray} (h1 : l.length ≤ 6597069766656) (h2 : s.size ≤ 6) : l.length + s.size ≤ 140737488355328 := by omega
def q18_.f (a0 : ByteArray) : Option ByteArray := if a0.size ≤ 1099511627776 then some ⟨(escL a0.data.toList).toArray⟩ else none
set_option maxHeartbeats 4000000 in
set_option maxRecDepth 1000000 in
theorem q18_.calls (a0 : ByteArray) (r : ByteArray) (w : World) (h : q18_.f a0 = some r) :
    Calls Tryd.prog 25 #[.string a0] w fun e w' => e = .returned (.string r) ∧ Below w.heap.size w w' := by
  unfold q18_.f at h
  split at h
  case isFalse => cases h
  rename_i hs
  have hv := Option.some.inj h
  have H := Aside0.mk hv
  clear h hv
  go_enter Tryd.func25, Tryd.ntmps25
  go_wp2
  go_loopw [7] (fun v wr => ∃ (i : Nat), v = .int .i64 i ∧ i ≤ a0.size ∧ Aside0 (Bld w.heap.size w.heap.size (escL (a0.data.toList.take i)) wr) ∧ Below w.heap.size w wr) (fun v _ => a0.size - (intOf v).toNat)
  case atStart => exact ⟨0, rfl, by omega, ⟨by simpa [escL] using Bld.fresh w⟩, below_alloc (Below.refl _ _) _⟩
  case round =>
    obtain ⟨i, rfl, hi, HB, hbel⟩ := hrel
    have hsz := hbel.size
    have HN : Aside0 ((escL (a0.data.toList.take i)).length ≤ 6597069766656) := ⟨by
      have h1 := escL_len (a0.data.toList.take i)
      have h2 : (a0.data.toList.take i).length ≤ i := List.length_take_le _ _
      omega⟩
    by_cases hlt : i < a0.size
    · go_wp2_with (first | (go_at_call 56; (with_reducible refine (Builder_WriteString w.heap.size w.heap.size (escL (a0.data.toList.take i)) _ _ (by exact HB.out) (wlen HN.out (by decide)) (by exact hsz)).mono ?_); rintro e w2 ⟨rfl, hB2, hb2⟩) | (go_at_call 65; (with_reducible refine (Builder_WriteByte w.heap.size w.heap.size (escL (a0.data.toList.take i)) _ _ (by exact HB.out) (by have := a0[i].toNat_lt; omega) (by have := HN.out; omega) (by exact hsz)).mono ?_); rintro e w2 ⟨rfl, hB2, hb2⟩))
      all_goals
        go_roundw
        case rel =>
          refine ⟨i + 1, by go_num, by omega, ⟨?_⟩, hbel.trans hb2⟩
          first
          | (have hc : a0[i] = 38 := u8_yes (n := 38) (by decide) (by assumption)
             exact Bld.cast (esc_step a0 i hlt (l' := [38, 97, 109, 112, 59]) (by rw [hc]; rfl)) hB2)
          | (have hc : a0[i] = 60 := u8_yes (n := 60) (by decide) (by assumption)
             exact Bld.cast (esc_step a0 i hlt (l' := [38, 108, 116, 59]) (by rw [hc]; rfl)) hB2)
          | (have hc : a0[i] = 62 := u8_yes (n := 62) (by decide) (by assumption)
             exact Bld.cast (esc_step a0 i hlt (l' := [38, 103, 116, 59]) (by rw [hc]; rfl)) hB2)
          | (have hc : a0[i] = 34 := u8_yes (n := 34) (by decide) (by assumption)
             exact Bld.cast (esc_step a0 i hlt (l' := [38, 113, 117, 111, 116, 59]) (by rw [hc]; rfl)) hB2)
          | (have hc : a0[i] = 13 := u8_yes (n := 13) (by decide) (by assumption)
             exact Bld.cast (esc_step a0 i hlt (l' := [38, 35, 49, 51, 59]) (by rw [hc]; rfl)) hB2)
          | (have h1 := u8_no (c := a0[i]) (n := 38) (by decide) (by assumption)
             have h2 := u8_no (c := a0[i]) (n := 60) (by decide) (by assumption)
             have h3 := u8_no (c := a0[i]) (n := 62) (by decide) (by assumption)
             have h4 := u8_no (c := a0[i]) (n := 34) (by decide) (by assumption)
             have h5 := u8_no (c := a0[i]) (n := 13) (by decide) (by assumption)
             have hself : ((a0[i].toNat : Int)).toNat.toUInt8 = a0[i] := by simp [Nat.toUInt8]
             exact Bld.cast (esc_step a0 i hlt (l' := [((a0[i].toNat : Int)).toNat.toUInt8]) (by rw [hself]; exact escU_other h1 h2 h3 h4 h5)) hB2)
        case measure => simp [intOf]; omega
    · have H2 := H.out
      have HT : Aside0 (a0.data.toList.take i = a0.data.toList) := ⟨List.take_of_length_le (by simp; omega)⟩
      rw [HT.out] at HB
      go_wp2_with (go_at_call 57; (with_reducible refine (Builder_String w.heap.size w.heap.size (escL a0.data.toList) _ (by exact HB.out) (by exact hsz)).mono ?_); rintro e w2 ⟨rfl, hb2⟩)
      go_ret
      exact ⟨by rw [← H.out]; rfl, hbel.trans hb2⟩
def catO (f : S36 → Option (List UInt8)) : List S36 → Option (List UInt8)
  | [] => some []
  | m :: r => (f m).bind fun a => (catO f r).map fun b => a ++ b
def printV : Nat → S36 → List UInt8 → Option (List UInt8)
  | 0, _, _ => none
  | k + 1, n, more => (catO (fun m => printV k m []) n.f2).map fun m => ([60] ++ n.f0.data.toList ++ more ++ [62] ++ escL n.f1.data.toList) ++ m ++ ([60, 47] ++ n.f0.data.toList ++ [62])
theorem below_weak2 {B : Nat} {w w1 w2 : World} (h : Below w.heap.size w w1) (hB : B ≤ w.heap.size) (k : Below B w1 w2) : Below B w w2 := (h.mono hB).trans k
theorem Bld.below2 {B b : Nat} {l : List UInt8} {w w' : World} (h : Bld B b l w) (hb : Below w.heap.size w w') : Bld B b l w' := h.below hb
theorem head_list (a m e : ByteArray) (l : List UInt8) : l ++ (((((⟨#[60]⟩ : ByteArray) ++ a) ++ m) ++ ⟨#[62]⟩) ++ e).data.toList = l ++ ([60] ++ a.data.toList ++ m.data.toList ++ [62] ++ e.data.toList) := by simp
theorem head_size (a m e : ByteArray) : (((((⟨#[60]⟩ : ByteArray) ++ a) ++ m) ++ ⟨#[62]⟩) ++ e).size = 1 + a.size + m.size + 1 + e.size := by
  simp only [ByteArray.size_append]
  rfl
theorem tail_size (a : ByteArray) : ((⟨#[60, 47]⟩ : ByteArray) ++ a ++ ⟨#[62]⟩).size = 2 + a.size + 1 := by
  simp only [ByteArray.size_append]
  rfl
theorem tail_list (a : ByteArray) (l : List UInt8) : l ++ ((⟨#[60, 47]⟩ : ByteArray) ++ a ++ ⟨#[62]⟩).data.toList = l ++ ([60, 47] ++ a.data.toList ++ [62]) := by simp
def PrFr (b gb : Nat) (a' : Act) : Prop := ∃ u : Nat → Value, a' = { tmps := #[.pointer (some ⟨b, 0, none⟩), u 1, u 2, u 3, .pointer (some ⟨gb, 0, none⟩), u 5, u 6, u 7, u 8, u 9, u 10, u 11, u 12, u 13, u 14, u 15, u 16, u 17, u 18, u 19, u 20, u 21, u 22, u 23, u 24, u 25, u 26, u 27, u 28, u 29, u 30, u 31, u 32, u 33, u 34, u 35, u 36], defers := [] }
theorem PrFr.mk {b gb : Nat} {u1 u2 u3 u5 u6 u7 u8 u9 u10 u11 u12 u13 u14 u15 u16 u17 u18 u19 u20 u21 u22 u23 u24 u25 u26 u27 u28 u29 u30 u31 u32 u33 u34 u35 u36 : Value} : PrFr b gb { tmps := #[.pointer (some ⟨b, 0, none⟩), u1, u2, u3, .pointer (some ⟨gb, 0, none⟩), u5, u6, u7, u8, u9, u10, u11, u12, u13, u14, u15, u16, u17, u18, u19, u20, u21, u22, u23, u24, u25, u26, u27, u28, u29, u30, u31, u32, u33, u34, u35, u36], defers := [] } := ⟨fun k => ([undef, u1, u2, u3, undef, u5, u6, u7, u8, u9, u10, u11, u12, u13, u14, u15, u16, u17, u18, u19, u20, u21, u22, u23, u24, u25, u26, u27, u28, u29, u30, u31, u32, u33, u34, u35, u36] : List Value).getD k undef, rfl⟩
set_option maxHeartbeats 4000000 in
set_option maxRecDepth 1000000 in
theorem print_r1 {Q : Exit → Act → World → Prop} {w : World} {B b gb c : Nat} {l : List UInt8} {more : ByteArray} {A : Option Addr} {n : S36} {u1 u3 u5 u6 u7 u8 u9 u10 u11 u12 u13 u14 u15 u16 u17 u18 u19 u20 u21 u22 u23 u24 u25 u26 u27 u28 u29 u30 u31 u32 u33 u34 u35 u36 : Value} (hp : ∀ c (N : Option Tmp) v a w, Q (.panic c) (a.put N v) w → Q (.panic c) a w)
    (hbox : w.drew.heap[gb]? = some (.cells #[.string n.f0, .string n.f1, .slice A n.f2.length c] 36 (0, 0))) (hbl : Bld B b l w.drew) (hBw : B ≤ w.drew.heap.size) (hf1 : n.f1.size ≤ 1099511627776) (hlen : l.length + (1 + n.f0.size + more.size + 1 + (escL n.f1.data.toList).length) ≤ 140737488355328)
    (hQ : ∀ a' w', PrFr b gb a' → Bld B b (l ++ ([60] ++ n.f0.data.toList ++ more.data.toList ++ [62] ++ escL n.f1.data.toList)) w' → Below B w w' → KeepT w w' → Q .normal a' w') :
    (codeIn Tryd.f67 [1, 0]).wp Tryd.prog Q { tmps := #[.pointer (some ⟨b, 0, none⟩), u1, .string more, u3, .pointer (some ⟨gb, 0, none⟩), u5, u6, u7, u8, u9, u10, u11, u12, u13, u14, u15, u16, u17, u18, u19, u20, u21, u22, u23, u24, u25, u26, u27, u28, u29, u30, u31, u32, u33, u34, u35, u36], defers := [] } w := by
  have c1 : 1 + n.f0.size ≤ 9223372036854775807 := by omega
  have c2 : 1 + n.f0.size + more.size ≤ 9223372036854775807 := by omega
  have c3 : 1 + n.f0.size + more.size + 1 ≤ 9223372036854775807 := by omega
  have c4 : 1 + n.f0.size + more.size + 1 + (escL n.f1.data.toList).length ≤ 9223372036854775807 := by omega
  simp only [codeIn, Tryd.f67, Option.getD_some, codeAt]
  refine start_ (n := 12) (S := fun W => W.heap[gb]? = some (.cells #[.string n.f0, .string n.f1, .slice A n.f2.length c] 36 (0, 0))) (ds := [11]) #[false, false, false, false, false, false, false, false, false, false, false, false] (by kernel_rfl) rfl rfl hbox (fun hHeld => ?_)
  refine pure_ (i := 0) (N := (some 8)) (v := ?_) (a' := ?_) #[true, false, false, false, false, false, false, false, false, false, false, false] rfl rfl (by kernel_rfl) (fun c_ _ w_ h_ => hp c_ _ _ _ w_ h_) (Or.inl ⟨by kernel_rfl, ?_⟩) ?_ ?_
  rotate_left
  · intro w_
    go_simp
    with_reducible rfl
  rotate_left
  · simp only [Act.put, List.setIfInBounds_toArray, List.set_cons_zero, List.set_cons_succ]
    rfl
  refine pure_ (i := 1) (N := (some 9)) (v := ?_) (a' := ?_) #[true, true, false, false, false, false, false, false, false, false, false, false] rfl rfl (by kernel_rfl) (fun c_ _ w_ h_ => hp c_ _ _ _ w_ h_) (Or.inl ⟨by kernel_rfl, ?_⟩) ?_ ?_
  rotate_left
  · intro w_
    go_simp
    with_reducible rfl
  rotate_left
  · simp only [Act.put, List.setIfInBounds_toArray, List.set_cons_zero, List.set_cons_succ]
    rfl
  refine take_ (i := 2) (N := some 10) (v := ?_) (a' := ?_) #[true, true, true, false, false, false, false, false, false, false, false, false] rfl rfl (by kernel_rfl) (fun c_ _ w_ h_ => hp c_ _ _ _ w_ h_) (Or.inl ⟨by kernel_rfl, ?_⟩) hHeld ?_ ?_
  rotate_left
  · rintro w_ sA
    have s0 := blk_cell sA 0
    go_simp
    with_reducible rfl
  rotate_left
  · simp only [Act.put, List.setIfInBounds_toArray, List.set_cons_zero, List.set_cons_succ]
    rfl
  refine pure_ (i := 3) (N := some 11) (v := .string ((⟨#[60]⟩ : ByteArray) ++ n.f0)) (a' := ?_) #[true, true, true, true, false, false, false, false, false, false, false, false] rfl rfl (by kernel_rfl) (fun c_ _ w_ h_ => hp c_ _ _ _ w_ h_) (Or.inl ⟨by kernel_rfl, ?_⟩) ?_ ?_
  · intro w_
    go_simp
    first | done | rw [if_neg (by omega)]
  rotate_left
  · simp only [Act.put, List.setIfInBounds_toArray, List.set_cons_zero, List.set_cons_succ]
    rfl
  refine pure_ (i := 4) (N := (some 12)) (v := ?_) (a' := ?_) #[true, true, true, true, true, false, false, false, false, false, false, false] rfl rfl (by kernel_rfl) (fun c_ _ w_ h_ => hp c_ _ _ _ w_ h_) (Or.inl ⟨by kernel_rfl, ?_⟩) ?_ ?_
  rotate_left
  · intro w_
    go_simp
    with_reducible rfl
  rotate_left
  · simp only [Act.put, List.setIfInBounds_toArray, List.set_cons_zero, List.set_cons_succ]
    rfl
  refine pure_ (i := 5) (N := some 13) (v := .string (((⟨#[60]⟩ : ByteArray) ++ n.f0) ++ more)) (a' := ?_) #[true, true, true, true, true, true, false, false, false, false, false, false] rfl rfl (by kernel_rfl) (fun c_ _ w_ h_ => hp c_ _ _ _ w_ h_) (Or.inl ⟨by kernel_rfl, ?_⟩) ?_ ?_
  · intro w_
    go_simp
    first | done | rw [if_neg (by omega)]
  rotate_left
  · simp only [Act.put, List.setIfInBounds_toArray, List.set_cons_zero, List.set_cons_succ]
    rfl
  refine pure_ (i := 6) (N := some 14) (v := .string ((((⟨#[60]⟩ : ByteArray) ++ n.f0) ++ more) ++ ⟨#[62]⟩)) (a' := ?_) #[true, true, true, true, true, true, true, false, false, false, false, false] rfl rfl (by kernel_rfl) (fun c_ _ w_ h_ => hp c_ _ _ _ w_ h_) (Or.inl ⟨by kernel_rfl, ?_⟩) ?_ ?_
  · intro w_
    go_simp
    first | done | rw [if_neg (by omega)]
  rotate_left
  · simp only [Act.put, List.setIfInBounds_toArray, List.set_cons_zero, List.set_cons_succ]
    rfl
  refine pure_ (i := 7) (N := (some 15)) (v := ?_) (a' := ?_) #[true, true, true, true, true, true, true, true, false, false, false, false] rfl rfl (by kernel_rfl) (fun c_ _ w_ h_ => hp c_ _ _ _ w_ h_) (Or.inl ⟨by kernel_rfl, ?_⟩) ?_ ?_
  rotate_left
  · intro w_
    go_simp
    with_reducible rfl
  rotate_left
  · simp only [Act.put, List.setIfInBounds_toArray, List.set_cons_zero, List.set_cons_succ]
    rfl
  refine take_ (i := 8) (N := some 16) (v := ?_) (a' := ?_) #[true, true, true, true, true, true, true, true, true, false, false, false] rfl rfl (by kernel_rfl) (fun c_ _ w_ h_ => hp c_ _ _ _ w_ h_) (Or.inl ⟨by kernel_rfl, ?_⟩) hHeld ?_ ?_
  rotate_left
  · rintro w_ sA
    have s0 := blk_cell sA 1
    go_simp
    with_reducible rfl
  rotate_left
  · simp only [Act.put, List.setIfInBounds_toArray, List.set_cons_zero, List.set_cons_succ]
    rfl
  refine one_ (i := 9) (N := some 17) #[true, true, true, true, true, true, true, true, true, true, false, false] rfl rfl (by kernel_rfl) (by decide) (fun K hK => ?_)
  refine goes_ Tryd.func25 (by kernel_rfl) rfl #[.string n.f1] (by kernel_rfl) rfl rfl (by kernel_rfl) ?_
  refine (q18_.calls n.f1 _ _ (by rw [q18_.f, if_pos hf1])).mono ?_
  rintro e w2 ⟨rfl, hb2⟩
  refine ⟨_, rfl, ?_⟩
  refine hK.out _ _ (blk_below hHeld hb2) (fun hHeld2 => ?_)
  clear hK K
  refine norm_ (a' := ?_) ?_ ?_
  rotate_left
  · show Act.put _ (some 17) _ = _
    simp only [Act.put, List.setIfInBounds_toArray, List.set_cons_zero, List.set_cons_succ]
    rfl
  refine pure_ (i := 10) (N := some 18) (v := .string (((((⟨#[60]⟩ : ByteArray) ++ n.f0) ++ more) ++ ⟨#[62]⟩) ++ ⟨(escL n.f1.data.toList).toArray⟩)) (a' := ?_) #[true, true, true, true, true, true, true, true, true, true, true, false] rfl rfl (by kernel_rfl) (fun c_ _ w_ h_ => hp c_ _ _ _ w_ h_) (Or.inl ⟨by kernel_rfl, ?_⟩) ?_ ?_
  · intro w_
    go_simp
    first | done | rw [if_neg (by omega)]
  rotate_left
  · simp only [Act.put, List.setIfInBounds_toArray, List.set_cons_zero, List.set_cons_succ]
    rfl
  refine last_ (i := 11) (N := some 19) #[true, true, true, true, true, true, true, true, true, true, true, true] rfl rfl (by kernel_rfl) (by decide) (fun K hK => ?_)
  refine goes_ Tryd.func56 (by kernel_rfl) rfl #[.pointer (some ⟨b, 0, none⟩), .string (((((⟨#[60]⟩ : ByteArray) ++ n.f0) ++ more) ++ ⟨#[62]⟩) ++ ⟨(escL n.f1.data.toList).toArray⟩)] (by kernel_rfl) rfl rfl (by kernel_rfl) ?_
  refine (Builder_WriteString_T B b l _ w2 (hbl.below2 hb2) ?_ (Nat.le_trans hBw hb2.size)).mono ?_
  · rw [head_size]; have he_ : (⟨(escL n.f1.data.toList).toArray⟩ : ByteArray).size = (escL n.f1.data.toList).length := by simp [ByteArray.size]
    rw [he_]; exact hlen
  rintro e w3 ⟨rfl, hbl3, hb3, hkt3⟩
  refine ⟨_, rfl, ?_⟩
  refine hK.out _ _ ?_
  clear hK K
  refine norm_ (a' := ?_) ?_ ?_
  rotate_left
  · show Act.put _ (some 19) _ = _
    simp only [Act.put, List.setIfInBounds_toArray, List.set_cons_zero, List.set_cons_succ]
    rfl
  refine done_ (by kernel_rfl) ?_
  rw [head_list] at hbl3
  have hb4 := below_weak2 (w := w.drew) hb2 hBw hb3
  exact hQ _ _ PrFr.mk hbl3 ⟨hb4.os, hb4.tape, hb4.output, hb4.size, hb4.block⟩ ((KeepT.below hb2).trans hkt3)
def PrLp (b gb c j : Nat) (A : Option Addr) (n : S36) (a' : Act) : Prop := ∃ u : Nat → Value, a' = { tmps := #[.pointer (some ⟨b, 0, none⟩), u 1, u 2, u 3, .pointer (some ⟨gb, 0, none⟩), u 5, u 6, u 7, u 8, u 9, u 10, u 11, u 12, u 13, u 14, u 15, u 16, u 17, u 18, u 19, u 20, .slice A n.f2.length c, .int .i64 n.f2.length, .int .i64 (j : Nat), u 24, u 25, u 26, u 27, u 28, u 29, u 30, u 31, u 32, u 33, u 34, u 35, u 36], defers := [] }
theorem PrLp.mk {b gb c j : Nat} {A : Option Addr} {n : S36} {x : Int} {u1 u2 u3 u5 u6 u7 u8 u9 u10 u11 u12 u13 u14 u15 u16 u17 u18 u19 u20 u24 u25 u26 u27 u28 u29 u30 u31 u32 u33 u34 u35 u36 : Value} (hx : x = (j : Int)) : PrLp b gb c j A n { tmps := #[.pointer (some ⟨b, 0, none⟩), u1, u2, u3, .pointer (some ⟨gb, 0, none⟩), u5, u6, u7, u8, u9, u10, u11, u12, u13, u14, u15, u16, u17, u18, u19, u20, .slice A n.f2.length c, .int .i64 n.f2.length, .int .i64 x, u24, u25, u26, u27, u28, u29, u30, u31, u32, u33, u34, u35, u36], defers := [] } := ⟨fun k => ([undef, u1, u2, u3, undef, u5, u6, u7, u8, u9, u10, u11, u12, u13, u14, u15, u16, u17, u18, u19, u20, undef, undef, undef, u24, u25, u26, u27, u28, u29, u30, u31, u32, u33, u34, u35, u36] : List Value).getD k undef, by subst hx; rfl⟩
theorem escL_ge (l : List UInt8) : l.length ≤ (escL l).length := by
  induction l with
  | nil => exact Nat.le_refl _
  | cons x l ih =>
    have h1 : escL (x :: l) = escU x ++ escL l := by simp [escL]
    have h2 : 1 ≤ (escU x).length := by
      unfold escU
      repeat' split
      all_goals simp
    rw [h1, List.length_append, List.length_cons]
    omega
theorem catO_len {f : S36 → Option (List UInt8)} (hf : ∀ m a, f m = some a → 1 ≤ a.length) : ∀ {l : List S36} {r : List UInt8}, catO f l = some r → l.length ≤ r.length
  | [], r, h => Nat.zero_le _
  | m :: l, r, h => by
    simp only [catO] at h
    obtain ⟨a, ha, h2⟩ := Option.bind_eq_some_iff.1 h
    obtain ⟨b, hb, rfl⟩ := Option.map_eq_some_iff.1 h2
    have h3 := hf m a ha
    have h4 := catO_len hf hb
    rw [List.length_append, List.length_cons]
    omega
theorem printV_len : ∀ {k : Nat} {n : S36} {more r : List UInt8}, printV k n more = some r → 1 ≤ r.length
  | 0, n, more, r, h => by cases h
  | k + 1, n, more, r, h => by
    unfold printV at h
    obtain ⟨m, hm, rfl⟩ := Option.map_eq_some_iff.1 h
    simp only [List.length_append, List.length_cons, List.length_nil]
    omega
theorem catO_split {f : S36 → Option (List UInt8)} : ∀ {l : List S36} {j : Nat} {r : List UInt8}, catO f (l.drop j) = some r → j < l.length → ∃ a b, f (l.getD j z36) = some a ∧ catO f (l.drop (j + 1)) = some b ∧ r = a ++ b
  | [], j, r, h, hj => by simp at hj
  | m :: l, 0, r, h, hj => by
    simp only [List.drop_zero, catO] at h
    obtain ⟨a, ha, h2⟩ := Option.bind_eq_some_iff.1 h
    obtain ⟨b, hb, rfl⟩ := Option.map_eq_some_iff.1 h2
    exact ⟨a, b, ha, hb, rfl⟩
  | m :: l, j + 1, r, h, hj => by
    have := catO_split (f := f) (l := l) (j := j) (r := r) h (by simpa using hj)
    simpa using this
set_option maxHeartbeats 4000000 in
set_option maxRecDepth 1000000 in
theorem print_calls (k : Nat) : ∀ (B b : Nat) (l : List UInt8) (n : S36) (A : Option Addr) (c : Nat) (more : ByteArray) (w0 w : World) (r : List UInt8) (hw0 : Below w0.heap.size w0 w) (hB : w0.heap.size ≤ B) (hBw : B ≤ w.heap.size) (hC : Kd.C k36 w0 A n.f2.length n.f2) (hc : n.f2.length ≤ c) (hbl : Bld B b l w) (hp : printV k n more.data.toList = some r) (hlen : l.length + r.length ≤ 1099511627776),
    Calls Tryd.prog 67 #[.pointer (some ⟨b, 0, none⟩), .agg #[.string n.f0, .string n.f1, .slice A n.f2.length c], .string more] w fun e w' => e = .returned (.tuple #[]) ∧ Bld B b (l ++ r) w' ∧ Below B w w' ∧ KeepT w w' := by
  induction k with
  | zero =>
    intro B b l n A c more w0 w r hw0 hB hBw hC hc hbl hp hlen
    cases hp
  | succ k ih =>
    intro B b l n A c more w0 w r hw0 hB hBw hC hc hbl hp hlen
    unfold printV at hp
    obtain ⟨m, hm, rfl⟩ := Option.map_eq_some_iff.1 hp
    have hesc := escL_ge n.f1.data.toList
    have hsz0 : n.f0.data.toList.length = n.f0.size := by rw [Array.length_toList]; rfl
    have hsz1 : n.f1.data.toList.length = n.f1.size := by rw [Array.length_toList]; rfl
    have hsz2 : more.data.toList.length = more.size := by rw [Array.length_toList]; rfl
    simp only [List.length_append, hsz0, hsz2, List.length_cons, List.length_nil] at hlen
    rw [hsz1] at hesc
    have hln := catO_len (fun m_ a_ ha_ => printV_len ha_) hm
    have hlj : n.f2.length ≤ 1099511627776 := by omega
    have HIH := Aside0.mk ih
    have HC := Aside0.mk hC
    have HBL := Aside0.mk hbl
    have HW0 := Aside0.mk hw0
    have HM := Aside0.mk hm
    have HLEN := Aside0.mk hlen
    have HESC := Aside0.mk hesc
    have HSZ0 := Aside0.mk hsz0
    have HSZ2 := Aside0.mk hsz2
    obtain ⟨gb, hgb⟩ : ∃ gb, gb = w.heap.size := ⟨_, rfl⟩
    obtain ⟨w1, hw1⟩ : ∃ w1, w1 = w.alloc (.cells #[.string n.f0, .string n.f1, .slice A n.f2.length c] 36) := ⟨_, rfl⟩
    have hb1 : Below w.heap.size w w1 := by rw [hw1]; exact below_alloc (Below.refl _ _) _
    have hbox : w1.heap[gb]? = some (.cells #[.string n.f0, .string n.f1, .slice A n.f2.length c] 36 (0, 0)) := by rw [hw1, hgb]; exact heap_alloc_new w _
    have HBOX := Aside0.mk hbox
    have HB1 := Aside0.mk hb1
    have HW1 := Aside0.mk hw1
    have HGB := Aside0.mk hgb
    clear hsz0 hsz1 hsz2 hp hm hln ih hC hbl hw0 hlen hesc hbox hb1 hw1 hgb
    go_enter Tryd.func67, Tryd.ntmps67
    go_wp2_with fail
    rw [← HW1.out, ← HGB.out]
    refine print_r1 (fun c_ N_ _ _ w_ h_ => by cases N_ <;> exact h_) (n := n) (A := A) (c := c) (B := B) (l := l) HBOX.out ((HBL.out.below2 HB1.out).drewN 1) (Nat.le_trans hBw HB1.out.size) (by have := HLEN.out; have := HESC.out; omega) (by have := HLEN.out; omega) ?_
    intro a2 w2 hF2 hbl2 hb2 hkt2
    obtain ⟨u, rfl⟩ := hF2
    have hbox2 := hkt2.2 _ _ _ (by decide) (by decide) HBOX.out
    have HBOX2 := Aside0.mk hbox2
    have HBL2 := Aside0.mk hbl2
    have HB2 : Aside0 (Below B w w2) := ⟨(HB1.out.mono hBw).trans hb2⟩
    have HKT2 : Aside0 (KeepT w w2) := ⟨(KeepT.below HB1.out).trans hkt2⟩
    have s2 := blk_cell hbox2 2
    clear hbox2 hbl2 hb2 hkt2 HBL HBOX HB1 HW1 HGB
    go_wp2_with fail
    rename_i Kl hKl
    have hend : ∀ (a3 : Act) (w3 : World), PrLp b gb c n.f2.length A n a3 → w3.heap[gb]? = some (.cells #[.string n.f0, .string n.f1, .slice A n.f2.length c] 36 (0, 0)) → Bld B b (l ++ ([60] ++ n.f0.data.toList ++ more.data.toList ++ [62] ++ escL n.f1.data.toList) ++ m) w3 → Below B w w3 → KeepT w w3 → Kl a3 w3 := by
      intro a3 w3 hF3 hbox3 hbl3 hb3 hkt3
      refine hKl a3 w3 ?_
      clear hKl Kl s2
      obtain ⟨u3, rfl⟩ := hF3
      have s0 := blk_cell hbox3 0
      have d1 : 2 + n.f0.size ≤ 9223372036854775807 := by have := HLEN.out; omega
      have d2 : 2 + n.f0.size + 1 ≤ 9223372036854775807 := by have := HLEN.out; omega
      have HBL3 := Aside0.mk hbl3
      have HB3 := Aside0.mk hb3
      have HKT3 := Aside0.mk hkt3
      clear hbox3 hbl3 hb3 hkt3
      go_wp2_with fail
      refine (Builder_WriteString_T B b _ _ w3 HBL3.out ?_ (Nat.le_trans hBw HB3.out.size)).mono ?_
      · have h1 := HLEN.out
        rw [tail_size]
        simp only [List.length_append, List.length_cons, List.length_nil, HSZ0.out, HSZ2.out]
        omega
      rintro e w4 ⟨rfl, hbl4, hb4, hkt4⟩
      rw [tail_list] at hbl4
      have HBL4 := Aside0.mk hbl4
      have HB4 := Aside0.mk (HB3.out.trans hb4)
      have HKT4 := Aside0.mk (HKT3.out.trans hkt4)
      clear hbl4 hb4 hkt4
      go_wp2_with fail
      go_end0
      exact ⟨rfl, by simpa only [List.append_assoc, List.cons_append, List.nil_append] using HBL4.out, HB4.out, HKT4.out⟩
    have HEND := Aside0.mk hend
    clear hend hKl
    refine wp_loop_ghost_k (fun kq a' wr => ∃ (j : Nat) (p q : List UInt8), j ≤ n.f2.length ∧ n.f2.length - j < kq ∧ PrLp b gb c j A n a' ∧ catO (fun m => printV k m []) (n.f2.drop j) = some q ∧ m = p ++ q ∧ wr.heap[gb]? = some (.cells #[.string n.f0, .string n.f1, .slice A n.f2.length c] 36 (0, 0)) ∧ Bld B b (l ++ ([60] ++ n.f0.data.toList ++ more.data.toList ++ [62] ++ escL n.f1.data.toList) ++ p) wr ∧ Below B w wr ∧ KeepT w wr) (n.f2.length + 1) ?_ ?_
    · exact ⟨0, [], m, Nat.zero_le _, by omega, PrLp.mk rfl, by simpa using HM.out, rfl, HBOX2.out, by simpa using HBL2.out, HB2.out, HKT2.out⟩
    · intro kq a' wr hI J K hJ hK
      obtain ⟨j, p, q, hj, hjk, hFr, hq, hpq, hboxr, hblr, hbr, hktr⟩ := hI
      have HJ := Aside0.mk hJ
      have HKK := Aside0.mk hK
      have HQ := Aside0.mk hq
      have HPQ := Aside0.mk hpq
      have HBOXR := Aside0.mk hboxr
      have HBLR := Aside0.mk hblr
      have HBR := Aside0.mk hbr
      have HKTR := Aside0.mk hktr
      clear hJ hK hq hpq hboxr hblr hbr hktr HBOX2 HBL2 HB2 HKT2 s2
      obtain ⟨u3, rfl⟩ := hFr
      by_cases hlt : j < n.f2.length
      · obtain ⟨ad, A2, c2, hA, hx0, hx1, hx2, hl2, hi2⟩ := at_T36 HC.out (j : Int) (by omega) (by omega)
        obtain ⟨qa, qb, hqa, hqb, hq2⟩ := catO_split HQ.out hlt
        have hw0r : Below w0.heap.size w0 wr := below_weaken HW0.out hB HBR.out
        rw [hA] at HEND HBOXR
        have hx0' := (hw0r.cell (World.block_lt_of_cell? w0 _ hx0)).trans hx0
        have hx1' := (hw0r.cell (World.block_lt_of_cell? w0 _ hx1)).trans hx1
        have hx2' := (hw0r.cell (World.block_lt_of_cell? w0 _ hx2)).trans hx2
        simp only [Int.toNat_natCast] at hx0' hx1' hx2'
        have hrd : rd_T36 n.f2 (j : Int) = n.f2.getD j z36 := rfl
        obtain ⟨nk, hnk⟩ : ∃ nk, nk = n.f2.getD j z36 := ⟨_, rfl⟩
        rw [hrd, ← hnk] at hx0' hx1' hx2' hl2 hi2
        rw [← hnk] at hqa
        have p104 := eq_true (show (0 : Int) ≤ (j : Int) by omega)
        have q104 := eq_true (show (j : Int) < (n.f2.length : Int) by omega)
        have HW0R := Aside0.mk hw0r
        have HQA := Aside0.mk hqa
        have HQB := Aside0.mk hqb
        have HQ2 := Aside0.mk hq2
        have HL2 := Aside0.mk hl2
        have HI2 := Aside0.mk hi2
        have HA := Aside0.mk hA
        subst hA
        clear hx0 hx1 hx2 hrd hnk hw0r hqa hqb hq2 hl2 hi2
        have hbA : Below wr.heap.size wr (wr.alloc (.cells #[.string nk.f0, .string nk.f1, .slice A2 nk.f2.length c2] 36)) := below_alloc (Below.refl _ _) _
        have HBA := Aside0.mk hbA
        obtain ⟨wa, hwa⟩ : ∃ wa, wa = wr.alloc (.cells #[.string nk.f0, .string nk.f1, .slice A2 nk.f2.length c2] 36) := ⟨_, rfl⟩
        rw [← hwa] at HBA
        have HWA := Aside0.mk hwa
        clear hwa hbA
        go_wp2_with fail
        rw [← HWA.out]
        refine (HIH.out B b _ nk A2 c2 ⟨#[]⟩ w0 wa qa (below_then HW0R.out HW0R.out.size HBA.out) hB (Nat.le_trans (Nat.le_trans hBw HBR.out.size) HBA.out.size) HI2.out HL2.out (HBLR.out.below2 HBA.out) HQA.out ?_).mono ?_
        · have h1 := HLEN.out
          have h2 := congrArg List.length HPQ.out
          have h3 := congrArg List.length HQ2.out
          simp only [List.length_append, List.length_cons, List.length_nil, HSZ0.out, HSZ2.out] at h2 h3 ⊢
          omega
        rintro e w5 ⟨rfl, hbl5, hb5, hkt5⟩
        have HBL5 := Aside0.mk hbl5
        have HB5 : Aside0 (Below B w w5) := ⟨HBR.out.trans ((HBA.out.mono (Nat.le_trans hBw HBR.out.size)).trans hb5)⟩
        have HKT5 : Aside0 (KeepT w w5) := ⟨HKTR.out.trans ((KeepT.below HBA.out).trans hkt5)⟩
        have HBOX5 := Aside0.mk (hkt5.2 _ _ _ (by decide) (by decide) (blk_below HBOXR.out HBA.out))
        clear hbl5 hb5 hkt5
        go_wp2_with fail
        refine HKK.out _ _ ⟨n.f2.length - j, by omega, HJ.out _ _ _ ⟨j + 1, p ++ qa, qb, by omega, by omega, PrLp.mk (by first | omega | (unfold wrap64; omega)), HQB.out, by rw [HPQ.out, HQ2.out, List.append_assoc], HBOX5.out, by simpa only [List.append_assoc, List.cons_append, List.nil_append] using HBL5.out, HB5.out, HKT5.out⟩⟩
      · obtain rfl : j = n.f2.length := by omega
        have hlt2 : ¬ ((n.f2.length : Int) < (n.f2.length : Int)) := by omega
        have hq0 := HQ.out
        rw [List.drop_length] at hq0
        obtain rfl : [] = q := by injection hq0
        have hm0 : m = p := by have := HPQ.out; simpa using this
        subst hm0
        clear hlt hlt2 hq0 hjk
        go_wp2_with fail
        exact HEND.out _ _ (PrLp.mk rfl) HBOXR.out HBLR.out HBR.out HKTR.out
end Go.Proofs.YtkhjpobhdpcglaaDoor.X
end
