/- stowagelaw13.XmlTexts holds for every text of bulk at most 1048576 (its second form): part 1 of what its proof leans on. -/
import Derived.Test.YtkhjpobhdpcglaaDoorProg
import Derived.Below
import Derived.Deep.Draws
import Derived.Deep.AppendLies
import Derived.Maps.AppendAt
import Derived.OwnWalk
import Derived.Laws.BytesArg
import Derived.Laws.MakeOwn
import Derived.Laws.OwnMore
import Derived.Deep.OwnRows
import Derived.Tactics
import Derived.Lib.ConvBytes
import Derived.Laws.Slices
import Derived.WalkKit
import Derived.KernelRfl
import Derived.RowKit3
import Derived.Deep.LoopGhost
import Derived.Deep.QuietTactic
import Derived.BigQuiet
import Derived.WideLaws
import Derived.Deep.DeepCutAuto
import Derived.Deep.CutBlock
import Derived.Deep.RegionHeld3
import Derived.Laws.Rows
import Derived.Lib.AppendStr
import Derived.ArgAppend
import Derived.Laws.IdiomCopy
import Derived.OrdersHeld
import Derived.Laws.BitsLemmas
import Derived.RowKit
import Derived.Test.YtkhjpobhdpcglaaDoorWWords
import Derived.Test.YtkhjpobhdpcglaaDoorWLast
import Derived.Test.YtkhjpobhdpcglaaDoorWTab
import Derived.Test.YtkhjpobhdpcglaaDoorWFour
import Derived.Test.YtkhjpobhdpcglaaDoorWQPut
import Derived.Test.YtkhjpobhdpcglaaDoorWApart
import Derived.Test.YtkhjpobhdpcglaaDoorWArr
import Derived.Test.YtkhjpobhdpcglaaDoorWZeros
import Derived.Test.YtkhjpobhdpcglaaDoorWFoot
import Derived.Test.YtkhjpobhdpcglaaDoorWKept
import Derived.Test.YtkhjpobhdpcglaaDoorWShare
import Derived.Test.YtkhjpobhdpcglaaDoorWN
import Derived.Test.YtkhjpobhdpcglaaDoorWFootNe
import Derived.Test.YtkhjpobhdpcglaaDoorWAt
import Derived.Test.YtkhjpobhdpcglaaDoorWEqStruct
import Derived.Test.YtkhjpobhdpcglaaDoorWRepsOne
import Derived.Test.YtkhjpobhdpcglaaDoorWInv
import Derived.Test.YtkhjpobhdpcglaaDoorWInvWords
import Derived.Test.YtkhjpobhdpcglaaDoorWGuard
import Derived.Test.YtkhjpobhdpcglaaDoorWNEv
import Derived.Test.YtkhjpobhdpcglaaDoorWMore
import Derived.Laws.RangeAny
import Derived.Test.YtkhjpobhdpcglaaDoorShelf
import Derived.Lib.OthersKept
import Derived.WalkSmall
import Derived.Lib.Builder
import Derived.Lib.UnsafeStr
import Derived.Laws.Externs
section
namespace Go.Proofs.YtkhjpobhdpcglaaDoor.X
open Go.RowKit Go.Proofs.YtkhjpobhdpcglaaDoorW.PrintWords Go.Proofs.YtkhjpobhdpcglaaDoorW.PrintLast Go.Proofs.YtkhjpobhdpcglaaDoorW.PrintMore
attribute [local go_sem] max2_int min2_int max_two min_two max_three min_three max_four min_four
set_option linter.unusedVariables false
set_option linter.unusedSimpArgs false

def errW : Option Int → Value
  | none => .nilIface
  | some c => .iface 0 (.int .i64 c)
theorem errW_none : errW none = .nilIface := rfl
theorem errW_some (c : Int) : errW (some c) = .iface 0 (.int .i64 c) := rfl

theorem info3 : (Tryd.prog.info? 3).map (fun i => (i.zero, i.size, i.bytes)) = some (some (.int .i64 0), 1, 8) := by kernel_rfl
theorem info5 : (Tryd.prog.info? 5).map (fun i => (i.zero, i.size, i.bytes)) = some (some (.int .u8 0), 1, 1) := by kernel_rfl
theorem info9 : (Tryd.prog.info? 9).map (fun i => (i.zero, i.size, i.bytes)) = some (some (.string ⟨#[]⟩), 1, 16) := by kernel_rfl
theorem info42 : (Tryd.prog.info? 42).map (fun i => (i.zero, i.size, i.bytes)) = some (some (.agg #[(.string ⟨#[]⟩), (.string ⟨#[]⟩), (.slice none 0 0)]), 3, 56) := by kernel_rfl
/-! #### struct type 83 -/
structure S83 where
  f0 : ByteArray
  f1 : ByteArray
def z83 : S83 := ⟨(⟨#[]⟩ : ByteArray), (⟨#[]⟩ : ByteArray)⟩
def k83 : Kd S83 := Kd.iso (Kd.pair Kd.string Kd.string) (fun x : S83 => (x.f0, x.f1))
theorem k83_open {w : World} {x : S83} {cs : List Value} (h : k83.K w x cs) : cs = [.string x.f0, .string x.f1] := by
  obtain ⟨_, _, rfl, rfl, rfl⟩ := h
  exact rfl
theorem k83_openM {w : World} {base : Nat} {ok : Nat → Prop} {x : S83} {cs : List Value} (h : k83.M w base ok x cs) : cs = [.string x.f0, .string x.f1] := by
  obtain ⟨_, _, rfl, rfl, rfl⟩ := h
  exact rfl
theorem k83_mk (w : World) (x : S83)  : k83.K w x [.string x.f0, .string x.f1] := ⟨[.string x.f0], [.string x.f1], rfl, rfl, rfl⟩
theorem k83_mkM (w : World) (base : Nat) (ok : Nat → Prop) (x : S83)  : k83.M w base ok x [.string x.f0, .string x.f1] := ⟨[.string x.f0], [.string x.f1], rfl, rfl, rfl⟩
theorem k83_mkF (W : World) (ok : Nat → Prop) (x : S83) : Kd.FK k83 W ok x [.string x.f0, .string x.f1] := fun W2 _ => k83_mk W2 x
def rd_T83 (xs : List S83) (i : Int) : S83 := xs.getD i.toNat z83
theorem at_T83 {w : World} {A : Option Addr} {n : Nat} {xs : List S83} (h : Kd.C k83 w A n xs) (i : Int) (h0 : 0 ≤ i) (h1 : i < n) : ∃ ad , A = some ad ∧ w.cell? (ad.add (i.toNat * 2)) = some (.string (rd_T83 xs i).f0) ∧ w.cell? ⟨(ad.add (i.toNat * 2)).block, (ad.add (i.toNat * 2)).off + 1, none⟩ = some (.string (rd_T83 xs i).f1) := by
  obtain ⟨ad, c, e, _, hK, hc0⟩ := Kd.C_get h z83 i h0 h1
  have hc : ∀ j u, c[j]? = some u → w.cell? (ad.add (i.toNat * 2 + j)) = some u := hc0
  obtain rfl := k83_open hK
  exact ⟨ad, e, hc 0 _ rfl, by rw [← add_field _ _ 1 (by omega)]; exact hc 1 _ rfl⟩

/-! #### struct type 42, nested in itself -/
structure S42 where
  f0 : ByteArray
  f1 : ByteArray
  f2 : (List S42)
def z42 : S42 := ⟨(⟨#[]⟩ : ByteArray), (⟨#[]⟩ : ByteArray), ([] : List S42)⟩
def F42 (d : Kd S42) : Kd S42 := Kd.iso (Kd.pair Kd.string (Kd.pair Kd.string (Kd.slice 42 d))) (fun x : S42 => (x.f0, x.f1, x.f2))
theorem mono42 : Kd.Mono F42 := Kd.mono_iso _ (Kd.mono_pair (Kd.mono_const _) (Kd.mono_pair (Kd.mono_const _) (Kd.mono_slice 42 Kd.mono_id)))
theorem sub42 : Kd.Sub F42 [42] := Kd.sub_iso _ (Kd.sub_pair (Kd.sub_const _ (by decide)) (Kd.sub_pair (Kd.sub_const _ (by decide)) (Kd.sub_slice 42 (by decide) Kd.sub_id)))
theorem sz42 : ∀ n, (Kd.upto F42 3 [42] n).sz = 3 := Kd.upto_sz (fun _ => rfl)
def k42 : Kd S42 := Kd.fix F42 3 [42] sz42 (Kd.upto_E sub42)
theorem k42_open {w : World} {x : S42} {cs : List Value} (h : k42.K w x cs) : ∃ A2 c2, cs = [.string x.f0, .string x.f1, .slice A2 x.f2.length c2] ∧ x.f2.length ≤ c2 ∧ k42.C w A2 x.f2.length x.f2 := by
  obtain ⟨n, h⟩ := h
  cases n with
  | zero => exact h.elim
  | succ n =>
    obtain ⟨_, _, rfl, rfl, ⟨_, _, rfl, rfl, ⟨A2, c2, rfl, l2, g2⟩⟩⟩ := h
    exact ⟨A2, c2, rfl, l2, Kd.fix_C g2⟩
theorem k42_openM {w : World} {base : Nat} {ok : Nat → Prop} {x : S42} {cs : List Value} (h : k42.M w base ok x cs) : ∃ v2, cs = [.string x.f0, .string x.f1, v2] ∧ k42.R 42 w base ok v2 x.f2 := by
  obtain ⟨n, h⟩ := h
  cases n with
  | zero => exact h.elim
  | succ n =>
    obtain ⟨_, _, rfl, rfl, ⟨_, _, rfl, rfl, ⟨v2, rfl, g2⟩⟩⟩ := h
    exact ⟨v2, rfl, Kd.fix_R g2⟩
theorem k42_mk (w : World) (x : S42) {A2 : Option Addr} {c2 : Nat} (l2 : x.f2.length ≤ c2) (g2 : k42.C w A2 x.f2.length x.f2) : k42.K w x [.string x.f0, .string x.f1, .slice A2 x.f2.length c2] := by
  obtain ⟨n2, q2⟩ := Kd.fix_C_back mono42 g2
  have r2 := Kd.upto_C_le mono42 sz42 (show n2 ≤ n2 by omega) q2
  exact ⟨n2 + 1, ⟨[.string x.f0], [.string x.f1, .slice A2 x.f2.length c2], rfl, rfl, ⟨[.string x.f1], [.slice A2 x.f2.length c2], rfl, rfl, ⟨A2, c2, rfl, l2, r2⟩⟩⟩⟩
theorem k42_mkM (w : World) (base : Nat) (ok : Nat → Prop) (x : S42) {v2 : Value} (g2 : k42.R 42 w base ok v2 x.f2) : k42.M w base ok x [.string x.f0, .string x.f1, v2] := by
  obtain ⟨n2, q2⟩ := Kd.fix_R_back mono42 g2
  have r2 := Kd.upto_R_le mono42 sz42 (show n2 ≤ n2 by omega) q2
  exact ⟨n2 + 1, ⟨[.string x.f0], [.string x.f1, v2], rfl, rfl, ⟨[.string x.f1], [v2], rfl, rfl, ⟨v2, rfl, r2⟩⟩⟩⟩
theorem k42_openF {W : World} {ok : Nat → Prop} {x : S42} {cs : List Value} (h : Kd.FK k42 W ok x cs) : ∃ A2 c2, cs = [.string x.f0, .string x.f1, .slice A2 x.f2.length c2] ∧ x.f2.length ≤ c2 ∧ Kd.F k42 W ok A2 x.f2.length x.f2 := by
  obtain ⟨A2, c2, rfl, l2, _⟩ := k42_open (Kd.FK_now h)
  exact ⟨A2, c2, rfl, l2, (fun W' hW => by obtain ⟨A2_, c2_, he, l2_, g2_⟩ := k42_open (h W' hW); injection (Option.some.inj (show some (Value.slice A2 x.f2.length c2) = some (Value.slice A2_ x.f2.length c2_) from congrArg (fun l => l[2]?) he)) with ha_ _ _; rw [ha_]; exact g2_)⟩
theorem k42_mkF (W : World) (ok : Nat → Prop) (x : S42) {A2 : Option Addr} {c2 : Nat} (l2 : x.f2.length ≤ c2) (g2 : Kd.F k42 W ok A2 x.f2.length x.f2) : Kd.FK k42 W ok x [.string x.f0, .string x.f1, .slice A2 x.f2.length c2] := fun W2 hW => k42_mk W2 x l2 (g2 W2 hW)
def rd_T42 (xs : List S42) (i : Int) : S42 := xs.getD i.toNat z42
theorem at_T42 {w : World} {A : Option Addr} {n : Nat} {xs : List S42} (h : Kd.C k42 w A n xs) (i : Int) (h0 : 0 ≤ i) (h1 : i < n) : ∃ ad A2 c2, A = some ad ∧ w.cell? (ad.add (i.toNat * 3)) = some (.string (rd_T42 xs i).f0) ∧ w.cell? ⟨(ad.add (i.toNat * 3)).block, (ad.add (i.toNat * 3)).off + 1, none⟩ = some (.string (rd_T42 xs i).f1) ∧ w.cell? ⟨(ad.add (i.toNat * 3)).block, (ad.add (i.toNat * 3)).off + 2, none⟩ = some (.slice A2 (rd_T42 xs i).f2.length c2) ∧ (rd_T42 xs i).f2.length ≤ c2 ∧ k42.C w A2 (rd_T42 xs i).f2.length (rd_T42 xs i).f2 := by
  obtain ⟨ad, c, e, _, hK, hc0⟩ := Kd.C_get h z42 i h0 h1
  have hc : ∀ j u, c[j]? = some u → w.cell? (ad.add (i.toNat * 3 + j)) = some u := hc0
  obtain ⟨A2, c2, rfl, l2, g2⟩ := k42_open hK
  exact ⟨ad, A2, c2, e, hc 0 _ rfl, by rw [← add_field _ _ 1 (by omega)]; exact hc 1 _ rfl, by rw [← add_field _ _ 2 (by omega)]; exact hc 2 _ rfl, l2, g2⟩

/-! #### struct type 36, nested in itself -/
structure S36 where
  f0 : ByteArray
  f1 : ByteArray
  f2 : (List S36)
def z36 : S36 := ⟨(⟨#[]⟩ : ByteArray), (⟨#[]⟩ : ByteArray), ([] : List S36)⟩
def F36 (d : Kd S36) : Kd S36 := Kd.iso (Kd.pair Kd.string (Kd.pair Kd.string (Kd.slice 36 d))) (fun x : S36 => (x.f0, x.f1, x.f2))
theorem mono36 : Kd.Mono F36 := Kd.mono_iso _ (Kd.mono_pair (Kd.mono_const _) (Kd.mono_pair (Kd.mono_const _) (Kd.mono_slice 36 Kd.mono_id)))
theorem sub36 : Kd.Sub F36 [36] := Kd.sub_iso _ (Kd.sub_pair (Kd.sub_const _ (by decide)) (Kd.sub_pair (Kd.sub_const _ (by decide)) (Kd.sub_slice 36 (by decide) Kd.sub_id)))
theorem sz36 : ∀ n, (Kd.upto F36 3 [36] n).sz = 3 := Kd.upto_sz (fun _ => rfl)
def k36 : Kd S36 := Kd.fix F36 3 [36] sz36 (Kd.upto_E sub36)
theorem k36_open {w : World} {x : S36} {cs : List Value} (h : k36.K w x cs) : ∃ A2 c2, cs = [.string x.f0, .string x.f1, .slice A2 x.f2.length c2] ∧ x.f2.length ≤ c2 ∧ k36.C w A2 x.f2.length x.f2 := by
  obtain ⟨n, h⟩ := h
  cases n with
  | zero => exact h.elim
  | succ n =>
    obtain ⟨_, _, rfl, rfl, ⟨_, _, rfl, rfl, ⟨A2, c2, rfl, l2, g2⟩⟩⟩ := h
    exact ⟨A2, c2, rfl, l2, Kd.fix_C g2⟩
theorem k36_openM {w : World} {base : Nat} {ok : Nat → Prop} {x : S36} {cs : List Value} (h : k36.M w base ok x cs) : ∃ v2, cs = [.string x.f0, .string x.f1, v2] ∧ k36.R 36 w base ok v2 x.f2 := by
  obtain ⟨n, h⟩ := h
  cases n with
  | zero => exact h.elim
  | succ n =>
    obtain ⟨_, _, rfl, rfl, ⟨_, _, rfl, rfl, ⟨v2, rfl, g2⟩⟩⟩ := h
    exact ⟨v2, rfl, Kd.fix_R g2⟩
theorem k36_mk (w : World) (x : S36) {A2 : Option Addr} {c2 : Nat} (l2 : x.f2.length ≤ c2) (g2 : k36.C w A2 x.f2.length x.f2) : k36.K w x [.string x.f0, .string x.f1, .slice A2 x.f2.length c2] := by
  obtain ⟨n2, q2⟩ := Kd.fix_C_back mono36 g2
  have r2 := Kd.upto_C_le mono36 sz36 (show n2 ≤ n2 by omega) q2
  exact ⟨n2 + 1, ⟨[.string x.f0], [.string x.f1, .slice A2 x.f2.length c2], rfl, rfl, ⟨[.string x.f1], [.slice A2 x.f2.length c2], rfl, rfl, ⟨A2, c2, rfl, l2, r2⟩⟩⟩⟩
theorem k36_mkM (w : World) (base : Nat) (ok : Nat → Prop) (x : S36) {v2 : Value} (g2 : k36.R 36 w base ok v2 x.f2) : k36.M w base ok x [.string x.f0, .string x.f1, v2] := by
  obtain ⟨n2, q2⟩ := Kd.fix_R_back mono36 g2
  have r2 := Kd.upto_R_le mono36 sz36 (show n2 ≤ n2 by omega) q2
  exact ⟨n2 + 1, ⟨[.string x.f0], [.string x.f1, v2], rfl, rfl, ⟨[.string x.f1], [v2], rfl, rfl, ⟨v2, rfl, r2⟩⟩⟩⟩
theorem k36_openF {W : World} {ok : Nat → Prop} {x : S36} {cs : List Value} (h : Kd.FK k36 W ok x cs) : ∃ A2 c2, cs = [.string x.f0, .string x.f1, .slice A2 x.f2.length c2] ∧ x.f2.length ≤ c2 ∧ Kd.F k36 W ok A2 x.f2.length x.f2 := by
  obtain ⟨A2, c2, rfl, l2, _⟩ := k36_open (Kd.FK_now h)
  exact ⟨A2, c2, rfl, l2, (fun W' hW => by obtain ⟨A2_, c2_, he, l2_, g2_⟩ := k36_open (h W' hW); injection (Option.some.inj (show some (Value.slice A2 x.f2.length c2) = some (Value.slice A2_ x.f2.length c2_) from congrArg (fun l => l[2]?) he)) with ha_ _ _; rw [ha_]; exact g2_)⟩
theorem k36_mkF (W : World) (ok : Nat → Prop) (x : S36) {A2 : Option Addr} {c2 : Nat} (l2 : x.f2.length ≤ c2) (g2 : Kd.F k36 W ok A2 x.f2.length x.f2) : Kd.FK k36 W ok x [.string x.f0, .string x.f1, .slice A2 x.f2.length c2] := fun W2 hW => k36_mk W2 x l2 (g2 W2 hW)
def rd_T36 (xs : List S36) (i : Int) : S36 := xs.getD i.toNat z36
theorem at_T36 {w : World} {A : Option Addr} {n : Nat} {xs : List S36} (h : Kd.C k36 w A n xs) (i : Int) (h0 : 0 ≤ i) (h1 : i < n) : ∃ ad A2 c2, A = some ad ∧ w.cell? (ad.add (i.toNat * 3)) = some (.string (rd_T36 xs i).f0) ∧ w.cell? ⟨(ad.add (i.toNat * 3)).block, (ad.add (i.toNat * 3)).off + 1, none⟩ = some (.string (rd_T36 xs i).f1) ∧ w.cell? ⟨(ad.add (i.toNat * 3)).block, (ad.add (i.toNat * 3)).off + 2, none⟩ = some (.slice A2 (rd_T36 xs i).f2.length c2) ∧ (rd_T36 xs i).f2.length ≤ c2 ∧ k36.C w A2 (rd_T36 xs i).f2.length (rd_T36 xs i).f2 := by
  obtain ⟨ad, c, e, _, hK, hc0⟩ := Kd.C_get h z36 i h0 h1
  have hc : ∀ j u, c[j]? = some u → w.cell? (ad.add (i.toNat * 3 + j)) = some u := hc0
  obtain ⟨A2, c2, rfl, l2, g2⟩ := k36_open hK
  exact ⟨ad, A2, c2, e, hc 0 _ rfl, by rw [← add_field _ _ 1 (by omega)]; exact hc 1 _ rfl, by rw [← add_field _ _ 2 (by omega)]; exact hc 2 _ rfl, l2, g2⟩

/-- A state of type 79 at block g of W; what its slices lead to came in by w0. -/
def IsS79 (w0 W : World) (g : Nat) (f0 : ByteArray) (f1 : Int) (f2 : Bool) : Prop := W.heap[g]? = some (.cells #[.string f0, .int .i64 f1, .bool f2] 79 (0, 0)) ∧ w0.heap.size ≤ g
theorem IsS79.grown {w0 W : World} {g : Nat} {f0 : ByteArray} {f1 : Int} {f2 : Bool} {W1 : World} {row : Option Nat} (h : IsS79 w0 W g f0 f1 f2) (hw : W.grownBy W1 row) (hne : some g ≠ row) : IsS79 w0 W1 g f0 f1 f2 := by
  obtain ⟨hb, hg⟩ := h
  exact ⟨blk_grown hb hw hne, hg⟩
theorem IsS79.own_neN {w0 W : World} {g : Nat} {f0 : ByteArray} {f1 : Int} {f2 : Bool} {α : Type} {d : Kd α} {e : Nat} {base : Nat} {ok : Nat → Prop} {v : Value} {xs : List α} (h : IsS79 w0 W g f0 f1 f2) (ho : Kd.N d e W base ok v xs) (ht : e ≠ 79) : some g ≠ v.ownBlock := by
  obtain ⟨hb, hg⟩ := h
  exact Kd.N_ne ho hb ht
theorem IsS79.fresh {w0 W : World} {g : Nat} {f0 : ByteArray} {f1 : Int} {f2 : Bool} (h : IsS79 w0 W g f0 f1 f2) : ∀ k, W.heap.size ≤ k → k ≠ g := by
  obtain ⟨hb, hg⟩ := h
  exact Kd.freshB hb
theorem IsS79.kept {w0 W : World} {g : Nat} {f0 : ByteArray} {f1 : Int} {f2 : Bool} {W1 : World} {S : Nat → Prop} (h : IsS79 w0 W g f0 f1 f2) (hk : Kept W W1 S) (hne : ¬ S g) : IsS79 w0 W1 g f0 f1 f2 := by
  obtain ⟨hb, hg⟩ := h
  exact ⟨blk_kept hb hk hne, hg⟩
theorem IsS79.below {w0 W : World} {g : Nat} {f0 : ByteArray} {f1 : Int} {f2 : Bool} {W1 : World} (h : IsS79 w0 W g f0 f1 f2) (hw : Below W.heap.size W W1) : IsS79 w0 W1 g f0 f1 f2 := h.grown (grown_of_below hw none) (by simp)
theorem IsS79.alloc {w0 W : World} {g : Nat} {f0 : ByteArray} {f1 : Int} {f2 : Bool} (h : IsS79 w0 W g f0 f1 f2) (o : Obj) : IsS79 w0 (W.alloc o) g f0 f1 f2 := h.below (below_alloc (Below.refl _ _) o)
theorem IsS79.drewN {w0 W : World} {g : Nat} {f0 : ByteArray} {f1 : Int} {f2 : Bool} (h : IsS79 w0 W g f0 f1 f2) (m : Nat) : IsS79 w0 (W.drewN m) g f0 f1 f2 := h
theorem IsS79.drew {w0 W : World} {g : Nat} {f0 : ByteArray} {f1 : Int} {f2 : Bool} (h : IsS79 w0 W g f0 f1 f2) : IsS79 w0 W.drew g f0 f1 f2 := h
theorem IsS79.at_ {w0 W : World} {g : Nat} {f0 : ByteArray} {f1 : Int} {f2 : Bool} {w' : World} {m : Nat} (hq : W.drewN m = w') (h : IsS79 w0 W g f0 f1 f2) : IsS79 w0 w' g f0 f1 f2 := by subst hq; exact IsS79.drewN h m
theorem IsS79.apart {w0 W : World} {g : Nat} {f0 : ByteArray} {f1 : Int} {f2 : Bool} {α : Type} {d : Kd α} {e : Nat} {base : Nat} {ok : Nat → Prop} {v : Value} {xs : List α} (h : IsS79 w0 W g f0 f1 f2) (ho : d.R e W base ok v xs) (ht : ∀ q, q ∈ e :: d.E → q ≠ 79) : d.R e W base (fun k => ok k ∧ k ≠ g) v xs := by
  obtain ⟨hb, hg⟩ := h
  exact Kd.R_types ho hb ht
theorem IsS79.own_ne {w0 W : World} {g : Nat} {f0 : ByteArray} {f1 : Int} {f2 : Bool} {α : Type} {d : Kd α} {e : Nat} {base : Nat} {ok : Nat → Prop} {v : Value} {xs : List α} (h : IsS79 w0 W g f0 f1 f2) (ho : d.R e W base ok v xs) (ht : e ≠ 79) : some g ≠ v.ownBlock := by
  obtain ⟨hb, hg⟩ := h
  exact Kd.R_ne ho hb ht
theorem IsS79.apartQ {w0 W : World} {g : Nat} {f0 : ByteArray} {f1 : Int} {f2 : Bool} {α : Type} {d : Kd α} {e : Nat} {base : Nat} {ok : Nat → Prop} {v : Value} {xs : List α} (h : IsS79 w0 W g f0 f1 f2) (ho : d.Q e W base ok v xs) (ht : ∀ q, q ∈ e :: d.E → q ≠ 79) : d.Q e W base (fun k => ok k ∧ k ≠ g) v xs := by
  obtain ⟨hb, hg⟩ := h
  exact Kd.Q_types ho hb ht
theorem IsS79.own_neQ {w0 W : World} {g : Nat} {f0 : ByteArray} {f1 : Int} {f2 : Bool} {α : Type} {d : Kd α} {e : Nat} {base : Nat} {ok : Nat → Prop} {v : Value} {xs : List α} (h : IsS79 w0 W g f0 f1 f2) (ho : d.Q e W base ok v xs) (ht : e ≠ 79) : some g ≠ v.ownBlock := by
  obtain ⟨hb, hg⟩ := h
  exact Kd.Q_ne ho hb ht
theorem IsS79.apartS {w0 W : World} {g : Nat} {f0 : ByteArray} {f1 : Int} {f2 : Bool} {α : Type} {d : Kd α} {e : Nat} {base : Nat} {ok : Nat → Prop} {v : Value} {xs : List α} (h : IsS79 w0 W g f0 f1 f2) (ho : d.S e W base ok v xs) (ht : ∀ q, q ∈ e :: d.E → q ≠ 79) : d.S e W base (fun k => ok k ∧ k ≠ g) v xs := by
  obtain ⟨hb, hg⟩ := h
  exact Kd.S_types ho hb ht
theorem IsS79.own_neS {w0 W : World} {g : Nat} {f0 : ByteArray} {f1 : Int} {f2 : Bool} {α : Type} {d : Kd α} {e : Nat} {base : Nat} {ok : Nat → Prop} {v : Value} {xs : List α} (h : IsS79 w0 W g f0 f1 f2) (ho : d.S e W base ok v xs) (ht : e ≠ 79) : some g ≠ v.ownBlock := by
  obtain ⟨hb, hg⟩ := h
  exact Kd.S_ne ho hb ht
theorem IsS79.lt {w0 W : World} {g : Nat} {f0 : ByteArray} {f1 : Int} {f2 : Bool} (h : IsS79 w0 W g f0 f1 f2) : g < W.heap.size := by
  obtain ⟨hb, hg⟩ := h
  exact blk_lt hb
theorem IsS79.ge {w0 W : World} {g : Nat} {f0 : ByteArray} {f1 : Int} {f2 : Bool} (h : IsS79 w0 W g f0 f1 f2) : w0.heap.size ≤ g := by
  obtain ⟨hb, hg⟩ := h
  exact hg
theorem IsS79.ne_blk {w0 W : World} {g : Nat} {f0 : ByteArray} {f1 : Int} {f2 : Bool} {a : Nat} {cs : Array Value} {t : TypeId} {fr : Nat × Nat} (h : IsS79 w0 W g f0 f1 f2) (hb2 : W.heap[a]? = some (.cells cs t fr)) (ht : t ≠ 79) : g ≠ a := by
  obtain ⟨hb, hg⟩ := h
  rintro rfl
  rw [hb] at hb2
  injection hb2 with hb2
  injection hb2 with _ ht2
  exact ht ht2.symm
theorem IsS79.far {w0 W : World} {g : Nat} {f0 : ByteArray} {f1 : Int} {f2 : Bool} {p : Addr} (h : IsS79 w0 W g f0 f1 f2) (hne : g ≠ p.block) (u : Value) : IsS79 w0 (W.setCell p u) g f0 f1 f2 := by
  obtain ⟨hb, hg⟩ := h
  exact ⟨blk_far hb hne u, hg⟩
theorem cellS79_0 {W : World} {g : Nat} {f0 : ByteArray} {f1 : Int} {f2 : Bool} (h : W.heap[g]? = some (.cells #[.string f0, .int .i64 f1, .bool f2] 79 (0, 0))) : W.cell? ⟨g, 0, none⟩ = some (.string f0) := (blk_cell h 0).trans rfl
theorem IsS79.set_0 {w0 W : World} {g : Nat} {f0 : ByteArray} {f1 : Int} {f2 : Bool} (h : IsS79 w0 W g f0 f1 f2) (x : ByteArray) : IsS79 w0 (W.setCell ⟨g, 0, none⟩ (.string x)) g x f1 f2 := by
  obtain ⟨hb, hg⟩ := h
  exact ⟨by simpa using blk_set hb 0 (.string x), hg⟩
theorem cellS79_1 {W : World} {g : Nat} {f0 : ByteArray} {f1 : Int} {f2 : Bool} (h : W.heap[g]? = some (.cells #[.string f0, .int .i64 f1, .bool f2] 79 (0, 0))) : W.cell? ⟨g, 1, none⟩ = some (.int .i64 f1) := (blk_cell h 1).trans rfl
theorem IsS79.set_1 {w0 W : World} {g : Nat} {f0 : ByteArray} {f1 : Int} {f2 : Bool} (h : IsS79 w0 W g f0 f1 f2) (x : Int) : IsS79 w0 (W.setCell ⟨g, 1, none⟩ (.int .i64 x)) g f0 x f2 := by
  obtain ⟨hb, hg⟩ := h
  exact ⟨by simpa using blk_set hb 1 (.int .i64 x), hg⟩
theorem cellS79_2 {W : World} {g : Nat} {f0 : ByteArray} {f1 : Int} {f2 : Bool} (h : W.heap[g]? = some (.cells #[.string f0, .int .i64 f1, .bool f2] 79 (0, 0))) : W.cell? ⟨g, 2, none⟩ = some (.bool f2) := (blk_cell h 2).trans rfl
theorem IsS79.set_2 {w0 W : World} {g : Nat} {f0 : ByteArray} {f1 : Int} {f2 : Bool} (h : IsS79 w0 W g f0 f1 f2) (x : Bool) : IsS79 w0 (W.setCell ⟨g, 2, none⟩ (.bool x)) g f0 f1 x := by
  obtain ⟨hb, hg⟩ := h
  exact ⟨by simpa using blk_set hb 2 (.bool x), hg⟩
theorem IsS79.new (w0 W : World) (f0 : ByteArray) (f1 : Int) (f2 : Bool) (hB : Below w0.heap.size w0 W) : IsS79 w0 (W.alloc (.cells #[.string f0, .int .i64 f1, .bool f2] 79)) W.heap.size f0 f1 f2 := ⟨by simpa using heap_alloc_new W _, hB.size⟩

/-- A state of type 91 at block g of W; what its slices lead to came in by w0. -/
def IsS91 (w0 W : World) (g : Nat) (f0 : ByteArray) (f1 : Int) : Prop := W.heap[g]? = some (.cells #[.string f0, .int .i64 f1] 91 (0, 0)) ∧ w0.heap.size ≤ g
theorem IsS91.grown {w0 W : World} {g : Nat} {f0 : ByteArray} {f1 : Int} {W1 : World} {row : Option Nat} (h : IsS91 w0 W g f0 f1) (hw : W.grownBy W1 row) (hne : some g ≠ row) : IsS91 w0 W1 g f0 f1 := by
  obtain ⟨hb, hg⟩ := h
  exact ⟨blk_grown hb hw hne, hg⟩
theorem IsS91.own_neN {w0 W : World} {g : Nat} {f0 : ByteArray} {f1 : Int} {α : Type} {d : Kd α} {e : Nat} {base : Nat} {ok : Nat → Prop} {v : Value} {xs : List α} (h : IsS91 w0 W g f0 f1) (ho : Kd.N d e W base ok v xs) (ht : e ≠ 91) : some g ≠ v.ownBlock := by
  obtain ⟨hb, hg⟩ := h
  exact Kd.N_ne ho hb ht
theorem IsS91.fresh {w0 W : World} {g : Nat} {f0 : ByteArray} {f1 : Int} (h : IsS91 w0 W g f0 f1) : ∀ k, W.heap.size ≤ k → k ≠ g := by
  obtain ⟨hb, hg⟩ := h
  exact Kd.freshB hb
theorem IsS91.kept {w0 W : World} {g : Nat} {f0 : ByteArray} {f1 : Int} {W1 : World} {S : Nat → Prop} (h : IsS91 w0 W g f0 f1) (hk : Kept W W1 S) (hne : ¬ S g) : IsS91 w0 W1 g f0 f1 := by
  obtain ⟨hb, hg⟩ := h
  exact ⟨blk_kept hb hk hne, hg⟩
theorem IsS91.below {w0 W : World} {g : Nat} {f0 : ByteArray} {f1 : Int} {W1 : World} (h : IsS91 w0 W g f0 f1) (hw : Below W.heap.size W W1) : IsS91 w0 W1 g f0 f1 := h.grown (grown_of_below hw none) (by simp)
theorem IsS91.alloc {w0 W : World} {g : Nat} {f0 : ByteArray} {f1 : Int} (h : IsS91 w0 W g f0 f1) (o : Obj) : IsS91 w0 (W.alloc o) g f0 f1 := h.below (below_alloc (Below.refl _ _) o)
theorem IsS91.drewN {w0 W : World} {g : Nat} {f0 : ByteArray} {f1 : Int} (h : IsS91 w0 W g f0 f1) (m : Nat) : IsS91 w0 (W.drewN m) g f0 f1 := h
theorem IsS91.drew {w0 W : World} {g : Nat} {f0 : ByteArray} {f1 : Int} (h : IsS91 w0 W g f0 f1) : IsS91 w0 W.drew g f0 f1 := h
theorem IsS91.at_ {w0 W : World} {g : Nat} {f0 : ByteArray} {f1 : Int} {w' : World} {m : Nat} (hq : W.drewN m = w') (h : IsS91 w0 W g f0 f1) : IsS91 w0 w' g f0 f1 := by subst hq; exact IsS91.drewN h m
theorem IsS91.apart {w0 W : World} {g : Nat} {f0 : ByteArray} {f1 : Int} {α : Type} {d : Kd α} {e : Nat} {base : Nat} {ok : Nat → Prop} {v : Value} {xs : List α} (h : IsS91 w0 W g f0 f1) (ho : d.R e W base ok v xs) (ht : ∀ q, q ∈ e :: d.E → q ≠ 91) : d.R e W base (fun k => ok k ∧ k ≠ g) v xs := by
  obtain ⟨hb, hg⟩ := h
  exact Kd.R_types ho hb ht
theorem IsS91.own_ne {w0 W : World} {g : Nat} {f0 : ByteArray} {f1 : Int} {α : Type} {d : Kd α} {e : Nat} {base : Nat} {ok : Nat → Prop} {v : Value} {xs : List α} (h : IsS91 w0 W g f0 f1) (ho : d.R e W base ok v xs) (ht : e ≠ 91) : some g ≠ v.ownBlock := by
  obtain ⟨hb, hg⟩ := h
  exact Kd.R_ne ho hb ht
theorem IsS91.apartQ {w0 W : World} {g : Nat} {f0 : ByteArray} {f1 : Int} {α : Type} {d : Kd α} {e : Nat} {base : Nat} {ok : Nat → Prop} {v : Value} {xs : List α} (h : IsS91 w0 W g f0 f1) (ho : d.Q e W base ok v xs) (ht : ∀ q, q ∈ e :: d.E → q ≠ 91) : d.Q e W base (fun k => ok k ∧ k ≠ g) v xs := by
  obtain ⟨hb, hg⟩ := h
  exact Kd.Q_types ho hb ht
theorem IsS91.own_neQ {w0 W : World} {g : Nat} {f0 : ByteArray} {f1 : Int} {α : Type} {d : Kd α} {e : Nat} {base : Nat} {ok : Nat → Prop} {v : Value} {xs : List α} (h : IsS91 w0 W g f0 f1) (ho : d.Q e W base ok v xs) (ht : e ≠ 91) : some g ≠ v.ownBlock := by
  obtain ⟨hb, hg⟩ := h
  exact Kd.Q_ne ho hb ht
theorem IsS91.apartS {w0 W : World} {g : Nat} {f0 : ByteArray} {f1 : Int} {α : Type} {d : Kd α} {e : Nat} {base : Nat} {ok : Nat → Prop} {v : Value} {xs : List α} (h : IsS91 w0 W g f0 f1) (ho : d.S e W base ok v xs) (ht : ∀ q, q ∈ e :: d.E → q ≠ 91) : d.S e W base (fun k => ok k ∧ k ≠ g) v xs := by
  obtain ⟨hb, hg⟩ := h
  exact Kd.S_types ho hb ht
theorem IsS91.own_neS {w0 W : World} {g : Nat} {f0 : ByteArray} {f1 : Int} {α : Type} {d : Kd α} {e : Nat} {base : Nat} {ok : Nat → Prop} {v : Value} {xs : List α} (h : IsS91 w0 W g f0 f1) (ho : d.S e W base ok v xs) (ht : e ≠ 91) : some g ≠ v.ownBlock := by
  obtain ⟨hb, hg⟩ := h
  exact Kd.S_ne ho hb ht
theorem IsS91.lt {w0 W : World} {g : Nat} {f0 : ByteArray} {f1 : Int} (h : IsS91 w0 W g f0 f1) : g < W.heap.size := by
  obtain ⟨hb, hg⟩ := h
  exact blk_lt hb
theorem IsS91.ge {w0 W : World} {g : Nat} {f0 : ByteArray} {f1 : Int} (h : IsS91 w0 W g f0 f1) : w0.heap.size ≤ g := by
  obtain ⟨hb, hg⟩ := h
  exact hg
theorem IsS91.ne_blk {w0 W : World} {g : Nat} {f0 : ByteArray} {f1 : Int} {a : Nat} {cs : Array Value} {t : TypeId} {fr : Nat × Nat} (h : IsS91 w0 W g f0 f1) (hb2 : W.heap[a]? = some (.cells cs t fr)) (ht : t ≠ 91) : g ≠ a := by
  obtain ⟨hb, hg⟩ := h
  rintro rfl
  rw [hb] at hb2
  injection hb2 with hb2
  injection hb2 with _ ht2
  exact ht ht2.symm
theorem IsS91.far {w0 W : World} {g : Nat} {f0 : ByteArray} {f1 : Int} {p : Addr} (h : IsS91 w0 W g f0 f1) (hne : g ≠ p.block) (u : Value) : IsS91 w0 (W.setCell p u) g f0 f1 := by
  obtain ⟨hb, hg⟩ := h
  exact ⟨blk_far hb hne u, hg⟩
theorem cellS91_0 {W : World} {g : Nat} {f0 : ByteArray} {f1 : Int} (h : W.heap[g]? = some (.cells #[.string f0, .int .i64 f1] 91 (0, 0))) : W.cell? ⟨g, 0, none⟩ = some (.string f0) := (blk_cell h 0).trans rfl
theorem IsS91.set_0 {w0 W : World} {g : Nat} {f0 : ByteArray} {f1 : Int} (h : IsS91 w0 W g f0 f1) (x : ByteArray) : IsS91 w0 (W.setCell ⟨g, 0, none⟩ (.string x)) g x f1 := by
  obtain ⟨hb, hg⟩ := h
  exact ⟨by simpa using blk_set hb 0 (.string x), hg⟩
theorem cellS91_1 {W : World} {g : Nat} {f0 : ByteArray} {f1 : Int} (h : W.heap[g]? = some (.cells #[.string f0, .int .i64 f1] 91 (0, 0))) : W.cell? ⟨g, 1, none⟩ = some (.int .i64 f1) := (blk_cell h 1).trans rfl
theorem IsS91.set_1 {w0 W : World} {g : Nat} {f0 : ByteArray} {f1 : Int} (h : IsS91 w0 W g f0 f1) (x : Int) : IsS91 w0 (W.setCell ⟨g, 1, none⟩ (.int .i64 x)) g f0 x := by
  obtain ⟨hb, hg⟩ := h
  exact ⟨by simpa using blk_set hb 1 (.int .i64 x), hg⟩
theorem IsS91.new (w0 W : World) (f0 : ByteArray) (f1 : Int) (hB : Below w0.heap.size w0 W) : IsS91 w0 (W.alloc (.cells #[.string f0, .int .i64 f1] 91)) W.heap.size f0 f1 := ⟨by simpa using heap_alloc_new W _, hB.size⟩

/-- A state of type 94 at block g of W; what its slices lead to came in by w0. -/
def IsS94 (w0 W : World) (g : Nat) (f0 : ByteArray) (f1 : Int) (f2 : Bool) : Prop := W.heap[g]? = some (.cells #[.string f0, .int .i64 f1, .bool f2] 94 (0, 0)) ∧ w0.heap.size ≤ g
theorem IsS94.grown {w0 W : World} {g : Nat} {f0 : ByteArray} {f1 : Int} {f2 : Bool} {W1 : World} {row : Option Nat} (h : IsS94 w0 W g f0 f1 f2) (hw : W.grownBy W1 row) (hne : some g ≠ row) : IsS94 w0 W1 g f0 f1 f2 := by
  obtain ⟨hb, hg⟩ := h
  exact ⟨blk_grown hb hw hne, hg⟩
theorem IsS94.own_neN {w0 W : World} {g : Nat} {f0 : ByteArray} {f1 : Int} {f2 : Bool} {α : Type} {d : Kd α} {e : Nat} {base : Nat} {ok : Nat → Prop} {v : Value} {xs : List α} (h : IsS94 w0 W g f0 f1 f2) (ho : Kd.N d e W base ok v xs) (ht : e ≠ 94) : some g ≠ v.ownBlock := by
  obtain ⟨hb, hg⟩ := h
  exact Kd.N_ne ho hb ht
theorem IsS94.fresh {w0 W : World} {g : Nat} {f0 : ByteArray} {f1 : Int} {f2 : Bool} (h : IsS94 w0 W g f0 f1 f2) : ∀ k, W.heap.size ≤ k → k ≠ g := by
  obtain ⟨hb, hg⟩ := h
  exact Kd.freshB hb
theorem IsS94.kept {w0 W : World} {g : Nat} {f0 : ByteArray} {f1 : Int} {f2 : Bool} {W1 : World} {S : Nat → Prop} (h : IsS94 w0 W g f0 f1 f2) (hk : Kept W W1 S) (hne : ¬ S g) : IsS94 w0 W1 g f0 f1 f2 := by
  obtain ⟨hb, hg⟩ := h
  exact ⟨blk_kept hb hk hne, hg⟩
theorem IsS94.below {w0 W : World} {g : Nat} {f0 : ByteArray} {f1 : Int} {f2 : Bool} {W1 : World} (h : IsS94 w0 W g f0 f1 f2) (hw : Below W.heap.size W W1) : IsS94 w0 W1 g f0 f1 f2 := h.grown (grown_of_below hw none) (by simp)
theorem IsS94.alloc {w0 W : World} {g : Nat} {f0 : ByteArray} {f1 : Int} {f2 : Bool} (h : IsS94 w0 W g f0 f1 f2) (o : Obj) : IsS94 w0 (W.alloc o) g f0 f1 f2 := h.below (below_alloc (Below.refl _ _) o)
theorem IsS94.drewN {w0 W : World} {g : Nat} {f0 : ByteArray} {f1 : Int} {f2 : Bool} (h : IsS94 w0 W g f0 f1 f2) (m : Nat) : IsS94 w0 (W.drewN m) g f0 f1 f2 := h
theorem IsS94.drew {w0 W : World} {g : Nat} {f0 : ByteArray} {f1 : Int} {f2 : Bool} (h : IsS94 w0 W g f0 f1 f2) : IsS94 w0 W.drew g f0 f1 f2 := h
theorem IsS94.at_ {w0 W : World} {g : Nat} {f0 : ByteArray} {f1 : Int} {f2 : Bool} {w' : World} {m : Nat} (hq : W.drewN m = w') (h : IsS94 w0 W g f0 f1 f2) : IsS94 w0 w' g f0 f1 f2 := by subst hq; exact IsS94.drewN h m
theorem IsS94.apart {w0 W : World} {g : Nat} {f0 : ByteArray} {f1 : Int} {f2 : Bool} {α : Type} {d : Kd α} {e : Nat} {base : Nat} {ok : Nat → Prop} {v : Value} {xs : List α} (h : IsS94 w0 W g f0 f1 f2) (ho : d.R e W base ok v xs) (ht : ∀ q, q ∈ e :: d.E → q ≠ 94) : d.R e W base (fun k => ok k ∧ k ≠ g) v xs := by
  obtain ⟨hb, hg⟩ := h
  exact Kd.R_types ho hb ht
theorem IsS94.own_ne {w0 W : World} {g : Nat} {f0 : ByteArray} {f1 : Int} {f2 : Bool} {α : Type} {d : Kd α} {e : Nat} {base : Nat} {ok : Nat → Prop} {v : Value} {xs : List α} (h : IsS94 w0 W g f0 f1 f2) (ho : d.R e W base ok v xs) (ht : e ≠ 94) : some g ≠ v.ownBlock := by
  obtain ⟨hb, hg⟩ := h
  exact Kd.R_ne ho hb ht
theorem IsS94.apartQ {w0 W : World} {g : Nat} {f0 : ByteArray} {f1 : Int} {f2 : Bool} {α : Type} {d : Kd α} {e : Nat} {base : Nat} {ok : Nat → Prop} {v : Value} {xs : List α} (h : IsS94 w0 W g f0 f1 f2) (ho : d.Q e W base ok v xs) (ht : ∀ q, q ∈ e :: d.E → q ≠ 94) : d.Q e W base (fun k => ok k ∧ k ≠ g) v xs := by
  obtain ⟨hb, hg⟩ := h
  exact Kd.Q_types ho hb ht
theorem IsS94.own_neQ {w0 W : World} {g : Nat} {f0 : ByteArray} {f1 : Int} {f2 : Bool} {α : Type} {d : Kd α} {e : Nat} {base : Nat} {ok : Nat → Prop} {v : Value} {xs : List α} (h : IsS94 w0 W g f0 f1 f2) (ho : d.Q e W base ok v xs) (ht : e ≠ 94) : some g ≠ v.ownBlock := by
  obtain ⟨hb, hg⟩ := h
  exact Kd.Q_ne ho hb ht
theorem IsS94.apartS {w0 W : World} {g : Nat} {f0 : ByteArray} {f1 : Int} {f2 : Bool} {α : Type} {d : Kd α} {e : Nat} {base : Nat} {ok : Nat → Prop} {v : Value} {xs : List α} (h : IsS94 w0 W g f0 f1 f2) (ho : d.S e W base ok v xs) (ht : ∀ q, q ∈ e :: d.E → q ≠ 94) : d.S e W base (fun k => ok k ∧ k ≠ g) v xs := by
  obtain ⟨hb, hg⟩ := h
  exact Kd.S_types ho hb ht
theorem IsS94.own_neS {w0 W : World} {g : Nat} {f0 : ByteArray} {f1 : Int} {f2 : Bool} {α : Type} {d : Kd α} {e : Nat} {base : Nat} {ok : Nat → Prop} {v : Value} {xs : List α} (h : IsS94 w0 W g f0 f1 f2) (ho : d.S e W base ok v xs) (ht : e ≠ 94) : some g ≠ v.ownBlock := by
  obtain ⟨hb, hg⟩ := h
  exact Kd.S_ne ho hb ht
theorem IsS94.lt {w0 W : World} {g : Nat} {f0 : ByteArray} {f1 : Int} {f2 : Bool} (h : IsS94 w0 W g f0 f1 f2) : g < W.heap.size := by
  obtain ⟨hb, hg⟩ := h
  exact blk_lt hb
theorem IsS94.ge {w0 W : World} {g : Nat} {f0 : ByteArray} {f1 : Int} {f2 : Bool} (h : IsS94 w0 W g f0 f1 f2) : w0.heap.size ≤ g := by
  obtain ⟨hb, hg⟩ := h
  exact hg
theorem IsS94.ne_blk {w0 W : World} {g : Nat} {f0 : ByteArray} {f1 : Int} {f2 : Bool} {a : Nat} {cs : Array Value} {t : TypeId} {fr : Nat × Nat} (h : IsS94 w0 W g f0 f1 f2) (hb2 : W.heap[a]? = some (.cells cs t fr)) (ht : t ≠ 94) : g ≠ a := by
  obtain ⟨hb, hg⟩ := h
  rintro rfl
  rw [hb] at hb2
  injection hb2 with hb2
  injection hb2 with _ ht2
  exact ht ht2.symm
theorem IsS94.far {w0 W : World} {g : Nat} {f0 : ByteArray} {f1 : Int} {f2 : Bool} {p : Addr} (h : IsS94 w0 W g f0 f1 f2) (hne : g ≠ p.block) (u : Value) : IsS94 w0 (W.setCell p u) g f0 f1 f2 := by
  obtain ⟨hb, hg⟩ := h
  exact ⟨blk_far hb hne u, hg⟩
theorem cellS94_0 {W : World} {g : Nat} {f0 : ByteArray} {f1 : Int} {f2 : Bool} (h : W.heap[g]? = some (.cells #[.string f0, .int .i64 f1, .bool f2] 94 (0, 0))) : W.cell? ⟨g, 0, none⟩ = some (.string f0) := (blk_cell h 0).trans rfl
theorem IsS94.set_0 {w0 W : World} {g : Nat} {f0 : ByteArray} {f1 : Int} {f2 : Bool} (h : IsS94 w0 W g f0 f1 f2) (x : ByteArray) : IsS94 w0 (W.setCell ⟨g, 0, none⟩ (.string x)) g x f1 f2 := by
  obtain ⟨hb, hg⟩ := h
  exact ⟨by simpa using blk_set hb 0 (.string x), hg⟩
theorem cellS94_1 {W : World} {g : Nat} {f0 : ByteArray} {f1 : Int} {f2 : Bool} (h : W.heap[g]? = some (.cells #[.string f0, .int .i64 f1, .bool f2] 94 (0, 0))) : W.cell? ⟨g, 1, none⟩ = some (.int .i64 f1) := (blk_cell h 1).trans rfl
theorem IsS94.set_1 {w0 W : World} {g : Nat} {f0 : ByteArray} {f1 : Int} {f2 : Bool} (h : IsS94 w0 W g f0 f1 f2) (x : Int) : IsS94 w0 (W.setCell ⟨g, 1, none⟩ (.int .i64 x)) g f0 x f2 := by
  obtain ⟨hb, hg⟩ := h
  exact ⟨by simpa using blk_set hb 1 (.int .i64 x), hg⟩
theorem cellS94_2 {W : World} {g : Nat} {f0 : ByteArray} {f1 : Int} {f2 : Bool} (h : W.heap[g]? = some (.cells #[.string f0, .int .i64 f1, .bool f2] 94 (0, 0))) : W.cell? ⟨g, 2, none⟩ = some (.bool f2) := (blk_cell h 2).trans rfl
theorem IsS94.set_2 {w0 W : World} {g : Nat} {f0 : ByteArray} {f1 : Int} {f2 : Bool} (h : IsS94 w0 W g f0 f1 f2) (x : Bool) : IsS94 w0 (W.setCell ⟨g, 2, none⟩ (.bool x)) g f0 f1 x := by
  obtain ⟨hb, hg⟩ := h
  exact ⟨by simpa using blk_set hb 2 (.bool x), hg⟩
theorem IsS94.new (w0 W : World) (f0 : ByteArray) (f1 : Int) (f2 : Bool) (hB : Below w0.heap.size w0 W) : IsS94 w0 (W.alloc (.cells #[.string f0, .int .i64 f1, .bool f2] 94)) W.heap.size f0 f1 f2 := ⟨by simpa using heap_alloc_new W _, hB.size⟩

theorem eqA83 (d : Nat) (w : World) (x0 y0 : ByteArray) (x1 y1 : ByteArray) :
    (Op.equalIn (d + 2) 83 (.agg #[.string x0, .string x1]) (.agg #[.string y0, .string y1])).run Tryd.prog w = .ok (x0.toList == y0.toList && (x1.toList == y1.toList)) w := by
  refine eqA_of Tryd.underlying83 (by kernel_rfl) ?_
  refine eqf_cons (by rfl) (by go_simp; rfl) (by go_simp; rfl) (by go_simp) ?_
  exact eqf_last (by rfl) (by go_simp; rfl) (by go_simp; rfl) (by go_simp)
end Go.Proofs.YtkhjpobhdpcglaaDoor.X
end
section
namespace Go.Proofs.YtkhjpobhdpcglaaDoor.X
open Go.RowKit Go.Proofs.YtkhjpobhdpcglaaDoorW.PrintWords Go.Proofs.YtkhjpobhdpcglaaDoorW.PrintLast Go.Proofs.YtkhjpobhdpcglaaDoorW.PrintMore
attribute [local go_sem] max2_int min2_int max_two min_two max_three min_three max_four min_four
set_option linter.unusedVariables false
set_option linter.unusedSimpArgs false

/-! ### xml_letter: function 62 -/
def xml_letter.f (a0 : Int) : Option (Bool) := if a0 ≥ 65 then (if a0 ≤ 90 then (some true) else (if a0 ≥ 97 then (if a0 ≤ 122 then (some true) else (some (a0 == 95))) else (some (a0 == 95)))) else (if a0 ≥ 97 then (if a0 ≤ 122 then (some true) else (some (a0 == 95))) else (some (a0 == 95)))
set_option maxHeartbeats 8000000 in
set_option maxRecDepth 100000 in
theorem xml_letter.calls (a0 : Int) (r : Bool) (w : World) (h : xml_letter.f a0 = some r) :
    Calls Tryd.prog 62 #[.int .u8 a0] w fun e w' => e = .returned (.bool r) ∧ Drawn0 w w' := by
  have H : (if a0 ≥ 65 then (if a0 ≤ 90 then (some true) else (if a0 ≥ 97 then (if a0 ≤ 122 then (some true) else (some (a0 == 95))) else (some (a0 == 95)))) else (if a0 ≥ 97 then (if a0 ≤ 122 then (some true) else (some (a0 == 95))) else (some (a0 == 95)))) = some r := h
  clear h
  by_cases c2 : a0 ≥ 65
  · rw [if_pos c2] at H
    have c2b0 : decide (65 ≤ a0) = true := decide_eq_true c2
    clear c2
    by_cases c3 : a0 ≤ 90
    · rw [if_pos c3] at H
      have c3b0 : decide (a0 ≤ 90) = true := decide_eq_true c3
      clear c3
      obtain rfl := Option.some.inj H
      go_enter Tryd.func62, Tryd.ntmps62
      go_wp2
      go_ret
      exact ⟨by first | rfl | (simp; done) | (simp [*]; done), by repeat (first | exact Drawn0.refl _ | apply Drawn0.step)⟩
    · rw [if_neg c3] at H
      have c3b0 : decide (a0 ≤ 90) = false := decide_eq_false c3
      clear c3
      by_cases c4 : a0 ≥ 97
      · rw [if_pos c4] at H
        have c4b0 : decide (97 ≤ a0) = true := decide_eq_true c4
        clear c4
        by_cases c5 : a0 ≤ 122
        · rw [if_pos c5] at H
          have c5b0 : decide (a0 ≤ 122) = true := decide_eq_true c5
          clear c5
          obtain rfl := Option.some.inj H
          go_enter Tryd.func62, Tryd.ntmps62
          go_wp2
          go_ret
          exact ⟨by first | rfl | (simp; done) | (simp [*]; done), by repeat (first | exact Drawn0.refl _ | apply Drawn0.step)⟩
        · rw [if_neg c5] at H
          have c5b0 : decide (a0 ≤ 122) = false := decide_eq_false c5
          clear c5
          obtain rfl := Option.some.inj H
          go_enter Tryd.func62, Tryd.ntmps62
          go_wp2
          go_ret
          exact ⟨by first | rfl | (simp; done) | (simp [*]; done), by repeat (first | exact Drawn0.refl _ | apply Drawn0.step)⟩
      · rw [if_neg c4] at H
        have c4b0 : decide (97 ≤ a0) = false := decide_eq_false c4
        clear c4
        obtain rfl := Option.some.inj H
        go_enter Tryd.func62, Tryd.ntmps62
        go_wp2
        go_ret
        exact ⟨by first | rfl | (simp; done) | (simp [*]; done), by repeat (first | exact Drawn0.refl _ | apply Drawn0.step)⟩
  · rw [if_neg c2] at H
    have c2b0 : decide (65 ≤ a0) = false := decide_eq_false c2
    clear c2
    by_cases c6 : a0 ≥ 97
    · rw [if_pos c6] at H
      have c6b0 : decide (97 ≤ a0) = true := decide_eq_true c6
      clear c6
      by_cases c7 : a0 ≤ 122
      · rw [if_pos c7] at H
        have c7b0 : decide (a0 ≤ 122) = true := decide_eq_true c7
        clear c7
        obtain rfl := Option.some.inj H
        go_enter Tryd.func62, Tryd.ntmps62
        go_wp2
        go_ret
        exact ⟨by first | rfl | (simp; done) | (simp [*]; done), by repeat (first | exact Drawn0.refl _ | apply Drawn0.step)⟩
      · rw [if_neg c7] at H
        have c7b0 : decide (a0 ≤ 122) = false := decide_eq_false c7
        clear c7
        obtain rfl := Option.some.inj H
        go_enter Tryd.func62, Tryd.ntmps62
        go_wp2
        go_ret
        exact ⟨by first | rfl | (simp; done) | (simp [*]; done), by repeat (first | exact Drawn0.refl _ | apply Drawn0.step)⟩
    · rw [if_neg c6] at H
      have c6b0 : decide (97 ≤ a0) = false := decide_eq_false c6
      clear c6
      obtain rfl := Option.some.inj H
      go_enter Tryd.func62, Tryd.ntmps62
      go_wp2
      go_ret
      exact ⟨by first | rfl | (simp; done) | (simp [*]; done), by repeat (first | exact Drawn0.refl _ | apply Drawn0.step)⟩

end Go.Proofs.YtkhjpobhdpcglaaDoor.X
end
section
namespace Go.Proofs.YtkhjpobhdpcglaaDoor.X
open Go.RowKit Go.Proofs.YtkhjpobhdpcglaaDoorW.PrintWords Go.Proofs.YtkhjpobhdpcglaaDoorW.PrintLast Go.Proofs.YtkhjpobhdpcglaaDoorW.PrintMore
attribute [local go_sem] max2_int min2_int max_two min_two max_three min_three max_four min_four
set_option linter.unusedVariables false
set_option linter.unusedSimpArgs false

/-! ### xml_inner: function 61 -/
def xml_inner.f (a0 : Int) : Option (Bool) := (xml_letter.f a0).bind fun t101 => (if t101 = true then (some true) else (if a0 ≥ 48 then (if a0 ≤ 57 then (some true) else (if a0 = 45 then (some true) else (some (a0 == 46)))) else (if a0 = 45 then (some true) else (some (a0 == 46)))))
set_option maxHeartbeats 8000000 in
set_option maxRecDepth 100000 in
theorem xml_inner.calls (a0 : Int) (r : Bool) (w : World) (h : xml_inner.f a0 = some r) :
    Calls Tryd.prog 61 #[.int .u8 a0] w fun e w' => e = .returned (.bool r) ∧ Drawn0 w w' := by
  have H : ((xml_letter.f a0).bind fun t101 => (if t101 = true then (some true) else (if a0 ≥ 48 then (if a0 ≤ 57 then (some true) else (if a0 = 45 then (some true) else (some (a0 == 46)))) else (if a0 = 45 then (some true) else (some (a0 == 46)))))) = some r := h
  clear h
  replace H := Option.bind_eq_some_iff.mp H
  obtain ⟨t101, A20, H⟩ := H
  replace H : (if t101 = true then (some true) else (if a0 ≥ 48 then (if a0 ≤ 57 then (some true) else (if a0 = 45 then (some true) else (some (a0 == 46)))) else (if a0 = 45 then (some true) else (some (a0 == 46))))) = some r := H
  have A2 := Aside0.mk A20
  clear A20
  by_cases c3 : t101 = true
  · subst c3
    have H1 : (some true) = some r := by rw [if_pos rfl] at H; exact H
    clear H
    have H := H1
    clear H1
    obtain rfl := Option.some.inj H
    go_enter Tryd.func61, Tryd.ntmps61
    go_wp2_with (first | ((with_reducible refine gate_callee (f := 62) rfl ?_); refine goesL_ (some 4) rfl rfl Tryd.func62 (by kernel_rfl) rfl #[.int .u8 a0] rfl (by (try simp only [List.map_toArray, List.map_cons, List.map_nil]); first | done | rfl | (simp only [List.length_drop, List.length_take]; rfl)) ?_; (with_reducible refine (xml_letter.calls a0 true _ A2.out).mono ?_); rintro e w' ⟨rfl, ⟨nd, rfl⟩⟩; refine ⟨_, rfl, ?_⟩))
    go_ret
    exact ⟨by first | rfl | (simp; done) | (simp [*]; done), by repeat (first | exact Drawn0.refl _ | apply Drawn0.step)⟩
  · replace c3 := Bool.eq_false_iff.mpr c3
    subst c3
    have H1 : (if a0 ≥ 48 then (if a0 ≤ 57 then (some true) else (if a0 = 45 then (some true) else (some (a0 == 46)))) else (if a0 = 45 then (some true) else (some (a0 == 46)))) = some r := by rw [if_neg (show ¬ (false = true) by decide)] at H; exact H
    clear H
    have H := H1
    clear H1
    by_cases c4 : a0 ≥ 48
    · rw [if_pos c4] at H
      have c4b0 : decide (48 ≤ a0) = true := decide_eq_true c4
      clear c4
      by_cases c5 : a0 ≤ 57
      · rw [if_pos c5] at H
        have c5b0 : decide (a0 ≤ 57) = true := decide_eq_true c5
        clear c5
        obtain rfl := Option.some.inj H
        go_enter Tryd.func61, Tryd.ntmps61
        go_wp2_with (first | ((with_reducible refine gate_callee (f := 62) rfl ?_); refine goesL_ (some 4) rfl rfl Tryd.func62 (by kernel_rfl) rfl #[.int .u8 a0] rfl (by (try simp only [List.map_toArray, List.map_cons, List.map_nil]); first | done | rfl | (simp only [List.length_drop, List.length_take]; rfl)) ?_; (with_reducible refine (xml_letter.calls a0 false _ A2.out).mono ?_); rintro e w' ⟨rfl, ⟨nd, rfl⟩⟩; refine ⟨_, rfl, ?_⟩))
        go_ret
        exact ⟨by first | rfl | (simp; done) | (simp [*]; done), by repeat (first | exact Drawn0.refl _ | apply Drawn0.step)⟩
      · rw [if_neg c5] at H
        have c5b0 : decide (a0 ≤ 57) = false := decide_eq_false c5
        clear c5
        by_cases c6 : a0 = 45
        · rw [if_pos c6] at H
          have c6b0 : (a0 == 45) = true := beq_iff_eq.mpr c6
          have c6b1 : (a0 != 45) = false := bne_eq_false_iff_eq.mpr c6
          clear c6
          obtain rfl := Option.some.inj H
          go_enter Tryd.func61, Tryd.ntmps61
          go_wp2_with (first | ((with_reducible refine gate_callee (f := 62) rfl ?_); refine goesL_ (some 4) rfl rfl Tryd.func62 (by kernel_rfl) rfl #[.int .u8 a0] rfl (by (try simp only [List.map_toArray, List.map_cons, List.map_nil]); first | done | rfl | (simp only [List.length_drop, List.length_take]; rfl)) ?_; (with_reducible refine (xml_letter.calls a0 false _ A2.out).mono ?_); rintro e w' ⟨rfl, ⟨nd, rfl⟩⟩; refine ⟨_, rfl, ?_⟩))
          go_ret
          exact ⟨by first | rfl | (simp; done) | (simp [*]; done), by repeat (first | exact Drawn0.refl _ | apply Drawn0.step)⟩
        · rw [if_neg c6] at H
          have c6b0 : (a0 == 45) = false := beq_eq_false_iff_ne.mpr c6
          have c6b1 : (a0 != 45) = true := bne_iff_ne.mpr c6
          obtain rfl := Option.some.inj H
          go_enter Tryd.func61, Tryd.ntmps61
          go_wp2_with (first | ((with_reducible refine gate_callee (f := 62) rfl ?_); refine goesL_ (some 4) rfl rfl Tryd.func62 (by kernel_rfl) rfl #[.int .u8 a0] rfl (by (try simp only [List.map_toArray, List.map_cons, List.map_nil]); first | done | rfl | (simp only [List.length_drop, List.length_take]; rfl)) ?_; (with_reducible refine (xml_letter.calls a0 false _ A2.out).mono ?_); rintro e w' ⟨rfl, ⟨nd, rfl⟩⟩; refine ⟨_, rfl, ?_⟩))
          go_ret
          exact ⟨by first | rfl | (simp; done) | (simp [*]; done), by repeat (first | exact Drawn0.refl _ | apply Drawn0.step)⟩
    · rw [if_neg c4] at H
      have c4b0 : decide (48 ≤ a0) = false := decide_eq_false c4
      clear c4
      by_cases c7 : a0 = 45
      · rw [if_pos c7] at H
        have c7b0 : (a0 == 45) = true := beq_iff_eq.mpr c7
        have c7b1 : (a0 != 45) = false := bne_eq_false_iff_eq.mpr c7
        clear c7
        obtain rfl := Option.some.inj H
        go_enter Tryd.func61, Tryd.ntmps61
        go_wp2_with (first | ((with_reducible refine gate_callee (f := 62) rfl ?_); refine goesL_ (some 4) rfl rfl Tryd.func62 (by kernel_rfl) rfl #[.int .u8 a0] rfl (by (try simp only [List.map_toArray, List.map_cons, List.map_nil]); first | done | rfl | (simp only [List.length_drop, List.length_take]; rfl)) ?_; (with_reducible refine (xml_letter.calls a0 false _ A2.out).mono ?_); rintro e w' ⟨rfl, ⟨nd, rfl⟩⟩; refine ⟨_, rfl, ?_⟩))
        go_ret
        exact ⟨by first | rfl | (simp; done) | (simp [*]; done), by repeat (first | exact Drawn0.refl _ | apply Drawn0.step)⟩
      · rw [if_neg c7] at H
        have c7b0 : (a0 == 45) = false := beq_eq_false_iff_ne.mpr c7
        have c7b1 : (a0 != 45) = true := bne_iff_ne.mpr c7
        obtain rfl := Option.some.inj H
        go_enter Tryd.func61, Tryd.ntmps61
        go_wp2_with (first | ((with_reducible refine gate_callee (f := 62) rfl ?_); refine goesL_ (some 4) rfl rfl Tryd.func62 (by kernel_rfl) rfl #[.int .u8 a0] rfl (by (try simp only [List.map_toArray, List.map_cons, List.map_nil]); first | done | rfl | (simp only [List.length_drop, List.length_take]; rfl)) ?_; (with_reducible refine (xml_letter.calls a0 false _ A2.out).mono ?_); rintro e w' ⟨rfl, ⟨nd, rfl⟩⟩; refine ⟨_, rfl, ?_⟩))
        go_ret
        exact ⟨by first | rfl | (simp; done) | (simp [*]; done), by repeat (first | exact Drawn0.refl _ | apply Drawn0.step)⟩

end Go.Proofs.YtkhjpobhdpcglaaDoor.X
end
section
namespace Go.Proofs.YtkhjpobhdpcglaaDoor.X
open Go.RowKit Go.Proofs.YtkhjpobhdpcglaaDoorW.PrintWords Go.Proofs.YtkhjpobhdpcglaaDoorW.PrintLast Go.Proofs.YtkhjpobhdpcglaaDoorW.PrintMore
set_option linter.unusedVariables false
set_option linter.unusedSimpArgs false

/-- may a name begin with a byte, and go on with it -/
def letterV (c : Int) : Bool := (decide (65 ≤ c) && decide (c ≤ 90)) || (decide (97 ≤ c) && decide (c ≤ 122)) || c == 95
def innerV (c : Int) : Bool := letterV c || (decide (48 ≤ c) && decide (c ≤ 57)) || c == 45 || c == 46
theorem letter_f (c : Int) : xml_letter.f c = some (letterV c) := by
  unfold xml_letter.f letterV
  repeat' split
  all_goals simp_all
  all_goals omega
theorem inner_f (c : Int) : xml_inner.f c = some (innerV c) := by
  unfold xml_inner.f innerV
  rw [letter_f]
  simp only [Option.bind_some]
  cases letterV c
  · simp only [Bool.false_eq_true, if_false, Bool.false_or]
    repeat' split
    all_goals simp_all
    all_goals omega
  · simp
theorem letter_inner {c : Int} (h : letterV c = true) : innerV c = true := by simp [innerV, h]

def nameB (s : ByteArray) : Nat → Nat → Bool
  | 0, _ => decide (s.size ≠ 0)
  | b + 1, i => if i < s.size then (innerV (bt s i) && (decide (i ≠ 0) || letterV (bt s i)) && nameB s b (i + 1)) else decide (s.size ≠ 0)
theorem nameB_end (s : ByteArray) (b i : Nat) (h : ¬ i < s.size) : nameB s b i = decide (s.size ≠ 0) := by
  cases b with
  | zero => rfl
  | succ b => simp [nameB, h]
def nameV (s : ByteArray) : Bool := nameB s s.size 0
def xml_Name.f (a0 : ByteArray) : Option Bool := if a0.size ≤ 4611686018427387904 then some (nameV a0) else none
set_option maxHeartbeats 1000000 in
set_option maxRecDepth 1000000 in
theorem xml_Name.calls (a0 : ByteArray) (r : Bool) (w : World) (h : xml_Name.f a0 = some r) :
    Calls Tryd.prog 23 #[.string a0] w fun e w' => e = .returned (.bool r) ∧ Drawn0 w w' := by
  unfold xml_Name.f at h
  split at h
  case isFalse => cases h
  rename_i hs
  have hv := Option.some.inj h
  have H := Aside0.mk hv
  clear h hv
  go_enter Tryd.func23, Tryd.ntmps23
  go_wp2
  go_loopw [6] (fun v w' => ∃ (i b : Nat), v = .int .i64 i ∧ Drawn0 w w' ∧ Aside0 (nameB a0 b i = r) ∧ a0.size ≤ i + b ∧ i ≤ a0.size) (fun v _ => a0.size - (intOf v).toNat)
  case atStart => exact ⟨0, a0.size, rfl, Drawn0.refl _, H, by omega, by omega⟩
  case round =>
    obtain ⟨i, b, rfl, ⟨m, rfl⟩, HC, hb, hi⟩ := hrel
    by_cases hlt : i < a0.size
    · obtain ⟨b, rfl⟩ : ∃ b', b = b' + 1 := ⟨b - 1, by omega⟩
      have hx5 : ∀ h : i < a0.size, ((a0[i]'h).toNat : Int) = bt a0 i := fun h => by simp [bt, h]
      have HI := Aside0.mk (inner_f (bt a0 i))
      have HL := Aside0.mk (letter_f (bt a0 i))
      have HC2 := Aside0.mk (HC.out)
      simp only [nameB, if_pos hlt] at HC2
      cases h1 : innerV (bt a0 i) with
      | false =>
        rw [h1] at HI HC2
        simp only [Bool.false_and] at HC2
        obtain rfl := HC2.out
        go_wp2_with (go_at_call 61; (with_reducible refine (xml_inner.calls _ _ _ HI.out).mono ?_); rintro e w' ⟨rfl, ⟨nd, rfl⟩⟩)
        all_goals (go_ret; exact ⟨rfl, ⟨⟨_, rfl⟩⟩⟩)
      | true =>
        rw [h1] at HI HC2
        by_cases h0 : i = 0
        · have h0b : ((i : Int) == 0) = true := by simp [h0]
          cases h2 : letterV (bt a0 i) with
          | false =>
            rw [h2] at HL HC2
            obtain rfl : false = r := by have := HC2.out; simpa [h0] using this
            clear h0 HC HC2
            go_wp2_with (first | (go_at_call 61; (with_reducible refine (xml_inner.calls _ _ _ HI.out).mono ?_); rintro e w' ⟨rfl, ⟨nd, rfl⟩⟩) | (go_at_call 62; (with_reducible refine (xml_letter.calls _ _ _ HL.out).mono ?_); rintro e w' ⟨rfl, ⟨nd, rfl⟩⟩))
            go_ret
            exact ⟨rfl, ⟨⟨_, rfl⟩⟩⟩
          | true =>
            rw [h2] at HL HC2
            have HC3 : Aside0 (nameB a0 b (i + 1) = r) := ⟨by have := HC2.out; simpa [h0] using this⟩
            clear HC HC2 h0
            go_wp2_with (first | (go_at_call 61; (with_reducible refine (xml_inner.calls _ _ _ HI.out).mono ?_); rintro e w' ⟨rfl, ⟨nd, rfl⟩⟩) | (go_at_call 62; (with_reducible refine (xml_letter.calls _ _ _ HL.out).mono ?_); rintro e w' ⟨rfl, ⟨nd, rfl⟩⟩))
            go_roundw
            case rel => exact ⟨i + 1, b, by go_num, ⟨⟨_, rfl⟩⟩, HC3, by omega, by omega⟩
            case measure => simp [intOf]; omega
        · have h0b : ((i : Int) == 0) = false := by simp [h0]
          have HC3 : Aside0 (nameB a0 b (i + 1) = r) := ⟨by have := HC2.out; simpa [h0] using this⟩
          clear HC HC2
          go_wp2_with (first | (go_at_call 61; (with_reducible refine (xml_inner.calls _ _ _ HI.out).mono ?_); rintro e w' ⟨rfl, ⟨nd, rfl⟩⟩) | (go_at_call 62; (with_reducible refine (xml_letter.calls _ _ _ HL.out).mono ?_); rintro e w' ⟨rfl, ⟨nd, rfl⟩⟩))
          go_roundw
          case rel => exact ⟨i + 1, b, by go_num, ⟨⟨_, rfl⟩⟩, HC3, by omega, by omega⟩
          case measure => simp [intOf]; omega
    · have HC2 := HC.out
      rw [nameB_end a0 b i hlt] at HC2
      subst HC2
      have hsz : a0.toList.length = a0.size := by rw [ByteArray.toList_eq]; simp
      cases he : a0.toList.isEmpty with
      | true =>
        have h1 : decide (a0.size ≠ 0) = false := by rw [List.isEmpty_iff] at he; rw [he] at hsz; simp at hsz; simp [← hsz]
        have H1 := Aside0.mk h1
        clear h1 hsz hs
        go_wp2
        go_ret
        exact ⟨by rw [H1.out]; rfl, ⟨⟨_, rfl⟩⟩⟩
      | false =>
        have h1 : decide (a0.size ≠ 0) = true := by
          have : a0.toList ≠ [] := by rw [← List.isEmpty_eq_false_iff]; exact he
          have := List.length_pos_iff.2 this
          rw [hsz] at this
          exact decide_eq_true (by omega)
        have H1 := Aside0.mk h1
        clear h1 hsz hs
        go_wp2
        go_ret
        exact ⟨by rw [H1.out]; rfl, ⟨⟨_, rfl⟩⟩⟩
end Go.Proofs.YtkhjpobhdpcglaaDoor.X
end
section
namespace Go.Proofs.YtkhjpobhdpcglaaDoor.X
open Go.RowKit Go.Proofs.YtkhjpobhdpcglaaDoorW.PrintWords Go.Proofs.YtkhjpobhdpcglaaDoorW.PrintLast Go.Proofs.YtkhjpobhdpcglaaDoorW.PrintMore
attribute [local go_sem] max2_int min2_int max_two min_two max_three min_three max_four min_four
set_option linter.unusedVariables false
set_option linter.unusedSimpArgs false

/-! ### chars_legal: function 87 -/
mutual
def chars_legal.j0 : Nat → Int → Bool → Option (Bool)
  | 0, _, _ => none
  | k + 1, x0, x3 => if x3 = true then (some true) else (if x0 ≥ 57344 then (chars_legal.j1 k x0 (decide (x0 ≤ 65533))) else (chars_legal.j1 k x0 false))
def chars_legal.j1 : Nat → Int → Bool → Option (Bool)
  | 0, _, _ => none
  | k + 1, x0, x3 => if x3 = true then (some true) else (if x0 ≥ 65536 then (some true) else (some false))
end
def chars_legal.f (k : Nat) (a0 : Int) : Option (Bool) := if a0 = 9 then (some true) else (if a0 = 10 then (some true) else (if a0 = 13 then (some true) else (if a0 ≥ 32 then (chars_legal.j0 k a0 (decide (a0 ≤ 55295))) else (chars_legal.j0 k a0 false))))
theorem chars_legal.mono_l : ∀ k, (∀ y0 y1, LeO (chars_legal.j0 k y0 y1) (chars_legal.j0 (k + 1) y0 y1)) ∧ (∀ y0 y1, LeO (chars_legal.j1 k y0 y1) (chars_legal.j1 (k + 1) y0 y1))
  | 0 => ⟨fun _ _ r h => by simp [chars_legal.j0] at h, fun _ _ r h => by simp [chars_legal.j1] at h⟩
  | k + 1 => by
    obtain ⟨ih0, ih1⟩ := chars_legal.mono_l k
    refine ⟨?_, ?_⟩
    · intro y0 y1
      unfold chars_legal.j0
      repeat' first
      | (with_reducible exact ih0 _ _)
      | (with_reducible exact ih1 _ _)
      | (with_reducible exact LeO.refl _)
      | (with_reducible exact LeO.none _)
      | (with_reducible refine LeO.ite ?_ ?_)
      | (with_reducible refine LeO.bind ?_ (fun _ => ?_))
      | exact ih0 _ _
      | exact ih1 _ _
      | exact LeO.none _
      | refine LeO.ite ?_ ?_
      | refine LeO.bind ?_ (fun _ => ?_)
    · intro y0 y1
      unfold chars_legal.j1
      repeat' first
      | (with_reducible exact ih0 _ _)
      | (with_reducible exact ih1 _ _)
      | (with_reducible exact LeO.refl _)
      | (with_reducible exact LeO.none _)
      | (with_reducible refine LeO.ite ?_ ?_)
      | (with_reducible refine LeO.bind ?_ (fun _ => ?_))
      | exact ih0 _ _
      | exact ih1 _ _
      | exact LeO.none _
      | refine LeO.ite ?_ ?_
      | refine LeO.bind ?_ (fun _ => ?_)
theorem chars_legal.mono : ∀ a0 k, LeO (chars_legal.f k a0) (chars_legal.f (k + 1) a0) := by
  intro a0 k
  obtain ⟨ih0, ih1⟩ := chars_legal.mono_l k
  unfold chars_legal.f
  repeat' first
      | (with_reducible exact ih0 _ _)
      | (with_reducible exact ih1 _ _)
      | (with_reducible exact LeO.refl _)
      | (with_reducible exact LeO.none _)
      | (with_reducible refine LeO.ite ?_ ?_)
      | (with_reducible refine LeO.bind ?_ (fun _ => ?_))
      | exact ih0 _ _
      | exact ih1 _ _
      | exact LeO.none _
      | refine LeO.ite ?_ ?_
      | refine LeO.bind ?_ (fun _ => ?_)
set_option maxHeartbeats 8000000 in
set_option maxRecDepth 100000 in
theorem chars_legal.calls (k : Nat) (a0 : Int) (r : Bool) (w : World) (h : chars_legal.f k a0 = some r) :
    Calls Tryd.prog 87 #[.int .i32 a0] w fun e w' => e = .returned (.bool r) ∧ Drawn0 w w' := by
  have H : (if a0 = 9 then (some true) else (if a0 = 10 then (some true) else (if a0 = 13 then (some true) else (if a0 ≥ 32 then (chars_legal.j0 k a0 (decide (a0 ≤ 55295))) else (chars_legal.j0 k a0 false))))) = some r := h
  clear h
  by_cases c2 : a0 = 9
  · rw [if_pos c2] at H
    have c2b0 : (a0 == 9) = true := beq_iff_eq.mpr c2
    have c2b1 : (a0 != 9) = false := bne_eq_false_iff_eq.mpr c2
    clear c2
    obtain rfl := Option.some.inj H
    go_enter Tryd.func87, Tryd.ntmps87
    go_wp2
    go_ret
    exact ⟨by first | rfl | (simp; done) | (simp [*]; done), by repeat (first | exact Drawn0.refl _ | apply Drawn0.step)⟩
  · rw [if_neg c2] at H
    have c2b0 : (a0 == 9) = false := beq_eq_false_iff_ne.mpr c2
    have c2b1 : (a0 != 9) = true := bne_iff_ne.mpr c2
    by_cases c3 : a0 = 10
    · rw [if_pos c3] at H
      have c3b0 : (a0 == 10) = true := beq_iff_eq.mpr c3
      have c3b1 : (a0 != 10) = false := bne_eq_false_iff_eq.mpr c3
      clear c3
      obtain rfl := Option.some.inj H
      go_enter Tryd.func87, Tryd.ntmps87
      go_wp2
      go_ret
      exact ⟨by first | rfl | (simp; done) | (simp [*]; done), by repeat (first | exact Drawn0.refl _ | apply Drawn0.step)⟩
    · rw [if_neg c3] at H
      have c3b0 : (a0 == 10) = false := beq_eq_false_iff_ne.mpr c3
      have c3b1 : (a0 != 10) = true := bne_iff_ne.mpr c3
      by_cases c4 : a0 = 13
      · rw [if_pos c4] at H
        have c4b0 : (a0 == 13) = true := beq_iff_eq.mpr c4
        have c4b1 : (a0 != 13) = false := bne_eq_false_iff_eq.mpr c4
        clear c4
        obtain rfl := Option.some.inj H
        go_enter Tryd.func87, Tryd.ntmps87
        go_wp2
        go_ret
        exact ⟨by first | rfl | (simp; done) | (simp [*]; done), by repeat (first | exact Drawn0.refl _ | apply Drawn0.step)⟩
      · rw [if_neg c4] at H
        have c4b0 : (a0 == 13) = false := beq_eq_false_iff_ne.mpr c4
        have c4b1 : (a0 != 13) = true := bne_iff_ne.mpr c4
        have HC5 := Aside0.mk H
        clear H
        go_enter Tryd.func87, Tryd.ntmps87
        go_upto_region 4 with (fail)
        go_cut [3] (fun v3 wc => ∃ (kq : Nat) (x3_4 : Bool), v3 = .bool x3_4 ∧ Aside0 (chars_legal.j0 kq a0 x3_4 = some r) ∧ Aside0 (kq ≤ k) ∧ Drawn0 w wc)
        case first =>
          have H := HC5.out
          clear HC5
          by_cases c6 : a0 ≥ 32
          · rw [if_pos c6] at H
            have c6b0 : decide (32 ≤ a0) = true := decide_eq_true c6
            clear c6
            (first | rw [c6b0] | (simp only [i64_w, i32_w]; rw [c6b0]) | skip)
            have H' := Aside0.mk H
            clear H
            go_wp2
            go_meet
            case rel => exact ⟨_, (decide (a0 ≤ 55295)), (by first | rfl | (simp; done) | (simp [*]; done)), H', ⟨by first | omega | exact Nat.le_refl _⟩, by repeat (first | exact Drawn0.refl _ | apply Drawn0.step)⟩
          · rw [if_neg c6] at H
            have c6b0 : decide (32 ≤ a0) = false := decide_eq_false c6
            clear c6
            (first | rw [c6b0] | (simp only [i64_w, i32_w]; rw [c6b0]) | skip)
            have H' := Aside0.mk H
            clear H
            go_wp2
            go_meet
            case rel => exact ⟨_, (false), (by first | rfl | (simp; done) | (simp [*]; done)), H', ⟨by first | omega | exact Nat.le_refl _⟩, by repeat (first | exact Drawn0.refl _ | apply Drawn0.step)⟩
        case rest =>
          clear HC5
          try clear c2
          try clear c2b0
          try clear c2b1
          try clear p2
          try clear c3
          try clear c3b0
          try clear c3b1
          try clear c4
          try clear c4b0
          try clear c4b1
          try clear c6
          try clear c6b0
          obtain ⟨kq, x3_4, rfl, HA, HJ4, ⟨mc4, rfl⟩⟩ := hcut
          cases kq with
          | zero => exact absurd HA.out (by simp [chars_legal.j0])
          | succ kj4 =>
            have H := HA.out
            clear HA
            simp only [chars_legal.j0] at H
            by_cases c7 : x3_4 = true
            · subst c7
              have H1 : (some true) = some r := by rw [if_pos rfl] at H; exact H
              clear H
              have H := H1
              clear H1
              obtain rfl := Option.some.inj H
              go_wp2
              go_ret
              exact ⟨by first | rfl | (simp; done) | (simp [*]; done), by repeat (first | exact Drawn0.refl _ | apply Drawn0.step)⟩
            · replace c7 := Bool.eq_false_iff.mpr c7
              subst c7
              have H1 : (if a0 ≥ 57344 then (chars_legal.j1 kj4 a0 (decide (a0 ≤ 65533))) else (chars_legal.j1 kj4 a0 false)) = some r := by rw [if_neg (show ¬ (false = true) by decide)] at H; exact H
              clear H
              have H := H1
              clear H1
              have HC8 := Aside0.mk H
              clear H
              go_upto_region 5 with (fail)
              go_cut [3] (fun v3 wc => ∃ (kq : Nat) (x3_7 : Bool), v3 = .bool x3_7 ∧ Aside0 (chars_legal.j1 kq a0 x3_7 = some r) ∧ Aside0 (kq ≤ kj4) ∧ Drawn0 w wc)
              case first =>
                have H := HC8.out
                clear HC8
                by_cases c9 : a0 ≥ 57344
                · rw [if_pos c9] at H
                  have c9b0 : decide (57344 ≤ a0) = true := decide_eq_true c9
                  clear c9
                  (first | rw [c9b0] | (simp only [i64_w, i32_w]; rw [c9b0]) | skip)
                  have H' := Aside0.mk H
                  clear H
                  go_wp2
                  go_meet
                  case rel => exact ⟨_, (decide (a0 ≤ 65533)), (by first | rfl | (simp; done) | (simp [*]; done)), H', ⟨by have := HJ4.out; first | omega | exact Nat.le_refl _⟩, by repeat (first | exact Drawn0.refl _ | apply Drawn0.step)⟩
                · rw [if_neg c9] at H
                  have c9b0 : decide (57344 ≤ a0) = false := decide_eq_false c9
                  clear c9
                  (first | rw [c9b0] | (simp only [i64_w, i32_w]; rw [c9b0]) | skip)
                  have H' := Aside0.mk H
                  clear H
                  go_wp2
                  go_meet
                  case rel => exact ⟨_, (false), (by first | rfl | (simp; done) | (simp [*]; done)), H', ⟨by have := HJ4.out; first | omega | exact Nat.le_refl _⟩, by repeat (first | exact Drawn0.refl _ | apply Drawn0.step)⟩
              case rest =>
                clear HC8
                try clear c2
                try clear c2b0
                try clear c2b1
                try clear p2
                try clear c3
                try clear c3b0
                try clear c3b1
                try clear c4
                try clear c4b0
                try clear c4b1
                try clear c6
                try clear c6b0
                try clear c7
                try clear c8
                try clear c9
                try clear c9b0
                try clear p2
                obtain ⟨kq, x3_7, rfl, HA, HJ7, ⟨mc7, rfl⟩⟩ := hcut
                cases kq with
                | zero => exact absurd HA.out (by simp [chars_legal.j1])
                | succ kj7 =>
                  have H := HA.out
                  clear HA
                  simp only [chars_legal.j1] at H
                  by_cases c10 : x3_7 = true
                  · subst c10
                    have H1 : (some true) = some r := by rw [if_pos rfl] at H; exact H
                    clear H
                    have H := H1
                    clear H1
                    obtain rfl := Option.some.inj H
                    go_wp2
                    go_ret
                    exact ⟨by first | rfl | (simp; done) | (simp [*]; done), by repeat (first | exact Drawn0.refl _ | apply Drawn0.step)⟩
                  · replace c10 := Bool.eq_false_iff.mpr c10
                    subst c10
                    have H1 : (if a0 ≥ 65536 then (some true) else (some false)) = some r := by rw [if_neg (show ¬ (false = true) by decide)] at H; exact H
                    clear H
                    have H := H1
                    clear H1
                    by_cases c11 : a0 ≥ 65536
                    · rw [if_pos c11] at H
                      have c11b0 : decide (65536 ≤ a0) = true := decide_eq_true c11
                      clear c11
                      obtain rfl := Option.some.inj H
                      go_wp2
                      go_ret
                      exact ⟨by first | rfl | (simp; done) | (simp [*]; done), by repeat (first | exact Drawn0.refl _ | apply Drawn0.step)⟩
                    · rw [if_neg c11] at H
                      have c11b0 : decide (65536 ≤ a0) = false := decide_eq_false c11
                      clear c11
                      obtain rfl := Option.some.inj H
                      go_wp2
                      go_ret
                      exact ⟨by first | rfl | (simp; done) | (simp [*]; done), by repeat (first | exact Drawn0.refl _ | apply Drawn0.step)⟩

end Go.Proofs.YtkhjpobhdpcglaaDoor.X
end
section
namespace Go.Proofs.YtkhjpobhdpcglaaDoor.X
open Go.RowKit Go.Proofs.YtkhjpobhdpcglaaDoorW.PrintWords Go.Proofs.YtkhjpobhdpcglaaDoorW.PrintLast Go.Proofs.YtkhjpobhdpcglaaDoorW.PrintMore
attribute [local go_sem] max2_int min2_int max_two min_two max_three min_three max_four min_four
set_option linter.unusedVariables false
set_option linter.unusedSimpArgs false

/-! ### stringslite_HasPrefix: function 128 -/
def stringslite_HasPrefix.f (a0 : ByteArray) (a1 : ByteArray) : Option (Bool) := if (a0.size : Int) ≥ (a1.size : Int) then (if 0 ≤ (a1.size : Int) then (if (a1.size : Int) ≤ (a0.size : Int) then (some ((a0.extract 0 ((a1.size : Int) : Int).toNat).toList == a1.toList)) else (none)) else (none)) else (some false)
set_option maxHeartbeats 8000000 in
set_option maxRecDepth 100000 in
theorem stringslite_HasPrefix.calls (a0 : ByteArray) (a1 : ByteArray) (r : Bool) (w : World) (h : stringslite_HasPrefix.f a0 a1 = some r) :
    Calls Tryd.prog 128 #[.string a0, .string a1] w fun e w' => e = .returned (.bool r) ∧ Drawn0 w w' := by
  have H : (if (a0.size : Int) ≥ (a1.size : Int) then (if 0 ≤ (a1.size : Int) then (if (a1.size : Int) ≤ (a0.size : Int) then (some ((a0.extract 0 ((a1.size : Int) : Int).toNat).toList == a1.toList)) else (none)) else (none)) else (some false)) = some r := h
  clear h
  by_cases c3 : (a0.size : Int) ≥ (a1.size : Int)
  · rw [if_pos c3] at H
    have c3b0 : decide ((a1.size : Int) ≤ (a0.size : Int)) = true := decide_eq_true c3
    have c3b1 : decide (a1.size ≤ a0.size) = true := decide_eq_true (Int.ofNat_le.mp c3)
    clear c3
    by_cases c4 : 0 ≤ (a1.size : Int)
    · rw [if_pos c4] at H
      have c4b0 := eq_true c4
      have c4b1 : decide (0 ≤ (a1.size : Int)) = true := decide_eq_true c4
      clear c4
      by_cases c5 : (a1.size : Int) ≤ (a0.size : Int)
      · rw [if_pos c5] at H
        have c5b0 := eq_true c5
        have c5b1 : decide ((a1.size : Int) ≤ (a0.size : Int)) = true := decide_eq_true c5
        clear c5
        obtain rfl := Option.some.inj H
        go_enter Tryd.func128, Tryd.ntmps128
        go_wp2
        go_ret
        exact ⟨by first | rfl | (simp; done) | (simp [*]; done), by repeat (first | exact Drawn0.refl _ | apply Drawn0.step)⟩
      · rw [if_neg c5] at H
        exact absurd H (by simp)
    · rw [if_neg c4] at H
      exact absurd H (by simp)
  · rw [if_neg c3] at H
    have c3b0 : decide ((a1.size : Int) ≤ (a0.size : Int)) = false := decide_eq_false c3
    have c3b1 : decide (a1.size ≤ a0.size) = false := decide_eq_false (fun h => c3 (Int.ofNat_le.mpr h))
    clear c3
    obtain rfl := Option.some.inj H
    go_enter Tryd.func128, Tryd.ntmps128
    go_wp2
    go_ret
    exact ⟨by first | rfl | (simp; done) | (simp [*]; done), by repeat (first | exact Drawn0.refl _ | apply Drawn0.step)⟩

end Go.Proofs.YtkhjpobhdpcglaaDoor.X
end
section
namespace Go.Proofs.YtkhjpobhdpcglaaDoor.X
open Go.RowKit Go.Proofs.YtkhjpobhdpcglaaDoorW.PrintWords Go.Proofs.YtkhjpobhdpcglaaDoorW.PrintLast Go.Proofs.YtkhjpobhdpcglaaDoorW.PrintMore
attribute [local go_sem] max2_int min2_int max_two min_two max_three min_three max_four min_four
set_option linter.unusedVariables false
set_option linter.unusedSimpArgs false

/-! ### strings_HasPrefix: function 89 -/
def strings_HasPrefix.f (a0 : ByteArray) (a1 : ByteArray) : Option (Bool) := (stringslite_HasPrefix.f a0 a1).bind fun t101 => (some t101)
set_option maxHeartbeats 8000000 in
set_option maxRecDepth 100000 in
theorem strings_HasPrefix.calls (a0 : ByteArray) (a1 : ByteArray) (r : Bool) (w : World) (h : strings_HasPrefix.f a0 a1 = some r) :
    Calls Tryd.prog 89 #[.string a0, .string a1] w fun e w' => e = .returned (.bool r) ∧ Drawn0 w w' := by
  have H : ((stringslite_HasPrefix.f a0 a1).bind fun t101 => (some t101)) = some r := h
  clear h
  replace H := Option.bind_eq_some_iff.mp H
  obtain ⟨t101, A30, H⟩ := H
  replace H : (some t101) = some r := H
  have A3 := Aside0.mk A30
  clear A30
  obtain rfl := Option.some.inj H
  go_enter Tryd.func89, Tryd.ntmps89
  go_wp2_with (first | ((with_reducible refine gate_callee (f := 128) rfl ?_); refine goesL_ (some 7) rfl rfl Tryd.func128 (by kernel_rfl) rfl #[.string a0, .string a1] rfl (by (try simp only [List.map_toArray, List.map_cons, List.map_nil]); first | done | rfl | (simp only [List.length_drop, List.length_take]; rfl)) ?_; (with_reducible refine (stringslite_HasPrefix.calls a0 a1 t101 _ A3.out).mono ?_); rintro e w' ⟨rfl, ⟨nd, rfl⟩⟩; refine ⟨_, rfl, ?_⟩))
  go_ret
  exact ⟨by first | rfl | (simp; done) | (simp [*]; done), by repeat (first | exact Drawn0.refl _ | apply Drawn0.step)⟩

end Go.Proofs.YtkhjpobhdpcglaaDoor.X
end
section
namespace Go.Proofs.YtkhjpobhdpcglaaDoor.X
open Go.RowKit Go.Proofs.YtkhjpobhdpcglaaDoorW.PrintWords Go.Proofs.YtkhjpobhdpcglaaDoorW.PrintLast Go.Proofs.YtkhjpobhdpcglaaDoorW.PrintMore
set_option linter.unusedVariables false
set_option linter.unusedSimpArgs false

theorem width_pos (s : ByteArray) (pos : Nat) (h : pos < s.size) : 1 ≤ (Utf8.decode s pos).2 := by
  by_cases ha : (s[pos]'h).toNat < 128
  · rw [decode_ascii s pos h ha]
    exact Nat.le_refl _
  · exact (decode_high s pos h (by omega)).2
theorem width_le4 (s : ByteArray) (pos : Nat) : (Utf8.decode s pos).2 ≤ 4 := by
  simp only [Utf8.decode]
  repeat' split
  all_goals simp

/-- the three bytes of U+FFFD -/
def fffd : ByteArray := ⟨#[239, 191, 189]⟩
def isFffd (s : ByteArray) (pos : Nat) : Bool := decide (3 ≤ s.size - pos) && ((s.extract pos s.size).extract 0 3).toList == [239, 191, 189]
def bad (s : ByteArray) (pos : Nat) : Bool := ((Utf8.decode s pos).1 : Int) == 65533 && !isFffd s pos
theorem bad_no {s : ByteArray} {pos : Nat} (h : (((Utf8.decode s pos).1 : Int) == 65533) = false) : bad s pos = false := by simp [bad, h]
theorem bad_is {s : ByteArray} {pos : Nat} (h : 3 ≤ ((s.size - pos : Nat) : Int)) (h2 : (!((s.extract pos s.size).extract 0 3).toList == [239, 191, 189]) = false) : bad s pos = false := by
  have h1 : 3 ≤ s.size - pos := by omega
  have h3 : (((s.extract pos s.size).extract 0 3).toList == [239, 191, 189]) = true := by simpa using h2
  simp [bad, isFffd, h1, h3]
theorem bad_ne {s : ByteArray} {pos : Nat} (h0 : (((Utf8.decode s pos).1 : Int) == 65533) = true) (h2 : (!((s.extract pos s.size).extract 0 3).toList == [239, 191, 189]) = true) : bad s pos = true := by
  have h3 : (((s.extract pos s.size).extract 0 3).toList == [239, 191, 189]) = false := by simpa using h2
  simp [bad, isFffd, h3, h0]
theorem bad_short {s : ByteArray} {pos : Nat} (h0 : (((Utf8.decode s pos).1 : Int) == 65533) = true) (h : ¬ 3 ≤ ((s.size - pos : Nat) : Int)) : bad s pos = true := by
  have h1 : ¬ 3 ≤ s.size - pos := by omega
  simp [bad, isFffd, h1, h0]

/-- characters from a position on: how many; false at what is no UTF-8 -/
def cntB (s : ByteArray) : Nat → Nat → Nat → Nat × Bool
  | 0, _, n => (n, true)
  | b + 1, pos, n => if pos < s.size then (if bad s pos then (0, false) else cntB s b (pos + (Utf8.decode s pos).2) (n + 1)) else (n, true)
def legalRune (c : Nat) : Bool := c == 9 || c == 10 || c == 13 || (32 ≤ c && c ≤ 55295) || (57344 ≤ c && c ≤ 65533) || 65536 ≤ c
def legB (s : ByteArray) : Nat → Nat → Bool
  | 0, _ => true
  | b + 1, pos => if pos < s.size then (if legalRune (Utf8.decode s pos).1 then legB s b (pos + (Utf8.decode s pos).2) else false) else true

theorem cntB_end (s : ByteArray) (b pos n : Nat) (h : ¬ pos < s.size) : cntB s b pos n = (n, true) := by
  cases b with
  | zero => rfl
  | succ b => simp [cntB, h]
theorem legB_end (s : ByteArray) (b pos : Nat) (h : ¬ pos < s.size) : legB s b pos = true := by
  cases b with
  | zero => rfl
  | succ b => simp [legB, h]

theorem hasPrefix_f (a b : ByteArray) (hb : b.size ≤ 9223372036854775807) (ha : a.size ≤ 9223372036854775807) : strings_HasPrefix.f a b = some (decide (b.size ≤ a.size) && (a.extract 0 b.size).toList == b.toList) := by
  unfold strings_HasPrefix.f stringslite_HasPrefix.f
  by_cases h : b.size ≤ a.size
  · rw [if_pos (by omega), if_pos (by omega), if_pos (by omega)]
    simp [h]
  · rw [if_neg (by omega)]
    simp [h]

def chars_Count.f (a0 : ByteArray) : Option (Int × Bool) := if a0.size ≤ 4611686018427387904 then some (((cntB a0 a0.size 0 0).1 : Int), (cntB a0 a0.size 0 0).2) else none
def chars_Legal.f (a0 : ByteArray) : Option Bool := if a0.size ≤ 4611686018427387904 then some (legB a0 a0.size 0 && (cntB a0 a0.size 0 0).2) else none

theorem iter_drewN (w : World) (s : ByteArray) (p n : Nat) : (w.iter s p).drewN n = (w.drewN n).iter s p := rfl
theorem legal_f (c : Nat) : chars_legal.f 9 (c : Int) = some (legalRune c) := by
  unfold chars_legal.f legalRune
  simp only [chars_legal.j0, chars_legal.j1]
  repeat' split
  all_goals simp_all
  all_goals omega

set_option maxHeartbeats 1000000 in
set_option maxRecDepth 100000 in
theorem chars_Count.calls (a0 : ByteArray) (r1 : Int) (r2 : Bool) (w : World) (h : chars_Count.f a0 = some (r1, r2)) :
    Calls Tryd.prog 127 #[.string a0] w fun e w' => e = .returned (.tuple #[.int .i64 r1, .bool r2]) ∧ Below w.heap.size w w' := by
  unfold chars_Count.f at h
  split at h
  case isFalse => cases h
  rename_i hs
  have H := Aside0.mk h
  clear h
  go_enter Tryd.func127, Tryd.ntmps127
  go_wp2
  go_loopw [4] (fun v w' => ∃ (pos b n m : Nat), w' = (w.drewN m).iter a0 pos ∧ v = .int .i64 n ∧ Aside0 (cntB a0 b pos n = cntB a0 a0.size 0 0) ∧ a0.size ≤ pos + b ∧ n ≤ pos ∧ pos ≤ a0.size + 4) (fun _ w' => a0.size - w'.iterPos w.heap.size)
  case atStart => exact ⟨0, a0.size, 0, 0, rfl, rfl, ⟨rfl⟩, by omega, by omega, by omega⟩
  case round =>
    obtain ⟨pos, b, n, m, rfl, rfl, HC, hb, hn, hps⟩ := hrel
    by_cases hp : pos < a0.size
    · have hnx : ∀ ty, (Instr.next (.pointer (some ⟨w.heap.size, 0, none⟩)) true ty).run Tryd.prog ((w.drewN m).iter a0 pos) = _ := fun ty => run_next_any (w.drewN m) a0 pos ty hp
      have hwd := width_pos a0 pos hp
      have hw4 := width_le4 a0 pos
      obtain ⟨b, rfl⟩ : ∃ b', b = b' + 1 := ⟨b - 1, by omega⟩
      by_cases hc : ((Utf8.decode a0 pos).1 : Int) = 65533
      · have hcb : (((Utf8.decode a0 pos).1 : Int) == 65533) = true := by simpa using hc
        clear hc
        go_wp2
        all_goals first
        | (go_roundw
           case rel => exact ⟨pos + (Utf8.decode a0 pos).2, b, n + 1, m, rfl, by go_num, ⟨by rw [← HC.out]; simp [cntB, hp, bad_is (s := a0) (pos := pos) (by assumption) (by assumption)]⟩, by omega, by omega, by omega⟩
           case measure =>
             show a0.size - ((w.drewN m).iter a0 _).iterPos (w.drewN m).heap.size < a0.size - ((w.drewN m).iter a0 _).iterPos (w.drewN m).heap.size
             rw [World.iterPos_iter, World.iterPos_iter]; omega)
        | (have hbad : bad a0 pos = true := by first | exact bad_ne hcb (by assumption) | exact bad_short hcb (by omega)
           have hC := HC.out
           simp only [cntB, if_pos hp, hbad, if_true] at hC
           have H1 := H.out
           rw [← hC] at H1
           simp only [Option.some.injEq, Prod.mk.injEq] at H1
           obtain ⟨rfl, rfl⟩ := H1
           go_ret2
           exact ⟨rfl, below_alloc (pw_below_drewN (Below.refl _ _) m) _⟩)
      · have hcb : (((Utf8.decode a0 pos).1 : Int) == 65533) = false := by simpa using hc
        clear hc
        go_wp2
        go_roundw
        case rel => exact ⟨pos + (Utf8.decode a0 pos).2, b, n + 1, m, rfl, by go_num, ⟨by rw [← HC.out]; simp [cntB, hp, bad_no hcb]⟩, by omega, by omega, by omega⟩
        case measure =>
          show a0.size - ((w.drewN m).iter a0 _).iterPos (w.drewN m).heap.size < a0.size - ((w.drewN m).iter a0 _).iterPos (w.drewN m).heap.size
          rw [World.iterPos_iter, World.iterPos_iter]; omega
    · have hnx : ∀ ty, (Instr.next (.pointer (some ⟨w.heap.size, 0, none⟩)) true ty).run Tryd.prog ((w.drewN m).iter a0 pos) = _ := fun ty => run_next_end (w.drewN m) a0 pos ty hp
      go_wp2
      go_ret2
      have hC := HC.out
      rw [cntB_end a0 b pos n hp] at hC
      have H1 := H.out
      rw [← hC] at H1
      simp only [Option.some.injEq, Prod.mk.injEq] at H1
      obtain ⟨rfl, rfl⟩ := H1
      exact ⟨rfl, below_alloc (pw_below_drewN (Below.refl _ _) m) _⟩

def chars_Valid.f (a0 : ByteArray) : Option Bool := if a0.size ≤ 4611686018427387904 then some (cntB a0 a0.size 0 0).2 else none
set_option maxRecDepth 100000 in
theorem chars_Valid.calls (a0 : ByteArray) (r : Bool) (w : World) (h : chars_Valid.f a0 = some r) :
    Calls Tryd.prog 88 #[.string a0] w fun e w' => e = .returned (.bool r) ∧ Below w.heap.size w w' := by
  unfold chars_Valid.f at h
  split at h
  case isFalse => cases h
  rename_i hs
  have H := Aside0.mk h
  clear h
  go_enter Tryd.func88, Tryd.ntmps88
  go_wp2_with fail
  refine (chars_Count.calls a0 ((cntB a0 a0.size 0 0).1 : Int) (cntB a0 a0.size 0 0).2 _ (by simp [chars_Count.f, hs])).mono ?_
  rintro e w' ⟨rfl, hb⟩
  go_wp2
  go_ret
  have H1 := H.out
  simp at H1
  subst H1
  exact ⟨rfl, hb⟩

set_option maxHeartbeats 1000000 in
set_option maxRecDepth 100000 in
theorem chars_Legal.calls (a0 : ByteArray) (r : Bool) (w : World) (h : chars_Legal.f a0 = some r) :
    Calls Tryd.prog 46 #[.string a0] w fun e w' => e = .returned (.bool r) ∧ Below w.heap.size w w' := by
  unfold chars_Legal.f at h
  split at h
  case isFalse => cases h
  rename_i hs
  have H := Aside0.mk h
  clear h
  go_enter Tryd.func46, Tryd.ntmps46
  go_wp2
  go_loopw [] (fun w' => ∃ (pos b m : Nat), w' = (w.drewN m).iter a0 pos ∧ Aside0 (legB a0 b pos = legB a0 a0.size 0) ∧ a0.size ≤ pos + b) (fun w' => a0.size - w'.iterPos w.heap.size)
  case atStart => exact ⟨0, a0.size, 0, rfl, ⟨rfl⟩, by omega⟩
  case round =>
    obtain ⟨pos, b, m, rfl, HC, hb⟩ := hrel
    by_cases hp : pos < a0.size
    · have hnx : ∀ ty, (Instr.next (.pointer (some ⟨w.heap.size, 0, none⟩)) true ty).run Tryd.prog ((w.drewN m).iter a0 pos) = _ := fun ty => run_next_any (w.drewN m) a0 pos ty hp
      have hwd := width_pos a0 pos hp
      obtain ⟨b, rfl⟩ : ∃ b', b = b' + 1 := ⟨b - 1, by omega⟩
      cases hl : legalRune (Utf8.decode a0 pos).1 with
      | true =>
        have HL := Aside0.mk (hl ▸ legal_f (Utf8.decode a0 pos).1)
        have HL1 := Aside0.mk hl
        clear hl
        go_wp2_with (go_at_call 87; (with_reducible refine (chars_legal.calls 9 _ _ _ HL.out).mono ?_); rintro e w' ⟨rfl, ⟨nd, rfl⟩⟩)
        go_roundw
        case rel => exact ⟨pos + (Utf8.decode a0 pos).2, b, m + nd, by rw [iter_drewN, World.drewN_drewN], ⟨by rw [← HC.out]; simp [legB, hp, HL1.out]⟩, by omega⟩
        case measure =>
          show a0.size - ((w.drewN m).iter a0 _).iterPos (w.drewN m).heap.size < a0.size - ((w.drewN m).iter a0 _).iterPos (w.drewN m).heap.size
          rw [World.iterPos_iter, World.iterPos_iter]; omega
      | false =>
        have HL := Aside0.mk (hl ▸ legal_f (Utf8.decode a0 pos).1)
        have HL1 := Aside0.mk hl
        clear hl
        go_wp2_with (go_at_call 87; (with_reducible refine (chars_legal.calls 9 _ _ _ HL.out).mono ?_); rintro e w' ⟨rfl, ⟨nd, rfl⟩⟩)
        go_ret
        have hC := HC.out
        simp only [legB, if_pos hp, HL1.out] at hC
        have H1 := H.out
        rw [← hC] at H1
        simp at H1
        subst H1
        exact ⟨rfl, pw_below_drewN (below_alloc (pw_below_drewN (Below.refl _ _) m) _) nd⟩
    · have hnx : ∀ ty, (Instr.next (.pointer (some ⟨w.heap.size, 0, none⟩)) true ty).run Tryd.prog ((w.drewN m).iter a0 pos) = _ := fun ty => run_next_end (w.drewN m) a0 pos ty hp
      go_wp2_with fail
      have hC := HC.out
      rw [legB_end a0 b pos hp] at hC
      refine (chars_Valid.calls a0 (cntB a0 a0.size 0 0).2 _ (by simp [chars_Valid.f, hs])).mono ?_
      rintro e w' ⟨rfl, hb⟩
      go_wp2
      go_ret
      have H1 := H.out
      rw [← hC] at H1
      simp at H1
      subst H1
      exact ⟨rfl, below_then (below_alloc (pw_below_drewN (Below.refl _ _) m) _) (by simp [World.iter]) hb⟩
end Go.Proofs.YtkhjpobhdpcglaaDoor.X
end
section
namespace Go.Proofs.YtkhjpobhdpcglaaDoor.X
open Go.RowKit Go.Proofs.YtkhjpobhdpcglaaDoorW.PrintWords Go.Proofs.YtkhjpobhdpcglaaDoorW.PrintLast Go.Proofs.YtkhjpobhdpcglaaDoorW.PrintMore
attribute [local go_sem] max2_int min2_int max_two min_two max_three min_three max_four min_four
set_option linter.unusedVariables false
set_option linter.unusedSimpArgs false

/-! ### xml_white: function 91 -/
def xml_white.f (a0 : Int) : Option (Bool) := if a0 = 32 then (some true) else (if a0 = 9 then (some true) else (if a0 = 10 then (some true) else (some (a0 == 13))))
set_option maxHeartbeats 8000000 in
set_option maxRecDepth 100000 in
theorem xml_white.calls (a0 : Int) (r : Bool) (w : World) (h : xml_white.f a0 = some r) :
    Calls Tryd.prog 91 #[.int .u8 a0] w fun e w' => e = .returned (.bool r) ∧ Drawn0 w w' := by
  have H : (if a0 = 32 then (some true) else (if a0 = 9 then (some true) else (if a0 = 10 then (some true) else (some (a0 == 13))))) = some r := h
  clear h
  by_cases c2 : a0 = 32
  · rw [if_pos c2] at H
    have c2b0 : (a0 == 32) = true := beq_iff_eq.mpr c2
    have c2b1 : (a0 != 32) = false := bne_eq_false_iff_eq.mpr c2
    clear c2
    obtain rfl := Option.some.inj H
    go_enter Tryd.func91, Tryd.ntmps91
    go_wp2
    go_ret
    exact ⟨by first | rfl | (simp; done) | (simp [*]; done), by repeat (first | exact Drawn0.refl _ | apply Drawn0.step)⟩
  · rw [if_neg c2] at H
    have c2b0 : (a0 == 32) = false := beq_eq_false_iff_ne.mpr c2
    have c2b1 : (a0 != 32) = true := bne_iff_ne.mpr c2
    by_cases c3 : a0 = 9
    · rw [if_pos c3] at H
      have c3b0 : (a0 == 9) = true := beq_iff_eq.mpr c3
      have c3b1 : (a0 != 9) = false := bne_eq_false_iff_eq.mpr c3
      clear c3
      obtain rfl := Option.some.inj H
      go_enter Tryd.func91, Tryd.ntmps91
      go_wp2
      go_ret
      exact ⟨by first | rfl | (simp; done) | (simp [*]; done), by repeat (first | exact Drawn0.refl _ | apply Drawn0.step)⟩
    · rw [if_neg c3] at H
      have c3b0 : (a0 == 9) = false := beq_eq_false_iff_ne.mpr c3
      have c3b1 : (a0 != 9) = true := bne_iff_ne.mpr c3
      by_cases c4 : a0 = 10
      · rw [if_pos c4] at H
        have c4b0 : (a0 == 10) = true := beq_iff_eq.mpr c4
        have c4b1 : (a0 != 10) = false := bne_eq_false_iff_eq.mpr c4
        clear c4
        obtain rfl := Option.some.inj H
        go_enter Tryd.func91, Tryd.ntmps91
        go_wp2
        go_ret
        exact ⟨by first | rfl | (simp; done) | (simp [*]; done), by repeat (first | exact Drawn0.refl _ | apply Drawn0.step)⟩
      · rw [if_neg c4] at H
        have c4b0 : (a0 == 10) = false := beq_eq_false_iff_ne.mpr c4
        have c4b1 : (a0 != 10) = true := bne_iff_ne.mpr c4
        obtain rfl := Option.some.inj H
        go_enter Tryd.func91, Tryd.ntmps91
        go_wp2
        go_ret
        exact ⟨by first | rfl | (simp; done) | (simp [*]; done), by repeat (first | exact Drawn0.refl _ | apply Drawn0.step)⟩

end Go.Proofs.YtkhjpobhdpcglaaDoor.X
end
section
namespace Go.Proofs.YtkhjpobhdpcglaaDoor.X
open Go.RowKit Go.Proofs.YtkhjpobhdpcglaaDoorW.PrintWords Go.Proofs.YtkhjpobhdpcglaaDoorW.PrintLast Go.Proofs.YtkhjpobhdpcglaaDoorW.PrintMore
attribute [local go_sem] max2_int min2_int max_two min_two max_three min_three max_four min_four
set_option linter.unusedVariables false
set_option linter.unusedSimpArgs false

/-! ### xml_reader_space: function 48 -/
def xml_reader_space.l0 : Nat → Int → ByteArray → Int → Option (Bool × ByteArray × Int)
  | 0, _, _, _ => none
  | k + 1, x3, x1000, x1001 => if x1001 < (x1000.size : Int) then (if 0 ≤ x1001 then ((xml_white.f (bt x1000 x1001)).bind fun t101 => (if t101 = true then (xml_reader_space.l0 k x3 x1000 (wrap64 (x1001 + 1))) else (some (decide (x1001 > x3), x1000, x1001)))) else (none)) else (some (decide (x1001 > x3), x1000, x1001))
def xml_reader_space.f (k : Nat) (s0_0 : ByteArray) (s0_1 : Int) : Option (Bool × ByteArray × Int) := xml_reader_space.l0 k s0_1 s0_0 s0_1
theorem xml_reader_space.mono_l : ∀ k, (∀ y0 y1 y2, LeO (xml_reader_space.l0 k y0 y1 y2) (xml_reader_space.l0 (k + 1) y0 y1 y2))
  | 0 => fun _ _ _ r h => by simp [xml_reader_space.l0] at h
  | k + 1 => by
    have ih0 := xml_reader_space.mono_l k
    · intro y0 y1 y2
      unfold xml_reader_space.l0
      repeat' first
      | (with_reducible exact ih0 _ _ _)
      | (with_reducible exact LeO.refl _)
      | (with_reducible exact LeO.none _)
      | (with_reducible refine LeO.ite ?_ ?_)
      | (with_reducible refine LeO.bind ?_ (fun _ => ?_))
      | exact ih0 _ _ _
      | exact LeO.none _
      | refine LeO.ite ?_ ?_
      | refine LeO.bind ?_ (fun _ => ?_)
theorem xml_reader_space.mono : ∀ a0 a1 k, LeO (xml_reader_space.f k a0 a1) (xml_reader_space.f (k + 1) a0 a1) := by
  intro a0 a1 k
  have ih0 := xml_reader_space.mono_l k
  unfold xml_reader_space.f
  repeat' first
      | (with_reducible exact ih0 _ _ _)
      | (with_reducible exact LeO.refl _)
      | (with_reducible exact LeO.none _)
      | (with_reducible refine LeO.ite ?_ ?_)
      | (with_reducible refine LeO.bind ?_ (fun _ => ?_))
      | exact ih0 _ _ _
      | exact LeO.none _
      | refine LeO.ite ?_ ?_
      | refine LeO.bind ?_ (fun _ => ?_)
set_option maxHeartbeats 8000000 in
set_option maxRecDepth 100000 in
theorem xml_reader_space.calls (k : Nat) (g : Nat) (s0_0 : ByteArray) (s0_1 : Int) (r1 : Bool) (r2 : ByteArray) (r3 : Int) (w0 w : World) (hI : IsS91 w0 w g s0_0 s0_1) (hB : Below w0.heap.size w0 w) (h : xml_reader_space.f k s0_0 s0_1 = some (r1, r2, r3)) :
    Calls Tryd.prog 48 #[.pointer (some ⟨g, 0, none⟩)] w fun e w' => e = .returned (.bool r1) ∧ IsS91 w0 w' g r2 r3 ∧ Below w0.heap.size w0 w' ∧ KeepBut w w' g none := by
  have HI0 := Aside0.mk hI
  have HK := Aside0.mk (KeepBut.refl w g none)
  have HL := Aside0.mk hB.size
  clear hI
  have HW0 := Aside0.mk hB.size
  have HB := Aside0.mk hB
  clear hB
  have H : (xml_reader_space.l0 k s0_1 s0_0 s0_1) = some (r1, r2, r3) := h
  clear h
  have H' := Aside0.mk H
  clear H
  obtain ⟨HGz2, hgz2⟩ := HI0.out
  have hcz2_0 := cellS91_0 HGz2
  have hcz2_1 := cellS91_1 HGz2
  have hfz2_0 := blk_frozen HGz2 0
  have hfz2_1 := blk_frozen HGz2 1
  clear HGz2 hgz2
  go_enter Tryd.func48, Tryd.ntmps48
  go_wp2
  repeat (go_quiet (fail); try go_wp2)
  go_loopg [] k (fun kq w' => ∃ (x1001_1 : Int), Aside0 (xml_reader_space.l0 kq s0_1 s0_0 x1001_1 = some (r1, r2, r3)) ∧ Aside0 (kq ≤ k) ∧ Aside0 (IsS91 w0 w' g s0_0 x1001_1) ∧ Aside0 (KeepBut w w' g none) ∧ Aside0 (Below w0.heap.size w0 w'))
  case atStart => exact ⟨(s0_1), H', ⟨Nat.le_refl _⟩, ⟨by repeat (first | (with_reducible first | exact HI0.out | apply IsS91.alloc | apply IsS91.drewN | apply IsS91.drew | apply IsS91.set_0 | apply IsS91.set_1) | exact HI0.out)⟩, ⟨by repeat (first | (with_reducible first | exact HK.out | apply KeepBut.set_ | apply keep_drewN | apply keep_drew | apply keep_alloc) | exact HK.out)⟩, ⟨by repeat (first | (with_reducible first | exact HB.out | apply below_alloc | apply pw_below_drewN | apply below_drew1 | refine below_set ?_ (IsS91.ge HI0.out)) | exact HB.out)⟩⟩
  case round =>
    clear H'
    try clear p2
    try clear hcz2_0
    try clear hcz2_1
    try clear hfz2_0
    try clear hfz2_1
    obtain ⟨x1001_1, HA, HK1, HI0, HK, HB⟩ := hrel
    cases gk with
    | zero => exact absurd HA.out (by simp [xml_reader_space.l0])
    | succ k1 =>
      have H := HA.out
      clear HA
      simp only [xml_reader_space.l0] at H
      by_cases c3 : x1001_1 < (s0_0.size : Int)
      · rw [if_pos c3] at H
        have c3b0 : decide (x1001_1 < (s0_0.size : Int)) = true := decide_eq_true c3
        clear c3
        by_cases c4 : 0 ≤ x1001_1
        · rw [if_pos c4] at H
          have c4b0 : decide (0 ≤ x1001_1) = true := decide_eq_true c4
          clear c4
          replace H := Option.bind_eq_some_iff.mp H
          obtain ⟨t101, A60, H⟩ := H
          replace H : (if t101 = true then (xml_reader_space.l0 k1 s0_1 s0_0 (wrap64 (x1001_1 + 1))) else (some (decide (x1001_1 > s0_1), s0_0, x1001_1))) = some (r1, r2, r3) := H
          have A6 := Aside0.mk A60
          clear A60
          by_cases c7 : t101 = true
          · subst c7
            have H1 : (xml_reader_space.l0 k1 s0_1 s0_0 (wrap64 (x1001_1 + 1))) = some (r1, r2, r3) := by rw [if_pos rfl] at H; exact H
            clear H
            have H := H1
            clear H1
            have H' := Aside0.mk H
            clear H
            obtain ⟨HGz8, hgz8⟩ := HI0.out
            have hcz8_0 := cellS91_0 HGz8
            have hcz8_1 := cellS91_1 HGz8
            have hfz8_0 := blk_frozen HGz8 0
            have hfz8_1 := blk_frozen HGz8 1
            clear HGz8 hgz8
            have p5 : 0 ≤ (x1001_1 : Int) := of_decide_eq_true (by first | (with_reducible assumption) | assumption)
            have q5 : x1001_1 < (s0_0.size : Int) := of_decide_eq_true (by first | (with_reducible assumption) | assumption)
            have hx5 := bt_at s0_0 x1001_1
            replace p5 := eq_true p5
            replace q5 := eq_true q5
            go_wp2_with (first | (go_at_call 91; (with_reducible refine (xml_white.calls (bt s0_0 x1001_1) true _ A6.out).mono ?_); rintro e w' ⟨rfl, ⟨nd, rfl⟩⟩; (try first | exact ⟨rfl, _, World.drewN_drewN _ _ _⟩ | exact ⟨rfl, _, Eq.trans (World.drewN_drewN _ _ _) (congrArg (World.drewN _) (Nat.add_assoc _ _ _))⟩)))
            repeat (go_quiet (first | (go_at_call 91; (with_reducible refine (xml_white.calls (bt s0_0 x1001_1) true _ A6.out).mono ?_); rintro e w' ⟨rfl, ⟨nd, rfl⟩⟩; (try first | exact ⟨rfl, _, World.drewN_drewN _ _ _⟩ | exact ⟨rfl, _, Eq.trans (World.drewN_drewN _ _ _) (congrArg (World.drewN _) (Nat.add_assoc _ _ _))⟩))); try go_wp2_with (first | (go_at_call 91; (with_reducible refine (xml_white.calls (bt s0_0 x1001_1) true _ A6.out).mono ?_); rintro e w' ⟨rfl, ⟨nd, rfl⟩⟩; (try first | exact ⟨rfl, _, World.drewN_drewN _ _ _⟩ | exact ⟨rfl, _, Eq.trans (World.drewN_drewN _ _ _) (congrArg (World.drewN _) (Nat.add_assoc _ _ _))⟩))))
            go_roundg k1
            case measure => have := HK1.out; omega
            case rel => exact ⟨(wrap64 (x1001_1 + 1)), H', ⟨by have := HK1.out; omega⟩, ⟨by repeat (first | (with_reducible first | exact HI0.out | apply IsS91.alloc | apply IsS91.drewN | apply IsS91.drew | apply IsS91.set_0 | apply IsS91.set_1) | exact HI0.out)⟩, ⟨by repeat (first | (with_reducible first | exact HK.out | apply KeepBut.set_ | apply keep_drewN | apply keep_drew | apply keep_alloc) | exact HK.out)⟩, ⟨by repeat (first | (with_reducible first | exact HB.out | apply below_alloc | apply pw_below_drewN | apply below_drew1 | refine below_set ?_ (IsS91.ge HI0.out)) | exact HB.out)⟩⟩
          · replace c7 := Bool.eq_false_iff.mpr c7
            subst c7
            have H1 : (some (decide (x1001_1 > s0_1), s0_0, x1001_1)) = some (r1, r2, r3) := by rw [if_neg (show ¬ (false = true) by decide)] at H; exact H
            clear H
            have H := H1
            clear H1
            simp only [Option.some.injEq, Prod.mk.injEq] at H
            obtain ⟨rfl, rfl, rfl⟩ := H
            obtain ⟨HGz9, hgz9⟩ := HI0.out
            have hcz9_0 := cellS91_0 HGz9
            have hcz9_1 := cellS91_1 HGz9
            have hfz9_0 := blk_frozen HGz9 0
            have hfz9_1 := blk_frozen HGz9 1
            clear HGz9 hgz9
            have p5 : 0 ≤ (x1001_1 : Int) := of_decide_eq_true (by first | (with_reducible assumption) | assumption)
            have q5 : x1001_1 < (s0_0.size : Int) := of_decide_eq_true (by first | (with_reducible assumption) | assumption)
            have hx5 := bt_at s0_0 x1001_1
            replace p5 := eq_true p5
            replace q5 := eq_true q5
            go_wp2_with (first | (go_at_call 91; (with_reducible refine (xml_white.calls (bt s0_0 x1001_1) false _ A6.out).mono ?_); rintro e w' ⟨rfl, ⟨nd, rfl⟩⟩; (try first | exact ⟨rfl, _, World.drewN_drewN _ _ _⟩ | exact ⟨rfl, _, Eq.trans (World.drewN_drewN _ _ _) (congrArg (World.drewN _) (Nat.add_assoc _ _ _))⟩)))
            repeat (go_quiet (first | (go_at_call 91; (with_reducible refine (xml_white.calls (bt s0_0 x1001_1) false _ A6.out).mono ?_); rintro e w' ⟨rfl, ⟨nd, rfl⟩⟩; (try first | exact ⟨rfl, _, World.drewN_drewN _ _ _⟩ | exact ⟨rfl, _, Eq.trans (World.drewN_drewN _ _ _) (congrArg (World.drewN _) (Nat.add_assoc _ _ _))⟩))); try go_wp2_with (first | (go_at_call 91; (with_reducible refine (xml_white.calls (bt s0_0 x1001_1) false _ A6.out).mono ?_); rintro e w' ⟨rfl, ⟨nd, rfl⟩⟩; (try first | exact ⟨rfl, _, World.drewN_drewN _ _ _⟩ | exact ⟨rfl, _, Eq.trans (World.drewN_drewN _ _ _) (congrArg (World.drewN _) (Nat.add_assoc _ _ _))⟩))))
            go_ret
            exact ⟨by first | rfl | (simp [errW_none, errW_some] <;> rfl) | (simp [*, errW_none, errW_some] <;> rfl), by repeat (first | (with_reducible first | exact HI0.out | apply IsS91.alloc | apply IsS91.drewN | apply IsS91.drew | apply IsS91.set_0 | apply IsS91.set_1) | exact HI0.out), by repeat (first | (with_reducible first | exact HB.out | apply below_alloc | apply pw_below_drewN | apply below_drew1 | refine below_set ?_ (IsS91.ge HI0.out)) | exact HB.out), by repeat (first | (with_reducible first | exact HK.out | apply KeepBut.set_ | apply keep_drewN | apply keep_drew | apply keep_alloc) | exact HK.out)⟩
        · rw [if_neg c4] at H
          exact absurd H (by simp)
      · rw [if_neg c3] at H
        have c3b0 : decide (x1001_1 < (s0_0.size : Int)) = false := decide_eq_false c3
        clear c3
        simp only [Option.some.injEq, Prod.mk.injEq] at H
        obtain ⟨rfl, rfl, rfl⟩ := H
        obtain ⟨HGz10, hgz10⟩ := HI0.out
        have hcz10_0 := cellS91_0 HGz10
        have hcz10_1 := cellS91_1 HGz10
        have hfz10_0 := blk_frozen HGz10 0
        have hfz10_1 := blk_frozen HGz10 1
        clear HGz10 hgz10
        go_wp2
        repeat (go_quiet (fail); try go_wp2)
        go_ret
        exact ⟨by first | rfl | (simp [errW_none, errW_some] <;> rfl) | (simp [*, errW_none, errW_some] <;> rfl), by repeat (first | (with_reducible first | exact HI0.out | apply IsS91.alloc | apply IsS91.drewN | apply IsS91.drew | apply IsS91.set_0 | apply IsS91.set_1) | exact HI0.out), by repeat (first | (with_reducible first | exact HB.out | apply below_alloc | apply pw_below_drewN | apply below_drew1 | refine below_set ?_ (IsS91.ge HI0.out)) | exact HB.out), by repeat (first | (with_reducible first | exact HK.out | apply KeepBut.set_ | apply keep_drewN | apply keep_drew | apply keep_alloc) | exact HK.out)⟩

end Go.Proofs.YtkhjpobhdpcglaaDoor.X
end
section
namespace Go.Proofs.YtkhjpobhdpcglaaDoor.X
open Go.RowKit Go.Proofs.YtkhjpobhdpcglaaDoorW.PrintWords Go.Proofs.YtkhjpobhdpcglaaDoorW.PrintLast Go.Proofs.YtkhjpobhdpcglaaDoorW.PrintMore
attribute [local go_sem] max2_int min2_int max_two min_two max_three min_three max_four min_four
set_option linter.unusedVariables false
set_option linter.unusedSimpArgs false

/-! ### xml_reader_name: function 93 -/
def xml_reader_name.l0 : Nat → Int → ByteArray → Int → Option (ByteArray × ByteArray × Int)
  | 0, _, _, _ => none
  | k + 1, x3, x1000, x1001 => if x1001 < (x1000.size : Int) then (if 0 ≤ x1001 then ((xml_inner.f (bt x1000 x1001)).bind fun t101 => (if t101 = true then (xml_reader_name.l0 k x3 x1000 (wrap64 (x1001 + 1))) else (if 0 ≤ x3 then (if x3 ≤ x1001 then (if x1001 ≤ (x1000.size : Int) then (some (x1000.extract (x3 : Int).toNat (x1001 : Int).toNat, x1000, x1001)) else (none)) else (none)) else (none)))) else (none)) else (if 0 ≤ x3 then (if x3 ≤ x1001 then (if x1001 ≤ (x1000.size : Int) then (some (x1000.extract (x3 : Int).toNat (x1001 : Int).toNat, x1000, x1001)) else (none)) else (none)) else (none))
def xml_reader_name.f (k : Nat) (s0_0 : ByteArray) (s0_1 : Int) : Option (ByteArray × ByteArray × Int) := xml_reader_name.l0 k s0_1 s0_0 s0_1
theorem xml_reader_name.mono_l : ∀ k, (∀ y0 y1 y2, LeO (xml_reader_name.l0 k y0 y1 y2) (xml_reader_name.l0 (k + 1) y0 y1 y2))
  | 0 => fun _ _ _ r h => by simp [xml_reader_name.l0] at h
  | k + 1 => by
    have ih0 := xml_reader_name.mono_l k
    · intro y0 y1 y2
      unfold xml_reader_name.l0
      repeat' first
      | (with_reducible exact ih0 _ _ _)
      | (with_reducible exact LeO.refl _)
      | (with_reducible exact LeO.none _)
      | (with_reducible refine LeO.ite ?_ ?_)
      | (with_reducible refine LeO.bind ?_ (fun _ => ?_))
      | exact ih0 _ _ _
      | exact LeO.none _
      | refine LeO.ite ?_ ?_
      | refine LeO.bind ?_ (fun _ => ?_)
theorem xml_reader_name.mono : ∀ a0 a1 k, LeO (xml_reader_name.f k a0 a1) (xml_reader_name.f (k + 1) a0 a1) := by
  intro a0 a1 k
  have ih0 := xml_reader_name.mono_l k
  unfold xml_reader_name.f
  repeat' first
      | (with_reducible exact ih0 _ _ _)
      | (with_reducible exact LeO.refl _)
      | (with_reducible exact LeO.none _)
      | (with_reducible refine LeO.ite ?_ ?_)
      | (with_reducible refine LeO.bind ?_ (fun _ => ?_))
      | exact ih0 _ _ _
      | exact LeO.none _
      | refine LeO.ite ?_ ?_
      | refine LeO.bind ?_ (fun _ => ?_)
set_option maxHeartbeats 8000000 in
set_option maxRecDepth 100000 in
theorem xml_reader_name.calls (k : Nat) (g : Nat) (s0_0 : ByteArray) (s0_1 : Int) (r1 : ByteArray) (r2 : ByteArray) (r3 : Int) (w0 w : World) (hI : IsS91 w0 w g s0_0 s0_1) (hB : Below w0.heap.size w0 w) (h : xml_reader_name.f k s0_0 s0_1 = some (r1, r2, r3)) :
    Calls Tryd.prog 93 #[.pointer (some ⟨g, 0, none⟩)] w fun e w' => e = .returned (.string r1) ∧ IsS91 w0 w' g r2 r3 ∧ Below w0.heap.size w0 w' ∧ KeepBut w w' g none := by
  have HI0 := Aside0.mk hI
  have HK := Aside0.mk (KeepBut.refl w g none)
  have HL := Aside0.mk hB.size
  clear hI
  have HW0 := Aside0.mk hB.size
  have HB := Aside0.mk hB
  clear hB
  have H : (xml_reader_name.l0 k s0_1 s0_0 s0_1) = some (r1, r2, r3) := h
  clear h
  have H' := Aside0.mk H
  clear H
  obtain ⟨HGz2, hgz2⟩ := HI0.out
  have hcz2_0 := cellS91_0 HGz2
  have hcz2_1 := cellS91_1 HGz2
  have hfz2_0 := blk_frozen HGz2 0
  have hfz2_1 := blk_frozen HGz2 1
  clear HGz2 hgz2
  go_enter Tryd.func93, Tryd.ntmps93
  go_wp2
  repeat (go_quiet (fail); try go_wp2)
  go_loopg [] k (fun kq w' => ∃ (x1001_1 : Int), Aside0 (xml_reader_name.l0 kq s0_1 s0_0 x1001_1 = some (r1, r2, r3)) ∧ Aside0 (kq ≤ k) ∧ Aside0 (IsS91 w0 w' g s0_0 x1001_1) ∧ Aside0 (KeepBut w w' g none) ∧ Aside0 (Below w0.heap.size w0 w'))
  case atStart => exact ⟨(s0_1), H', ⟨Nat.le_refl _⟩, ⟨by repeat (first | (with_reducible first | exact HI0.out | apply IsS91.alloc | apply IsS91.drewN | apply IsS91.drew | apply IsS91.set_0 | apply IsS91.set_1) | exact HI0.out)⟩, ⟨by repeat (first | (with_reducible first | exact HK.out | apply KeepBut.set_ | apply keep_drewN | apply keep_drew | apply keep_alloc) | exact HK.out)⟩, ⟨by repeat (first | (with_reducible first | exact HB.out | apply below_alloc | apply pw_below_drewN | apply below_drew1 | refine below_set ?_ (IsS91.ge HI0.out)) | exact HB.out)⟩⟩
  case round =>
    clear H'
    try clear p2
    try clear hcz2_0
    try clear hcz2_1
    try clear hfz2_0
    try clear hfz2_1
    obtain ⟨x1001_1, HA, HK1, HI0, HK, HB⟩ := hrel
    cases gk with
    | zero => exact absurd HA.out (by simp [xml_reader_name.l0])
    | succ k1 =>
      have H := HA.out
      clear HA
      simp only [xml_reader_name.l0] at H
      by_cases c3 : x1001_1 < (s0_0.size : Int)
      · rw [if_pos c3] at H
        have c3b0 : decide (x1001_1 < (s0_0.size : Int)) = true := decide_eq_true c3
        clear c3
        by_cases c4 : 0 ≤ x1001_1
        · rw [if_pos c4] at H
          have c4b0 : decide (0 ≤ x1001_1) = true := decide_eq_true c4
          clear c4
          replace H := Option.bind_eq_some_iff.mp H
          obtain ⟨t101, A60, H⟩ := H
          replace H : (if t101 = true then (xml_reader_name.l0 k1 s0_1 s0_0 (wrap64 (x1001_1 + 1))) else (if 0 ≤ s0_1 then (if s0_1 ≤ x1001_1 then (if x1001_1 ≤ (s0_0.size : Int) then (some (s0_0.extract (s0_1 : Int).toNat (x1001_1 : Int).toNat, s0_0, x1001_1)) else (none)) else (none)) else (none))) = some (r1, r2, r3) := H
          have A6 := Aside0.mk A60
          clear A60
          by_cases c7 : t101 = true
          · subst c7
            have H1 : (xml_reader_name.l0 k1 s0_1 s0_0 (wrap64 (x1001_1 + 1))) = some (r1, r2, r3) := by rw [if_pos rfl] at H; exact H
            clear H
            have H := H1
            clear H1
            have H' := Aside0.mk H
            clear H
            obtain ⟨HGz8, hgz8⟩ := HI0.out
            have hcz8_0 := cellS91_0 HGz8
            have hcz8_1 := cellS91_1 HGz8
            have hfz8_0 := blk_frozen HGz8 0
            have hfz8_1 := blk_frozen HGz8 1
            clear HGz8 hgz8
            have p5 : 0 ≤ (x1001_1 : Int) := of_decide_eq_true (by first | (with_reducible assumption) | assumption)
            have q5 : x1001_1 < (s0_0.size : Int) := of_decide_eq_true (by first | (with_reducible assumption) | assumption)
            have hx5 := bt_at s0_0 x1001_1
            replace p5 := eq_true p5
            replace q5 := eq_true q5
            go_wp2_with (first | (go_at_call 61; (with_reducible refine (xml_inner.calls (bt s0_0 x1001_1) true _ A6.out).mono ?_); rintro e w' ⟨rfl, ⟨nd, rfl⟩⟩; (try first | exact ⟨rfl, _, World.drewN_drewN _ _ _⟩ | exact ⟨rfl, _, Eq.trans (World.drewN_drewN _ _ _) (congrArg (World.drewN _) (Nat.add_assoc _ _ _))⟩)))
            repeat (go_quiet (first | (go_at_call 61; (with_reducible refine (xml_inner.calls (bt s0_0 x1001_1) true _ A6.out).mono ?_); rintro e w' ⟨rfl, ⟨nd, rfl⟩⟩; (try first | exact ⟨rfl, _, World.drewN_drewN _ _ _⟩ | exact ⟨rfl, _, Eq.trans (World.drewN_drewN _ _ _) (congrArg (World.drewN _) (Nat.add_assoc _ _ _))⟩))); try go_wp2_with (first | (go_at_call 61; (with_reducible refine (xml_inner.calls (bt s0_0 x1001_1) true _ A6.out).mono ?_); rintro e w' ⟨rfl, ⟨nd, rfl⟩⟩; (try first | exact ⟨rfl, _, World.drewN_drewN _ _ _⟩ | exact ⟨rfl, _, Eq.trans (World.drewN_drewN _ _ _) (congrArg (World.drewN _) (Nat.add_assoc _ _ _))⟩))))
            go_roundg k1
            case measure => have := HK1.out; omega
            case rel => exact ⟨(wrap64 (x1001_1 + 1)), H', ⟨by have := HK1.out; omega⟩, ⟨by repeat (first | (with_reducible first | exact HI0.out | apply IsS91.alloc | apply IsS91.drewN | apply IsS91.drew | apply IsS91.set_0 | apply IsS91.set_1) | exact HI0.out)⟩, ⟨by repeat (first | (with_reducible first | exact HK.out | apply KeepBut.set_ | apply keep_drewN | apply keep_drew | apply keep_alloc) | exact HK.out)⟩, ⟨by repeat (first | (with_reducible first | exact HB.out | apply below_alloc | apply pw_below_drewN | apply below_drew1 | refine below_set ?_ (IsS91.ge HI0.out)) | exact HB.out)⟩⟩
          · replace c7 := Bool.eq_false_iff.mpr c7
            subst c7
            have H1 : (if 0 ≤ s0_1 then (if s0_1 ≤ x1001_1 then (if x1001_1 ≤ (s0_0.size : Int) then (some (s0_0.extract (s0_1 : Int).toNat (x1001_1 : Int).toNat, s0_0, x1001_1)) else (none)) else (none)) else (none)) = some (r1, r2, r3) := by rw [if_neg (show ¬ (false = true) by decide)] at H; exact H
            clear H
            have H := H1
            clear H1
            by_cases c9 : 0 ≤ s0_1
            · rw [if_pos c9] at H
              have c9b0 := eq_true c9
              have c9b1 : decide (0 ≤ s0_1) = true := decide_eq_true c9
              clear c9
              by_cases c10 : s0_1 ≤ x1001_1
              · rw [if_pos c10] at H
                have c10b0 := eq_true c10
                have c10b1 : decide (s0_1 ≤ x1001_1) = true := decide_eq_true c10
                clear c10
                by_cases c11 : x1001_1 ≤ (s0_0.size : Int)
                · rw [if_pos c11] at H
                  have c11b0 := eq_true c11
                  have c11b1 : decide (x1001_1 ≤ (s0_0.size : Int)) = true := decide_eq_true c11
                  clear c11
                  simp only [Option.some.injEq, Prod.mk.injEq] at H
                  obtain ⟨rfl, rfl, rfl⟩ := H
                  obtain ⟨HGz12, hgz12⟩ := HI0.out
                  have hcz12_0 := cellS91_0 HGz12
                  have hcz12_1 := cellS91_1 HGz12
                  have hfz12_0 := blk_frozen HGz12 0
                  have hfz12_1 := blk_frozen HGz12 1
                  clear HGz12 hgz12
                  have p5 : 0 ≤ (x1001_1 : Int) := of_decide_eq_true (by first | (with_reducible assumption) | assumption)
                  have q5 : x1001_1 < (s0_0.size : Int) := of_decide_eq_true (by first | (with_reducible assumption) | assumption)
                  have hx5 := bt_at s0_0 x1001_1
                  replace p5 := eq_true p5
                  replace q5 := eq_true q5
                  go_wp2_with (first | (go_at_call 61; (with_reducible refine (xml_inner.calls (bt s0_0 x1001_1) false _ A6.out).mono ?_); rintro e w' ⟨rfl, ⟨nd, rfl⟩⟩; (try first | exact ⟨rfl, _, World.drewN_drewN _ _ _⟩ | exact ⟨rfl, _, Eq.trans (World.drewN_drewN _ _ _) (congrArg (World.drewN _) (Nat.add_assoc _ _ _))⟩)))
                  repeat (go_quiet (first | (go_at_call 61; (with_reducible refine (xml_inner.calls (bt s0_0 x1001_1) false _ A6.out).mono ?_); rintro e w' ⟨rfl, ⟨nd, rfl⟩⟩; (try first | exact ⟨rfl, _, World.drewN_drewN _ _ _⟩ | exact ⟨rfl, _, Eq.trans (World.drewN_drewN _ _ _) (congrArg (World.drewN _) (Nat.add_assoc _ _ _))⟩))); try go_wp2_with (first | (go_at_call 61; (with_reducible refine (xml_inner.calls (bt s0_0 x1001_1) false _ A6.out).mono ?_); rintro e w' ⟨rfl, ⟨nd, rfl⟩⟩; (try first | exact ⟨rfl, _, World.drewN_drewN _ _ _⟩ | exact ⟨rfl, _, Eq.trans (World.drewN_drewN _ _ _) (congrArg (World.drewN _) (Nat.add_assoc _ _ _))⟩))))
                  go_ret
                  exact ⟨by first | rfl | (simp [errW_none, errW_some] <;> rfl) | (simp [*, errW_none, errW_some] <;> rfl), by repeat (first | (with_reducible first | exact HI0.out | apply IsS91.alloc | apply IsS91.drewN | apply IsS91.drew | apply IsS91.set_0 | apply IsS91.set_1) | exact HI0.out), by repeat (first | (with_reducible first | exact HB.out | apply below_alloc | apply pw_below_drewN | apply below_drew1 | refine below_set ?_ (IsS91.ge HI0.out)) | exact HB.out), by repeat (first | (with_reducible first | exact HK.out | apply KeepBut.set_ | apply keep_drewN | apply keep_drew | apply keep_alloc) | exact HK.out)⟩
                · rw [if_neg c11] at H
                  exact absurd H (by simp)
              · rw [if_neg c10] at H
                exact absurd H (by simp)
            · rw [if_neg c9] at H
              exact absurd H (by simp)
        · rw [if_neg c4] at H
          exact absurd H (by simp)
      · rw [if_neg c3] at H
        have c3b0 : decide (x1001_1 < (s0_0.size : Int)) = false := decide_eq_false c3
        clear c3
        by_cases c13 : 0 ≤ s0_1
        · rw [if_pos c13] at H
          have c13b0 := eq_true c13
          have c13b1 : decide (0 ≤ s0_1) = true := decide_eq_true c13
          clear c13
          by_cases c14 : s0_1 ≤ x1001_1
          · rw [if_pos c14] at H
            have c14b0 := eq_true c14
            have c14b1 : decide (s0_1 ≤ x1001_1) = true := decide_eq_true c14
            clear c14
            by_cases c15 : x1001_1 ≤ (s0_0.size : Int)
            · rw [if_pos c15] at H
              have c15b0 := eq_true c15
              have c15b1 : decide (x1001_1 ≤ (s0_0.size : Int)) = true := decide_eq_true c15
              clear c15
              simp only [Option.some.injEq, Prod.mk.injEq] at H
              obtain ⟨rfl, rfl, rfl⟩ := H
              obtain ⟨HGz16, hgz16⟩ := HI0.out
              have hcz16_0 := cellS91_0 HGz16
              have hcz16_1 := cellS91_1 HGz16
              have hfz16_0 := blk_frozen HGz16 0
              have hfz16_1 := blk_frozen HGz16 1
              clear HGz16 hgz16
              go_wp2
              repeat (go_quiet (fail); try go_wp2)
              go_ret
              exact ⟨by first | rfl | (simp [errW_none, errW_some] <;> rfl) | (simp [*, errW_none, errW_some] <;> rfl), by repeat (first | (with_reducible first | exact HI0.out | apply IsS91.alloc | apply IsS91.drewN | apply IsS91.drew | apply IsS91.set_0 | apply IsS91.set_1) | exact HI0.out), by repeat (first | (with_reducible first | exact HB.out | apply below_alloc | apply pw_below_drewN | apply below_drew1 | refine below_set ?_ (IsS91.ge HI0.out)) | exact HB.out), by repeat (first | (with_reducible first | exact HK.out | apply KeepBut.set_ | apply keep_drewN | apply keep_drew | apply keep_alloc) | exact HK.out)⟩
            · rw [if_neg c15] at H
              exact absurd H (by simp)
          · rw [if_neg c14] at H
            exact absurd H (by simp)
        · rw [if_neg c13] at H
          exact absurd H (by simp)

end Go.Proofs.YtkhjpobhdpcglaaDoor.X
end
section
namespace Go.Proofs.YtkhjpobhdpcglaaDoor.X
open Go.RowKit Go.Proofs.YtkhjpobhdpcglaaDoorW.PrintWords Go.Proofs.YtkhjpobhdpcglaaDoorW.PrintLast Go.Proofs.YtkhjpobhdpcglaaDoorW.PrintMore
attribute [local go_sem] max2_int min2_int max_two min_two max_three min_three max_four min_four
set_option linter.unusedVariables false
set_option linter.unusedSimpArgs false

/-! ### xml_reader_eat: function 92 -/
def xml_reader_eat.f (s0_0 : ByteArray) (s0_1 : Int) (a1 : ByteArray) : Option (Bool × ByteArray × Int) := if 0 ≤ s0_1 then (if s0_1 ≤ (s0_0.size : Int) then ((strings_HasPrefix.f (s0_0.extract (s0_1 : Int).toNat s0_0.size) a1).bind fun t101 => (if t101 = true then (some (true, s0_0, wrap64 (s0_1 + (a1.size : Int)))) else (some (false, s0_0, s0_1)))) else (none)) else (none)
set_option maxHeartbeats 8000000 in
set_option maxRecDepth 100000 in
theorem xml_reader_eat.calls (g : Nat) (s0_0 : ByteArray) (s0_1 : Int) (a1 : ByteArray) (r1 : Bool) (r2 : ByteArray) (r3 : Int) (w0 w : World) (hI : IsS91 w0 w g s0_0 s0_1) (hB : Below w0.heap.size w0 w) (h : xml_reader_eat.f s0_0 s0_1 a1 = some (r1, r2, r3)) :
    Calls Tryd.prog 92 #[.pointer (some ⟨g, 0, none⟩), .string a1] w fun e w' => e = .returned (.bool r1) ∧ IsS91 w0 w' g r2 r3 ∧ Below w0.heap.size w0 w' ∧ KeepBut w w' g none := by
  have HI0 := Aside0.mk hI
  have HK := Aside0.mk (KeepBut.refl w g none)
  have HL := Aside0.mk hB.size
  clear hI
  have HW0 := Aside0.mk hB.size
  have HB := Aside0.mk hB
  clear hB
  have H : (if 0 ≤ s0_1 then (if s0_1 ≤ (s0_0.size : Int) then ((strings_HasPrefix.f (s0_0.extract (s0_1 : Int).toNat s0_0.size) a1).bind fun t101 => (if t101 = true then (some (true, s0_0, wrap64 (s0_1 + (a1.size : Int)))) else (some (false, s0_0, s0_1)))) else (none)) else (none)) = some (r1, r2, r3) := h
  clear h
  by_cases c3 : 0 ≤ s0_1
  · rw [if_pos c3] at H
    have c3b0 := eq_true c3
    have c3b1 : decide (0 ≤ s0_1) = true := decide_eq_true c3
    clear c3
    by_cases c4 : s0_1 ≤ (s0_0.size : Int)
    · rw [if_pos c4] at H
      have c4b0 := eq_true c4
      have c4b1 : decide (s0_1 ≤ (s0_0.size : Int)) = true := decide_eq_true c4
      clear c4
      replace H := Option.bind_eq_some_iff.mp H
      obtain ⟨t101, A50, H⟩ := H
      replace H : (if t101 = true then (some (true, s0_0, wrap64 (s0_1 + (a1.size : Int)))) else (some (false, s0_0, s0_1))) = some (r1, r2, r3) := H
      have A5 := Aside0.mk A50
      clear A50
      by_cases c6 : t101 = true
      · subst c6
        have H1 : (some (true, s0_0, wrap64 (s0_1 + (a1.size : Int)))) = some (r1, r2, r3) := by rw [if_pos rfl] at H; exact H
        clear H
        have H := H1
        clear H1
        simp only [Option.some.injEq, Prod.mk.injEq] at H
        obtain ⟨rfl, rfl, rfl⟩ := H
        obtain ⟨HGz7, hgz7⟩ := HI0.out
        have hcz7_0 := cellS91_0 HGz7
        have hcz7_1 := cellS91_1 HGz7
        have hfz7_0 := blk_frozen HGz7 0
        have hfz7_1 := blk_frozen HGz7 1
        clear HGz7 hgz7
        go_enter Tryd.func92, Tryd.ntmps92
        go_wp2_with (first | (go_at_call 89; (with_reducible refine (strings_HasPrefix.calls (s0_0.extract (s0_1 : Int).toNat s0_0.size) a1 true _ A5.out).mono ?_); rintro e w' ⟨rfl, ⟨nd, rfl⟩⟩; (try first | exact ⟨rfl, _, World.drewN_drewN _ _ _⟩ | exact ⟨rfl, _, Eq.trans (World.drewN_drewN _ _ _) (congrArg (World.drewN _) (Nat.add_assoc _ _ _))⟩)))
        repeat (go_quiet (first | (go_at_call 89; (with_reducible refine (strings_HasPrefix.calls (s0_0.extract (s0_1 : Int).toNat s0_0.size) a1 true _ A5.out).mono ?_); rintro e w' ⟨rfl, ⟨nd, rfl⟩⟩; (try first | exact ⟨rfl, _, World.drewN_drewN _ _ _⟩ | exact ⟨rfl, _, Eq.trans (World.drewN_drewN _ _ _) (congrArg (World.drewN _) (Nat.add_assoc _ _ _))⟩))); try go_wp2_with (first | (go_at_call 89; (with_reducible refine (strings_HasPrefix.calls (s0_0.extract (s0_1 : Int).toNat s0_0.size) a1 true _ A5.out).mono ?_); rintro e w' ⟨rfl, ⟨nd, rfl⟩⟩; (try first | exact ⟨rfl, _, World.drewN_drewN _ _ _⟩ | exact ⟨rfl, _, Eq.trans (World.drewN_drewN _ _ _) (congrArg (World.drewN _) (Nat.add_assoc _ _ _))⟩))))
        go_ret
        exact ⟨by first | rfl | (simp [errW_none, errW_some] <;> rfl) | (simp [*, errW_none, errW_some] <;> rfl), by repeat (first | (with_reducible first | exact HI0.out | apply IsS91.alloc | apply IsS91.drewN | apply IsS91.drew | apply IsS91.set_0 | apply IsS91.set_1) | exact HI0.out), by repeat (first | (with_reducible first | exact HB.out | apply below_alloc | apply pw_below_drewN | apply below_drew1 | refine below_set ?_ (IsS91.ge HI0.out)) | exact HB.out), by repeat (first | (with_reducible first | exact HK.out | apply KeepBut.set_ | apply keep_drewN | apply keep_drew | apply keep_alloc) | exact HK.out)⟩
      · replace c6 := Bool.eq_false_iff.mpr c6
        subst c6
        have H1 : (some (false, s0_0, s0_1)) = some (r1, r2, r3) := by rw [if_neg (show ¬ (false = true) by decide)] at H; exact H
        clear H
        have H := H1
        clear H1
        simp only [Option.some.injEq, Prod.mk.injEq] at H
        obtain ⟨rfl, rfl, rfl⟩ := H
        obtain ⟨HGz8, hgz8⟩ := HI0.out
        have hcz8_0 := cellS91_0 HGz8
        have hcz8_1 := cellS91_1 HGz8
        have hfz8_0 := blk_frozen HGz8 0
        have hfz8_1 := blk_frozen HGz8 1
        clear HGz8 hgz8
        go_enter Tryd.func92, Tryd.ntmps92
        go_wp2_with (first | (go_at_call 89; (with_reducible refine (strings_HasPrefix.calls (s0_0.extract (s0_1 : Int).toNat s0_0.size) a1 false _ A5.out).mono ?_); rintro e w' ⟨rfl, ⟨nd, rfl⟩⟩; (try first | exact ⟨rfl, _, World.drewN_drewN _ _ _⟩ | exact ⟨rfl, _, Eq.trans (World.drewN_drewN _ _ _) (congrArg (World.drewN _) (Nat.add_assoc _ _ _))⟩)))
        repeat (go_quiet (first | (go_at_call 89; (with_reducible refine (strings_HasPrefix.calls (s0_0.extract (s0_1 : Int).toNat s0_0.size) a1 false _ A5.out).mono ?_); rintro e w' ⟨rfl, ⟨nd, rfl⟩⟩; (try first | exact ⟨rfl, _, World.drewN_drewN _ _ _⟩ | exact ⟨rfl, _, Eq.trans (World.drewN_drewN _ _ _) (congrArg (World.drewN _) (Nat.add_assoc _ _ _))⟩))); try go_wp2_with (first | (go_at_call 89; (with_reducible refine (strings_HasPrefix.calls (s0_0.extract (s0_1 : Int).toNat s0_0.size) a1 false _ A5.out).mono ?_); rintro e w' ⟨rfl, ⟨nd, rfl⟩⟩; (try first | exact ⟨rfl, _, World.drewN_drewN _ _ _⟩ | exact ⟨rfl, _, Eq.trans (World.drewN_drewN _ _ _) (congrArg (World.drewN _) (Nat.add_assoc _ _ _))⟩))))
        go_ret
        exact ⟨by first | rfl | (simp [errW_none, errW_some] <;> rfl) | (simp [*, errW_none, errW_some] <;> rfl), by repeat (first | (with_reducible first | exact HI0.out | apply IsS91.alloc | apply IsS91.drewN | apply IsS91.drew | apply IsS91.set_0 | apply IsS91.set_1) | exact HI0.out), by repeat (first | (with_reducible first | exact HB.out | apply below_alloc | apply pw_below_drewN | apply below_drew1 | refine below_set ?_ (IsS91.ge HI0.out)) | exact HB.out), by repeat (first | (with_reducible first | exact HK.out | apply KeepBut.set_ | apply keep_drewN | apply keep_drew | apply keep_alloc) | exact HK.out)⟩
    · rw [if_neg c4] at H
      exact absurd H (by simp)
  · rw [if_neg c3] at H
    exact absurd H (by simp)

end Go.Proofs.YtkhjpobhdpcglaaDoor.X
end
section
namespace Go.Proofs.YtkhjpobhdpcglaaDoor.X
open Go.RowKit Go.Proofs.YtkhjpobhdpcglaaDoorW.PrintWords Go.Proofs.YtkhjpobhdpcglaaDoorW.PrintLast Go.Proofs.YtkhjpobhdpcglaaDoorW.PrintMore
set_option linter.unusedVariables false
set_option linter.unusedSimpArgs false

/-- the first place from i on whose byte isn't one of p's -/
def runTo (p : Int → Bool) (s : ByteArray) : Nat → Nat → Nat
  | 0, i => i
  | b + 1, i => if i < s.size ∧ p (bt s i) = true then runTo p s b (i + 1) else i
def skip (p : Int → Bool) (s : ByteArray) (i : Nat) : Nat := runTo p s (s.size - i) i
theorem runTo_le (p : Int → Bool) (s : ByteArray) : ∀ b i, i ≤ s.size → i ≤ runTo p s b i ∧ runTo p s b i ≤ s.size
  | 0, i, h => ⟨Nat.le_refl _, h⟩
  | b + 1, i, h => by
    unfold runTo
    split
    · rename_i hh
      have := runTo_le p s b (i + 1) (by omega)
      omega
    · exact ⟨Nat.le_refl _, h⟩
theorem skip_le (p : Int → Bool) (s : ByteArray) (i : Nat) (h : i ≤ s.size) : i ≤ skip p s i ∧ skip p s i ≤ s.size := runTo_le p s _ i h
theorem skip_in {p : Int → Bool} {s : ByteArray} {i : Nat} (h : i < s.size) (hp : p (bt s i) = true) : skip p s i = skip p s (i + 1) := by
  unfold skip
  have : s.size - i = (s.size - (i + 1)) + 1 := by omega
  rw [this, runTo, if_pos ⟨h, hp⟩]
theorem skip_out {p : Int → Bool} {s : ByteArray} {i : Nat} (h : ¬ (i < s.size ∧ p (bt s i) = true)) : skip p s i = i := by
  unfold skip
  cases s.size - i with
  | zero => rfl
  | succ b => rw [runTo, if_neg h]
def whiteV (c : Int) : Bool := c == 32 || c == 9 || c == 10 || c == 13
theorem white_f (c : Int) : xml_white.f c = some (whiteV c) := by
  unfold xml_white.f whiteV
  repeat' split
  all_goals simp_all
def hasP (s : ByteArray) (i : Nat) (t : ByteArray) : Bool := decide (t.size ≤ s.size - i) && ((s.extract i s.size).extract 0 t.size).toList == t.toList
theorem wrap64_small (i : Nat) (h : i ≤ 4611686018427387904) : wrap64 ((i : Int) + 1) = ((i + 1 : Nat) : Int) := by unfold wrap64; omega
theorem space_l (s : ByteArray) (hs : s.size ≤ 4611686018427387904) (from_ : Int) : ∀ (k i : Nat), i ≤ s.size → s.size - i < k →
    xml_reader_space.l0 k from_ s i = some (decide (from_ < (skip whiteV s i : Int)), s, (skip whiteV s i : Int)) := by
  intro k
  induction k with
  | zero => intro i _ h; omega
  | succ k ih =>
    intro i hi hk
    simp only [xml_reader_space.l0]
    by_cases hlt : i < s.size
    · rw [if_pos (by omega), if_pos (by omega), white_f]
      simp only [Option.bind_some]
      cases hw : whiteV (bt s i) with
      | true =>
        simp only [if_true]
        rw [wrap64_small i (by omega), ih (i + 1) (by omega) (by omega), skip_in hlt hw]
      | false =>
        simp only [Bool.false_eq_true, if_false]
        rw [skip_out (by rw [hw]; simp)]
    · rw [if_neg (by omega), skip_out (by omega)]
theorem name_l (s : ByteArray) (hs : s.size ≤ 4611686018427387904) (i0 : Nat) : ∀ (k i : Nat), i0 ≤ i → i ≤ s.size → s.size - i < k →
    xml_reader_name.l0 k i0 s i = some (s.extract i0 (skip innerV s i), s, (skip innerV s i : Int)) := by
  intro k
  induction k with
  | zero => intro i _ _ h; omega
  | succ k ih =>
    intro i h0 hi hk
    simp only [xml_reader_name.l0]
    by_cases hlt : i < s.size
    · rw [if_pos (by omega), if_pos (by omega), inner_f]
      simp only [Option.bind_some]
      cases hw : innerV (bt s i) with
      | true =>
        simp only [if_true]
        rw [wrap64_small i (by omega), ih (i + 1) (by omega) (by omega) (by omega), skip_in hlt hw]
      | false =>
        simp only [Bool.false_eq_true, if_false]
        rw [skip_out (by rw [hw]; simp), if_pos (by omega), if_pos (by omega), if_pos (by omega)]
        simp
    · rw [if_neg (by omega), skip_out (by omega), if_pos (by omega), if_pos (by omega), if_pos (by omega)]
      simp
theorem eat_f (s : ByteArray) (hs : s.size ≤ 4611686018427387904) (i : Nat) (hi : i ≤ s.size) (t : ByteArray) (ht : t.size ≤ 1024) :
    xml_reader_eat.f s i t = some (hasP s i t, s, (((if hasP s i t = true then i + t.size else i) : Nat) : Int)) := by
  have hsz : (s.extract i s.size).size = s.size - i := by simp
  unfold xml_reader_eat.f
  rw [if_pos (by omega), if_pos (by omega), Int.toNat_natCast, hasPrefix_f _ _ (by omega) (by omega), hsz]
  simp only [Option.bind_some]
  change (if hasP s i t = true then _ else _) = _
  cases h : hasP s i t with
  | true =>
    simp only [if_true]
    have : wrap64 ((i : Int) + (t.size : Int)) = ((i + t.size : Nat) : Int) := by
      have h2 : t.size ≤ s.size - i := of_decide_eq_true ((Bool.and_eq_true _ _).mp h).1
      unfold wrap64; omega
    rw [this]
  | false => simp
theorem hasP_le {s : ByteArray} {i : Nat} {t : ByteArray} (h : hasP s i t = true) : t.size ≤ s.size - i := of_decide_eq_true ((Bool.and_eq_true _ _).mp h).1

/-- a reader of s at place i, in block g; what was there at w0's time lies as it lay -/
structure Rd (w0 w : World) (g : Nat) (s : ByteArray) (i : Nat) : Prop where
  st : IsS91 w0 w g s i
  below : Below w0.heap.size w0 w
  le : i ≤ s.size
  small : s.size ≤ 1073741824
theorem space_calls {w0 w : World} {g : Nat} {s : ByteArray} {i : Nat} (h : Rd w0 w g s i) :
    Calls Tryd.prog 48 #[.pointer (some ⟨g, 0, none⟩)] w fun e w' => e = .returned (.bool (decide (i < skip whiteV s i))) ∧ Rd w0 w' g s (skip whiteV s i) ∧ KeepBut w w' g none := by
  have hsp := space_l s (by have := h.small; omega) (i : Int) (s.size + 1) i h.le (by omega)
  refine (xml_reader_space.calls (s.size + 1) g s i _ _ _ w0 w h.st h.below hsp).mono ?_
  rintro e w' ⟨rfl, h1, h2, h3⟩
  exact ⟨by simp, ⟨h1, h2, (skip_le _ _ _ h.le).2, h.small⟩, h3⟩
theorem name_calls {w0 w : World} {g : Nat} {s : ByteArray} {i : Nat} (h : Rd w0 w g s i) :
    Calls Tryd.prog 93 #[.pointer (some ⟨g, 0, none⟩)] w fun e w' => e = .returned (.string (s.extract i (skip innerV s i))) ∧ Rd w0 w' g s (skip innerV s i) ∧ KeepBut w w' g none := by
  have hsp := name_l s (by have := h.small; omega) i (s.size + 1) i (Nat.le_refl _) h.le (by omega)
  refine (xml_reader_name.calls (s.size + 1) g s i _ _ _ w0 w h.st h.below hsp).mono ?_
  rintro e w' ⟨rfl, h1, h2, h3⟩
  exact ⟨rfl, ⟨h1, h2, (skip_le _ _ _ h.le).2, h.small⟩, h3⟩
theorem eat_calls {w0 w : World} {g : Nat} {s : ByteArray} {i : Nat} (h : Rd w0 w g s i) (t : ByteArray) (ht : t.size ≤ 1024) :
    Calls Tryd.prog 92 #[.pointer (some ⟨g, 0, none⟩), .string t] w fun e w' => e = .returned (.bool (hasP s i t)) ∧ Rd w0 w' g s (if hasP s i t = true then i + t.size else i) ∧ KeepBut w w' g none := by
  have hsp := eat_f s (by have := h.small; omega) i h.le t ht
  refine (xml_reader_eat.calls g s i t _ _ _ w0 w h.st h.below hsp).mono ?_
  rintro e w' ⟨rfl, h1, h2, h3⟩
  refine ⟨rfl, ⟨h1, h2, ?_, h.small⟩, h3⟩
  have := h.le
  split
  · rename_i h4; have := hasP_le h4; omega
  · exact h.le
theorem Rd.cell0 {w0 w : World} {g : Nat} {s : ByteArray} {i : Nat} (h : Rd w0 w g s i) : w.cell? ⟨g, 0, none⟩ = some (.string s) := cellS91_0 h.st.1
theorem Rd.cell1 {w0 w : World} {g : Nat} {s : ByteArray} {i : Nat} (h : Rd w0 w g s i) : w.cell? ⟨g, 1, none⟩ = some (.int .i64 i) := cellS91_1 h.st.1
theorem Rd.frozen {w0 w : World} {g : Nat} {s : ByteArray} {i : Nat} (h : Rd w0 w g s i) (j : Nat) : w.frozen? ⟨g, j, none⟩ = false := blk_frozen h.st.1 j
theorem Rd.drewN {w0 w : World} {g : Nat} {s : ByteArray} {i : Nat} (h : Rd w0 w g s i) (n : Nat) : Rd w0 (w.drewN n) g s i := ⟨h.st.drewN n, pw_below_drewN h.below n, h.le, h.small⟩
theorem Rd.lt {w0 w : World} {g : Nat} {s : ByteArray} {i : Nat} (h : Rd w0 w g s i) : g < w.heap.size := h.st.lt
theorem Rd.ge {w0 w : World} {g : Nat} {s : ByteArray} {i : Nat} (h : Rd w0 w g s i) : w0.heap.size ≤ g := h.st.ge
theorem Rd.stays {w0 w w' : World} {g : Nat} {s : ByteArray} {i : Nat} (h : Rd w0 w g s i) (hb : Below w.heap.size w w') : Rd w0 w' g s i := ⟨h.st.below hb, below_then h.below h.below.size hb, h.le, h.small⟩
theorem Rd.move {w0 w : World} {g : Nat} {s : ByteArray} {i : Nat} (h : Rd w0 w g s i) (j : Nat) (hj : j ≤ s.size) : Rd w0 (w.setCell ⟨g, 1, none⟩ (.int .i64 j)) g s j :=
  ⟨h.st.set_1 j, h.below.setCell (p := ⟨g, 1, none⟩) h.ge _, hj, h.small⟩
theorem Rd.far {w0 w : World} {g : Nat} {s : ByteArray} {i : Nat} (h : Rd w0 w g s i) {p : Addr} (hp : p.block ≠ g) (hge : w0.heap.size ≤ p.block) (u : Value) : Rd w0 (w.setCell p u) g s i :=
  ⟨h.st.far (fun e => hp e.symm) u, h.below.setCell hge _, h.le, h.small⟩
end Go.Proofs.YtkhjpobhdpcglaaDoor.X
end
section
namespace Go.Proofs.YtkhjpobhdpcglaaDoor.X
open Go.RowKit Go.Proofs.YtkhjpobhdpcglaaDoorW.PrintWords Go.Proofs.YtkhjpobhdpcglaaDoorW.PrintLast Go.Proofs.YtkhjpobhdpcglaaDoorW.PrintMore
set_option linter.unusedVariables false
set_option linter.unusedSimpArgs false

/-- the text "<&" -/
abbrev ltamp : ByteArray := ⟨#[60, 38]⟩

theorem enc2 (c : Nat) (h1 : Lib.validRune c = true) (hc : 128 ≤ c) (h8 : c < 2048) : Utf8.encode (c : Int) = ⟨#[UInt8.ofNat (192 + c / 64), UInt8.ofNat (128 + c % 64)]⟩ := by
  have hv : Utf8.valid (c : Int) = true := by simp [Utf8.valid]; omega
  have h0 : ¬ c < 128 := by omega
  simp [Utf8.encode, hv, h0, h8]
theorem enc3 (c : Nat) (h1 : Lib.validRune c = true) (h8 : 2048 ≤ c) : ∃ x y z l, Utf8.encode (c : Int) = ⟨(x :: y :: z :: l).toArray⟩ ∧ l.length ≤ 1 := by
  have hv : Utf8.valid (c : Int) = true := by
    simp [Lib.validRune] at h1
    simp [Utf8.valid]; omega
  have h0 : ¬ c < 128 := by omega
  have h2 : ¬ c < 2048 := by omega
  by_cases h3 : c < 65536
  · exact ⟨_, _, _, [], by simp [Utf8.encode, hv, h0, h2, h3]; exact ⟨rfl, rfl, rfl⟩, by simp⟩
  · exact ⟨_, _, _, [_], by simp [Utf8.encode, hv, h0, h2, h3]; exact ⟨rfl, rfl, rfl, rfl⟩, by simp⟩

set_option maxHeartbeats 1000000 in
set_option maxRecDepth 1000000 in
theorem IndexRune_fffd (w : World) :
    Calls Tryd.prog 161 #[.string ltamp, .int .i32 65533] w fun e w' => e = .returned (.int .i64 (-1)) ∧ Below w.heap.size w w' := by
  go_enter Tryd.func161, Tryd.ntmps161
  go_wp2
  go_loopw [] (fun w' => ∃ (pos : Nat), w' = w.iter ltamp pos ∧ pos ≤ 2) (fun w' => 2 - w'.iterPos w.heap.size)
  case atStart => exact ⟨0, rfl, by omega⟩
  case round =>
    obtain ⟨pos, rfl, hps⟩ := hrel
    by_cases hp : pos < 2
    · have hnx : ∀ ty, (Instr.next (.pointer (some ⟨w.heap.size, 0, none⟩)) true ty).run Tryd.prog (w.iter ltamp pos) = _ := fun ty => run_next_any w ltamp pos ty hp
      have hd : Utf8.decode ltamp pos = (if pos = 0 then 60 else 38, 1) := by
        rcases (show pos = 0 ∨ pos = 1 by omega) with rfl | rfl <;> rfl
      rw [hd] at hnx
      have hne : (((if pos = 0 then 60 else 38 : Nat) : Int) == 65533) = false := by split <;> rfl
      clear hd
      go_wp2
      go_roundw
      case rel => exact ⟨pos + 1, rfl, by omega⟩
      case measure => rw [World.iterPos_iter, World.iterPos_iter]; omega
    · have hnx : ∀ ty, (Instr.next (.pointer (some ⟨w.heap.size, 0, none⟩)) true ty).run Tryd.prog (w.iter ltamp pos) = _ := fun ty => run_next_end w ltamp pos ty hp
      go_wp2
      go_ret
      exact ⟨rfl, below_alloc (Below.refl _ _) _⟩
set_option maxHeartbeats 1000000 in
set_option maxRecDepth 1000000 in
theorem IndexRune_bad (c : Nat) (hc : 128 ≤ c) (h1 : Lib.validRune c = false) (hne : ((c : Int) == 65533) = false) (w : World) :
    Calls Tryd.prog 161 #[.string ltamp, .int .i32 c] w fun e w' => e = .returned (.int .i64 (-1)) ∧ Below w.heap.size w w' := by
  have H1 := Lib.hid h1
  clear h1
  have h2 : decide ((c : Int) < 128) = false := by simp; omega
  go_enter Tryd.func161, Tryd.ntmps161
  go_wp2_with (go_at_call 171; refine (Tryd.utf8_ValidRune _ _).mono ?_; rw [H1.out]; rintro e w' ⟨rfl, rfl⟩)
  go_ret
  exact ⟨rfl, Below.refl _ _⟩
set_option maxHeartbeats 1000000 in
set_option maxRecDepth 1000000 in
theorem IndexRune_two (c : Nat) (hc : 128 ≤ c) (h1 : Lib.validRune c = true) (h8 : c < 2048) (w : World) :
    Calls Tryd.prog 161 #[.string ltamp, .int .i32 c] w fun e w' => e = .returned (.int .i64 (-1)) ∧ Below w.heap.size w w' := by
  have HE := Lib.hid (enc2 c h1 hc h8)
  have H1 := Lib.hid h1
  clear h1
  have h2 : decide ((c : Int) < 128) = false := by simp; omega
  have hne : ((c : Int) == 65533) = false := by simp; omega
  go_enter Tryd.func161, Tryd.ntmps161
  go_wp2_with (go_at_call 171; refine (Tryd.utf8_ValidRune _ _).mono ?_; rw [H1.out]; rintro e w' ⟨rfl, rfl⟩)
  go_step3
  have henc := HE.out
  have hbyte : ∀ v : UInt8, v = UInt8.ofNat (128 + c % 64) → ((ltamp[1].toNat : Int) != (v.toNat : Int)) = true := by
    intro v hv
    subst hv
    have : (UInt8.ofNat (128 + c % 64)).toNat = 128 + c % 64 := by
      simp; omega
    rw [this]; show ((38 : Int) != _) = true; simp; omega
  obtain ⟨u, hu⟩ : ∃ u, u = UInt8.ofNat (192 + c / 64) := ⟨_, rfl⟩
  obtain ⟨v, hv⟩ : ∃ v, v = UInt8.ofNat (128 + c % 64) := ⟨_, rfl⟩
  rw [← hu, ← hv] at henc
  have hb : ((ltamp[1].toNat : Int) != (((⟨#[u, v]⟩ : ByteArray)[1]'(Nat.lt_succ_self 1)).toNat : Int)) = true := hbyte v hv
  clear hbyte hu hv
  have hib : ∀ x, Lib.indexByte [] x = -1 := fun _ => rfl
  go_wp2
  refine wp_loop_rounds 1 ?_
  rw [rounds_succ]
  go_wp2
  go_step3
  go_wp2
  go_quiet (fail)
  go_wp2
  go_quiet ((go_at_call 113; refine (Tryd.strings_IndexByte _ _ _).mono ?_; rintro e w2 ⟨rfl, rfl⟩; first | exact ⟨rfl, _, rfl⟩ | exact ⟨rfl, 0, rfl⟩ | trace_state))
  go_wp2
  simp only [Exit.then, Exit.inBlock, Exit.noGoto_ret]
  go_ret
  exact ⟨rfl, pw_below_drewN (Below.refl _ _) _⟩
set_option maxHeartbeats 1000000 in
set_option maxRecDepth 1000000 in
theorem IndexRune_more (c : Nat) (hc : 2048 ≤ c) (h1 : Lib.validRune c = true) (hne : ((c : Int) == 65533) = false) (w : World) :
    Calls Tryd.prog 161 #[.string ltamp, .int .i32 c] w fun e w' => e = .returned (.int .i64 (-1)) ∧ Below w.heap.size w w' := by
  obtain ⟨x, y, z, l, he, hl⟩ := enc3 c h1 hc
  have HE := Lib.hid he
  have H1 := Lib.hid h1
  clear h1 he
  have h2 : decide ((c : Int) < 128) = false := by simp; omega
  go_enter Tryd.func161, Tryd.ntmps161
  go_wp2_with (go_at_call 171; refine (Tryd.utf8_ValidRune _ _).mono ?_; rw [H1.out]; rintro e w' ⟨rfl, rfl⟩)
  go_step3
  have henc := HE.out
  go_wp2
  refine wp_loop_rounds 1 ?_
  rw [rounds_succ]
  have hlt : decide ((l.length : Int) + 1 + 1 < 2) = false := by simp; omega
  go_wp2
  rw [Exit.noGoto_ret]
  go_ret
  exact ⟨rfl, Below.refl _ _⟩
theorem decode_valid (s : ByteArray) (pos : Nat) (h : pos < s.size) : (Utf8.decode s pos).1 < 128 ∨ (Utf8.decode s pos).1 = 65533 ∨ Lib.validRune ((Utf8.decode s pos).1 : Int) = true := by
  simp only [Utf8.decode]
  repeat' split
  all_goals first
  | (left; assumption)
  | (right; left; rfl)
  | (right; right; simp_all [Lib.validRune, Utf8.valid]; omega)

theorem IndexRune_high (c : Nat) (hc : 128 ≤ c) (w : World) :
    Calls Tryd.prog 161 #[.string ltamp, .int .i32 c] w fun e w' => e = .returned (.int .i64 (-1)) ∧ Below w.heap.size w w' := by
  by_cases h : c = 65533
  · subst h; exact IndexRune_fffd w
  · have hne : ((c : Int) == 65533) = false := by simp; omega
    cases hv : Lib.validRune (c : Int) with
    | false => exact IndexRune_bad c hc hv hne w
    | true =>
      by_cases h8 : c < 2048
      · exact IndexRune_two c hc hv h8 w
      · exact IndexRune_more c (by omega) hv hne w
theorem IndexRune_low (c : Nat) (hc : c < 128) (w : World) :
    Calls Tryd.prog 161 #[.string ltamp, .int .i32 c] w fun e w' => e = .returned (.int .i64 (if c = 60 then 0 else if c = 38 then 1 else -1)) ∧ Below w.heap.size w w' := by
  refine (Tryd.strings_IndexRune_ascii ltamp c w (by omega) (by omega)).mono ?_
  rintro e w' ⟨rfl, rfl⟩
  refine ⟨?_, Below.refl _ _⟩
  congr 2
  show Lib.indexByte [60, 38] ((c : Int).toNat.toUInt8) = _
  have e1 : ∀ n : Nat, n < 256 → ((60 : UInt8) == n.toUInt8) = decide (n = 60) := fun n hn => by
    rw [Bool.eq_iff_iff]; simp [← UInt8.toNat_inj, Nat.toUInt8]; omega
  have e2 : ∀ n : Nat, n < 256 → ((38 : UInt8) == n.toUInt8) = decide (n = 38) := fun n hn => by
    rw [Bool.eq_iff_iff]; simp [← UInt8.toNat_inj, Nat.toUInt8]; omega
  simp only [Int.toNat_natCast, Lib.indexByte, e1 c (by omega), e2 c (by omega), decide_eq_true_eq]
  split
  · rfl
  · split <;> rfl

/-- is a mark among the characters from a position on? -/
def isMark (c : Nat) : Bool := c == 60 || c == 38
def anyB (s : ByteArray) : Nat → Nat → Bool
  | 0, _ => false
  | b + 1, pos => if pos < s.size then (if isMark (Utf8.decode s pos).1 then true else anyB s b (pos + (Utf8.decode s pos).2)) else false
theorem anyB_end (s : ByteArray) (b pos : Nat) (h : ¬ pos < s.size) : anyB s b pos = false := by
  cases b with
  | zero => rfl
  | succ b => simp [anyB, h]
/-- what IndexRune tells of one character -/
def irune (c : Nat) : Int := if c < 128 then (if c = 60 then 0 else if c = 38 then 1 else -1) else -1
theorem IndexRune_amp (c : Nat) (w : World) :
    Calls Tryd.prog 161 #[.string ltamp, .int .i32 c] w fun e w' => e = .returned (.int .i64 (irune c)) ∧ Below w.heap.size w w' := by
  unfold irune
  by_cases h : c < 128
  · rw [if_pos h]; exact IndexRune_low c h w
  · rw [if_neg h]; exact IndexRune_high c (by omega) w
theorem irune_mark (c : Nat) : decide (0 ≤ irune c) = isMark c := by
  unfold irune isMark
  by_cases h : c < 128
  · rw [if_pos h]
    by_cases h1 : c = 60
    · simp [h1]
    · by_cases h2 : c = 38
      · simp [h2]
      · simp [h1, h2]
  · rw [if_neg h]
    have h1 : ¬ c = 60 := by omega
    have h2 : ¬ c = 38 := by omega
    simp [h1, h2]

set_option maxHeartbeats 1000000 in
set_option maxRecDepth 1000000 in
theorem IndexAny_short (s : ByteArray) (hs : s.size ≤ 8) (w : World) :
    Calls Tryd.prog 151 #[.string s, .string ltamp] w fun e w' => (∃ i : Int, e = .returned (.int .i64 i) ∧ decide (0 ≤ i) = anyB s s.size 0) ∧ Below w.heap.size w w' := by
  have h8 : decide ((s.size : Int) > 8) = false := by simp; omega
  have h9 : decide (8 < (s.size : Int)) = false := by simp; omega
  go_enter Tryd.func151, Tryd.ntmps151
  go_wp2_with (go_at_call 162; refine (Tryd.strings_shouldUseASCIISet _ _).mono ?_; rw [h9]; rintro e w2 ⟨rfl, hw2⟩; obtain rfl := hw2.symm)
  go_loopw [] (fun wr => ∃ (pos b : Nat), Aside0 (wr.heap[w.heap.size]? = some (.stringIter s pos)) ∧ Aside0 (anyB s b pos = anyB s s.size 0) ∧ s.size ≤ pos + b ∧ Below w.heap.size w wr) (fun wr => s.size - wr.iterPos w.heap.size)
  case atStart => exact ⟨0, s.size, ⟨World.iter_heap _ _ _⟩, ⟨rfl⟩, by omega, below_alloc (Below.refl _ _) _⟩
  case round =>
    obtain ⟨pos, b, HI, HC, hb, hbel⟩ := hrel
    have hsz := hbel.size
    by_cases hp : pos < s.size
    · have hnx : ∀ ty, (Instr.next (.pointer (some ⟨w.heap.size, 0, none⟩)) true ty).run Tryd.prog wr = _ := fun ty => Lib.run_next_any_at wr w.heap.size s pos ty HI.out hp
      have hwd := width_pos s pos hp
      obtain ⟨b, rfl⟩ : ∃ b', b = b' + 1 := ⟨b - 1, by omega⟩
      have HI2 := Aside0.mk (Lib.iterAt_heap wr w.heap.size s pos (pos + (Utf8.decode s pos).2) HI.out)
      have hb2 := Lib.below_iterAt hbel (Nat.le_refl _) s (pos + (Utf8.decode s pos).2)
      have HP := Aside0.mk (iterPos_of HI.out)
      have HM := Aside0.mk (irune_mark (Utf8.decode s pos).1)
      cases hm : isMark (Utf8.decode s pos).1 with
      | true =>
        have hd : decide (0 ≤ irune (Utf8.decode s pos).1) = true := by rw [HM.out, hm]
        have HM1 := Aside0.mk hm
        clear hm
        go_wp2_with (go_at_call 161; refine (IndexRune_amp _ _).mono ?_; rintro e w2 ⟨rfl, hb3⟩)
        go_ret
        have hC := HC.out
        simp only [anyB, if_pos hp, HM1.out, if_true] at hC
        exact ⟨⟨_, rfl, by rw [← hC]; simp⟩, below_then hb2 (by rw [Lib.iterAt_size]; exact hsz) hb3⟩
      | false =>
        have hd : decide (0 ≤ irune (Utf8.decode s pos).1) = false := by rw [HM.out, hm]
        have HM1 := Aside0.mk hm
        clear hm
        go_wp2_with (go_at_call 161; refine (IndexRune_amp _ _).mono ?_; rintro e w2 ⟨rfl, hb3⟩)
        have HI3 := Aside0.mk ((hb3.block w.heap.size (by rw [Lib.iterAt_size]; exact (Array.getElem?_eq_some_iff.1 HI.out).1)).trans HI2.out)
        go_roundw
        case rel => exact ⟨pos + (Utf8.decode s pos).2, b, HI3, ⟨by rw [← HC.out]; simp [anyB, hp, HM1.out]⟩, by omega, below_then hb2 (by rw [Lib.iterAt_size]; exact hsz) hb3⟩
        case measure => rw [iterPos_of HI3.out, HP.out]; omega
    · have hnx : ∀ ty, (Instr.next (.pointer (some ⟨w.heap.size, 0, none⟩)) true ty).run Tryd.prog wr = _ := fun ty => Lib.run_next_end_at wr w.heap.size s pos ty HI.out hp
      go_wp2
      go_ret
      have hC := HC.out
      rw [anyB_end s b pos hp] at hC
      exact ⟨⟨_, rfl, by rw [← hC]; rfl⟩, hbel⟩

theorem zero163 : ∀ w, (zeroValue 163).run Tryd.prog w = .ok (.agg (Array.replicate 256 (.bool false))) w := fun _ => by kernel_rfl

/-- is a mark among the bytes? -/
def hasMark (s : ByteArray) : Bool := s.data.toList.any fun b => b == 60 || b == 38
def strings_ContainsAny.f (a0 a1 : ByteArray) : Option Bool := if a1.data.toList = [60, 38] ∧ a0.size < 4294967281 then some (hasMark a0) else none
theorem indexAny_iff (l : List UInt8) : 0 ≤ Lib.indexAny l [60, 38] ↔ (l.any fun b => b == 60 || b == 38) = true := by
  induction l with
  | nil => simp [Lib.indexAny]
  | cons b l ih =>
    have hge := Lib.indexAny_ge [60, 38] l
    rw [List.any_cons, Bool.or_eq_true, ← ih]
    have hun : Lib.indexAny (b :: l) [60, 38] = (if ([60, 38] : List UInt8).contains b = true then 0 else if (Lib.indexAny l [60, 38] == -1) = true then -1 else Lib.indexAny l [60, 38] + 1) := rfl
    rw [hun]
    clear hun
    have hcb : (([60, 38] : List UInt8).contains b = true) ↔ ((b == 60 || b == 38) = true) := by simp
    by_cases hb : (b == 60 || b == 38) = true
    · rw [if_pos (hcb.2 hb)]; simp [hb]
    · rw [if_neg (fun h => hb (hcb.1 h))]
      by_cases h1 : Lib.indexAny l [60, 38] = -1
      · rw [if_pos (by simpa using h1)]; simp [hb, h1]
      · rw [if_neg (by simpa using h1)]
        simp only [hb, Bool.false_eq_true, false_or]
        omega
theorem indexAny_mark (s : ByteArray) : decide (0 ≤ Lib.indexAny s.data.toList [60, 38]) = hasMark s := by
  rw [Bool.eq_iff_iff, decide_eq_true_iff]
  exact indexAny_iff _
/-- the bytes of a string that stand behind a character's first: none is below 128 -/
theorem decode_tail (s : ByteArray) (pos : Nat) (h : pos < s.size) : pos + (Utf8.decode s pos).2 ≤ s.size ∧ (∀ j, 1 ≤ j → j < (Utf8.decode s pos).2 → 128 ≤ (s.get! (pos + j)).toNat) ∧ ((s.get! pos).toNat < 128 → Utf8.decode s pos = ((s.get! pos).toNat, 1)) ∧ (128 ≤ (s.get! pos).toNat → 128 ≤ (Utf8.decode s pos).1) := by
  simp only [Utf8.decode, Nat.add_zero]
  refine ⟨?_, ?_, ?_, ?_⟩
  · repeat' split
    all_goals simp_all
    all_goals omega
  · intro j h1 h2
    revert h2
    repeat' split
    all_goals intro h2
    all_goals try (simp at h2; omega)
    · have hj : j = 1 := by simp at h2; omega
      subst hj; simp_all; omega
    · have hj : j = 1 ∨ j = 2 := by simp at h2; omega
      rcases hj with rfl | rfl <;> (simp_all; omega)
    · have hj : j = 1 ∨ j = 2 ∨ j = 3 := by simp at h2; omega
      rcases hj with rfl | rfl | rfl <;> (simp_all; omega)
  · intro hl
    simp [hl]
  · intro hl
    have : ¬ (s.get! pos).toNat < 128 := by omega
    simp only [this, if_false]
    repeat' split
    all_goals simp_all [Utf8.runeError]
    all_goals omega
theorem get!_list (s : ByteArray) (i : Nat) (h : i < s.size) : s.data.toList[i]? = some (s.get! i) := by
  obtain ⟨⟨l⟩⟩ := s
  have h' : i < l.length := h
  have : (ByteArray.mk ⟨l⟩).get! i = l[i] := by
    show (Array.mk l)[i]! = _
    simp [getElem!_pos, h']
  rw [this]
  simp [h']
theorem anyB_from (s : ByteArray) : ∀ (b pos : Nat), pos ≤ s.size → s.size ≤ pos + b → anyB s b pos = (s.data.toList.drop pos).any fun x => x == 60 || x == 38
  | 0, pos, h, hb => by
    have : s.data.toList.drop pos = [] := List.drop_of_length_le (by simp; omega)
    rw [this]; rfl
  | b + 1, pos, h, hb => by
    by_cases hp : pos < s.size
    · have hw := width_pos s pos hp
      obtain ⟨t1, t2, t3, t4⟩ := decode_tail s pos hp
      have ih := anyB_from s b (pos + (Utf8.decode s pos).2) t1 (by omega)
      have hlen : pos + (Utf8.decode s pos).2 ≤ s.data.toList.length := by simpa using t1
      have hsplit : s.data.toList.drop pos = (s.data.toList.drop pos).take (Utf8.decode s pos).2 ++ s.data.toList.drop (pos + (Utf8.decode s pos).2) := by
        rw [← List.drop_drop, List.take_append_drop]
      have hmark : ((s.data.toList.drop pos).take (Utf8.decode s pos).2).any (fun x => x == 60 || x == 38) = isMark (Utf8.decode s pos).1 := by
        rw [Bool.eq_iff_iff, List.any_eq_true]
        constructor
        · rintro ⟨x, hx, hxm⟩
          obtain ⟨j, hj, hxe⟩ := List.getElem_of_mem hx
          have hj2 : j < (Utf8.decode s pos).2 := by simp at hj; omega
          have hxv : x = s.get! (pos + j) := by
            have h1 : s.data.toList[pos + j]? = some x := by
              have := List.getElem?_eq_getElem hj
              rw [hxe] at this
              simpa [List.getElem?_take, List.getElem?_drop, hj2] using this
            rw [get!_list s (pos + j) (by omega)] at h1
            exact (Option.some.inj h1).symm
          have hx128 : x.toNat < 128 := by
            simp at hxm
            rcases hxm with rfl | rfl <;> decide
          rcases Nat.eq_zero_or_pos j with rfl | hj0
          · have h0 : (s.get! pos).toNat < 128 := by rw [Nat.add_zero] at hxv; rw [← hxv]; exact hx128
            rw [t3 h0]
            rw [Nat.add_zero] at hxv
            rw [← hxv]
            simp at hxm
            rcases hxm with rfl | rfl <;> rfl
          · have := t2 j hj0 hj2
            rw [← hxv] at this
            omega
        · intro hm
          have h0 : (s.get! pos).toNat < 128 := by
            apply Classical.byContradiction
            intro hge
            have := t4 (by omega)
            simp [isMark] at hm
            omega
          rw [t3 h0] at hm ⊢
          refine ⟨s.get! pos, ?_, ?_⟩
          · have : s.data.toList.drop pos = s.get! pos :: s.data.toList.drop (pos + 1) := by
              have hl : pos < s.data.toList.length := by simpa using hp
              rw [List.drop_eq_getElem_cons hl]
              congr 1
              have := get!_list s pos hp
              rw [List.getElem?_eq_getElem hl] at this
              exact Option.some.inj this
            rw [this]; simp
          · simp [isMark] at hm
            simp only [Bool.or_eq_true, beq_iff_eq]
            rcases hm with hm | hm
            · left; exact UInt8.toNat_inj.1 hm
            · right; exact UInt8.toNat_inj.1 hm
      rw [anyB, if_pos hp, hsplit, List.any_append, hmark, ih]
      cases isMark (Utf8.decode s pos).1 <;> simp
    · have : s.data.toList.drop pos = [] := List.drop_of_length_le (by simp; omega)
      rw [this, anyB, if_neg hp]; rfl
theorem anyB_eq (s : ByteArray) : anyB s s.size 0 = hasMark s := by
  rw [anyB_from s s.size 0 (by omega) (by omega)]; rfl

set_option maxHeartbeats 1000000 in
theorem IndexAny_amp (s : ByteArray) (hs : s.size < 4294967281) (w : World) :
    Calls Tryd.prog 151 #[.string s, .string ltamp] w fun e w' => (∃ i : Int, e = .returned (.int .i64 i) ∧ decide (0 ≤ i) = hasMark s) ∧ Below w.heap.size w w' := by
  by_cases h8 : s.size ≤ 8
  · refine (IndexAny_short s h8 w).mono ?_
    rintro e w' ⟨⟨i, rfl, hi⟩, hb⟩
    exact ⟨⟨i, rfl, hi.trans (anyB_eq s)⟩, hb⟩
  · refine (Tryd.strings_IndexAny_long zero163 s ltamp w (by decide) (by omega) hs (by decide) (by intro j b hb; rcases j with _ | _ | j <;> simp at hb <;> subst hb <;> decide)).mono ?_
    rintro e w' ⟨rfl, rfl⟩
    exact ⟨⟨_, rfl, indexAny_mark s⟩, below_alloc (below_alloc (Below.refl _ _) _) _⟩

set_option maxHeartbeats 1000000 in
theorem strings_ContainsAny.calls (a0 a1 : ByteArray) (r : Bool) (w : World) (h : strings_ContainsAny.f a0 a1 = some r) :
    Calls Tryd.prog 130 #[.string a0, .string a1] w fun e w' => e = .returned (.bool r) ∧ Below w.heap.size w w' := by
  unfold strings_ContainsAny.f at h
  split at h
  case isFalse => cases h
  rename_i hh
  obtain ⟨h1, h2⟩ := hh
  obtain rfl : a1 = ltamp := by
    obtain ⟨⟨l⟩⟩ := a1
    simp at h1
    subst h1
    rfl
  simp only [Option.some.injEq] at h
  have H := Aside0.mk h
  clear h h1
  go_enter Tryd.func130, Tryd.ntmps130
  go_wp2_with fail
  refine (IndexAny_amp a0 h2 _).mono ?_
  rintro e w' ⟨⟨i, rfl, hi⟩, hb⟩
  have HI := Aside0.mk hi
  clear hi
  go_wp2
  go_ret
  exact ⟨by rw [← H.out, ← HI.out]; rfl, hb⟩
end Go.Proofs.YtkhjpobhdpcglaaDoor.X
end
section
namespace Go.Proofs.YtkhjpobhdpcglaaDoor.X
open Go.RowKit Go.Proofs.YtkhjpobhdpcglaaDoorW.PrintWords Go.Proofs.YtkhjpobhdpcglaaDoorW.PrintLast Go.Proofs.YtkhjpobhdpcglaaDoorW.PrintMore
set_option linter.unusedVariables false
set_option linter.unusedSimpArgs false

def strings_IndexByte.f (a0 : ByteArray) (a1 : Int) : Option Int := some (Lib.indexByte a0.data.toList a1.toNat.toUInt8)
theorem strings_IndexByte.calls (a0 : ByteArray) (a1 : Int) (r : Int) (w : World) (h : strings_IndexByte.f a0 a1 = some r) :
    Calls Tryd.prog 113 #[.string a0, .int .u8 a1] w fun e w' => e = .returned (.int .i64 r) ∧ Drawn0 w w' := by
  refine (Tryd.strings_IndexByte a0 a1 w).mono ?_
  rintro e w' ⟨rfl, rfl⟩
  simp only [strings_IndexByte.f, Option.some.injEq] at h
  subst h
  exact ⟨rfl, Drawn0.refl _⟩

/-- a text at the place i: what is ahead, what is behind one byte -/
def cutAt (s : ByteArray) (i : Int) : ByteArray × ByteArray × Bool := if 0 ≤ i then (s.extract 0 i.toNat, s.extract (i.toNat + 1) s.size, true) else (s, ⟨#[]⟩, false)
theorem indexByte_lt (c : UInt8) : ∀ l : List UInt8, Lib.indexByte l c < l.length ∨ Lib.indexByte l c = -1
  | [] => .inr rfl
  | b :: l => by
    have hun : Lib.indexByte (b :: l) c = (if (b == c) = true then 0 else if (Lib.indexByte l c == -1) = true then -1 else Lib.indexByte l c + 1) := rfl
    rw [hun]
    clear hun
    split
    · left; simp
    · split
      · right; rfl
      · have := indexByte_lt c l
        rename_i h
        simp at h
        left
        simp only [List.length_cons]
        omega

set_option maxHeartbeats 1000000 in
set_option maxRecDepth 100000 in
theorem slite_Cut_one (s : ByteArray) (c : UInt8) (hs : s.size ≤ 9223372036854775806) (w : World) :
    Calls Tryd.prog 104 #[.string s, .string ⟨#[c]⟩] w fun e w' => e = .returned (.tuple #[.string (cutAt s (Lib.indexByte s.data.toList c)).1, .string (cutAt s (Lib.indexByte s.data.toList c)).2.1, .bool (cutAt s (Lib.indexByte s.data.toList c)).2.2]) ∧ Drawn0 w w' := by
  have hlt := indexByte_lt c s.data.toList
  have hge := Lib.indexByte_ge s.data.toList c
  have hlen : s.data.toList.length = s.size := by simp
  rw [hlen] at hlt
  clear hlen
  obtain ⟨i, hi⟩ : ∃ i, i = Lib.indexByte s.data.toList c := ⟨_, rfl⟩
  rw [← hi] at hlt hge ⊢
  have HI := Aside0.mk hi
  clear hi
  by_cases h0 : 0 ≤ i
  · have h1 : i < s.size := by omega
    obtain ⟨n, rfl⟩ : ∃ n : Nat, i = n := ⟨i.toNat, by omega⟩
    have hn : n < s.size := by omega
    have hw : IntKind.i64.wrap ((n : Int) + 1) = (n : Int) + 1 := by simp [IntKind.wrap_i64]; omega
    have hc : cutAt s (n : Int) = (s.extract 0 n, s.extract (n + 1) s.size, true) := by unfold cutAt; rw [if_pos h0]; simp
    rw [hc]
    clear hlt hge hc h0
    have h0 : decide (0 ≤ (n : Int)) = true := by simp
    go_enter Tryd.func104, Tryd.ntmps104
    go_wp2_with (go_at_call 129; refine (Tryd.stringslite_Index_one s c _).mono ?_; rw [← HI.out]; rintro e w' ⟨rfl, hw'⟩; obtain rfl := hw'.symm)
    go_quiet (fail)
    go_wp2
    go_ret3
    exact ⟨rfl, ⟨⟨_, rfl⟩⟩⟩
  · have hm : i = -1 := by omega
    subst hm
    have hc : cutAt s (-1) = (s, ⟨#[]⟩, false) := by unfold cutAt; rw [if_neg (by omega)]
    rw [hc]
    clear hlt hge hc
    go_enter Tryd.func104, Tryd.ntmps104
    go_wp2_with (go_at_call 129; refine (Tryd.stringslite_Index_one s c _).mono ?_; rw [← HI.out]; rintro e w' ⟨rfl, hw'⟩; obtain rfl := hw'.symm)
    go_ret3
    exact ⟨rfl, Drawn0.refl _⟩

def strings_Cut.f (a0 a1 : ByteArray) : Option (ByteArray × ByteArray × Bool) := if a0.size ≤ 9223372036854775806 then (match a1.data.toList with | [c] => some (cutAt a0 (Lib.indexByte a0.data.toList c)) | _ => none) else none
set_option maxRecDepth 100000 in
theorem strings_Cut.calls (a0 a1 : ByteArray) (r1 : ByteArray) (r2 : ByteArray) (r3 : Bool) (w : World) (h : strings_Cut.f a0 a1 = some (r1, r2, r3)) :
    Calls Tryd.prog 55 #[.string a0, .string a1] w fun e w' => e = .returned (.tuple #[.string r1, .string r2, .bool r3]) ∧ Drawn0 w w' := by
  unfold strings_Cut.f at h
  split at h
  case isFalse => cases h
  rename_i hs
  split at h
  case h_2 => cases h
  rename_i c hc
  obtain rfl : a1 = ⟨#[c]⟩ := by
    obtain ⟨⟨l⟩⟩ := a1
    simp at hc
    subst hc
    rfl
  have h1 := Option.some.inj h
  have H := Aside0.mk h1
  clear h h1 hc
  go_enter Tryd.func55, Tryd.ntmps55
  go_wp2_with (go_at_call 104; refine (slite_Cut_one a0 c hs _).mono ?_; rw [H.out]; rintro e w' ⟨rfl, hw'⟩)
  go_ret3
  exact ⟨rfl, hw'⟩

/-- where the library's variable MaxLen lies -/
def GOK (w : World) : Prop := ∃ m : Int, w.cell? ⟨0, 0, none⟩ = some (.int .i64 m)
theorem GOK.lt {w : World} (h : GOK w) : 0 < w.heap.size := by
  obtain ⟨m, hm⟩ := h
  exact World.block_lt_of_cell? w _ hm
theorem GOK.below {w w' : World} {B : Nat} (h : GOK w) (hb : Below B w w') (hB : 0 < B) : GOK w' := by
  obtain ⟨m, hm⟩ := h
  exact ⟨m, (hb.cell (p := ⟨0, 0, none⟩) hB).trans hm⟩
theorem GOK.drewN {w : World} (h : GOK w) (n : Nat) : GOK (w.drewN n) := h
theorem GOK.setCell {w : World} (h : GOK w) {p : Addr} (hp : p.block ≠ 0) (u : Value) : GOK (w.setCell p u) := by
  obtain ⟨m, hm⟩ := h
  exact ⟨m, (World.cell?_setCell_other w p ⟨0, 0, none⟩ u (fun e => hp (by rw [e]))).trans hm⟩
theorem Index_any (s sub : ByteArray) (w : World) (hg : GOK w) (hs : s.size < 4294967281) :
    Calls Tryd.prog 90 #[.string s, .string sub] w fun e w' => e = .returned (.int .i64 (Lib.index s.data.toList sub.data.toList)) ∧ Drawn0 w w' := by
  obtain ⟨m, hm⟩ := hg
  refine (Tryd.strings_Index s sub m w hs hm).mono ?_
  rintro e w' ⟨rfl, rfl⟩
  exact ⟨rfl, Drawn0.refl _⟩
theorem ReplaceAll_any (s old new : ByteArray) (w : World) (hg : GOK w) (hs : s.size < 4294967281) (h1 : 1 ≤ old.size) (hlen : s.size + Lib.countB s old * new.size ≤ 140737488355328) :
    Calls Tryd.prog 54 #[.string s, .string old, .string new] w fun e w' => e = .returned (.string ⟨(Lib.replaceAll s.data.toList old.data.toList new.data.toList).toArray⟩) ∧ Below w.heap.size w w' := by
  obtain ⟨m, hm⟩ := hg
  exact Tryd.strings_ReplaceAll s old new m w hs hm h1 hlen
end Go.Proofs.YtkhjpobhdpcglaaDoor.X
end
section
namespace Go.Proofs.YtkhjpobhdpcglaaDoor.X
open Go.RowKit Go.Proofs.YtkhjpobhdpcglaaDoorW.PrintWords Go.Proofs.YtkhjpobhdpcglaaDoorW.PrintLast Go.Proofs.YtkhjpobhdpcglaaDoorW.PrintMore
set_option linter.unusedVariables false
set_option linter.unusedSimpArgs false

/-- the text behind the mark -/
def attr4 (s : ByteArray) (j : Nat) : Option Nat :=
  if j = s.size then none
  else if (bt s j == 34 || bt s j == 39) = true then
    (if Lib.indexByte (s.extract (j + 1) s.size).data.toList (bt s j).toNat.toUInt8 < 0 then none
     else if hasMark (s.extract (j + 1) (j + 1 + (Lib.indexByte (s.extract (j + 1) s.size).data.toList (bt s j).toNat.toUInt8).toNat)) = true then none
     else some (j + (Lib.indexByte (s.extract (j + 1) s.size).data.toList (bt s j).toNat.toUInt8).toNat + 2))
  else none
/-- from the sign = on -/
def attr3 (s : ByteArray) (j : Nat) : Option Nat := if hasP s (skip whiteV s j) ⟨#[61]⟩ = true then attr4 s (skip whiteV s (skip whiteV s j + 1)) else none
/-- behind the first name -/
def attr2 (s : ByteArray) (j : Nat) : Option Nat :=
  if hasP s j ⟨#[58]⟩ = true then (if nameV (s.extract (j + 1) (skip innerV s (j + 1))) = true then attr3 s (skip innerV s (j + 1)) else none) else attr3 s j
/-- an attribute at place i: where it ends -/
def attrV (s : ByteArray) (i : Nat) : Option Nat := if nameV (s.extract i (skip innerV s i)) = true then attr2 s (skip innerV s i) else none

def AttrPost (w0 w : World) (g : Nat) (s : ByteArray) (o : Option Nat) (e : Ending) (w' : World) : Prop :=
  ∃ (b : Bool) (j : Nat), e = .returned (.bool b) ∧ Rd w0 w' g s j ∧ KeepBut w w' g none ∧ (match o with | some k => b = true ∧ j = k | none => b = false)
theorem AttrPost.no {w0 w w' : World} {g : Nat} {s : ByteArray} {o : Option Nat} {j : Nat} (ho : o = none) (h : Rd w0 w' g s j) (hk : KeepBut w w' g none) : AttrPost w0 w g s o (.returned (.bool false)) w' := ⟨false, j, rfl, h, hk, by rw [ho]⟩
theorem Name_calls (t : ByteArray) (ht : t.size ≤ 4611686018427387904) (w : World) :
    Calls Tryd.prog 23 #[.string t] w fun e w' => e = .returned (.bool (nameV t)) ∧ Drawn0 w w' := xml_Name.calls t _ w (by rw [xml_Name.f, if_pos ht])
theorem ex_le (s : ByteArray) (i j : Nat) (hs : s.size ≤ 1073741824) : (s.extract i j).size ≤ 4611686018427387904 := by simp; omega

set_option maxHeartbeats 4000000 in
set_option maxRecDepth 1000000 in
theorem attribute_calls {w0 w : World} {g : Nat} {s : ByteArray} {i : Nat} (h : Rd w0 w g s i) :
    Calls Tryd.prog 94 #[.pointer (some ⟨g, 0, none⟩)] w (AttrPost w0 w g s (attrV s i)) := by
  have HR := Aside0.mk h
  have hsm := h.small
  clear h
  go_enter Tryd.func94, Tryd.ntmps94
  go_wp2_with fail
  refine (name_calls HR.out).mono ?_
  rintro e w1 ⟨rfl, h1, hk1⟩
  go_wp2_with fail
  refine (Name_calls _ (ex_le _ _ _ hsm) _).mono ?_
  rintro e w2 ⟨rfl, ⟨n1, rfl⟩⟩
  cases hn : nameV (s.extract i (skip innerV s i)) with
  | false =>
    go_wp2
    go_ret
    exact AttrPost.no (by unfold attrV; rw [hn]; rfl) (h1.drewN _) hk1
  | true =>
    go_wp2_with fail
    refine (eat_calls (h1.drewN n1) ⟨#[58]⟩ (by decide)).mono ?_
    rintro e w2 ⟨rfl, h2, hk2⟩
    cases hc : hasP s (skip innerV s i) ⟨#[58]⟩ with
    | false =>
      rw [if_neg (by rw [hc]; decide)] at h2
      go_wp2_with fail
      refine (space_calls h2).mono ?_
      rintro e w3 ⟨rfl, h3, hk3⟩
      go_wp2_with fail
      refine (eat_calls h3 ⟨#[61]⟩ (by decide)).mono ?_
      rintro e w4 ⟨rfl, h4, hk4⟩
      cases he : hasP s (skip whiteV s (skip innerV s i)) ⟨#[61]⟩ with
      | false =>
        go_wp2
        go_ret
        rw [if_neg (by rw [he]; decide)] at h4
        exact AttrPost.no (by unfold attrV attr2; rw [hn, hc]; simp only [if_true, Bool.false_eq_true, if_false]; unfold attr3; rw [he]; rfl) h4 ((((keep_drewN hk1 n1).trans hk2 (.inl rfl)).trans hk3 (.inl rfl)).trans hk4 (.inl rfl))
      | true =>
        rw [if_pos he] at h4
        go_wp2_with fail
        refine (space_calls h4).mono ?_
        rintro e w5 ⟨rfl, h5, hk5⟩
        have hK5 : KeepBut w w5 g none := ((((keep_drewN hk1 n1).trans hk2 (.inl rfl)).trans hk3 (.inl rfl)).trans hk4 (.inl rfl)).trans hk5 (.inl rfl)
        have hA3 : attrV s i = attr4 s (skip whiteV s (skip whiteV s (skip innerV s i) + 1)) := by unfold attrV attr2; rw [hn, hc]; simp only [if_true, Bool.false_eq_true, if_false]; unfold attr3; rw [he]; rfl
        have h5' : Rd w0 w5 g s (skip whiteV s (skip whiteV s (skip innerV s i) + 1)) := h5
        obtain ⟨j, hj⟩ : ∃ j, j = skip whiteV s (skip whiteV s (skip innerV s i) + 1) := ⟨_, rfl⟩
        rw [← hj] at h5' hA3
        have HA := Aside0.mk hA3
        have H5 := Aside0.mk h5'
        have HK := Aside0.mk hK5
        have hjle := h5'.le
        clear h5 hj h4 h3 hk3 hk4 hk5 he hA3 h5' hK5 h2 h1 hk1 hk2 hn hc
        have cA := H5.out.cell0
        have cB := H5.out.cell1
        have fB := H5.out.frozen 1
        by_cases hend : j = s.size
        · have hq : ((j : Int) == (s.size : Int)) = true := by simp [hend]
          have hq2 : (j == s.size) = true := by simp [hend]
          have HN : Aside0 (attrV s i = none) := ⟨by rw [HA.out]; unfold attr4; rw [if_pos hend]⟩
          clear hend
          go_wp2
          go_quiet (fail)
          go_wp2
          go_ret
          exact AttrPost.no HN.out (H5.out.drewN _) (keep_drewN HK.out _)
        · have hlt : j < s.size := by omega
          have hq : ((j : Int) == (s.size : Int)) = false := beq_eq_false_iff_ne.2 (by omega)
          have hq2 : (j == s.size) = false := beq_eq_false_iff_ne.2 hend
          have hA4 := HA.out
          unfold attr4 at hA4
          rw [if_neg hend] at hA4
          have HA4 := Aside0.mk hA4
          clear hA4 HA hend
          have p0 : (0 : Int) ≤ (j : Int) := by omega
          have p1 : (j : Int) < (s.size : Int) := by omega
          have hx5 : ∀ h : j < s.size, ((s[j]'h).toNat : Int) = bt s j := fun h => by simp [bt, h]
          have hw1 : IntKind.i64.wrap ((j : Int) + 1) = (j : Int) + 1 := by simp [IntKind.wrap_i64]; omega
          have hbr := bt_range s j
          obtain ⟨m, hm⟩ : ∃ m, m = bt s j := ⟨_, rfl⟩
          rw [← hm] at hbr HA4
          simp only [← hm] at hx5
          have HM := Aside0.mk hm
          clear hm
          obtain ⟨ix, hix⟩ : ∃ ix, ix = Lib.indexByte (s.extract (j + 1) s.size).data.toList m.toNat.toUInt8 := ⟨_, rfl⟩
          rw [← hix] at HA4
          have hge := Lib.indexByte_ge (s.extract (j + 1) s.size).data.toList m.toNat.toUInt8
          have hub := indexByte_lt m.toNat.toUInt8 (s.extract (j + 1) s.size).data.toList
          rw [← hix] at hge hub
          have hlen : (s.extract (j + 1) s.size).data.toList.length = s.size - (j + 1) := by simp
          rw [hlen] at hub
          have HX := Aside0.mk hix
          clear hix hlen
          have hor : ((m != 34) = false ∨ ((m != 34) = true ∧ (m != 39) = false)) ∨ ((m != 34) = true ∧ (m != 39) = true) := by
            cases m != 34 <;> cases m != 39 <;> simp
          rcases hor with hm | ⟨hm1, hm2⟩
          · have hmk : (m == 34 || m == 39) = true := by
              rcases hm with h | ⟨_, h⟩
              · have : m = 34 := by simpa using h
                simp [this]
              · have : m = 39 := by simpa using h
                simp [this]
            have hA5 := HA4.out
            rw [if_pos hmk] at hA5
            have HA5 := Aside0.mk hA5
            clear hA5 hmk HA4
            rcases hm with hm1 | ⟨hm1, hm2⟩
            all_goals
              go_wp2
              go_quiet (fail)
              go_wp2
              go_quiet (fail)
              go_wp2
              go_quiet ((go_at_call 113; (with_reducible refine (Tryd.strings_IndexByte _ _ _).mono ?_); rw [← HX.out]; rintro e w2 ⟨rfl, rfl⟩; first | exact ⟨rfl, _, rfl⟩ | exact ⟨rfl, 0, rfl⟩))
              by_cases hneg : ix < 0
              · have hd : decide (ix < 0) = true := by simpa using hneg
                have HN : Aside0 (attrV s i = none) := ⟨by rw [HA5.out, if_pos hneg]⟩
                clear hneg
                go_wp2
                go_quiet (fail)
                go_wp2
                go_ret
                exact AttrPost.no HN.out (((H5.out.drewN _).drewN _).drewN _) (keep_drewN (keep_drewN (keep_drewN HK.out _) _) _)
              · have hd : decide (ix < 0) = false := by simpa using hneg
                have hA6 := HA5.out
                rw [if_neg hneg] at hA6
                have HA6 := Aside0.mk hA6
                clear hA6 HA5
                obtain ⟨n, rfl⟩ : ∃ n : Nat, ix = n := ⟨ix.toNat, by omega⟩
                have hn2 : j + 1 + n < s.size := by omega
                have hw2 : IntKind.i64.wrap ((j : Int) + 1 + (n : Int)) = (j : Int) + 1 + (n : Int) := by simp [IntKind.wrap_i64]; omega
                have hw3 : IntKind.i64.wrap ((n : Int) + 2) = (n : Int) + 2 := by simp [IntKind.wrap_i64]; omega
                have hw4 : IntKind.i64.wrap ((j : Int) + ((n : Int) + 2)) = (j : Int) + ((n : Int) + 2) := by simp [IntKind.wrap_i64]; omega
                clear hneg hub hge
                obtain ⟨mk, hmk⟩ : ∃ mk, mk = hasMark (s.extract (j + 1) (j + 1 + n)) := ⟨_, rfl⟩
                have hA7 := HA6.out
                rw [Int.toNat_natCast, ← hmk] at hA7
                have HA7 := Aside0.mk hA7
                have HCA : Aside0 (strings_ContainsAny.f (s.extract (j + 1) (j + 1 + n)) ⟨#[60, 38]⟩ = some mk) := ⟨by rw [strings_ContainsAny.f, if_pos ⟨rfl, by simp; omega⟩, hmk]⟩
                clear hmk hA7 HA6
                have H6 := H5.out
                have q0 : (0 : Int) ≤ (j : Int) + 1 := by omega
                have q1 : (j : Int) + 1 ≤ (j : Int) + 1 + (n : Int) := by omega
                have q2 : (j : Int) + 1 + (n : Int) ≤ (s.size : Int) := by omega
                have q3 : ((j : Int) + 1).toNat = j + 1 := by omega
                have q4 : ((j : Int) + 1 + (n : Int)).toNat = j + 1 + n := by omega
                cases mk with
                | true =>
                  go_wp2
                  go_region_held3 (fun w' => w'.cell? ⟨g, 0, none⟩ = some (.string s) ∧ w'.cell? ⟨g, 1, none⟩ = some (.int .i64 j)) (first | go_keep | exact ⟨pw_cell_below hb7 cA, pw_cell_below hb7 cB⟩) (first | (go_at_call 130; (with_reducible refine (strings_ContainsAny.calls _ _ true _ HCA.out).mono ?_); rintro e w7 ⟨rfl, hb7⟩))
                  go_wp2
                  go_ret
                  exact AttrPost.no (by rw [HA7.out]; rfl) ((H6.drewN _).stays hb7) (KeepBut.trans (keep_drewN HK.out _) (KeepBut.of_below hb7 g none) (.inl rfl))
                | false =>
                  go_wp2
                  go_region_held3 (fun w' => w'.cell? ⟨g, 0, none⟩ = some (.string s) ∧ w'.cell? ⟨g, 1, none⟩ = some (.int .i64 j)) (first | go_keep | exact ⟨pw_cell_below hb7 cA, pw_cell_below hb7 cB⟩) (first | (go_at_call 130; (with_reducible refine (strings_ContainsAny.calls _ _ false _ HCA.out).mono ?_); rintro e w7 ⟨rfl, hb7⟩))
                  have H7 : Rd w0 w7 g s j := (H6.drewN _).stays hb7
                  have HK7 : KeepBut w w7 g none := KeepBut.trans (keep_drewN HK.out _) (KeepBut.of_below hb7 g none) (.inl rfl)
                  have H7s := Aside0.mk H7
                  have HK7s := Aside0.mk HK7
                  have cC := H7.cell0
                  have cD := H7.cell1
                  have fD := H7.frozen 1
                  clear H7 HK7
                  go_wp2
                  go_ret
                  have e2 : (j : Int) + ((n : Int) + 2) = ((j + n + 2 : Nat) : Int) := by omega
                  rw [e2]
                  exact ⟨true, j + n + 2, rfl, H7s.out.move _ (by omega), HK7s.out.set_ _ _, by rw [HA7.out]; simp⟩
          · have hmk : (m == 34 || m == 39) = false := by
              simp at hm1 hm2
              simp [hm1, hm2]
            have hA5 := HA4.out
            rw [if_neg (by rw [hmk]; decide)] at hA5
            have HN := Aside0.mk hA5
            clear hA5 hmk HA4 hub hge
            go_wp2
            go_quiet (fail)
            go_wp2
            go_quiet (fail)
            go_wp2
            go_ret
            exact AttrPost.no HN.out (H5.out.drewN _) (keep_drewN HK.out _)
    | true =>
      rw [if_pos hc] at h2
      have h2' : Rd w0 w2 g s (skip innerV s i + 1) := h2
      clear h2
      go_wp2_with fail
      refine (name_calls h2').mono ?_
      rintro e w2b ⟨rfl, h2b, hk2b⟩
      go_wp2_with fail
      refine (Name_calls _ (ex_le _ _ _ hsm) _).mono ?_
      rintro e w2c ⟨rfl, ⟨n2, rfl⟩⟩
      cases hn2 : nameV (s.extract (skip innerV s i + 1) (skip innerV s (skip innerV s i + 1))) with
      | false =>
        go_wp2
        go_ret
        exact AttrPost.no (by unfold attrV attr2; rw [hn, hc]; simp only [if_true]; rw [hn2]; rfl) (h2b.drewN _) (keep_drewN (((keep_drewN hk1 n1).trans hk2 (.inl rfl)).trans hk2b (.inl rfl)) n2)
      | true =>
        go_wp2_with fail
        refine (space_calls (h2b.drewN n2)).mono ?_
        rintro e w3 ⟨rfl, h3, hk3⟩
        go_wp2_with fail
        refine (eat_calls h3 ⟨#[61]⟩ (by decide)).mono ?_
        rintro e w4 ⟨rfl, h4, hk4⟩
        cases he : hasP s (skip whiteV s (skip innerV s (skip innerV s i + 1))) ⟨#[61]⟩ with
        | false =>
          go_wp2
          go_ret
          rw [if_neg (by rw [he]; decide)] at h4
          exact AttrPost.no (by unfold attrV attr2; rw [hn, hc]; simp only [if_true]; rw [hn2]; simp only [if_true]; unfold attr3; rw [he]; rfl) h4 (((keep_drewN (((keep_drewN hk1 n1).trans hk2 (.inl rfl)).trans hk2b (.inl rfl)) n2).trans hk3 (.inl rfl)).trans hk4 (.inl rfl))
        | true =>
          rw [if_pos he] at h4
          go_wp2_with fail
          refine (space_calls h4).mono ?_
          rintro e w5 ⟨rfl, h5, hk5⟩
          have hK5 : KeepBut w w5 g none := (((keep_drewN (((keep_drewN hk1 n1).trans hk2 (.inl rfl)).trans hk2b (.inl rfl)) n2).trans hk3 (.inl rfl)).trans hk4 (.inl rfl)).trans hk5 (.inl rfl)
          have hA3 : attrV s i = attr4 s (skip whiteV s (skip whiteV s (skip innerV s (skip innerV s i + 1)) + 1)) := by unfold attrV attr2; rw [hn, hc]; simp only [if_true]; rw [hn2]; simp only [if_true]; unfold attr3; rw [he]; rfl
          have h5' : Rd w0 w5 g s (skip whiteV s (skip whiteV s (skip innerV s (skip innerV s i + 1)) + 1)) := h5
          obtain ⟨j, hj⟩ : ∃ j, j = skip whiteV s (skip whiteV s (skip innerV s (skip innerV s i + 1)) + 1) := ⟨_, rfl⟩
          rw [← hj] at h5' hA3
          have HA := Aside0.mk hA3
          have H5 := Aside0.mk h5'
          have HK := Aside0.mk hK5
          have hjle := h5'.le
          clear h5 hj h4 h3 hk3 hk4 hk5 he hA3 h5' hK5 h2b h2' h1 hk1 hk2 hk2b hn hc hn2
          have cA := H5.out.cell0
          have cB := H5.out.cell1
          have fB := H5.out.frozen 1
          by_cases hend : j = s.size
          · have hq : ((j : Int) == (s.size : Int)) = true := by simp [hend]
            have hq2 : (j == s.size) = true := by simp [hend]
            have HN : Aside0 (attrV s i = none) := ⟨by rw [HA.out]; unfold attr4; rw [if_pos hend]⟩
            clear hend
            go_wp2
            go_quiet (fail)
            go_wp2
            go_ret
            exact AttrPost.no HN.out (H5.out.drewN _) (keep_drewN HK.out _)
          · have hlt : j < s.size := by omega
            have hq : ((j : Int) == (s.size : Int)) = false := beq_eq_false_iff_ne.2 (by omega)
            have hq2 : (j == s.size) = false := beq_eq_false_iff_ne.2 hend
            have hA4 := HA.out
            unfold attr4 at hA4
            rw [if_neg hend] at hA4
            have HA4 := Aside0.mk hA4
            clear hA4 HA hend
            have p0 : (0 : Int) ≤ (j : Int) := by omega
            have p1 : (j : Int) < (s.size : Int) := by omega
            have hx5 : ∀ h : j < s.size, ((s[j]'h).toNat : Int) = bt s j := fun h => by simp [bt, h]
            have hw1 : IntKind.i64.wrap ((j : Int) + 1) = (j : Int) + 1 := by simp [IntKind.wrap_i64]; omega
            have hbr := bt_range s j
            obtain ⟨m, hm⟩ : ∃ m, m = bt s j := ⟨_, rfl⟩
            rw [← hm] at hbr HA4
            simp only [← hm] at hx5
            have HM := Aside0.mk hm
            clear hm
            obtain ⟨ix, hix⟩ : ∃ ix, ix = Lib.indexByte (s.extract (j + 1) s.size).data.toList m.toNat.toUInt8 := ⟨_, rfl⟩
            rw [← hix] at HA4
            have hge := Lib.indexByte_ge (s.extract (j + 1) s.size).data.toList m.toNat.toUInt8
            have hub := indexByte_lt m.toNat.toUInt8 (s.extract (j + 1) s.size).data.toList
            rw [← hix] at hge hub
            have hlen : (s.extract (j + 1) s.size).data.toList.length = s.size - (j + 1) := by simp
            rw [hlen] at hub
            have HX := Aside0.mk hix
            clear hix hlen
            have hor : ((m != 34) = false ∨ ((m != 34) = true ∧ (m != 39) = false)) ∨ ((m != 34) = true ∧ (m != 39) = true) := by
              cases m != 34 <;> cases m != 39 <;> simp
            rcases hor with hm | ⟨hm1, hm2⟩
            · have hmk : (m == 34 || m == 39) = true := by
                rcases hm with h | ⟨_, h⟩
                · have : m = 34 := by simpa using h
                  simp [this]
                · have : m = 39 := by simpa using h
                  simp [this]
              have hA5 := HA4.out
              rw [if_pos hmk] at hA5
              have HA5 := Aside0.mk hA5
              clear hA5 hmk HA4
              rcases hm with hm1 | ⟨hm1, hm2⟩
              all_goals
                go_wp2
                go_quiet (fail)
                go_wp2
                go_quiet (fail)
                go_wp2
                go_quiet ((go_at_call 113; (with_reducible refine (Tryd.strings_IndexByte _ _ _).mono ?_); rw [← HX.out]; rintro e w2 ⟨rfl, rfl⟩; first | exact ⟨rfl, _, rfl⟩ | exact ⟨rfl, 0, rfl⟩))
                by_cases hneg : ix < 0
                · have hd : decide (ix < 0) = true := by simpa using hneg
                  have HN : Aside0 (attrV s i = none) := ⟨by rw [HA5.out, if_pos hneg]⟩
                  clear hneg
                  go_wp2
                  go_quiet (fail)
                  go_wp2
                  go_ret
                  exact AttrPost.no HN.out (((H5.out.drewN _).drewN _).drewN _) (keep_drewN (keep_drewN (keep_drewN HK.out _) _) _)
                · have hd : decide (ix < 0) = false := by simpa using hneg
                  have hA6 := HA5.out
                  rw [if_neg hneg] at hA6
                  have HA6 := Aside0.mk hA6
                  clear hA6 HA5
                  obtain ⟨n, rfl⟩ : ∃ n : Nat, ix = n := ⟨ix.toNat, by omega⟩
                  have hn2 : j + 1 + n < s.size := by omega
                  have hw2 : IntKind.i64.wrap ((j : Int) + 1 + (n : Int)) = (j : Int) + 1 + (n : Int) := by simp [IntKind.wrap_i64]; omega
                  have hw3 : IntKind.i64.wrap ((n : Int) + 2) = (n : Int) + 2 := by simp [IntKind.wrap_i64]; omega
                  have hw4 : IntKind.i64.wrap ((j : Int) + ((n : Int) + 2)) = (j : Int) + ((n : Int) + 2) := by simp [IntKind.wrap_i64]; omega
                  clear hneg hub hge
                  obtain ⟨mk, hmk⟩ : ∃ mk, mk = hasMark (s.extract (j + 1) (j + 1 + n)) := ⟨_, rfl⟩
                  have hA7 := HA6.out
                  rw [Int.toNat_natCast, ← hmk] at hA7
                  have HA7 := Aside0.mk hA7
                  have HCA : Aside0 (strings_ContainsAny.f (s.extract (j + 1) (j + 1 + n)) ⟨#[60, 38]⟩ = some mk) := ⟨by rw [strings_ContainsAny.f, if_pos ⟨rfl, by simp; omega⟩, hmk]⟩
                  clear hmk hA7 HA6
                  have H6 := H5.out
                  have q0 : (0 : Int) ≤ (j : Int) + 1 := by omega
                  have q1 : (j : Int) + 1 ≤ (j : Int) + 1 + (n : Int) := by omega
                  have q2 : (j : Int) + 1 + (n : Int) ≤ (s.size : Int) := by omega
                  have q3 : ((j : Int) + 1).toNat = j + 1 := by omega
                  have q4 : ((j : Int) + 1 + (n : Int)).toNat = j + 1 + n := by omega
                  cases mk with
                  | true =>
                    go_wp2
                    go_region_held3 (fun w' => w'.cell? ⟨g, 0, none⟩ = some (.string s) ∧ w'.cell? ⟨g, 1, none⟩ = some (.int .i64 j)) (first | go_keep | exact ⟨pw_cell_below hb7 cA, pw_cell_below hb7 cB⟩) (first | (go_at_call 130; (with_reducible refine (strings_ContainsAny.calls _ _ true _ HCA.out).mono ?_); rintro e w7 ⟨rfl, hb7⟩))
                    go_wp2
                    go_ret
                    exact AttrPost.no (by rw [HA7.out]; rfl) ((H6.drewN _).stays hb7) (KeepBut.trans (keep_drewN HK.out _) (KeepBut.of_below hb7 g none) (.inl rfl))
                  | false =>
                    go_wp2
                    go_region_held3 (fun w' => w'.cell? ⟨g, 0, none⟩ = some (.string s) ∧ w'.cell? ⟨g, 1, none⟩ = some (.int .i64 j)) (first | go_keep | exact ⟨pw_cell_below hb7 cA, pw_cell_below hb7 cB⟩) (first | (go_at_call 130; (with_reducible refine (strings_ContainsAny.calls _ _ false _ HCA.out).mono ?_); rintro e w7 ⟨rfl, hb7⟩))
                    have H7 : Rd w0 w7 g s j := (H6.drewN _).stays hb7
                    have HK7 : KeepBut w w7 g none := KeepBut.trans (keep_drewN HK.out _) (KeepBut.of_below hb7 g none) (.inl rfl)
                    have H7s := Aside0.mk H7
                    have HK7s := Aside0.mk HK7
                    have cC := H7.cell0
                    have cD := H7.cell1
                    have fD := H7.frozen 1
                    clear H7 HK7
                    go_wp2
                    go_ret
                    have e2 : (j : Int) + ((n : Int) + 2) = ((j + n + 2 : Nat) : Int) := by omega
                    rw [e2]
                    exact ⟨true, j + n + 2, rfl, H7s.out.move _ (by omega), HK7s.out.set_ _ _, by rw [HA7.out]; simp⟩
            · have hmk : (m == 34 || m == 39) = false := by
                simp at hm1 hm2
                simp [hm1, hm2]
              have hA5 := HA4.out
              rw [if_neg (by rw [hmk]; decide)] at hA5
              have HN := Aside0.mk hA5
              clear hA5 hmk HA4 hub hge
              go_wp2
              go_quiet (fail)
              go_wp2
              go_quiet (fail)
              go_wp2
              go_ret
              exact AttrPost.no HN.out (H5.out.drewN _) (keep_drewN HK.out _)
end Go.Proofs.YtkhjpobhdpcglaaDoor.X
end
section
namespace Go.Proofs.YtkhjpobhdpcglaaDoor.X
open Go.RowKit
set_option linter.unusedVariables false
set_option linter.unusedSimpArgs false

theorem infoBld : (Tryd.prog.info? 99).map (·.size) = some 2 := by kernel_rfl
theorem infoU8 : (Tryd.prog.info? 5).map (fun i => (i.zero, i.size, i.bytes)) = some (some (.int .u8 0), 1, 1) := by kernel_rfl
theorem liesBld : liesAt Tryd.prog Tryd.prog.depth 99 (2 / Tryd.prog.cellsOf 99) 0 99 1 = true := by kernel_rfl

/-- a builder in block b that holds the bytes l -/
abbrev Bld (B b : Nat) (l : List UInt8) (w : World) : Prop := Lib.IsBuilder 99 5 B b (Lib.byteCells l) w

set_option maxHeartbeats 1000000 in
set_option maxRecDepth 100000 in
theorem copyCheck_used (b : Nat) (w : World) (h0 : w.cell? ⟨b, 0, none⟩ = some (.pointer (some ⟨b, 0, none⟩))) :
    Calls Tryd.prog 105 #[.pointer (some ⟨b, 0, none⟩)] w fun e w' => e = .returned (.tuple #[]) ∧ w' = w := by
  obtain ⟨j, hj, _⟩ := Option.map_eq_some_iff.1 infoBld
  go_enter Tryd.func105, Tryd.ntmps105
  go_wp2
  rw [Lib.run_neq_ptr_same w _ Tryd.underlying97 hj]
  go_wp2
  go_end0
  exact ⟨rfl, rfl⟩

set_option maxHeartbeats 1000000 in
set_option maxRecDepth 100000 in
theorem copyCheck_fresh (b : Nat) (w : World) (h0 : w.cell? ⟨b, 0, none⟩ = some (.pointer none)) (hsh : w.shape? b = some (99, 2)) (hfz : w.frozen? ⟨b, 0, none⟩ = false) :
    Calls Tryd.prog 105 #[.pointer (some ⟨b, 0, none⟩)] w fun e w' => e = .returned (.tuple #[]) ∧ w' = w.setCell ⟨b, 0, none⟩ (.pointer (some ⟨b, 0, none⟩)) := by
  obtain ⟨j, hj, hjs⟩ := Option.map_eq_some_iff.1 infoBld
  go_enter Tryd.func105, Tryd.ntmps105
  go_wp2
  rw [Lib.run_to_unsafe w ⟨b, 0, none⟩ Tryd.underlying97 Tryd.underlying147 hj (by rw [hjs]; decide) hsh (Nat.zero_lt_succ 1)]
  simp only [Result.andThen]
  rw [Oper.upon_value]
  go_wp2
  rw [run_callFunc_extern Tryd.func134 (by kernel_rfl) (by kernel_rfl) (by kernel_rfl) (e := Extern.AbiNoEscape.same) (by kernel_rfl)]
  rw [Lib.run_noEscape]
  simp only [Result.andThen]
  rw [Oper.upon_value]
  go_wp2
  rw [Lib.run_from_unsafe w ⟨b, 0, none⟩ Tryd.underlying147 Tryd.underlying97 hj hsh liesBld]
  simp only [Result.andThen]
  rw [Oper.upon_value]
  go_wp2
  go_end0
  exact ⟨rfl, rfl⟩

theorem copyCheck_any (B b : Nat) (bs : List Value) (w : World) (h : Lib.IsBuilder 99 5 B b bs w) :
    Calls Tryd.prog 105 #[.pointer (some ⟨b, 0, none⟩)] w fun e w' => e = .returned (.tuple #[]) ∧ (Lib.BuilderAt 99 5 B b (.pointer (some ⟨b, 0, none⟩)) bs w' ∧ Below B w w') := by
  rcases h with h | h
  · refine (copyCheck_fresh b w h.cell0 h.shape h.frozen0).mono ?_
    rintro e w' ⟨rfl, rfl⟩
    exact ⟨rfl, h.used _, (Below.refl B w).setCell (p := ⟨b, 0, none⟩) h.1 _⟩
  · refine (copyCheck_used b w h.cell0).mono ?_
    rintro e w' ⟨rfl, rfl⟩
    exact ⟨rfl, h, Below.refl B _⟩

theorem byteCells_app (l m : List UInt8) : Lib.byteCells (l ++ m) = Lib.byteCells l ++ Lib.byteCells m := by simp [Lib.byteCells]
theorem strCells_eq (s : ByteArray) : Lib.strCells s = Lib.byteCells s.data.toList := by simp [Lib.strCells, Lib.byteCells]

set_option maxHeartbeats 2000000 in
set_option maxRecDepth 100000 in
theorem Builder_WriteString (B b : Nat) (l : List UInt8) (s : ByteArray) (w : World) (h : Bld B b l w) (hlen : l.length + s.size ≤ 140737488355328) (hBw : B ≤ w.heap.size) :
    Calls Tryd.prog 56 #[.pointer (some ⟨b, 0, none⟩), .string s] w fun e w' => e = .returned (.tuple #[.int .i64 s.size, .nilIface]) ∧ Bld B b (l ++ s.data.toList) w' ∧ Below B w w' := by
  obtain ⟨i0, hi, hz0, hz1, hz2⟩ := info_parts infoU8
  have hl0 := Lib.byteCells_length l
  have HL := Lib.hid hl0
  clear hl0
  go_enter Tryd.func56, Tryd.ntmps56
  go_wp2_with (go_at_call 105; refine (copyCheck_any B b (Lib.byteCells l) _ h).mono ?_)
  rintro e w1 ⟨rfl, h1, hb1⟩
  obtain ⟨hB, v, hbk, hown, hne⟩ := h1
  have c0 : w1.cell? ⟨b, 0, none⟩ = some (.pointer (some ⟨b, 0, none⟩)) := by rw [Lib.cell_of_heap hbk]; rfl
  have c1 : w1.cell? ⟨b, 1, none⟩ = some v := by rw [Lib.cell_of_heap hbk]; rfl
  go_wp2_with (at_builtin; refine Lib.wpList_append_own_string _ rfl _ _ 22 9 rfl B 5 i0 Tryd.underlying22 Tryd.underlying9 hi hz0 hz1 hz2 _ _ _ rfl hown s rfl ?c3 ?c4 ?c5 ?_)
  case c3 => rw [HL.out]; unfold maxLen; omega
  case c4 => rw [HL.out]; omega
  case c5 => have := hb1.size; omega
  intro v' w2 hown' hgrow _
  have hlt : b < w1.heap.size := by
    rcases Nat.lt_or_ge b w1.heap.size with h' | h'
    · exact h'
    · simp [Array.getElem?_eq_none h'] at hbk
  have hb2 : w2.heap[b]? = some (.cells #[.pointer (some ⟨b, 0, none⟩), v] 99 (0, 0)) := by
    rw [hgrow.block b hlt (fun e => hne e.symm)]
    exact hbk
  have d0 : w2.cell? ⟨b, 0, none⟩ = some (.pointer (some ⟨b, 0, none⟩)) := by rw [Lib.cell_of_heap hb2]; rfl
  have d1 : w2.cell? ⟨b, 1, none⟩ = some v := by rw [Lib.cell_of_heap hb2]; rfl
  have f1 : w2.frozen? ⟨b, 1, none⟩ = false := Lib.frozen_of_heap hb2 1
  obtain ⟨ao, n', cap, rfl⟩ : ∃ ao n' cap, v' = .slice ao n' cap := by
    rcases hown'.2 with ⟨hv, _⟩ | ⟨g, cap, cur, hv, _⟩
    · exact ⟨_, _, _, hv⟩
    · exact ⟨_, _, _, hv⟩
  go_wp2
  go_ret2
  refine ⟨rfl, Or.inr ?_, ?_⟩
  · rw [byteCells_app, ← strCells_eq]
    exact Lib.BuilderAt.put (T := 99) (e := 5) hB hb2 (bs' := Lib.byteCells l ++ Lib.strCells s) (by simpa [Lib.strCells_length] using hown') (by decide)
  · exact (hb1.grown hgrow (by have := hb1.size; omega) (fun k hk => (hown.lt k hk).1)).setCell (p := ⟨b, 1, none⟩) hB _

set_option maxHeartbeats 2000000 in
set_option maxRecDepth 100000 in
theorem Builder_WriteByte (B b : Nat) (l : List UInt8) (c : Int) (w : World) (h : Bld B b l w) (hc : 0 ≤ c ∧ c < 256) (hlen : l.length + 1 ≤ 140737488355328) (hBw : B ≤ w.heap.size) :
    Calls Tryd.prog 65 #[.pointer (some ⟨b, 0, none⟩), .int .u8 c] w fun e w' => e = .returned .nilIface ∧ Bld B b (l ++ [c.toNat.toUInt8]) w' ∧ Below B w w' := by
  obtain ⟨i0, hi, hz0, hz1, hz2⟩ := info_parts infoU8
  have hl0 := Lib.byteCells_length l
  have HL := Lib.hid hl0
  clear hl0
  go_enter Tryd.func65, Tryd.ntmps65
  go_wp2_with (go_at_call 105; refine (copyCheck_any B b (Lib.byteCells l) _ h).mono ?_)
  rintro e w1 ⟨rfl, h1, hb1⟩
  obtain ⟨hB, v, hbk, hown, hne⟩ := h1
  have c0 : w1.cell? ⟨b, 0, none⟩ = some (.pointer (some ⟨b, 0, none⟩)) := by rw [Lib.cell_of_heap hbk]; rfl
  have c1 : w1.cell? ⟨b, 1, none⟩ = some v := by rw [Lib.cell_of_heap hbk]; rfl
  go_wp2_with (at_builtin; refine wpList_append_own _ rfl _ _ 22 rfl B 5 i0 (.int .u8 0) 1 1 Tryd.underlying22 hi hz0 hz1 hz2 rfl (by decide) _ _ _ rfl (hown.alloc _) ⟨w1.heap.size, 0, none⟩ 1 1 [.int .u8 c] rfl rfl ?c1 ?c2 ?c3 ?c4 ?c5 ?_)
  case c1 =>
    intro j u hj
    match j, hj with
    | 0, hj => simp at hj; subst hj; simp [Addr.add]
  case c2 => intro u hu; simp at hu; subst hu; rfl
  case c3 => rw [HL.out]; unfold maxLen; omega
  case c4 => rw [HL.out]; omega
  case c5 => have := hb1.size; simp; omega
  intro v' w2 hown' hgrow _
  have hlt : b < w1.heap.size := by
    rcases Nat.lt_or_ge b w1.heap.size with h' | h'
    · exact h'
    · simp [Array.getElem?_eq_none h'] at hbk
  have hb2 : w2.heap[b]? = some (.cells #[.pointer (some ⟨b, 0, none⟩), v] 99 (0, 0)) := by
    rw [hgrow.block b (by simp; omega) (fun e => hne e.symm), Lib.alloc_old w1 _ b hlt]
    exact hbk
  have d0 : w2.cell? ⟨b, 0, none⟩ = some (.pointer (some ⟨b, 0, none⟩)) := by rw [Lib.cell_of_heap hb2]; rfl
  have d1 : w2.cell? ⟨b, 1, none⟩ = some v := by rw [Lib.cell_of_heap hb2]; rfl
  have f1 : w2.frozen? ⟨b, 1, none⟩ = false := Lib.frozen_of_heap hb2 1
  obtain ⟨ao, n', cap, rfl⟩ : ∃ ao n' cap, v' = .slice ao n' cap := by
    rcases hown'.2 with ⟨hv, _⟩ | ⟨g, cap, cur, hv, _⟩
    · exact ⟨_, _, _, hv⟩
    · exact ⟨_, _, _, hv⟩
  go_wp2
  go_ret
  have hcc : Lib.byteCells [c.toNat.toUInt8] = [.int .u8 c] := by
    simp [Lib.byteCells]; omega
  refine ⟨rfl, Or.inr ?_, ?_⟩
  · rw [byteCells_app, hcc]
    exact Lib.BuilderAt.put (T := 99) (e := 5) hB hb2 (bs' := Lib.byteCells l ++ [.int .u8 c]) (by simpa using hown') (by decide)
  · exact ((hb1.alloc (by have := hb1.size; omega) _).grown hgrow (by have := hb1.size; simp; omega) (fun k hk => (hown.lt k hk).1)).setCell (p := ⟨b, 1, none⟩) hB _

/-- a fresh builder, as 'var b strings.Builder' lays it -/
theorem Bld.fresh (w : World) : Bld w.heap.size w.heap.size [] (w.alloc (.cells #[.pointer none, .slice none 0 0] 99)) := Lib.fresh_isBuilder _ _ w
theorem Bld.drewN {B b : Nat} {l : List UInt8} {w : World} (h : Bld B b l w) (n : Nat) : Bld B b l (w.drewN n) := h
theorem BuilderAt_below {T e : TypeId} {B b : Nat} {p : Value} {bs : List Value} {w w' : World} (h : Lib.BuilderAt T e B b p bs w) (hb : Below w.heap.size w w') : Lib.BuilderAt T e B b p bs w' := by
  have hlt := h.lt
  obtain ⟨hB, v, hbk, hown, hne⟩ := h
  exact ⟨hB, v, (hb.block b hlt).trans hbk, Go.Proofs.YtkhjpobhdpcglaaDoorW.PrintWords.pw_own_below hown hb, hne⟩
theorem Bld.below {B b : Nat} {l : List UInt8} {w w' : World} (h : Bld B b l w) (hb : Below w.heap.size w w') : Bld B b l w' := by
  rcases h with h | h
  · exact .inl (BuilderAt_below h hb)
  · exact .inr (BuilderAt_below h hb)
theorem Builder_String (B b : Nat) (l : List UInt8) (w : World) (h : Bld B b l w) (hBw : B ≤ w.heap.size) :
    Calls Tryd.prog 57 #[.pointer (some ⟨b, 0, none⟩)] w fun e w' => e = .returned (.string ⟨l.toArray⟩) ∧ Below B w w' := Tryd.Builder_String_any B b l w h hBw
theorem Builder_Len (B b : Nat) (l : List UInt8) (w : World) (h : Bld B b l w) :
    Calls Tryd.prog 68 #[.pointer (some ⟨b, 0, none⟩)] w fun e w' => e = .returned (.int .i64 l.length) ∧ w' = w := by
  have := Tryd.Builder_Len B b _ w h
  rwa [Lib.byteCells_length] at this
end Go.Proofs.YtkhjpobhdpcglaaDoor.X
end
