/- Parts of the proof: what functions of the program and of the reference answer.
   No condition. -/
import Derived.Test.YtjkjjfbcakbmnaaDoorProg
import Derived.Below
import Derived.Deep.Draws
import Derived.Deep.AppendLies
import Derived.Maps.AppendAt
import Derived.OwnWalk
import Derived.Laws.BytesArg
import Derived.Laws.MakeOwn
import Derived.Laws.OwnMore
import Derived.Deep.OwnRows
import Derived.Tactics
import Derived.Lib.ConvBytes
import Derived.Laws.Slices
import Derived.WalkKit
import Derived.KernelRfl
import Derived.RowKit3
import Derived.Deep.LoopGhost
import Derived.Deep.QuietTactic
import Derived.BigQuiet
import Derived.WideLaws
import Derived.Deep.DeepCutAuto
import Derived.Deep.CutBlock
import Derived.Deep.RegionHeld3
import Derived.Laws.Rows
import Derived.Lib.AppendStr
import Derived.ArgAppend
import Derived.Laws.IdiomCopy
import Derived.OrdersHeld
import Derived.Laws.BitsLemmas
import Derived.RowKit
import Derived.Test.YtjkjjfbcakbmnaaDoorZBooksShutV2
import Derived.Test.YtjkjjfbcakbmnaaDoorZBooksShutH1
import Derived.Test.YtjkjjfbcakbmnaaDoorZBooksShutV1
import Derived.Test.YtjkjjfbcakbmnaaDoorZBooksShutV3
namespace Go.Proofs.YtjkjjfbcakbmnaaDoor.Q
open Go.RowKit Go.Proofs.YtjkjjfbcakbmnaaDoorW.PrintWords Go.Proofs.YtjkjjfbcakbmnaaDoorW.PrintLast Go.Proofs.YtjkjjfbcakbmnaaDoorW.PrintMore
attribute [local go_sem] max2_int min2_int max_two min_two max_three min_three max_four min_four   -- for this text's walks alone
set_option linter.unusedVariables false
set_option linter.unusedSimpArgs false
def errW : Option Int → Value
  | none => .nilIface
  | some c => .iface 0 (.int .i64 c)
theorem errW_none : errW none = .nilIface := rfl
theorem errW_some (c : Int) : errW (some c) = .iface 0 (.int .i64 c) := rfl
theorem info3 : (Tryd.prog.info? 3).map (fun i => (i.zero, i.size, i.bytes)) = some (some (.int .i64 0), 1, 8) := by kernel_rfl
theorem info35 : (Tryd.prog.info? 35).map (fun i => (i.zero, i.size, i.bytes)) = some (some (.agg #[(.int .i64 0), (.int .i64 0), (.string ⟨#[]⟩), (.slice none 0 0)]), 4, 56) := by kernel_rfl
theorem info64 : (Tryd.prog.info? 64).map (fun i => (i.zero, i.size, i.bytes)) = some (some (.agg #[(.string ⟨#[]⟩), (.int .i64 0), (.int .i64 0)]), 3, 32) := by kernel_rfl
theorem info66 : (Tryd.prog.info? 66).map (fun i => (i.zero, i.size, i.bytes)) = some (some (.agg #[(.int .i64 0), (.int .i64 0)]), 2, 16) := by kernel_rfl
theorem info81 : (Tryd.prog.info? 81).map (fun i => (i.zero, i.size, i.bytes)) = some (some (.agg #[(.int .i64 0), (.int .i64 0), (.int .i64 0), (.int .i64 0), (.int .i64 0)]), 5, 40) := by kernel_rfl
structure S66 where
  f0 : Int
  f1 : Int
def z66 : S66 := ⟨(0 : Int), (0 : Int)⟩
def k66 : Kd S66 := Kd.iso (Kd.pair (Kd.int .i64) (Kd.int .i64)) (fun x : S66 => (x.f0, x.f1))
theorem k66_open {w : World} {x : S66} {cs : List Value} (h : k66.K w x cs) : cs = [.int .i64 x.f0, .int .i64 x.f1] := by
  obtain ⟨_, _, rfl, rfl, rfl⟩ := h
  exact rfl
theorem k66_openM {w : World} {base : Nat} {ok : Nat → Prop} {x : S66} {cs : List Value} (h : k66.M w base ok x cs) : cs = [.int .i64 x.f0, .int .i64 x.f1] := by
  obtain ⟨_, _, rfl, rfl, rfl⟩ := h
  exact rfl
theorem k66_mkM (w : World) (base : Nat) (ok : Nat → Prop) (x : S66)  : k66.M w base ok x [.int .i64 x.f0, .int .i64 x.f1] := ⟨[.int .i64 x.f0], [.int .i64 x.f1], rfl, rfl, rfl⟩
def rd_T66 (xs : List S66) (i : Int) : S66 := xs.getD i.toNat z66
theorem at_T66 {w : World} {A : Option Addr} {n : Nat} {xs : List S66} (h : Kd.C k66 w A n xs) (i : Int) (h0 : 0 ≤ i) (h1 : i < n) : ∃ ad , A = some ad ∧ w.cell? (ad.add (i.toNat * 2)) = some (.int .i64 (rd_T66 xs i).f0) ∧ w.cell? ⟨(ad.add (i.toNat * 2)).block, (ad.add (i.toNat * 2)).off + 1, none⟩ = some (.int .i64 (rd_T66 xs i).f1) := by
  obtain ⟨ad, c, e, _, hK, hc0⟩ := Kd.C_get h z66 i h0 h1
  have hc : ∀ j u, c[j]? = some u → w.cell? (ad.add (i.toNat * 2 + j)) = some u := hc0
  obtain rfl := k66_open hK
  exact ⟨ad, e, hc 0 _ rfl, by rw [← add_field _ _ 1 (by omega)]; exact hc 1 _ rfl⟩
structure S64 where
  f0 : ByteArray
  f1 : Int
  f2 : Int
def z64 : S64 := ⟨(⟨#[]⟩ : ByteArray), (0 : Int), (0 : Int)⟩
def k64 : Kd S64 := Kd.iso (Kd.pair Kd.string (Kd.pair (Kd.int .i64) (Kd.int .i64))) (fun x : S64 => (x.f0, x.f1, x.f2))
theorem k64_open {w : World} {x : S64} {cs : List Value} (h : k64.K w x cs) : cs = [.string x.f0, .int .i64 x.f1, .int .i64 x.f2] := by
  obtain ⟨_, _, rfl, rfl, ⟨_, _, rfl, rfl, rfl⟩⟩ := h
  exact rfl
theorem k64_mkM (w : World) (base : Nat) (ok : Nat → Prop) (x : S64)  : k64.M w base ok x [.string x.f0, .int .i64 x.f1, .int .i64 x.f2] := ⟨[.string x.f0], [.int .i64 x.f1, .int .i64 x.f2], rfl, rfl, ⟨[.int .i64 x.f1], [.int .i64 x.f2], rfl, rfl, rfl⟩⟩
def rd_T64 (xs : List S64) (i : Int) : S64 := xs.getD i.toNat z64
theorem at_T64 {w : World} {A : Option Addr} {n : Nat} {xs : List S64} (h : Kd.C k64 w A n xs) (i : Int) (h0 : 0 ≤ i) (h1 : i < n) : ∃ ad , A = some ad ∧ w.cell? (ad.add (i.toNat * 3)) = some (.string (rd_T64 xs i).f0) ∧ w.cell? ⟨(ad.add (i.toNat * 3)).block, (ad.add (i.toNat * 3)).off + 1, none⟩ = some (.int .i64 (rd_T64 xs i).f1) ∧ w.cell? ⟨(ad.add (i.toNat * 3)).block, (ad.add (i.toNat * 3)).off + 2, none⟩ = some (.int .i64 (rd_T64 xs i).f2) := by
  obtain ⟨ad, c, e, _, hK, hc0⟩ := Kd.C_get h z64 i h0 h1
  have hc : ∀ j u, c[j]? = some u → w.cell? (ad.add (i.toNat * 3 + j)) = some u := hc0
  obtain rfl := k64_open hK
  exact ⟨ad, e, hc 0 _ rfl, by rw [← add_field _ _ 1 (by omega)]; exact hc 1 _ rfl, by rw [← add_field _ _ 2 (by omega)]; exact hc 2 _ rfl⟩
structure S81 where
  f0 : Int
  f1 : Int
  f2 : Int
  f3 : Int
  f4 : Int
def z81 : S81 := ⟨(0 : Int), (0 : Int), (0 : Int), (0 : Int), (0 : Int)⟩
def k81 : Kd S81 := Kd.iso (Kd.pair (Kd.int .i64) (Kd.pair (Kd.int .i64) (Kd.pair (Kd.int .i64) (Kd.pair (Kd.int .i64) (Kd.int .i64))))) (fun x : S81 => (x.f0, x.f1, x.f2, x.f3, x.f4))
theorem k81_open {w : World} {x : S81} {cs : List Value} (h : k81.K w x cs) : cs = [.int .i64 x.f0, .int .i64 x.f1, .int .i64 x.f2, .int .i64 x.f3, .int .i64 x.f4] := by
  obtain ⟨_, _, rfl, rfl, ⟨_, _, rfl, rfl, ⟨_, _, rfl, rfl, ⟨_, _, rfl, rfl, rfl⟩⟩⟩⟩ := h
  exact rfl
theorem k81_openM {w : World} {base : Nat} {ok : Nat → Prop} {x : S81} {cs : List Value} (h : k81.M w base ok x cs) : cs = [.int .i64 x.f0, .int .i64 x.f1, .int .i64 x.f2, .int .i64 x.f3, .int .i64 x.f4] := by
  obtain ⟨_, _, rfl, rfl, ⟨_, _, rfl, rfl, ⟨_, _, rfl, rfl, ⟨_, _, rfl, rfl, rfl⟩⟩⟩⟩ := h
  exact rfl
theorem k81_mkM (w : World) (base : Nat) (ok : Nat → Prop) (x : S81)  : k81.M w base ok x [.int .i64 x.f0, .int .i64 x.f1, .int .i64 x.f2, .int .i64 x.f3, .int .i64 x.f4] := ⟨[.int .i64 x.f0], [.int .i64 x.f1, .int .i64 x.f2, .int .i64 x.f3, .int .i64 x.f4], rfl, rfl, ⟨[.int .i64 x.f1], [.int .i64 x.f2, .int .i64 x.f3, .int .i64 x.f4], rfl, rfl, ⟨[.int .i64 x.f2], [.int .i64 x.f3, .int .i64 x.f4], rfl, rfl, ⟨[.int .i64 x.f3], [.int .i64 x.f4], rfl, rfl, rfl⟩⟩⟩⟩
def rd_T81 (xs : List S81) (i : Int) : S81 := xs.getD i.toNat z81
theorem at_T81 {w : World} {A : Option Addr} {n : Nat} {xs : List S81} (h : Kd.C k81 w A n xs) (i : Int) (h0 : 0 ≤ i) (h1 : i < n) : ∃ ad , A = some ad ∧ w.cell? (ad.add (i.toNat * 5)) = some (.int .i64 (rd_T81 xs i).f0) ∧ w.cell? ⟨(ad.add (i.toNat * 5)).block, (ad.add (i.toNat * 5)).off + 1, none⟩ = some (.int .i64 (rd_T81 xs i).f1) ∧ w.cell? ⟨(ad.add (i.toNat * 5)).block, (ad.add (i.toNat * 5)).off + 2, none⟩ = some (.int .i64 (rd_T81 xs i).f2) ∧ w.cell? ⟨(ad.add (i.toNat * 5)).block, (ad.add (i.toNat * 5)).off + 3, none⟩ = some (.int .i64 (rd_T81 xs i).f3) ∧ w.cell? ⟨(ad.add (i.toNat * 5)).block, (ad.add (i.toNat * 5)).off + 4, none⟩ = some (.int .i64 (rd_T81 xs i).f4) := by
  obtain ⟨ad, c, e, _, hK, hc0⟩ := Kd.C_get h z81 i h0 h1
  have hc : ∀ j u, c[j]? = some u → w.cell? (ad.add (i.toNat * 5 + j)) = some u := hc0
  obtain rfl := k81_open hK
  exact ⟨ad, e, hc 0 _ rfl, by rw [← add_field _ _ 1 (by omega)]; exact hc 1 _ rfl, by rw [← add_field _ _ 2 (by omega)]; exact hc 2 _ rfl, by rw [← add_field _ _ 3 (by omega)]; exact hc 3 _ rfl, by rw [← add_field _ _ 4 (by omega)]; exact hc 4 _ rfl⟩
structure S35 where
  f0 : Int
  f1 : Int
  f2 : ByteArray
  f3 : (List S81)
def z35 : S35 := ⟨(0 : Int), (0 : Int), (⟨#[]⟩ : ByteArray), ([] : List S81)⟩
def k35 : Kd S35 := Kd.iso (Kd.pair (Kd.int .i64) (Kd.pair (Kd.int .i64) (Kd.pair Kd.string (Kd.slice 81 k81)))) (fun x : S35 => (x.f0, x.f1, x.f2, x.f3))
theorem k35_open {w : World} {x : S35} {cs : List Value} (h : k35.K w x cs) : ∃ A3 c3, cs = [.int .i64 x.f0, .int .i64 x.f1, .string x.f2, .slice A3 x.f3.length c3] ∧ x.f3.length ≤ c3 ∧ k81.C w A3 x.f3.length x.f3 := by
  obtain ⟨_, _, rfl, rfl, ⟨_, _, rfl, rfl, ⟨_, _, rfl, rfl, ⟨A3, c3, rfl, l3, g3⟩⟩⟩⟩ := h
  exact ⟨A3, c3, rfl, l3, g3⟩
theorem k35_openM {w : World} {base : Nat} {ok : Nat → Prop} {x : S35} {cs : List Value} (h : k35.M w base ok x cs) : ∃ v3, cs = [.int .i64 x.f0, .int .i64 x.f1, .string x.f2, v3] ∧ k81.R 81 w base ok v3 x.f3 := by
  obtain ⟨_, _, rfl, rfl, ⟨_, _, rfl, rfl, ⟨_, _, rfl, rfl, ⟨v3, rfl, g3⟩⟩⟩⟩ := h
  exact ⟨v3, rfl, g3⟩
theorem k35_mkM (w : World) (base : Nat) (ok : Nat → Prop) (x : S35) {v3 : Value} (g3 : k81.R 81 w base ok v3 x.f3) : k35.M w base ok x [.int .i64 x.f0, .int .i64 x.f1, .string x.f2, v3] := ⟨[.int .i64 x.f0], [.int .i64 x.f1, .string x.f2, v3], rfl, rfl, ⟨[.int .i64 x.f1], [.string x.f2, v3], rfl, rfl, ⟨[.string x.f2], [v3], rfl, rfl, ⟨v3, rfl, g3⟩⟩⟩⟩
def rd_T35 (xs : List S35) (i : Int) : S35 := xs.getD i.toNat z35
theorem at_T35 {w : World} {A : Option Addr} {n : Nat} {xs : List S35} (h : Kd.C k35 w A n xs) (i : Int) (h0 : 0 ≤ i) (h1 : i < n) : ∃ ad A3 c3, A = some ad ∧ w.cell? (ad.add (i.toNat * 4)) = some (.int .i64 (rd_T35 xs i).f0) ∧ w.cell? ⟨(ad.add (i.toNat * 4)).block, (ad.add (i.toNat * 4)).off + 1, none⟩ = some (.int .i64 (rd_T35 xs i).f1) ∧ w.cell? ⟨(ad.add (i.toNat * 4)).block, (ad.add (i.toNat * 4)).off + 2, none⟩ = some (.string (rd_T35 xs i).f2) ∧ w.cell? ⟨(ad.add (i.toNat * 4)).block, (ad.add (i.toNat * 4)).off + 3, none⟩ = some (.slice A3 (rd_T35 xs i).f3.length c3) ∧ (rd_T35 xs i).f3.length ≤ c3 ∧ k81.C w A3 (rd_T35 xs i).f3.length (rd_T35 xs i).f3 := by
  obtain ⟨ad, c, e, _, hK, hc0⟩ := Kd.C_get h z35 i h0 h1
  have hc : ∀ j u, c[j]? = some u → w.cell? (ad.add (i.toNat * 4 + j)) = some u := hc0
  obtain ⟨A3, c3, rfl, l3, g3⟩ := k35_open hK
  exact ⟨ad, A3, c3, e, hc 0 _ rfl, by rw [← add_field _ _ 1 (by omega)]; exact hc 1 _ rfl, by rw [← add_field _ _ 2 (by omega)]; exact hc 2 _ rfl, by rw [← add_field _ _ 3 (by omega)]; exact hc 3 _ rfl, l3, g3⟩
theorem bytes_eq {a b : ByteArray} (h : (!a.toList == b.toList) = false) : a = b := by
  have h1 : a.toList = b.toList := by simpa using h
  rw [ByteArray.toList_eq, ByteArray.toList_eq] at h1
  exact Go.WideShapes.bytes_inj h1
theorem ret_bool {b c : Bool} (h : b = c) : Ending.returned (Value.bool b) = Ending.returned (Value.bool c) := by rw [h]
theorem below_two (w : World) (o1 o2 : Obj) : Below w.heap.size w ((w.alloc o1).alloc o2) := ((Below.refl _ _).alloc (Nat.le_refl _) _).alloc (by simp) _
theorem below_into {w W w2 : World} (k : Below W.heap.size W w2) (h : Below w.heap.size w W) : Below w.heap.size w w2 := below_step h k
theorem all_step {α : Type} {l : List α} {z : α} {i : Int} {p : α → Prop} (h0 : 0 ≤ i) (hl : i < (l.length : Int)) (ht : ∀ x ∈ l.take i.toNat, p x) (he : p (l.getD i.toNat z)) : ∀ x ∈ l.take (i + 1).toNat, p x := by
  rw [show (i + 1).toNat = i.toNat + 1 by omega, List.take_add_one]
  rw [List.getD_eq_getElem?_getD, List.getElem?_eq_getElem (by omega)] at he
  rw [List.getElem?_eq_getElem (by omega)]
  intro x hx
  rcases List.mem_append.1 hx with hx | hx
  · exact ht x hx
  · obtain rfl : x = l[i.toNat] := by simpa using hx
    exact he
theorem all_end {α : Type} {l : List α} {i : Int} {p : α → Prop} (hi : (l.length : Int) ≤ i) (ht : ∀ x ∈ l.take i.toNat, p x) : ∀ x ∈ l, p x := by
  rwa [List.take_of_length_le (by omega)] at ht
theorem all_at {α : Type} {l : List α} {z : α} {i : Int} {p : α → Prop} (h0 : 0 ≤ i) (hl : i < (l.length : Int)) (ht : ∀ x ∈ l, p x) : p (l.getD i.toNat z) := by
  rw [List.getD_eq_getElem?_getD, List.getElem?_eq_getElem (by omega)]
  exact ht _ (List.getElem_mem _)
theorem wf_of {n : Int} (h : -9223372036854775808 ≤ n ∧ n ≤ 9223372036854775807) : (Lit.int .i64 n).wf = true := by
  have := wrap64_wf n
  rwa [show wrap64 n = n by unfold wrap64; omega] at this
theorem ret_i {a b : Int} (h : a = b) : Ending.returned (Value.int .i64 a) = Ending.returned (Value.int .i64 b) := by rw [h]
theorem beq_bytes {a b : ByteArray} (h : a = b) : (a.toList == b.toList) = true := by rw [h]; simp
theorem nbeq_bytes {a b : ByteArray} (h : a = b → False) : (a.toList == b.toList) = false := by
  cases hb : (a.toList == b.toList) with
  | false => rfl
  | true => exact absurd (bytes_eq (by rw [hb]; rfl)) h
def nameB (c : Int) : Bool := decide (97 ≤ c ∧ c ≤ 122) || decide (65 ≤ c ∧ c ≤ 90) || decide (48 ≤ c ∧ c ≤ 57) || decide (c = 45) || decide (c = 95) || decide (c = 46)
def nameUpto (s : ByteArray) (i : Int) : Prop := ∀ j : Int, 0 ≤ j → j < i → nameB (bt s j) = true
open Classical in
noncomputable def nameOk (s : ByteArray) : Bool := decide (1 ≤ s.size ∧ s.size ≤ 20 ∧ nameUpto s s.size)
abbrev Acc := S64
def code (chart : List Acc) (i : Int) : ByteArray := (rd_T64 chart i).f0
def par (chart : List Acc) (i : Int) : Int := (rd_T64 chart i).f1
def knd (chart : List Acc) (i : Int) : Int := (rd_T64 chart i).f2
def climb (chart : List Acc) (p : Int) : Nat → Int → Int
  | 0, k => k
  | n + 1, k => if 0 ≤ k ∧ k ≠ p then climb chart p n (par chart k) else k
def anc (chart : List Acc) : Nat → Int → Int
  | 0, _ => 0
  | n + 1, i => if 0 ≤ par chart i then anc chart n (par chart i) + 1 else 0
def fresh (chart : List Acc) (i : Int) : Prop := ∀ j : Int, 0 ≤ j → j < i → code chart j ≠ code chart i
def up (chart : List Acc) (i : Int) : Int := climb chart (par chart i) i.toNat (i - 1)
def deepAt (chart : List Acc) (i : Int) : Int := anc chart (i.toNat + 1) i
def rowOk (chart : List Acc) (i : Int) : Prop :=
  fresh chart i ∧ nameOk (code chart i) = true ∧ (1 ≤ knd chart i ∧ knd chart i ≤ 5) ∧ (par chart i = -1 ∨ (0 ≤ up chart i ∧ knd chart (up chart i) = knd chart i ∧ deepAt chart (up chart i) < 8))
def rowsOk (chart : List Acc) (n : Int) : Prop := ∀ i : Int, 0 ≤ i → i < n → rowOk chart i
open Classical in
noncomputable def chartOk (chart : List Acc) : Bool := decide (1 ≤ chart.length ∧ chart.length ≤ 120 ∧ rowsOk chart chart.length)
theorem climb_le (chart : List Acc) (p : Int) (m : Int) (h : ∀ j : Int, 0 ≤ j → j < m → par chart j < j) : ∀ (n : Nat) (k : Int), k < m → climb chart p n k ≤ k
  | 0, k, _ => Int.le_refl _
  | n + 1, k, hk => by
    unfold climb
    split
    · rename_i hc
      have h1 := h k hc.1 hk
      have := climb_le chart p m h n (par chart k) (by omega)
      omega
    · omega
theorem climb_end (chart : List Acc) (p : Int) (m : Int) (h : ∀ j : Int, 0 ≤ j → j < m → par chart j < j) : ∀ (n : Nat) (k : Int), k < m → k + 1 ≤ n → climb chart p n k < 0 ∨ climb chart p n k = p
  | 0, k, _, hn => by unfold climb; left; omega
  | n + 1, k, hk, hn => by
    unfold climb
    split
    · rename_i hc
      have h1 := h k hc.1 hk
      exact climb_end chart p m h n (par chart k) (by omega) (by omega)
    · rename_i hc
      by_cases h0 : 0 ≤ k
      · right
        by_cases e : k = p
        · exact e
        · exact absurd ⟨h0, e⟩ hc
      · left; omega
theorem climb_more (chart : List Acc) (p : Int) (m : Int) (h : ∀ j : Int, 0 ≤ j → j < m → par chart j < j) : ∀ (n n' : Nat) (k : Int), k < m → k + 1 ≤ n → k + 1 ≤ n' → climb chart p n k = climb chart p n' k
  | 0, 0, _, _, _, _ => rfl
  | 0, n' + 1, k, _, hn, _ => by unfold climb; rw [if_neg (by omega)]
  | n + 1, 0, k, _, _, hn => by unfold climb; rw [if_neg (by omega)]
  | n + 1, n' + 1, k, hk, hn, hn' => by
    unfold climb
    split
    · rename_i hc
      have h1 := h k hc.1 hk
      exact climb_more chart p m h n n' (par chart k) (by omega) (by omega) (by omega)
    · rfl
theorem anc_more (chart : List Acc) (m : Int) (h : ∀ j : Int, 0 ≤ j → j < m → par chart j < j) : ∀ (n n' : Nat) (k : Int), 0 ≤ k → k < m → k + 1 ≤ n → k + 1 ≤ n' → anc chart n k = anc chart n' k
  | 0, _, k, h0, _, hn, _ => by omega
  | n + 1, 0, k, h0, _, _, hn => by omega
  | n + 1, n' + 1, k, h0, hk, hn, hn' => by
    unfold anc
    split
    · rename_i hc
      have h1 := h k h0 hk
      rw [anc_more chart m h n n' (par chart k) hc (by omega) (by omega) (by omega)]
    · rfl
theorem rows_par {chart : List Acc} {m : Int} (h : rowsOk chart m) : ∀ j : Int, 0 ≤ j → j < m → par chart j < j := by
  have : ∀ n : Nat, (n : Int) ≤ m → ∀ j : Int, 0 ≤ j → j < n → par chart j < j := by
    intro n
    induction n with
    | zero => intro _ j h0 h1; omega
    | succ n ih =>
      intro hn j h0 h1
      have ih' := ih (by omega)
      by_cases hj : j < n
      · exact ih' j h0 hj
      · have hj' : j = n := by omega
        subst hj'
        obtain ⟨_, _, _, hp⟩ := h n h0 (by omega)
        rcases hp with hp | ⟨hu, _⟩
        · omega
        · have h2 := climb_end chart (par chart n) n ih' ((n : Int).toNat) ((n : Int) - 1) (by omega) (by omega)
          have h3 := climb_le chart (par chart n) n ih' ((n : Int).toNat) ((n : Int) - 1) (by omega)
          unfold up at hu
          rcases h2 with h2 | h2 <;> omega
  intro j h0 h1
  exact this (j.toNat + 1) (by omega) j h0 (by omega)
theorem rows_step {chart : List Acc} {i : Int} (h0 : 0 ≤ i) (h : rowsOk chart i) (hr : rowOk chart i) : rowsOk chart (i + 1) := by
  intro j hj0 hj1
  by_cases hj : j < i
  · exact h j hj0 hj
  · have : j = i := by omega
    subst this; exact hr
theorem up_is {chart : List Acc} {i : Int} (h : rowsOk chart i) (h0 : 0 ≤ i) (hu : 0 ≤ up chart i) : up chart i = par chart i ∧ par chart i < i := by
  have h1 := rows_par h
  have h2 := climb_end chart (par chart i) i h1 i.toNat (i - 1) (by omega) (by omega)
  have h3 := climb_le chart (par chart i) i h1 i.toNat (i - 1) (by omega)
  unfold up at *
  rcases h2 with h2 | h2 <;> omega
theorem deep_zero {chart : List Acc} {i : Int} (h : par chart i = -1) : deepAt chart i = 0 := by
  unfold deepAt anc
  rw [if_neg (by omega)]
theorem deep_up {chart : List Acc} {i : Int} (h : rowsOk chart i) (h0 : 0 ≤ i) (hu : 0 ≤ up chart i) : deepAt chart i = deepAt chart (up chart i) + 1 := by
  obtain ⟨e, hlt⟩ := up_is h h0 hu
  rw [e] at hu
  rw [e]
  show anc chart (i.toNat + 1) i = _
  unfold anc
  rw [if_pos hu]
  unfold deepAt
  rw [anc_more chart i (rows_par h) i.toNat ((par chart i).toNat + 1) (par chart i) hu hlt (by omega) (by omega)]
def inB (a b c : Int) : Bool := decide (b ≤ a) && decide (a ≤ c)
theorem inB_true {a b c : Int} : inB a b c = true ↔ b ≤ a ∧ a ≤ c := by simp [inB]
theorem inB_false {a b c : Int} : inB a b c = false ↔ ¬ (b ≤ a ∧ a ≤ c) := by rw [← inB_true]; simp
theorem inB_of {a b c : Int} (h : b ≤ a ∧ a ≤ c) : inB a b c = true := inB_true.2 h
theorem inB_not {a b c : Int} (h : ¬ (b ≤ a ∧ a ≤ c)) : inB a b c = false := inB_false.2 h
theorem name_step {s : ByteArray} {i : Int} (h0 : 0 ≤ i) (h : nameUpto s i) (hb : true = nameB (bt s i)) : nameUpto s (i + 1) := by
  intro j hj0 hj1
  by_cases e : j = i
  · subst e; exact hb.symm
  · exact h j hj0 (by omega)
open Classical in
theorem nameOk_true {s : ByteArray} {i : Int} (h1 : 1 ≤ s.size) (h2 : s.size ≤ 20) (hi : (s.size : Int) ≤ i) (h : nameUpto s i) : true = nameOk s := by
  unfold nameOk
  symm
  rw [decide_eq_true_eq]
  exact ⟨h1, h2, fun j hj0 hj1 => h j hj0 (by omega)⟩
open Classical in
theorem nameOk_byte {s : ByteArray} {i : Int} (h0 : 0 ≤ i) (h1 : i < (s.size : Int)) (h : false = nameB (bt s i)) : false = nameOk s := by
  unfold nameOk
  symm
  rw [decide_eq_false_iff_not]
  rintro ⟨_, _, hn⟩
  have := hn i h0 h1
  rw [← h] at this
  cases this
open Classical in
theorem nameOk_size {s : ByteArray} (h : ¬ (1 ≤ s.size ∧ s.size ≤ 20)) : false = nameOk s := by
  unfold nameOk
  symm
  rw [decide_eq_false_iff_not]
  exact fun q => h ⟨q.1, q.2.1⟩
open Classical in
theorem chartOk_row {chart : List Acc} {i : Int} (h0 : 0 ≤ i) (h1 : i < (chart.length : Int)) (h : ¬ rowOk chart i) : chartOk chart = false := by
  unfold chartOk
  rw [decide_eq_false_iff_not]
  exact fun q => h (q.2.2 i h0 h1)
open Classical in
theorem chartOk_len {chart : List Acc} (h : ¬ (1 ≤ chart.length ∧ chart.length ≤ 120)) : chartOk chart = false := by
  unfold chartOk
  rw [decide_eq_false_iff_not]
  exact fun q => h ⟨q.1, q.2.1⟩
open Classical in
theorem chartOk_all {chart : List Acc} (h1 : 1 ≤ chart.length) (h2 : chart.length ≤ 120) {i : Int} (hi : (chart.length : Int) ≤ i) (h : rowsOk chart i) : chartOk chart = true := by
  unfold chartOk
  rw [decide_eq_true_eq]
  exact ⟨h1, h2, fun j h0 h1 => h j h0 (by omega)⟩
open Classical in
theorem chartOk_iff {chart : List Acc} : chartOk chart = true ↔ 1 ≤ chart.length ∧ chart.length ≤ 120 ∧ rowsOk chart chart.length := by
  unfold chartOk
  rw [decide_eq_true_eq]
theorem rows_lo {chart : List Acc} {m : Int} (h : rowsOk chart m) : ∀ j : Int, 0 ≤ j → j < m → -1 ≤ par chart j := by
  intro j h0 h1
  obtain ⟨_, _, _, hp⟩ := h j h0 h1
  rcases hp with hp | ⟨hu, _⟩
  · omega
  · have := up_is (fun q q0 q1 => h q q0 (by omega) : rowsOk chart j) h0 hu
    omega
theorem climb_go {chart : List Acc} {p k u : Int} {m : Int} (h : ∀ j : Int, 0 ≤ j → j < m → par chart j < j) (h0 : 0 ≤ k) (hk : k < m) (hp : k ≠ p) (hc : ∀ n : Nat, k + 1 ≤ n → climb chart p n k = u) : ∀ n : Nat, par chart k + 1 ≤ n → climb chart p n (par chart k) = u := by
  intro n hn
  have h1 := h k h0 hk
  have h2 := hc (k.toNat + 1) (by omega)
  unfold climb at h2
  rw [if_pos ⟨h0, hp⟩] at h2
  rw [← h2]
  exact climb_more chart p m h _ _ _ (by omega) hn (by omega)
theorem climb_at {chart : List Acc} {p k u : Int} (h : ¬ (0 ≤ k ∧ k ≠ p)) (hc : ∀ n : Nat, k + 1 ≤ n → climb chart p n k = u) : u = k := by
  rw [← hc (k + 1).toNat (by omega)]
  cases (k + 1).toNat with
  | zero => rfl
  | succ n => unfold climb; rw [if_neg h]
theorem anc_nonneg (chart : List Acc) : ∀ (n : Nat) (i : Int), 0 ≤ anc chart n i
  | 0, _ => Int.le_refl _
  | n + 1, i => by
    unfold anc
    split
    · have := anc_nonneg chart n (par chart i); omega
    · omega
def leafP (chart : List Acc) (a : Int) : Prop := 0 ≤ a ∧ a < (chart.length : Int) ∧ (a + 1 = (chart.length : Int) ∨ par chart (a + 1) ≠ a)
open Classical in
noncomputable def leafB (chart : List Acc) (a : Int) : Bool := decide (leafP chart a)
open Classical in
theorem leafB_true {chart : List Acc} {a : Int} : leafB chart a = true ↔ leafP chart a := by unfold leafB; rw [decide_eq_true_eq]
theorem leafB_of {chart : List Acc} {a : Int} (h : leafP chart a) : leafB chart a = true := leafB_true.2 h
theorem leafB_not {chart : List Acc} {a : Int} (h : ¬ leafP chart a) : leafB chart a = false := by
  cases hb : leafB chart a with
  | false => rfl
  | true => exact absurd (leafB_true.1 hb) h
theorem climb_hits {chart : List Acc} {p : Int} {m : Int} (h : ∀ j : Int, 0 ≤ j → j < m → par chart j < j) : ∀ (n : Nat) (k : Int), k < m → p < k → 0 ≤ p → climb chart p n k = p → ∃ q : Int, p < q ∧ q ≤ k ∧ par chart q = p
  | 0, k, _, h2, _, h3 => by unfold climb at h3; omega
  | n + 1, k, h1, h2, h0, h3 => by
    unfold climb at h3
    rw [if_pos ⟨by omega, by omega⟩] at h3
    have hlt := h k (by omega) h1
    by_cases e : par chart k = p
    · exact ⟨k, h2, by omega, e⟩
    · have hge : p < par chart k := by
        have := climb_le chart p m h n (par chart k) (by omega)
        omega
      obtain ⟨q, q1, q2, q3⟩ := climb_hits h n (par chart k) (by omega) hge h0 h3
      exact ⟨q, q1, by omega, q3⟩
theorem leaf_next {chart : List Acc} {m : Int} (hr : rowsOk chart m) {a : Int} (h0 : 0 ≤ a) : ∀ n : Nat, ∀ j : Int, j = n → j < m → par chart j = a → a + 1 < m ∧ par chart (a + 1) = a := by
  intro n
  induction n using Nat.strongRecOn with
  | _ n ih =>
    intro j hj hm hp
    have hj0 : 0 ≤ j := by omega
    have hlt := rows_par hr j hj0 hm
    by_cases e : j = a + 1
    · subst e; exact ⟨hm, hp⟩
    · have hrj : rowsOk chart j := fun q q0 q1 => hr q q0 (by omega)
      obtain ⟨_, _, _, hu⟩ := hr j hj0 hm
      rcases hu with hu | ⟨hu, _⟩
      · omega
      · have h1 := (up_is hrj hj0 hu).1
        unfold up at h1
        rw [hp] at h1
        obtain ⟨q, q1, q2, q3⟩ := climb_hits (rows_par hrj) j.toNat (j - 1) (by omega) (by omega) h0 h1
        exact ih q.toNat (by omega) q (by omega) (by omega) q3
theorem leaf_iff {chart : List Acc} (hr : rowsOk chart chart.length) {a : Int} (h0 : 0 ≤ a) (h1 : a < (chart.length : Int)) : (∀ j : Int, 0 ≤ j → j < (chart.length : Int) → par chart j ≠ a) ↔ leafP chart a := by
  constructor
  · intro h
    refine ⟨h0, h1, ?_⟩
    by_cases e : a + 1 = (chart.length : Int)
    · exact Or.inl e
    · exact Or.inr (h (a + 1) (by omega) (by omega))
  · intro h j j0 j1 hp
    obtain ⟨q1, q2⟩ := leaf_next hr h0 j.toNat j (by omega) j1 hp
    rcases h.2.2 with e | e
    · omega
    · exact e q2
noncomputable def frameB (chart : List Acc) (dims curs : Int) : Bool := chartOk chart && (inB dims 1 20 && inB curs 1 20)
abbrev Lin := S81
abbrev Ent := S35
theorem infoEntry : (Tryd.prog.info? 35).map (fun i => (i.zero, i.size, i.bytes)) = some (some (.agg #[(.int .i64 0), (.int .i64 0), (.string ⟨#[]⟩), (.slice none 0 0)]), 4, 56) := by kernel_rfl
def lineP (chart : List Acc) (dims curs : Int) (x : Lin) : Prop :=
  leafP chart x.f0 ∧ (0 ≤ x.f1 ∧ x.f1 ≤ dims - 1) ∧ (0 ≤ x.f2 ∧ x.f2 ≤ curs - 1) ∧ (-100000000000 ≤ x.f3 ∧ x.f3 ≤ 100000000000) ∧ (-100000000000 ≤ x.f4 ∧ x.f4 ≤ 100000000000) ∧ (x.f2 = 0 → x.f3 = x.f4)
def curSum : List Lin → Int → Int
  | [], _ => 0
  | x :: l, c => (if x.f2 = c then x.f3 else 0) + curSum l c
def dimSum : List Lin → Int → Int
  | [], _ => 0
  | x :: l, d => (if x.f1 = d then x.f4 else 0) + dimSum l d
def textUpto (s : ByteArray) (i : Int) : Prop := ∀ j : Int, 0 ≤ j → j < i → 32 ≤ bt s j
def entryP (chart : List Acc) (dims curs : Int) (e : Ent) : Prop :=
  (0 ≤ e.f0 ∧ e.f0 ≤ 40000) ∧ (0 ≤ e.f1 ∧ e.f1 ≤ 1000) ∧ e.f2.size ≤ 40 ∧ (2 ≤ e.f3.length ∧ e.f3.length ≤ 60) ∧ textUpto e.f2 e.f2.size ∧ (∀ x ∈ e.f3, lineP chart dims curs x) ∧ (∀ x ∈ e.f3, curSum e.f3 x.f2 = 0 ∧ dimSum e.f3 x.f1 = 0)
open Classical in
noncomputable def entryB (chart : List Acc) (dims curs : Int) (e : Ent) : Bool := decide (entryP chart dims curs e)
open Classical in
theorem entryB_true {chart : List Acc} {dims curs : Int} {e : Ent} : entryB chart dims curs e = true ↔ entryP chart dims curs e := by unfold entryB; rw [decide_eq_true_eq]
theorem entryB_not {chart : List Acc} {dims curs : Int} {e : Ent} (h : ¬ entryP chart dims curs e) : false = entryB chart dims curs e := by
  cases hb : entryB chart dims curs e with
  | false => rfl
  | true => exact absurd (entryB_true.1 hb) h
theorem curSum_snoc (l : List Lin) (x : Lin) (c : Int) : curSum (l ++ [x]) c = curSum l c + if x.f2 = c then x.f3 else 0 := by
  induction l with
  | nil => simp [curSum]
  | cons y l ih => simp only [List.cons_append, curSum, ih]; omega
theorem dimSum_snoc (l : List Lin) (x : Lin) (c : Int) : dimSum (l ++ [x]) c = dimSum l c + if x.f1 = c then x.f4 else 0 := by
  induction l with
  | nil => simp [dimSum]
  | cons y l ih => simp only [List.cons_append, dimSum, ih]; omega
def smallLines (l : List Lin) : Prop := ∀ x ∈ l, (-100000000000 ≤ x.f3 ∧ x.f3 ≤ 100000000000) ∧ (-100000000000 ≤ x.f4 ∧ x.f4 ≤ 100000000000)
theorem curSum_small {l : List Lin} (h : smallLines l) (c : Int) : -100000000000 * (l.length : Int) ≤ curSum l c ∧ curSum l c ≤ 100000000000 * (l.length : Int) := by
  induction l with
  | nil => simp [curSum]
  | cons y l ih =>
    have h1 := ih (fun x hx => h x (List.mem_cons_of_mem _ hx))
    have h2 := (h y List.mem_cons_self).1
    simp only [curSum, List.length_cons]
    split <;> (constructor <;> (push_cast; omega))
theorem dimSum_small {l : List Lin} (h : smallLines l) (c : Int) : -100000000000 * (l.length : Int) ≤ dimSum l c ∧ dimSum l c ≤ 100000000000 * (l.length : Int) := by
  induction l with
  | nil => simp [dimSum]
  | cons y l ih =>
    have h1 := ih (fun x hx => h x (List.mem_cons_of_mem _ hx))
    have h2 := (h y List.mem_cons_self).2
    simp only [dimSum, List.length_cons]
    split <;> (constructor <;> (push_cast; omega))
noncomputable def sumsOf (l : List Lin) (p : Int × Int) : Option Int := open Classical in
  if p.1 = 0 then (if ∃ x ∈ l, x.f2 = p.2 then some (curSum l p.2) else none)
  else if p.1 = 1 then (if ∃ x ∈ l, x.f1 = p.2 then some (dimSum l p.2) else none) else none
theorem curSum_none {l : List Lin} {c : Int} (h : ¬ ∃ x ∈ l, x.f2 = c) : curSum l c = 0 := by
  induction l with
  | nil => rfl
  | cons y l ih =>
    simp only [curSum]
    rw [if_neg (fun e => h ⟨y, List.mem_cons_self, e⟩), ih (fun ⟨x, hx, e⟩ => h ⟨x, List.mem_cons_of_mem _ hx, e⟩)]
    rfl
theorem dimSum_none {l : List Lin} {c : Int} (h : ¬ ∃ x ∈ l, x.f1 = c) : dimSum l c = 0 := by
  induction l with
  | nil => rfl
  | cons y l ih =>
    simp only [dimSum]
    rw [if_neg (fun e => h ⟨y, List.mem_cons_self, e⟩), ih (fun ⟨x, hx, e⟩ => h ⟨x, List.mem_cons_of_mem _ hx, e⟩)]
    rfl
theorem sums_cur (l : List Lin) (c : Int) : (sumsOf l (0, c)).getD 0 = curSum l c := by
  unfold sumsOf
  simp only [if_true]
  split
  · rfl
  · rename_i h
    rw [curSum_none h]; rfl
theorem sums_dim (l : List Lin) (c : Int) : (sumsOf l (1, c)).getD 0 = dimSum l c := by
  unfold sumsOf
  rw [if_neg (by simp), if_pos rfl]
  split
  · rfl
  · rename_i h
    rw [dimSum_none h]; rfl
theorem sums_nil : sumsOf [] = fun _ => none := by
  funext p
  unfold sumsOf
  simp
theorem sums_snoc (l : List Lin) (x : Lin) : HMap.upd (HMap.upd (sumsOf l) (0, x.f2) (curSum l x.f2 + x.f3)) (1, x.f1) (dimSum l x.f1 + x.f4) = sumsOf (l ++ [x]) := by
  funext p
  obtain ⟨a, b⟩ := p
  by_cases h1 : (a, b) = (1, x.f1)
  · rw [h1, HMap.upd_same]
    unfold sumsOf
    rw [if_neg (by simp), if_pos rfl, if_pos ⟨x, by simp, rfl⟩, dimSum_snoc, if_pos rfl]
  · rw [HMap.upd_other _ _ h1]
    by_cases h0 : (a, b) = (0, x.f2)
    · rw [h0, HMap.upd_same]
      unfold sumsOf
      rw [if_pos rfl, if_pos ⟨x, by simp, rfl⟩, curSum_snoc, if_pos rfl]
    · rw [HMap.upd_other _ _ h0]
      unfold sumsOf
      by_cases ha : a = 0
      · subst ha
        have hb : x.f2 ≠ b := fun e => h0 (by rw [e])
        simp only [if_true]
        rw [curSum_snoc, if_neg hb, Int.add_zero]
        have he : (∃ y ∈ l ++ [x], y.f2 = b) ↔ ∃ y ∈ l, y.f2 = b := by
          constructor
          · rintro ⟨y, hy, e⟩
            rcases List.mem_append.1 hy with hy | hy
            · exact ⟨y, hy, e⟩
            · simp at hy; subst hy; exact absurd e hb
          · rintro ⟨y, hy, e⟩
            exact ⟨y, List.mem_append_left _ hy, e⟩
        simp only [he]
      · simp only [ha, if_false]
        by_cases ha1 : a = 1
        · subst ha1
          have hb : x.f1 ≠ b := fun e => h1 (by rw [e])
          simp only [if_true]
          rw [dimSum_snoc, if_neg hb, Int.add_zero]
          have he : (∃ y ∈ l ++ [x], y.f1 = b) ↔ ∃ y ∈ l, y.f1 = b := by
            constructor
            · rintro ⟨y, hy, e⟩
              rcases List.mem_append.1 hy with hy | hy
              · exact ⟨y, hy, e⟩
              · simp at hy; subst hy; exact absurd e hb
            · rintro ⟨y, hy, e⟩
              exact ⟨y, List.mem_append_left _ hy, e⟩
          simp only [he]
        · simp only [ha1, if_false]
theorem sums_zero {l : List Lin} : (∀ p v, sumsOf l p = some v → v = 0) ↔ ∀ x ∈ l, curSum l x.f2 = 0 ∧ dimSum l x.f1 = 0 := by
  constructor
  · intro h x hx
    constructor
    · exact h (0, x.f2) _ (by unfold sumsOf; rw [if_pos rfl, if_pos ⟨x, hx, rfl⟩])
    · exact h (1, x.f1) _ (by unfold sumsOf; rw [if_neg (by simp), if_pos rfl, if_pos ⟨x, hx, rfl⟩])
  · intro h p v hv
    unfold sumsOf at hv
    split at hv
    · split at hv
      · rename_i hx
        obtain ⟨x, hx, e⟩ := hx
        cases hv
        rw [← e]; exact (h x hx).1
      · cases hv
    · split at hv
      · split at hv
        · rename_i hx
          obtain ⟨x, hx, e⟩ := hx
          cases hv
          rw [← e]; exact (h x hx).2
        · cases hv
      · cases hv
noncomputable def spec_l1In.f (a0 a1 a2 : Int) : Option Bool := some (inB a0 a1 a2)
set_option maxRecDepth 100000 in
theorem spec_l1In.to (a b c : Int) (w : World) : Calls Tryd.prog 26 #[.int .i64 a, .int .i64 b, .int .i64 c] w fun e w' => e = .returned (.bool (inB a b c)) ∧ w' = w := by
  go_enter Tryd.func26, Tryd.ntmps26
  go_wp2
  all_goals
    go_ret
    refine ⟨ret_bool ?_, rfl⟩
    unfold inB
    rw [Bool.eq_iff_iff]
    simp
    try omega
theorem spec_l1In.calls (a0 a1 a2 : Int) (r : Bool) (w : World) (h : spec_l1In.f a0 a1 a2 = some r) :
    Calls Tryd.prog 26 #[.int .i64 a0, .int .i64 a1, .int .i64 a2] w fun e w' => e = .returned (.bool r) ∧ Drawn0 w w' := by
  obtain rfl := Option.some.inj h
  exact (spec_l1In.to a0 a1 a2 w).mono fun e w' ⟨he, hw⟩ => ⟨he, hw ▸ Drawn0.refl _⟩
theorem deep_step {chart : List Acc} {a p : Int} (h : ∀ j : Int, 0 ≤ j → j ≤ a → par chart j < j) (h0 : 0 ≤ p) (h1 : p ≤ a) (hp : 0 ≤ par chart p) : deepAt chart p = deepAt chart (par chart p) + 1 := by
  have hlt := h p h0 h1
  show anc chart (p.toNat + 1) p = _
  unfold anc
  rw [if_pos hp]
  unfold deepAt
  rw [anc_more chart (a + 1) (fun j j0 j1 => h j j0 (by omega)) p.toNat ((par chart p).toNat + 1) (par chart p) hp (by omega) (by omega) (by omega)]
set_option maxHeartbeats 4000000 in
set_option maxRecDepth 100000 in
theorem spec_l4Deep.to (A0 : Option Addr) (c0 : Nat) (l0 : List Acc) (a : Int) (w : World) (hr0 : Kd.C k64 w A0 l0.length l0) (h0 : 0 ≤ a) (ha : a < (l0.length : Int)) (hn : l0.length ≤ 120) (hrows : ∀ j : Int, 0 ≤ j → j ≤ a → par l0 j < j) :
    Calls Tryd.prog 68 #[.slice A0 l0.length c0, .int .i64 a] w fun e w' => e = .returned (.int .i64 (deepAt l0 a)) ∧ w' = w := by
  have H0 := Aside0.mk hr0
  have HR := Aside0.mk hrows
  clear hr0 hrows
  go_enter Tryd.func68, Tryd.ntmps68
  go_wp2_with fail
  go_loop [1, 5] (fun v u => ∃ p n : Int, 0 ≤ p ∧ p ≤ a ∧ v = .int .i64 p ∧ 0 ≤ n ∧ n + p ≤ a ∧ u = .int .i64 n ∧ Aside0 (n + deepAt l0 p = deepAt l0 a)) (fun v _ => (intOf v).toNat)
  case atStart => exact ⟨a, 0, h0, by omega, rfl, by omega, by omega, rfl, ⟨by omega⟩⟩
  case round =>
    obtain ⟨p, n, hp0, hp1, rfl, hn0, hn1, rfl, HD⟩ := hrel
    have hlt : p < (l0.length : Int) := by omega
    obtain ⟨ad, e0, x0, x1, x2⟩ := at_T64 H0.out p hp0 hlt
    cases e0
    by_cases hp : 0 ≤ (rd_T64 l0 p).f1
    · have hs := Aside0.mk (deep_step HR.out hp0 hp1 hp)
      have hlo := HR.out p hp0 hp1
      have HLO := Aside0.mk hlo
      have hlo' : (rd_T64 l0 p).f1 < p := hlo
      clear hlo
      go_wp2_with fail
      go_round
      case rel => exact ⟨(rd_T64 l0 p).f1, n + 1, hp, by omega, rfl, by omega, by omega, rfl, ⟨by have h1 := HD.out; have h2 := hs.out; show n + 1 + deepAt l0 (par l0 p) = _; omega⟩⟩
      case measure => show (par l0 p).toNat < p.toNat; have := HLO.out; have h9 : 0 ≤ par l0 p := hp; omega
    · have hz : deepAt l0 p = 0 := by
        unfold deepAt anc
        exact if_neg hp
      have HZ := Aside0.mk hz
      clear hz
      have hp' : (rd_T64 l0 p).f1 < 0 := by omega
      go_wp2_with fail
      go_ret
      exact ⟨ret_i (by have h1 := HD.out; have h2 := HZ.out; omega), rfl⟩
set_option maxHeartbeats 4000000 in
set_option maxRecDepth 100000 in
theorem impl_nameByte.to (a0 : Int) (w : World) : Calls Tryd.prog 78 #[.int .u8 a0] w fun e w' => e = .returned (.bool (nameB a0)) ∧ w' = w := by
  go_enter Tryd.func78, Tryd.ntmps78
  go_wp2
  all_goals
    go_ret
    refine ⟨ret_bool ?_, rfl⟩
    unfold nameB
    rw [Bool.eq_iff_iff]
    simp
    try omega
set_option maxRecDepth 100000 in
theorem impl_between.to (a b c : Int) (w : World) : Calls Tryd.prog 29 #[.int .i64 a, .int .i64 b, .int .i64 c] w fun e w' => e = .returned (.bool (inB a b c)) ∧ w' = w := by
  go_enter Tryd.func29, Tryd.ntmps29
  go_wp2
  all_goals
    go_ret
    refine ⟨ret_bool ?_, rfl⟩
    unfold inB
    rw [Bool.eq_iff_iff]
    simp
    try omega
set_option maxHeartbeats 4000000 in
set_option maxRecDepth 100000 in
theorem impl_leafAt.to (A0 : Option Addr) (c0 : Nat) (l0 : List Acc) (a : Int) (w : World) (hr0 : Kd.C k64 w A0 l0.length l0) :
    Calls Tryd.prog 31 #[.slice A0 l0.length c0, .int .i64 a] w fun e w' => e = .returned (.bool (leafB l0 a)) ∧ w' = w := by
  have hl := hr0.2.1
  have H0 := Aside0.mk hr0
  clear hr0
  by_cases h0 : 0 ≤ a
  · by_cases h1 : a < (l0.length : Int)
    · by_cases h2 : a + 1 = (l0.length : Int)
      · have hb : (a + 1 == (l0.length : Int)) = true := beq_iff_eq.2 h2
        have HQ := Aside0.mk (leafB_of (show leafP l0 a from ⟨h0, h1, Or.inl h2⟩))
        clear h2
        go_enter Tryd.func31, Tryd.ntmps31
        go_wp2_with fail
        go_ret
        exact ⟨ret_bool HQ.out.symm, rfl⟩
      · have hb : (a + 1 == (l0.length : Int)) = false := beq_eq_false_iff_ne.2 h2
        have hn0 : 0 ≤ a + 1 := by omega
        have hn1 : a + 1 < (l0.length : Int) := by omega
        obtain ⟨ad, e0, x0, x1, x2⟩ := at_T64 H0.out (a + 1) hn0 hn1
        cases e0
        by_cases h3 : (rd_T64 l0 (a + 1)).f1 = a
        · have hb3 : ((rd_T64 l0 (a + 1)).f1 != a) = false := by rw [h3]; exact bne_self_eq_false' _
          have HQ := Aside0.mk (leafB_not (show ¬ leafP l0 a from fun q => by rcases q.2.2 with q | q; exact h2 q; exact q h3))
          clear h2 h3
          go_enter Tryd.func31, Tryd.ntmps31
          go_wp2_with fail
          go_ret
          exact ⟨ret_bool HQ.out.symm, rfl⟩
        · have hb3 : ((rd_T64 l0 (a + 1)).f1 != a) = true := bne_iff_ne.2 h3
          have HQ := Aside0.mk (leafB_of (show leafP l0 a from ⟨h0, h1, Or.inr h3⟩))
          clear h2 h3
          go_enter Tryd.func31, Tryd.ntmps31
          go_wp2_with fail
          go_ret
          exact ⟨ret_bool HQ.out.symm, rfl⟩
    · have HQ := Aside0.mk (leafB_not (show ¬ leafP l0 a from fun q => h1 q.2.1))
      go_enter Tryd.func31, Tryd.ntmps31
      go_wp2_with fail
      go_ret
      exact ⟨ret_bool HQ.out.symm, rfl⟩
  · have HQ := Aside0.mk (leafB_not (show ¬ leafP l0 a from fun q => h0 q.1))
    go_enter Tryd.func31, Tryd.ntmps31
    go_wp2_with fail
    go_ret
    exact ⟨ret_bool HQ.out.symm, rfl⟩
end Go.Proofs.YtjkjjfbcakbmnaaDoor.Q
