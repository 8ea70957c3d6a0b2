/- Parts of the proof: what functions of the program and of the reference answer.
   No condition. -/
import Derived.Test.YtjkjjfbcakbmnaaDoorZBooksShut1
import Derived.Test.YtjkjjfbcakbmnaaDoorZBooksShut18
import Derived.Test.YtjkjjfbcakbmnaaDoorZBooksShut20
import Derived.Test.YtjkjjfbcakbmnaaDoorZBooksShut17
import Derived.Test.YtjkjjfbcakbmnaaDoorZBooksShut7
import Derived.Test.YtjkjjfbcakbmnaaDoorZBooksShut4
import Derived.Test.YtjkjjfbcakbmnaaDoorZBooksShut11
import Derived.Test.YtjkjjfbcakbmnaaDoorZBooksShut3
import Derived.Test.YtjkjjfbcakbmnaaDoorZBooksShut21
import Derived.Test.YtjkjjfbcakbmnaaDoorZBooksShut22
namespace Go.Proofs.YtjkjjfbcakbmnaaDoor.Q
open Go.RowKit Go.Proofs.YtjkjjfbcakbmnaaDoorW.PrintWords Go.Proofs.YtjkjjfbcakbmnaaDoorW.PrintLast Go.Proofs.YtjkjjfbcakbmnaaDoorW.PrintMore
set_option linter.unusedVariables false
set_option linter.unusedSimpArgs false
theorem spec_Post.tab8 : rtab .any (opsOf Tryd.f20 8) = impl_Post.T8 := by kernel_rfl
theorem l5Ledger_is (l : List Ent) (h : Int) (hl : l.length ≤ 1048576) (hs : ∀ x ∈ l, x.f3.length ≤ 1048576) : spec_l5Ledger.f (l.length + 1) l h = some (l, h) := by
  unfold spec_l5Ledger.f spec_l5Entries.f
  try simp only [Option.bind_some]
  rw [show spec_l5Entries.l0 (l.length + 1) l [] 0 = some l from l5Entries_l0 l hl hs l.length (l.length + 1) 0 (by omega) (by omega) (by omega)]
  rfl
theorem l5Entry_is (e0 e1 : Int) (e2 : ByteArray) (l : List Lin) (hl : l.length ≤ 1048576) : spec_l5Entry.f e0 e1 e2 l = some (e0, e1, e2, l) := by
  unfold spec_l5Entry.f
  simp only [Option.bind_some, List.nil_append, List.length_nil, Nat.zero_add]
  rw [if_pos (by omega)]
set_option maxHeartbeats 16000000 in
set_option maxRecDepth 100000 in
theorem spec_Post.to (A0 : Option Addr) (c0 : Nat) (l0 : List Acc) (d c : Int) (A1 : Option Addr) (c1 : Nat) (l1 : List Ent) (h : Int) (e0 e1 : Int) (e2 : ByteArray) (A2 : Option Addr) (c2 : Nat) (l2 : List Lin) (w : World)
    (hr0 : Kd.C k64 w A0 l0.length l0) (hs : ∀ x ∈ l0, x.f0.size ≤ maxLen) (hr1 : Kd.C k35 w A1 l1.length l1) (hm : ∀ e ∈ l1, e.f2.size ≤ maxLen) (hr2 : Kd.C k81 w A2 l2.length l2) (hc1 : l1.length ≤ c1) (hc2 : l2.length ≤ c2) (he : e2.size ≤ maxLen) (hl1 : l1.length ≤ 1048576) (hs1 : ∀ y ∈ l1, y.f3.length ≤ 1048576) (hl2 : l2.length ≤ 1048576) :
    Calls Tryd.prog 20 #[.agg #[.slice A0 l0.length c0, .int .i64 d, .int .i64 c], .agg #[.slice A1 l1.length c1, .int .i64 h], .agg #[.int .i64 e0, .int .i64 e1, .string e2, .slice A2 l2.length c2]] w fun e w' => ∃ v0 : Value, e = .returned (.tuple #[.agg #[v0, .int .i64 (postR l0 d c l1 h ⟨e0, e1, e2, l2⟩).2.1], .int .i64 (postR l0 d c l1 h ⟨e0, e1, e2, l2⟩).2.2]) ∧ Kd.S k35 35 w' w.heap.size (fun _ => True) v0 (postR l0 d c l1 h ⟨e0, e1, e2, l2⟩).1 ∧ Below w.heap.size w w' := by
  have H0 := Aside0.mk hr0
  have H1 := Aside0.mk hr1
  have H2 := Aside0.mk hr2
  have C1 := Aside0.mk hc1
  have C2 := Aside0.mk hc2
  have HS := Aside0.mk hs
  have HM := Aside0.mk hm
  have HE := Aside0.mk he
  have HL1 := Aside0.mk hl1
  have HS1 := Aside0.mk hs1
  have HL2 := Aside0.mk hl2
  have HB := Aside0.mk (below_alloc (below_alloc (below_two w (.cells #[.slice A0 l0.length c0, .int .i64 d, .int .i64 c] 26) (.cells #[.slice A1 l1.length c1, .int .i64 h] 29)) (.cells #[.int .i64 e0, .int .i64 e1, .string e2, .slice A2 l2.length c2] 35)) (.cells #[.slice none 0 0, .int .i64 0] 29))
  clear hc1 hc2 hr0 hr1 hr2 hs hm he hl1 hs1 hl2
  go_enter Tryd.func20, Tryd.ntmps20
  go_wp2_with fail
  refine (spec_LedgerOk.to A0 c0 l0 d c A1 c1 l1 h _ (Kd.C_below H0.out HB.out) HS.out (Kd.C_below H1.out HB.out) C1.out HM.out).mono ?_
  rintro x w1 ⟨rfl, hb⟩
  have K0 : w1.heap[w.heap.size]? = some (.cells #[.slice A0 l0.length c0, .int .i64 d, .int .i64 c] 26 (0, 0)) := by
    have := blk_below (blk_alloc (blk_alloc (blk_alloc (blk_new (w) (.cells #[.slice A0 l0.length c0, .int .i64 d, .int .i64 c] 26)) (.cells #[.slice A1 l1.length c1, .int .i64 h] 29)) (.cells #[.int .i64 e0, .int .i64 e1, .string e2, .slice A2 l2.length c2] 35)) (.cells #[.slice none 0 0, .int .i64 0] 29)) hb
    simpa using this
  have K1 : w1.heap[w.heap.size + 1]? = some (.cells #[.slice A1 l1.length c1, .int .i64 h] 29 (0, 0)) := by
    have := blk_below (blk_alloc (blk_alloc (blk_new ((w).alloc (.cells #[.slice A0 l0.length c0, .int .i64 d, .int .i64 c] 26)) (.cells #[.slice A1 l1.length c1, .int .i64 h] 29)) (.cells #[.int .i64 e0, .int .i64 e1, .string e2, .slice A2 l2.length c2] 35)) (.cells #[.slice none 0 0, .int .i64 0] 29)) hb
    simpa using this
  have K2 : w1.heap[w.heap.size + 1 + 1]? = some (.cells #[.int .i64 e0, .int .i64 e1, .string e2, .slice A2 l2.length c2] 35 (0, 0)) := by
    have := blk_below (blk_alloc (blk_new (((w).alloc (.cells #[.slice A0 l0.length c0, .int .i64 d, .int .i64 c] 26)).alloc (.cells #[.slice A1 l1.length c1, .int .i64 h] 29)) (.cells #[.int .i64 e0, .int .i64 e1, .string e2, .slice A2 l2.length c2] 35)) (.cells #[.slice none 0 0, .int .i64 0] 29)) hb
    simpa using this
  have K3 : w1.heap[w.heap.size + 1 + 1 + 1]? = some (.cells #[.slice none 0 0, .int .i64 0] 29 (0, 0)) := by
    have := blk_below (blk_new ((((w).alloc (.cells #[.slice A0 l0.length c0, .int .i64 d, .int .i64 c] 26)).alloc (.cells #[.slice A1 l1.length c1, .int .i64 h] 29)).alloc (.cells #[.int .i64 e0, .int .i64 e1, .string e2, .slice A2 l2.length c2] 35)) (.cells #[.slice none 0 0, .int .i64 0] 29)) hb
    simpa using this
  have HB1 := Aside0.mk (below_into (w := w) hb HB.out)
  have z3 : w.heap.size + 1 + 1 + 1 < w1.heap.size := blk_lt K3
  clear hb HB
  have f0 : w1.cell? ⟨w.heap.size, 0, none⟩ = some (.slice A0 l0.length c0) := (blk_cell K0 0).trans rfl
  have f1 : w1.cell? ⟨w.heap.size, 1, none⟩ = some (.int .i64 d) := (blk_cell K0 1).trans rfl
  have f2 : w1.cell? ⟨w.heap.size, 2, none⟩ = some (.int .i64 c) := (blk_cell K0 2).trans rfl
  have g0 : w1.cell? ⟨w.heap.size + 1, 0, none⟩ = some (.slice A1 l1.length c1) := (blk_cell K1 0).trans rfl
  have g1 : w1.cell? ⟨w.heap.size + 1, 1, none⟩ = some (.int .i64 h) := (blk_cell K1 1).trans rfl
  have u0 : w1.cell? ⟨w.heap.size + 1 + 1, 0, none⟩ = some (.int .i64 e0) := (blk_cell K2 0).trans rfl
  have u1 : w1.cell? ⟨w.heap.size + 1 + 1, 1, none⟩ = some (.int .i64 e1) := (blk_cell K2 1).trans rfl
  have u2 : w1.cell? ⟨w.heap.size + 1 + 1, 2, none⟩ = some (.string e2) := (blk_cell K2 2).trans rfl
  have u3 : w1.cell? ⟨w.heap.size + 1 + 1, 3, none⟩ = some (.slice A2 l2.length c2) := (blk_cell K2 3).trans rfl
  have y0 : w1.cell? ⟨w.heap.size + 1 + 1 + 1, 0, none⟩ = some (.slice none 0 0) := (blk_cell K3 0).trans rfl
  have yf0 := blk_frozen K3 0
  have y1 : w1.cell? ⟨w.heap.size + 1 + 1 + 1, 1, none⟩ = some (.int .i64 0) := (blk_cell K3 1).trans rfl
  have yf1 := blk_frozen K3 1
  have LK3 := Aside0.mk K3
  have LK2 := Aside0.mk K2
  have LK1 := Aside0.mk K1
  have LK0 := Aside0.mk K0
  clear K0 K1 K2 K3
  cases q1 : ledgerB l0 d c l1 h with
  | false =>
    have HN := Aside0.mk (show postR l0 d c l1 h ⟨e0, e1, e2, l2⟩ = ([], 0, 1) from if_neg (by simp only [q1]; simp))
    clear q1
    go_wp2_with fail
    rw [HN.out]
    refine bodyPost_ret (results_ct rfl _ _ (w.heap.size + 1 + 1 + 1) 29 #[.slice none 0 0, .int .i64 0] (0, 0) _ rfl (by exact blk2 LK3.out _ _) Tryd.underlying29 rfl (by kernel_rfl)) rfl ?_
    exact ⟨.slice none 0 0, rfl, Kd.S_nil _ _ _ _ _, below_put2 HB1.out (by omega) _ _⟩
  | true =>
    have HQ := Aside0.mk (ledgerB_true.1 q1)
    have HQB := Aside0.mk q1
    clear q1
    go_wp2_with fail
    refine (spec_l5Ledger.calls (l1.length + 1) A1 c1 l1 h l1 h _ (Kd.C_below H1.out HB1.out) C1.out (l5Ledger_is l1 h HL1.out HS1.out)).mono ?_
    rintro x w2 ⟨v, rfl, hS, hb⟩
    obtain ⟨B1, q1, rfl⟩ := Kd.S_slice hS
    have HO2 := Aside0.mk (Kd.S_lower (Kd.S_mono (ok' := fun k => w1.heap.size ≤ k) (Kd.S_bound hS) (fun k hk => hk.2.1)) (show w.heap.size ≤ w1.heap.size by omega))
    have HB2 := Aside0.mk (below_into (w := w) hb HB1.out)
    have s12 := hb.size
    replace LK0 := Aside0.mk (blk_below LK0.out hb)
    replace LK1 := Aside0.mk (blk_below LK1.out hb)
    replace LK2 := Aside0.mk (blk_below LK2.out hb)
    replace LK3 := Aside0.mk (blk_below LK3.out hb)
    replace f0 := pw_cell_below hb f0
    replace f1 := pw_cell_below hb f1
    replace f2 := pw_cell_below hb f2
    replace g0 := pw_cell_below hb g0
    replace g1 := pw_cell_below hb g1
    replace u0 := pw_cell_below hb u0
    replace u1 := pw_cell_below hb u1
    replace u2 := pw_cell_below hb u2
    replace u3 := pw_cell_below hb u3
    replace y0 := pw_cell_below hb y0
    replace y1 := pw_cell_below hb y1
    replace yf0 := blk_frozen LK3.out 0
    replace yf1 := blk_frozen LK3.out 1
    have zb0 : w.heap.size < w2.heap.size := by omega
    have zb1 : w.heap.size + 1 < w2.heap.size := by omega
    have zb2 : w.heap.size + 1 + 1 < w2.heap.size := by omega
    have zb3 : w.heap.size + 1 + 1 + 1 < w2.heap.size := by omega
    clear hb hS
    go_wp2_with fail
    refine (spec_EntryOk.to A0 c0 l0 d c (⟨e0, e1, e2, l2⟩ : Ent) A2 c2 _ (Kd.C_below H0.out (below_alloc HB2.out _)) HS.out (Kd.C_below H2.out (below_alloc HB2.out _)) HE.out).mono ?_
    rintro x w3 ⟨rfl, hb⟩
    have LK4 := Aside0.mk (blk_below (blk_new w2 (.cells #[.slice B1 l1.length q1, .int .i64 h] 29)) hb)
    have HO3 := Aside0.mk (Kd.S_below (Kd.S_alloc HO2.out _) hb)
    have HB3 := Aside0.mk (below_into (w := w) hb (below_alloc HB2.out _))
    have s23 : w2.heap.size + 1 ≤ w3.heap.size := by have := hb.size; simpa using this
    replace LK0 := Aside0.mk (blk_below (blk_alloc LK0.out _) hb)
    replace LK1 := Aside0.mk (blk_below (blk_alloc LK1.out _) hb)
    replace LK2 := Aside0.mk (blk_below (blk_alloc LK2.out _) hb)
    replace LK3 := Aside0.mk (blk_below (blk_alloc LK3.out _) hb)
    replace f0 : w3.cell? ⟨w.heap.size, 0, none⟩ = some (.slice A0 l0.length c0) := (blk_cell LK0.out 0).trans rfl
    replace f1 : w3.cell? ⟨w.heap.size, 1, none⟩ = some (.int .i64 d) := (blk_cell LK0.out 1).trans rfl
    replace f2 : w3.cell? ⟨w.heap.size, 2, none⟩ = some (.int .i64 c) := (blk_cell LK0.out 2).trans rfl
    replace g0 : w3.cell? ⟨w.heap.size + 1, 0, none⟩ = some (.slice A1 l1.length c1) := (blk_cell LK1.out 0).trans rfl
    replace g1 : w3.cell? ⟨w.heap.size + 1, 1, none⟩ = some (.int .i64 h) := (blk_cell LK1.out 1).trans rfl
    replace u0 : w3.cell? ⟨w.heap.size + 1 + 1, 0, none⟩ = some (.int .i64 e0) := (blk_cell LK2.out 0).trans rfl
    replace u1 : w3.cell? ⟨w.heap.size + 1 + 1, 1, none⟩ = some (.int .i64 e1) := (blk_cell LK2.out 1).trans rfl
    replace u2 : w3.cell? ⟨w.heap.size + 1 + 1, 2, none⟩ = some (.string e2) := (blk_cell LK2.out 2).trans rfl
    replace u3 : w3.cell? ⟨w.heap.size + 1 + 1, 3, none⟩ = some (.slice A2 l2.length c2) := (blk_cell LK2.out 3).trans rfl
    replace y0 : w3.cell? ⟨w.heap.size + 1 + 1 + 1, 0, none⟩ = some (.slice none 0 0) := (blk_cell LK3.out 0).trans rfl
    replace yf0 := blk_frozen LK3.out 0
    replace y1 : w3.cell? ⟨w.heap.size + 1 + 1 + 1, 1, none⟩ = some (.int .i64 0) := (blk_cell LK3.out 1).trans rfl
    replace yf1 := blk_frozen LK3.out 1
    have o0 : w3.cell? ⟨w2.heap.size, 0, none⟩ = some (.slice B1 l1.length q1) := (blk_cell LK4.out 0).trans rfl
    have of0 := blk_frozen LK4.out 0
    have o1 : w3.cell? ⟨w2.heap.size, 1, none⟩ = some (.int .i64 h) := (blk_cell LK4.out 1).trans rfl
    have of1 := blk_frozen LK4.out 1
    clear hb HO2
    rw [HQ.out.1, Bool.true_and]
    cases q2 : entryB l0 d c (⟨e0, e1, e2, l2⟩ : Ent) with
    | false =>
      have HN := Aside0.mk (show postR l0 d c l1 h ⟨e0, e1, e2, l2⟩ = (l1, h, 2) by unfold postR; rw [if_pos HQB.out, if_neg (by rw [q2]; simp)])
      clear q2
      go_wp2_with fail
      rw [HN.out]
      refine bodyPost_ret (results_ct rfl _ _ (w.heap.size + 1 + 1 + 1) 29 #[.slice B1 l1.length q1, .int .i64 h] (0, 0) _ rfl (by exact blk2 LK3.out _ _) Tryd.underlying29 rfl (by kernel_rfl)) rfl ?_
      exact ⟨_, rfl, Kd.S_mono (S_put2 HO3.out LK3.out (by decide) _ _) (fun _ _ => trivial), below_put2 HB3.out (by omega) _ _⟩
    | true =>
      have HEP := Aside0.mk (entryB_true.1 q2)
      have HEB := Aside0.mk q2
      clear q2
      by_cases hn : l1.length = 1000
      case pos =>
        have HN := Aside0.mk (show postR l0 d c l1 h ⟨e0, e1, e2, l2⟩ = (l1, h, 3) by unfold postR; rw [if_pos HQB.out, if_pos HEB.out, if_pos hn])
        have nb : ((l1.length : Int) == 1000) = true := by rw [hn]; rfl
        have HNN := Aside0.mk hn
        clear hn
        go_wp2_with fail
        rw [HN.out]
        refine bodyPost_ret (results_ct rfl _ _ (w.heap.size + 1 + 1 + 1) 29 #[.slice B1 l1.length q1, .int .i64 h] (0, 0) _ rfl (by exact blk2 LK3.out _ _) Tryd.underlying29 rfl (by kernel_rfl)) rfl ?_
        exact ⟨_, rfl, Kd.S_mono (S_put2 HO3.out LK3.out (by decide) _ _) (fun _ _ => trivial), below_put2 HB3.out (by omega) _ _⟩
      case neg =>
        have HN := Aside0.mk (show postR l0 d c l1 h ⟨e0, e1, e2, l2⟩ = (l1 ++ [⟨e0, e1, e2, l2⟩], headV (l1 ++ [⟨e0, e1, e2, l2⟩]), 0) by unfold postR; rw [if_pos HQB.out, if_pos HEB.out, if_neg hn])
        have nb : ((l1.length : Int) == 1000) = false := by
          cases hq : ((l1.length : Int) == 1000) with
          | false => rfl
          | true => exact absurd (by have := eq_of_beq hq; omega) hn
        have hn9 : l1.length ≤ 999 := by have := HQ.out.2.1; omega
        have HN9 := Aside0.mk hn9
        clear hn hn9
        go_upto_region 8 with fail
        go_cut [31] (fun s_ wx => ∃ (B : Option Addr) (q : Nat), s_ = .slice B (l1.length + 1) q ∧ wx.heap[w2.heap.size]? = some (.cells #[.slice B (l1.length + 1) q, .int .i64 h] 29 (0, 0)) ∧ wx.heap[w.heap.size + 1]? = some (.cells #[.slice A1 l1.length c1, .int .i64 h] 29 (0, 0)) ∧ wx.heap[w.heap.size + 1 + 1]? = some (.cells #[.int .i64 e0, .int .i64 e1, .string e2, .slice A2 l2.length c2] 35 (0, 0)) ∧ wx.heap[w.heap.size + 1 + 1 + 1]? = some (.cells #[.slice none 0 0, .int .i64 0] 29 (0, 0)) ∧ Aside0 (Kd.S k35 35 wx w.heap.size (fun k => w1.heap.size ≤ k) (.slice B (l1.length + 1) q) (l1 ++ [⟨e0, e1, e2, l2⟩])) ∧ Aside0 (Below w.heap.size w wx) ∧ w3.heap.size ≤ wx.heap.size)
        case first =>
          clear f0 f1 f2 g0 g1 y0 y1 yf0 yf1
          have HO0 := Aside0.mk (Kd.S_drew HO3.out)
          have M1 := Aside0.mk (blk_drew LK1.out)
          have M2 := Aside0.mk (blk_drew LK2.out)
          have M3 := Aside0.mk (blk_drew LK3.out)
          have M4 := Aside0.mk (blk_drew LK4.out)
          have HBD := Aside0.mk (below_drew1 HB3.out)
          have sD : w3.drew.heap.size = w3.heap.size := rfl
          refine start_ (n := 8) (S := fun w' => w'.cell? ⟨w2.heap.size, 0, none⟩ = some (.slice B1 l1.length q1) ∧ w'.cell? ⟨w2.heap.size, 1, none⟩ = some (.int .i64 h) ∧ w'.cell? ⟨w.heap.size + 1 + 1, 0, none⟩ = some (.int .i64 e0) ∧ w'.cell? ⟨w.heap.size + 1 + 1, 1, none⟩ = some (.int .i64 e1) ∧ w'.cell? ⟨w.heap.size + 1 + 1, 2, none⟩ = some (.string e2) ∧ w'.cell? ⟨w.heap.size + 1 + 1, 3, none⟩ = some (.slice A2 l2.length c2)) (ds := [7]) #[false, false, false, false, false, false, false, false] (by kernel_rfl) rfl rfl ⟨(blk_cell M4.out 0).trans rfl, (blk_cell M4.out 1).trans rfl, (blk_cell M2.out 0).trans rfl, (blk_cell M2.out 1).trans rfl, (blk_cell M2.out 2).trans rfl, (blk_cell M2.out 3).trans rfl⟩ (fun hHeld => ?_); refine with_tabW spec_Post.tab8 impl_Post.bits8 (fun HT_ HW_ => ?_)
          have sg : w3.heap.size = w3.heap.size := rfl
          clear u0 u1 u2 u3 o0 o1 of0 of1 sg
          generalize w3.drew = w5 at *
          refine pure_ (i := 0) (N := some 26) (v := ?_) (a' := ?_) #[true, false, false, false, false, false, false, false] rfl rfl (any_of HT_.out (by kernel_rfl)) (fun _ _ _ h => h) (Or.inl ⟨by rfl, ?_⟩) ?_ ?_
          rotate_left
          · intro w'
            go_simp
            with_reducible rfl
          rotate_left
          · simp only [Act.put, List.setIfInBounds_toArray, List.set_cons_zero, List.set_cons_succ, i64_w, i32_w]
            rfl
          refine take_ (i := 1) (N := some 27) (v := ?_) (a' := ?_) #[true, true, false, false, false, false, false, false] rfl rfl (take_ofW HT_.out HW_.out (by kernel_rfl)) (fun _ _ _ h => h) (Or.inl ⟨by rfl, ?_⟩) hHeld ?_ ?_
          rotate_left
          · rintro w' ⟨s0, s1, s2, s3, s4, s5⟩
            go_simp
            with_reducible rfl
          rotate_left
          · simp only [Act.put, List.setIfInBounds_toArray, List.set_cons_zero, List.set_cons_succ, i64_w, i32_w]
            rfl
          refine take_ (i := 2) (N := some 28) (v := ?_) (a' := ?_) #[true, true, true, false, false, false, false, false] rfl rfl (take_ofW HT_.out HW_.out (by kernel_rfl)) (fun _ _ _ h => h) (Or.inl ⟨by rfl, ?_⟩) hHeld ?_ ?_
          rotate_left
          · rintro w' ⟨s0, s1, s2, s3, s4, s5⟩
            go_simp
            with_reducible rfl
          rotate_left
          · simp only [Act.put, List.setIfInBounds_toArray, List.set_cons_zero, List.set_cons_succ, i64_w, i32_w]
            rfl
          refine one_ (i := 3) (N := some 29) #[true, true, true, true, false, false, false, false] rfl rfl (one_of HT_.out (by kernel_rfl)) (by decide) (fun K hK => ?_)
          refine goes_ Tryd.func45 (by kernel_rfl) rfl #[.agg #[.int .i64 e0, .int .i64 e1, .string e2, .slice A2 l2.length c2]] (by rfl) rfl rfl (by (try simp only [List.map_toArray, List.map_cons, List.map_nil]); first | done | rfl | (simp only [List.length_drop, List.length_take]; rfl)) ?_
          with_reducible refine (spec_l5Entry.calls e0 e1 e2 A2 c2 l2 e0 e1 e2 l2 _ ?side1 C2.out (l5Entry_is e0 e1 e2 l2 HL2.out)).mono ?_
          (case side1 => exact Kd.C_below H2.out HBD.out)
          rintro e w6 ⟨v116, rfl, ho0, hb⟩
          refine ⟨_, rfl, ?_⟩
          have HX := Aside0.mk (Kd.S_elder' HO0.out (Kd.R_base ho0) hb)
          have HY := Aside0.mk (Kd.R_lower (Kd.R_mono (ok' := fun k => w5.heap.size ≤ k) (Kd.R_bound ho0) (fun k hk => hk.2.1)) HBD.out.size)
          have HB6 := Aside0.mk (below_into (w := w) hb HBD.out)
          have s56 := hb.size
          replace M1 := Aside0.mk (blk_below M1.out hb)
          replace M2 := Aside0.mk (blk_below M2.out hb)
          replace M3 := Aside0.mk (blk_below M3.out hb)
          replace M4 := Aside0.mk (blk_below M4.out hb)
          clear hb ho0 HO0
          obtain ⟨A5, c5, eo70⟩ := Kd.R_slice HY.out
          subst eo70
          refine hK.out _ _ ⟨(blk_cell M4.out 0).trans rfl, (blk_cell M4.out 1).trans rfl, (blk_cell M2.out 0).trans rfl, (blk_cell M2.out 1).trans rfl, (blk_cell M2.out 2).trans rfl, (blk_cell M2.out 3).trans rfl⟩ (fun hHeld => ?_)
          clear hK K
          refine norm_ (a' := ?_) ?_ ?_
          rotate_left
          · show Act.put _ (some 29) _ = _
            simp only [Act.put, List.setIfInBounds_toArray, List.set_cons_zero, List.set_cons_succ, i64_w, i32_w]
            rfl
          refine one_ (i := 4) (N := some 30) #[true, true, true, true, true, false, false, false] rfl rfl (one_of HT_.out (by kernel_rfl)) (by decide) (fun K hK => ?_)
          refine value_ (w1 := ?_) (v := ?_) (by rfl) rfl ?_ ?_
          rotate_left 2
          · go_simp
            constructor
            · rfl
            · rfl
          refine hK.out _ _ ⟨(blk_cell (blk_alloc M4.out _) 0).trans rfl, (blk_cell (blk_alloc M4.out _) 1).trans rfl, (blk_cell (blk_alloc M2.out _) 0).trans rfl, (blk_cell (blk_alloc M2.out _) 1).trans rfl, (blk_cell (blk_alloc M2.out _) 2).trans rfl, (blk_cell (blk_alloc M2.out _) 3).trans rfl⟩ (fun hHeld => ?_)
          clear hK K
          refine norm_ (a' := ?_) ?_ ?_
          rotate_left
          · show Act.put _ (some 30) _ = _
            simp only [Act.put, List.setIfInBounds_toArray, List.set_cons_zero, List.set_cons_succ, i64_w, i32_w]
            rfl
          refine one_ (i := 5) (N := some 31) #[true, true, true, true, true, true, false, false] rfl rfl (one_of HT_.out (by kernel_rfl)) (by decide) (fun K hK => ?_)
          have HZ := Aside0.mk (Kd.R_apart' HY.out (Kd.S_typed HX.out) (by decide))
          refine Kd.S_append_step k35 (w0 := w) w.heap.size (by rfl) (.tmp 27) (.tmp 30) 27 35 (.agg #[(.int .i64 0), (.int .i64 0), (.string ⟨#[]⟩), (.slice none 0 0)]) 56 rfl Tryd.underlying27 infoEntry rfl (by decide) (by omega) (.slice B1 l1.length q1) l1 (⟨e0, e1, e2, l2⟩ : S35) [.int .i64 e0, .int .i64 e1, .string e2, .slice A5 l2.length c5] (fun k_ => w1.heap.size ≤ k_) (fun k_ => some k_ = (.slice A5 l2.length c5 : Value).ownBlock) rfl rfl ?aP ?aQ ?aF ?aO ?aB ?aS ?aL ?_
          (case aP => exact k35_mkM _ _ _ (⟨e0, e1, e2, l2⟩ : S35) (Kd.R_mono (Kd.R_tight rfl HZ.out) (fun _ h_ => h_)))
          (case aQ => exact fun k_ hk_ => ⟨Nat.le_trans (show w1.heap.size ≤ w5.heap.size by omega) (HZ.out.1 k_ hk_.symm).1, (HZ.out.1 k_ hk_.symm).2⟩)
          (case aB => exact HB6.out)
          (case aF => exact (fun k_ hk => by omega))
          (case aO => exact Kd.S_mono HX.out (fun k_ hk => ⟨hk.1, fun e_ => hk.2 e_⟩))
          (case aS => exact HB6.out.size)
          (case aL => have := HN9.out; omega)
          intro v119 w7 ho hb hg hat
          have M1' := Aside0.mk (blk_grown M1.out hg (Kd.S_ne HX.out M1.out (by decide)))
          have M2' := Aside0.mk (blk_grown M2.out hg (Kd.S_away HX.out (fun k hk => by have := hk.1; omega)))
          have M3' := Aside0.mk (blk_grown M3.out hg (Kd.S_ne HX.out M3.out (by decide)))
          have M4' := Aside0.mk (blk_grown M4.out hg (Kd.S_ne HX.out M4.out (by decide)))
          have HB7 := Aside0.mk hb
          have s67 := hg.size
          have HO7 := Aside0.mk ho
          clear ho hb hg hat M1 M2 M3 M4 HX HY HZ HB6
          obtain ⟨B2, q2, eo71⟩ := Kd.S_slice HO7.out
          rw [List.length_append] at eo71
          subst eo71
          refine hK.out _ _ ⟨(blk_cell M4'.out 0).trans rfl, (blk_cell M4'.out 1).trans rfl, (blk_cell M2'.out 0).trans rfl, (blk_cell M2'.out 1).trans rfl, (blk_cell M2'.out 2).trans rfl, (blk_cell M2'.out 3).trans rfl⟩ (fun hHeld => ?_)
          clear hK K
          refine norm_ (a' := ?_) ?_ ?_
          rotate_left
          · show Act.put _ (some 31) _ = _
            simp only [Act.put, List.setIfInBounds_toArray, List.set_cons_zero, List.set_cons_succ, i64_w, i32_w]
            rfl
          refine pure_ (i := 6) (N := some 32) (v := ?_) (a' := ?_) #[true, true, true, true, true, true, true, false] rfl rfl (any_of HT_.out (by kernel_rfl)) (fun _ _ _ h => h) (Or.inl ⟨by rfl, ?_⟩) ?_ ?_
          rotate_left
          · intro w'
            go_simp
            with_reducible rfl
          rotate_left
          · simp only [Act.put, List.setIfInBounds_toArray, List.set_cons_zero, List.set_cons_succ, i64_w, i32_w]
            rfl
          refine last_ (i := 7) (N := none) #[true, true, true, true, true, true, true, true] rfl rfl (one_of HT_.out (by kernel_rfl)) (by decide) (fun K hK => ?_)
          have hs72 : w7.cell? ⟨w2.heap.size, 0, none⟩ = some (.slice B1 l1.length q1) := (blk_cell M4'.out 0).trans rfl
          have hfs72 := blk_frozen M4'.out 0
          refine skip_ (w1 := ?_) (by rfl) rfl ?_ ?_
          rotate_left
          · go_simp
            rfl
          refine hK.out _ _ ?_
          clear hK K
          refine done_ (done_of HT_.out (by kernel_rfl)) ?_
          try go_wp2_with fail
          go_meet
          refine ⟨B2, q2, rfl, by exact blk_put M4'.out 0 _ rfl, by exact blk_far M1'.out (by simp; omega) _, by exact blk_far M2'.out (by simp; omega) _, by exact blk_far M3'.out (by simp; omega) _, ⟨?_⟩, ⟨below_set HB7.out (by omega)⟩, by simp; omega⟩
          exact Kd.S_mono (Kd.S_far (p := ⟨w2.heap.size, 0, none⟩) (Kd.S_types HO7.out M4'.out (by decide)) (fun _ hk => hk.2) _) (fun _ hk => hk.1)
        clear f0 f1 f2 g0 g1 u0 u1 u2 u3 y0 y1 yf0 yf1 o0 o1 of0 of1 LK0 LK1 LK2 LK3 LK4 HO3 HB3
        obtain ⟨B, q, rfl, N4, N1, N2, N3, HO, HBX, hsz⟩ := hcut
        obtain ⟨w4, rfl⟩ : ∃ W_ : World, W_ = wc := ⟨_, rfl⟩
        have zc : w.heap.size + 1 + 1 + 1 < w4.heap.size := by omega
        have zd : w2.heap.size < w4.heap.size := by omega
        have o0 : w4.cell? ⟨w2.heap.size, 0, none⟩ = some (.slice B (l1.length + 1) q) := (blk_cell N4 0).trans rfl
        have o1 : w4.cell? ⟨w2.heap.size, 1, none⟩ = some (.int .i64 h) := (blk_cell N4 1).trans rfl
        have M4 := Aside0.mk N4
        have M3 := Aside0.mk N3
        clear N1 N2 N3 N4
        have hlen : (l1 ++ [(⟨e0, e1, e2, l2⟩ : Ent)]).length = l1.length + 1 := by rw [List.length_append]; rfl
        have HHd := Aside0.mk (fun (W : World) (hC : Kd.S k35 35 W w.heap.size (fun k => w1.heap.size ≤ k) (.slice B (l1 ++ [(⟨e0, e1, e2, l2⟩ : Ent)]).length q) (l1 ++ [(⟨e0, e1, e2, l2⟩ : Ent)])) => spec_HeadOf.to B q (l1 ++ [(⟨e0, e1, e2, l2⟩ : Ent)]) W (Kd.S_reads' hC).2.2 (Kd.S_reads' hC).2.1)
        rw [hlen] at HHd
        go_wp2_with fail
        refine (HHd.out _ HO.out).mono ?_
        rintro x w5 ⟨rfl, hb⟩
        have HO5 := Aside0.mk (Kd.S_below HO.out hb)
        have P4 := blk_below M4.out hb
        have P3 := blk_below M3.out hb
        have HB5 := Aside0.mk (below_into (w := w) hb HBX.out)
        replace o0 : w5.cell? ⟨w2.heap.size, 0, none⟩ = some (.slice B (l1.length + 1) q) := (blk_cell P4 0).trans rfl
        replace o1 : w5.cell? ⟨w2.heap.size, 1, none⟩ = some (.int .i64 h) := (blk_cell P4 1).trans rfl
        have of0 := blk_frozen P4 0
        have of1 := blk_frozen P4 1
        have y0 : w5.cell? ⟨w.heap.size + 1 + 1 + 1, 0, none⟩ = some (.slice none 0 0) := (blk_cell P3 0).trans rfl
        have y1 : w5.cell? ⟨w.heap.size + 1 + 1 + 1, 1, none⟩ = some (.int .i64 0) := (blk_cell P3 1).trans rfl
        have yf0 := blk_frozen P3 0
        have yf1 := blk_frozen P3 1
        have P4' := Aside0.mk P4
        have P3' := Aside0.mk P3
        have zn : w.heap.size + 1 + 1 + 1 ≠ w2.heap.size := by omega
        clear hb P4 P3 HHd hlen
        generalize headV (l1 ++ [⟨e0, e1, e2, l2⟩]) = hv at *
        go_wp2_with fail
        rw [HN.out]
        refine bodyPost_ret (results_ct rfl _ _ (w.heap.size + 1 + 1 + 1) 29 #[.slice B (l1.length + 1) q, .int .i64 hv] (0, 0) _ rfl (by exact blk2 (blk_far P3'.out zn _) _ _) Tryd.underlying29 rfl (by kernel_rfl)) rfl ?_
        exact ⟨_, rfl, Kd.S_mono (S_put2 (Kd.S_far (p := ⟨w2.heap.size, 1, none⟩) (Kd.S_types HO5.out P4'.out (by decide)) (fun _ hk => hk.2) _) (blk_far P3'.out zn _) (by decide) _ _) (fun _ _ => trivial), below_put2 (below_set HB5.out (by omega)) (by omega) _ _⟩
theorem spec_Post.at (A0 : Option Addr) (c0 : Nat) (l0 : List Acc) (d c : Int) (A1 : Option Addr) (c1 : Nat) (l1 : List Ent) (h : Int) (e0 e1 : Int) (e2 : ByteArray) (A2 : Option Addr) (c2 : Nat) (l2 : List Lin) (r0 : List Ent) (rh rk : Int) (w : World)
    (hr0 : Kd.C k64 w A0 l0.length l0) (hc0 : l0.length ≤ c0) (hr1 : Kd.C k35 w A1 l1.length l1) (hc1 : l1.length ≤ c1) (hr2 : Kd.C k81 w A2 l2.length l2) (hc2 : l2.length ≤ c2) (hf : ((∀ x ∈ l0, x.f0.size ≤ maxLen) ∧ (∀ e ∈ l1, e.f2.size ≤ maxLen) ∧ e2.size ≤ maxLen ∧ l1.length ≤ 1048576 ∧ (∀ y ∈ l1, y.f3.length ≤ 1048576) ∧ l2.length ≤ 1048576) ∧ postR l0 d c l1 h ⟨e0, e1, e2, l2⟩ = (r0, rh, rk)) :
    Calls Tryd.prog 20 #[.agg #[.slice A0 l0.length c0, .int .i64 d, .int .i64 c], .agg #[.slice A1 l1.length c1, .int .i64 h], .agg #[.int .i64 e0, .int .i64 e1, .string e2, .slice A2 l2.length c2]] w fun e w' => ∃ v0 : Value, e = .returned (.tuple #[.agg #[v0, .int .i64 rh], .int .i64 rk]) ∧ Kd.S k35 35 w' w.heap.size (fun _ => True) v0 r0 ∧ Below w.heap.size w w' := by
  obtain ⟨⟨h1, h2, h3, h4, h5, h6⟩, hR⟩ := hf
  have := spec_Post.to A0 c0 l0 d c A1 c1 l1 h e0 e1 e2 A2 c2 l2 w hr0 h1 hr1 h2 hr2 hc1 hc2 h3 h4 h5 h6
  rw [hR] at this
  exact this
end Go.Proofs.YtjkjjfbcakbmnaaDoor.Q
