/- Parts of the proof: what functions of the program and of the reference answer.
   No condition. -/
import Derived.Test.YtjkjjfbcakbmnaaDoorZBooksShut1
import Derived.Test.YtjkjjfbcakbmnaaDoorZBooksShut5
import Derived.Stop.LaidErr
import Derived.MakeChecks
import Derived.LaidMore
import Derived.Test.YtjkjjfbcakbmnaaDoorZBooksShut8
import Derived.Test.YtjkjjfbcakbmnaaDoorZBooksShut4
namespace Go.Proofs.YtjkjjfbcakbmnaaDoor.Q
open Go.RowKit Go.Proofs.YtjkjjfbcakbmnaaDoorW.PrintWords Go.Proofs.YtjkjjfbcakbmnaaDoorW.PrintLast Go.Proofs.YtjkjjfbcakbmnaaDoorW.PrintMore
set_option linter.unusedVariables false
set_option linter.unusedSimpArgs false
theorem laid_sentinels5 {P : Program} {n0 n1 n2 n3 n4 nm : String} {x0 x1 x2 x3 x4 : List UInt8} {W : World} {g0 g1 g2 g3 g4 : Nat} {ti tp te ts : TypeId} {ms : Array (String × TypeId)} {f : Field}
    (h : laidMet P [(n0, .iface nm (.ptr (.agg [.lit (.string x0)]))), (n1, .iface nm (.ptr (.agg [.lit (.string x1)]))), (n2, .iface nm (.ptr (.agg [.lit (.string x2)]))), (n3, .iface nm (.ptr (.agg [.lit (.string x3)]))), (n4, .iface nm (.ptr (.agg [.lit (.string x4)])))] W)
    (hg0 : P.globalNamed n0 = some g0) (ht0 : (P.globals[g0]?).map (·.type) = some ti) (hg1 : P.globalNamed n1 = some g1) (ht1 : (P.globals[g1]?).map (·.type) = some ti) (hg2 : P.globalNamed n2 = some g2) (ht2 : (P.globals[g2]?).map (·.type) = some ti) (hg3 : P.globalNamed n3 = some g3) (ht3 : (P.globals[g3]?).map (·.type) = some ti) (hg4 : P.globalNamed n4 = some g4) (ht4 : (P.globals[g4]?).map (·.type) = some ti)
    (hi : P.underlying ti = some (.interface ms)) (hrow : ∀ u, P.typeName? 3 u = some nm → u = tp) (hp : P.underlying tp = some (.pointer te)) (he : P.underlying te = some (.struct #[f])) (hft : f.type = ts) (hfo : f.offset = 0) (hs : P.underlying ts = some .string) (hc : P.cellsOf te = 1) (hcs : P.cellsOf ts = 1) :
    ∃ (a0 a1 a2 a3 a4 : Addr) (c0 c1 c2 c3 c4 : Array Value) (t0 t1 t2 t3 t4 : TypeId), W.var? P n0 = some #[.iface tp (.pointer (some a0))] ∧ W.var? P n1 = some #[.iface tp (.pointer (some a1))] ∧ W.var? P n2 = some #[.iface tp (.pointer (some a2))] ∧ W.var? P n3 = some #[.iface tp (.pointer (some a3))] ∧ W.var? P n4 = some #[.iface tp (.pointer (some a4))] ∧ W.heap[a0.block]? = some (.cells c0 t0 (0, 0)) ∧ W.heap[a1.block]? = some (.cells c1 t1 (0, 0)) ∧ W.heap[a2.block]? = some (.cells c2 t2 (0, 0)) ∧ W.heap[a3.block]? = some (.cells c3 t3 (0, 0)) ∧ W.heap[a4.block]? = some (.cells c4 t4 (0, 0)) ∧ a0 ≠ a1 ∧ a0 ≠ a2 ∧ a0 ≠ a3 ∧ a0 ≠ a4 ∧ a1 ≠ a2 ∧ a1 ≠ a3 ∧ a1 ≠ a4 ∧ a2 ≠ a3 ∧ a2 ≠ a4 ∧ a3 ≠ a4 := by
  obtain ⟨ps, ⟨g0', t0', cs0, f0, p0, q0, hg0', ht0', hv0, hd0, ⟨g1', t1', cs1, f1, p1, q1, hg1', ht1', hv1, hd1, ⟨g2', t2', cs2, f2, p2, q2, hg2', ht2', hv2, hd2, ⟨g3', t3', cs3, f3, p3, q3, hg3', ht3', hv3, hd3, ⟨g4', t4', cs4, f4, p4, q4, hg4', ht4', hv4, hd4, e_, e4⟩, e3⟩, e2⟩, e1⟩, e0⟩, hnd, hrows⟩ := h
  obtain rfl := Option.some.inj (hg0.symm.trans hg0')
  obtain rfl := Option.some.inj (ht0.symm.trans ht0')
  obtain rfl := Option.some.inj (hg1.symm.trans hg1')
  obtain rfl := Option.some.inj (ht1.symm.trans ht1')
  obtain rfl := Option.some.inj (hg2.symm.trans hg2')
  obtain rfl := Option.some.inj (ht2.symm.trans ht2')
  obtain rfl := Option.some.inj (hg3.symm.trans hg3')
  obtain rfl := Option.some.inj (ht3.symm.trans ht3')
  obtain rfl := Option.some.inj (hg4.symm.trans hg4')
  obtain rfl := Option.some.inj (ht4.symm.trans ht4')
  subst e_
  subst e4
  subst e3
  subst e2
  subst e1
  subst e0
  obtain ⟨l0⟩ := cs0
  obtain ⟨l1⟩ := cs1
  obtain ⟨l2⟩ := cs2
  obtain ⟨l3⟩ := cs3
  obtain ⟨l4⟩ := cs4
  have ok0 : ∀ u v, l0 = [.iface u v] → Value.okWide P W .any 0 u v := fun u v e => by
    subst e
    exact (hrows g0 0 (by simp [MemPlace.row])).2 u v (by simpa using World.var?_cell hg0' hv0 0)
  have ok1 : ∀ u v, l1 = [.iface u v] → Value.okWide P W .any 0 u v := fun u v e => by
    subst e
    exact (hrows g1 0 (by simp [MemPlace.row])).2 u v (by simpa using World.var?_cell hg1' hv1 0)
  have ok2 : ∀ u v, l2 = [.iface u v] → Value.okWide P W .any 0 u v := fun u v e => by
    subst e
    exact (hrows g2 0 (by simp [MemPlace.row])).2 u v (by simpa using World.var?_cell hg2' hv2 0)
  have ok3 : ∀ u v, l3 = [.iface u v] → Value.okWide P W .any 0 u v := fun u v e => by
    subst e
    exact (hrows g3 0 (by simp [MemPlace.row])).2 u v (by simpa using World.var?_cell hg3' hv3 0)
  have ok4 : ∀ u v, l4 = [.iface u v] → Value.okWide P W .any 0 u v := fun u v e => by
    subst e
    exact (hrows g4 0 (by simp [MemPlace.row])).2 u v (by simpa using World.var?_cell hg4' hv4 0)
  obtain ⟨a0, s0, rfl, hc0, hs0, hz0, rfl⟩ := errorString_of_trod hi hrow hp he hft hfo hs hc hcs hd0 ok0
  obtain ⟨a1, s1, rfl, hc1, hs1, hz1, rfl⟩ := errorString_of_trod hi hrow hp he hft hfo hs hc hcs hd1 ok1
  obtain ⟨a2, s2, rfl, hc2, hs2, hz2, rfl⟩ := errorString_of_trod hi hrow hp he hft hfo hs hc hcs hd2 ok2
  obtain ⟨a3, s3, rfl, hc3, hs3, hz3, rfl⟩ := errorString_of_trod hi hrow hp he hft hfo hs hc hcs hd3 ok3
  obtain ⟨a4, s4, rfl, hc4, hs4, hz4, rfl⟩ := errorString_of_trod hi hrow hp he hft hfo hs hc hcs hd4 ok4
  obtain ⟨c0, t0, hb0⟩ := (hrows a0.block a0.off (by simp [MemPlace.row])).1
  obtain ⟨c1, t1, hb1⟩ := (hrows a1.block a1.off (by simp [MemPlace.row])).1
  obtain ⟨c2, t2, hb2⟩ := (hrows a2.block a2.off (by simp [MemPlace.row])).1
  obtain ⟨c3, t3, hb3⟩ := (hrows a3.block a3.off (by simp [MemPlace.row])).1
  obtain ⟨c4, t4, hb4⟩ := (hrows a4.block a4.off (by simp [MemPlace.row])).1
  refine ⟨a0, a1, a2, a3, a4, c0, c1, c2, c3, c4, t0, t1, t2, t3, t4, hv0, hv1, hv2, hv3, hv4, hb0, hb1, hb2, hb3, hb4, ?_, ?_, ?_, ?_, ?_, ?_, ?_, ?_, ?_, ?_⟩
  all_goals (rintro rfl; simp [MemPlace.row] at hnd)
theorem lz_g0 : Tryd.prog.globalNamed "loop.example/g00040/impl.errBad" = some 0 := by kernel_rfl
theorem lz_t0 : (Tryd.prog.globals[0]?).map (·.type) = some 55 := by kernel_rfl
theorem lz_g1 : Tryd.prog.globalNamed "loop.example/g00040/impl.errEntry" = some 1 := by kernel_rfl
theorem lz_t1 : (Tryd.prog.globals[1]?).map (·.type) = some 55 := by kernel_rfl
theorem lz_g2 : Tryd.prog.globalNamed "loop.example/g00040/impl.errNone" = some 2 := by kernel_rfl
theorem lz_t2 : (Tryd.prog.globals[2]?).map (·.type) = some 55 := by kernel_rfl
theorem lz_g3 : Tryd.prog.globalNamed "loop.example/g00040/impl.errShut" = some 3 := by kernel_rfl
theorem lz_t3 : (Tryd.prog.globals[3]?).map (·.type) = some 55 := by kernel_rfl
theorem lz_g4 : Tryd.prog.globalNamed "loop.example/g00040/impl.errFull" = some 4 := by kernel_rfl
theorem lz_t4 : (Tryd.prog.globals[4]?).map (·.type) = some 55 := by kernel_rfl
theorem lz_star : "*" ++ "errors.errorString" = "*errors.errorString" := by decide
theorem lz_row (u : TypeId) (h : Tryd.prog.typeName? 3 u = some "*errors.errorString") : u = 134 :=
  typeName_ptr_named (nm := "errors.errorString") (by rw [lz_star]; kernel_rfl) (by kernel_rfl) (by decide) u (by rw [lz_star]; exact h)
theorem lz_cellsE : Tryd.prog.cellsOf 160 = 1 := by kernel_rfl
theorem lz_cellsS : Tryd.prog.cellsOf 9 = 1 := by kernel_rfl
def pick5 (a0 a1 a2 a3 a4 : Addr) : Nat → Addr
  | 0 => a0
  | 1 => a1
  | 2 => a2
  | 3 => a3
  | _ => a4
theorem sents_of_laid {W : World} {x0 x1 x2 x3 x4 : List UInt8} (h : laidMet Tryd.prog [("loop.example/g00040/impl.errBad", .iface "*errors.errorString" (.ptr (.agg [.lit (.string x0)]))), ("loop.example/g00040/impl.errEntry", .iface "*errors.errorString" (.ptr (.agg [.lit (.string x1)]))), ("loop.example/g00040/impl.errNone", .iface "*errors.errorString" (.ptr (.agg [.lit (.string x2)]))), ("loop.example/g00040/impl.errShut", .iface "*errors.errorString" (.ptr (.agg [.lit (.string x3)]))), ("loop.example/g00040/impl.errFull", .iface "*errors.errorString" (.ptr (.agg [.lit (.string x4)])))] W) :
    ∃ A : Nat → Addr, Sent W A ∧ W.var? Tryd.prog "loop.example/g00040/impl.errBad" = some #[.iface 134 (.pointer (some (A 0)))] ∧ W.var? Tryd.prog "loop.example/g00040/impl.errEntry" = some #[.iface 134 (.pointer (some (A 1)))] ∧ W.var? Tryd.prog "loop.example/g00040/impl.errNone" = some #[.iface 134 (.pointer (some (A 2)))] ∧ W.var? Tryd.prog "loop.example/g00040/impl.errShut" = some #[.iface 134 (.pointer (some (A 3)))] ∧ W.var? Tryd.prog "loop.example/g00040/impl.errFull" = some #[.iface 134 (.pointer (some (A 4)))] := by
  obtain ⟨a0, a1, a2, a3, a4, c0, c1, c2, c3, c4, t0, t1, t2, t3, t4, hv0, hv1, hv2, hv3, hv4, hb0, hb1, hb2, hb3, hb4, n01, n02, n03, n04, n12, n13, n14, n23, n24, n34⟩ := laid_sentinels5 h lz_g0 lz_t0 lz_g1 lz_t1 lz_g2 lz_t2 lz_g3 lz_t3 lz_g4 lz_t4 Tryd.underlying55 lz_row Tryd.underlying134 Tryd.underlying160 rfl rfl Tryd.underlying9 lz_cellsE lz_cellsS
  refine ⟨pick5 a0 a1 a2 a3 a4, ⟨fun i hi => ?_, fun i hi => ?_, fun i j hi hj hne => ?_⟩, hv0, hv1, hv2, hv3, hv4⟩
  · match i, hi with
    | 0, _ => simpa [pick5] using World.var?_cell lz_g0 hv0 0
    | 1, _ => simpa [pick5] using World.var?_cell lz_g1 hv1 0
    | 2, _ => simpa [pick5] using World.var?_cell lz_g2 hv2 0
    | 3, _ => simpa [pick5] using World.var?_cell lz_g3 hv3 0
    | 4, _ => simpa [pick5] using World.var?_cell lz_g4 hv4 0
  · match i, hi with
    | 0, _ => exact ⟨c0, t0, hb0⟩
    | 1, _ => exact ⟨c1, t1, hb1⟩
    | 2, _ => exact ⟨c2, t2, hb2⟩
    | 3, _ => exact ⟨c3, t3, hb3⟩
    | 4, _ => exact ⟨c4, t4, hb4⟩
  · match i, j, hi, hj, hne with
    | 0, 0, _, _, hne => exact absurd rfl hne
    | 0, 1, _, _, hne => exact n01
    | 0, 2, _, _, hne => exact n02
    | 0, 3, _, _, hne => exact n03
    | 0, 4, _, _, hne => exact n04
    | 1, 0, _, _, hne => exact Ne.symm n01
    | 1, 1, _, _, hne => exact absurd rfl hne
    | 1, 2, _, _, hne => exact n12
    | 1, 3, _, _, hne => exact n13
    | 1, 4, _, _, hne => exact n14
    | 2, 0, _, _, hne => exact Ne.symm n02
    | 2, 1, _, _, hne => exact Ne.symm n12
    | 2, 2, _, _, hne => exact absurd rfl hne
    | 2, 3, _, _, hne => exact n23
    | 2, 4, _, _, hne => exact n24
    | 3, 0, _, _, hne => exact Ne.symm n03
    | 3, 1, _, _, hne => exact Ne.symm n13
    | 3, 2, _, _, hne => exact Ne.symm n23
    | 3, 3, _, _, hne => exact absurd rfl hne
    | 3, 4, _, _, hne => exact n34
    | 4, 0, _, _, hne => exact Ne.symm n04
    | 4, 1, _, _, hne => exact Ne.symm n14
    | 4, 2, _, _, hne => exact Ne.symm n24
    | 4, 3, _, _, hne => exact Ne.symm n34
    | 4, 4, _, _, hne => exact absurd rfl hne
theorem vars_read5 {H : Type} (enc : TypeId × Value → H) {W : World} {x0 x1 x2 x3 x4 : Value} (h0 : W.var? Tryd.prog "loop.example/g00040/impl.errBad" = some #[x0]) (h1 : W.var? Tryd.prog "loop.example/g00040/impl.errEntry" = some #[x1]) (h2 : W.var? Tryd.prog "loop.example/g00040/impl.errNone" = some #[x2]) (h3 : W.var? Tryd.prog "loop.example/g00040/impl.errShut" = some #[x3]) (h4 : W.var? Tryd.prog "loop.example/g00040/impl.errFull" = some #[x4]) (i0 : IsIface x0) (i1 : IsIface x1) (i2 : IsIface x2) (i3 : IsIface x3) (i4 : IsIface x4) (sp : Nat → Bool) :
    DataW.TrodVars enc Tryd.prog W sp ["loop.example/g00040/impl.errBad", "loop.example/g00040/impl.errEntry", "loop.example/g00040/impl.errNone", "loop.example/g00040/impl.errShut", "loop.example/g00040/impl.errFull"] [tok enc x0, tok enc x1, tok enc x2, tok enc x3, tok enc x4] [.cell 0 0, .cell 1 0, .cell 2 0, .cell 3 0, .cell 4 0] :=
  ⟨0, 55, #[x0], 1, [], [.cell 1 0, .cell 2 0, .cell 3 0, .cell 4 0], lz_g0, lz_t0, h0, trod_held Tryd.underlying55 i0 0, ⟨1, 55, #[x1], 1, [], [.cell 2 0, .cell 3 0, .cell 4 0], lz_g1, lz_t1, h1, trod_held Tryd.underlying55 i1 0, ⟨2, 55, #[x2], 1, [], [.cell 3 0, .cell 4 0], lz_g2, lz_t2, h2, trod_held Tryd.underlying55 i2 0, ⟨3, 55, #[x3], 1, [], [.cell 4 0], lz_g3, lz_t3, h3, trod_held Tryd.underlying55 i3 0, ⟨4, 55, #[x4], 1, [], [], lz_g4, lz_t4, h4, trod_held Tryd.underlying55 i4 0, rfl, rfl⟩, rfl⟩, rfl⟩, rfl⟩, rfl⟩
theorem var_below {W W' : World} {n : String} {g : Nat} {cs : Array Value} (hg : Tryd.prog.globalNamed n = some g) (h : W.var? Tryd.prog n = some cs) (hb : Below W.heap.size W W') : W'.var? Tryd.prog n = some cs := by
  unfold World.var? at h ⊢
  rw [hg] at h ⊢
  simp only [Option.bind_some] at h ⊢
  have hlt : g < W.heap.size := by
    cases hh : W.heap[g]? with
    | none => rw [hh] at h; cases h
    | some o => exact (Array.getElem?_eq_some_iff.1 hh).1
  rw [hb.block g hlt]
  exact h
end Go.Proofs.YtjkjjfbcakbmnaaDoor.Q
namespace Go.Proofs.YtjkjjfbcakbmnaaDoor.Q
open Go.RowKit Go.Proofs.YtjkjjfbcakbmnaaDoorW.PrintWords Go.Proofs.YtjkjjfbcakbmnaaDoorW.PrintLast Go.Proofs.YtjkjjfbcakbmnaaDoorW.PrintMore
attribute [local go_sem] max2_int min2_int max_two min_two max_three min_three max_four min_four   -- for this text's walks alone
set_option linter.unusedVariables false
set_option linter.unusedSimpArgs false
set_option maxHeartbeats 4000000 in
set_option maxRecDepth 100000 in
theorem spec_Leaf.to (A0 : Option Addr) (c0 : Nat) (l0 : List Acc) (a : Int) (w : World) (hr0 : Kd.C k64 w A0 l0.length l0) (hs : ∀ x ∈ l0, x.f0.size ≤ maxLen) :
    Calls Tryd.prog 27 #[.slice A0 l0.length c0, .int .i64 a] w fun e w' => e = .returned (.bool (chartOk l0 && leafB l0 a)) ∧ Below w.heap.size w w' := by
  have hl := hr0.2.1
  have H0 := Aside0.mk hr0
  clear hr0
  go_enter Tryd.func27, Tryd.ntmps27
  go_wp2_with fail
  refine (spec_ChartOk.to A0 c0 l0 _ H0.out hs).mono ?_
  rintro e w1 ⟨rfl, hb⟩
  have HB := Aside0.mk hb
  clear hb
  cases hc : chartOk l0 with
  | false =>
    go_wp2_with fail
    go_ret
    exact ⟨ret_bool (by rw [hc]; rfl), HB.out⟩
  | true =>
    have HCH := Aside0.mk hc
    have HC := Aside0.mk (chartOk_iff.1 hc)
    clear hc
    have h1 := HC.out.1
    go_wp2_with fail
    refine (spec_l1In.to _ _ _ _).mono ?_
    rintro e w' ⟨rfl, rfl⟩
    cases hi : inB a 0 ((l0.length : Int) - 1) with
    | false =>
      have HI := Aside0.mk (inB_false.1 hi)
      clear hi
      go_wp2_with fail
      go_ret
      exact ⟨ret_bool (by rw [HCH.out, leafB_not (fun q => HI.out ⟨q.1, by have := q.2.1; omega⟩)]; rfl), HB.out⟩
    | true =>
      have HI := Aside0.mk (inB_true.1 hi)
      clear hi
      have ha0 : 0 ≤ a := HI.out.1
      have ha1 : a < (l0.length : Int) := by have := HI.out.2; omega
      go_wp2_with fail
      go_loop [5] (fun v => ∃ i : Int, 0 ≤ i ∧ i ≤ (l0.length : Int) ∧ v = .int .i64 i ∧ Aside0 (∀ j : Int, 0 ≤ j → j < i → par l0 j ≠ a)) (fun v => (l0.length - (intOf v).toNat))
      case atStart => exact ⟨0, by omega, by omega, rfl, ⟨fun j h0 h1 => by omega⟩⟩
      case round =>
        obtain ⟨i, hi0, hi1, rfl, HT⟩ := hrel
        by_cases hlt : i < (l0.length : Int)
        · obtain ⟨ad, e0, x0, x1, x2⟩ := at_T64 (Kd.C_below H0.out HB.out) i hi0 hlt
          cases e0
          by_cases he : (rd_T64 l0 i).f1 = a
          · have heb : ((rd_T64 l0 i).f1 == a) = true := beq_iff_eq.2 he
            have HE := Aside0.mk (show par l0 i = a from he)
            clear he
            go_wp2_with fail
            go_ret
            exact ⟨ret_bool (by rw [HCH.out, leafB_not (fun q => (leaf_iff HC.out.2.2 ha0 ha1).2 q i hi0 hlt HE.out)]; rfl), HB.out⟩
          · have heb : ((rd_T64 l0 i).f1 == a) = false := beq_eq_false_iff_ne.2 he
            have HE := Aside0.mk (show par l0 i ≠ a from he)
            clear he
            go_wp2_with fail
            go_round
            case rel => exact ⟨i + 1, by omega, by omega, rfl, ⟨fun j j0 j1 => by
              by_cases e : j = i
              · subst e; exact HE.out
              · exact HT.out j j0 (by omega)⟩⟩
            case measure => simp [intOf]; omega
        · go_wp2_with fail
          go_ret
          exact ⟨ret_bool (by rw [HCH.out, leafB_of ((leaf_iff HC.out.2.2 ha0 ha1).1 (fun j j0 j1 => HT.out j j0 (by omega)))]; rfl), HB.out⟩
theorem impl_entryIn.key : WideMaps.ArrKey Tryd.prog 102 3 2 := ⟨Tryd.underlying102, by kernel_rfl, by kernel_rfl, by kernel_rfl⟩
noncomputable def pairK : HMap.KeyK Tryd.prog 102 (Int × Int) := HMap.pairKey impl_entryIn.key Tryd.underlying3 ⟨_, rfl⟩
theorem textUpto_step {s : ByteArray} {i : Int} (h0 : 0 ≤ i) (h : textUpto s i) (hb : 32 ≤ bt s i) : textUpto s (i + 1) := by
  intro j hj0 hj1
  by_cases e : j = i
  · subst e; exact hb
  · exact h j hj0 (by omega)
theorem take_snoc {l : List Lin} {i : Int} (h0 : 0 ≤ i) (h1 : i < (l.length : Int)) : l.take (i + 1).toNat = l.take i.toNat ++ [rd_T81 l i] := by
  rw [show (i + 1).toNat = i.toNat + 1 by omega, List.take_add_one]
  unfold rd_T81
  rw [List.getD_eq_getElem?_getD, List.getElem?_eq_getElem (by omega)]
  rfl
structure EntInv (chart : List Acc) (dims curs : Int) (c0 : Nat) (A0 : Option Addr) (e : Ent) (A3 : Option Addr) (c3 : Nat) (w wr : World) (i : Int) : Prop where
  map : HMap.MapIs Tryd.prog 102 3 pairK wr (w.heap.size + 2) (2 * i.toNat) (sumsOf (e.f3.take i.toNat))
  ok : ∀ x ∈ e.f3.take i.toNat, lineP chart dims curs x
  bel : Below w.heap.size w wr
  fr : wr.heap[w.heap.size]? = some (.cells #[.slice A0 chart.length c0, .int .i64 dims, .int .i64 curs] 26 (0, 0))
  en : wr.heap[w.heap.size + 1]? = some (.cells #[.int .i64 e.f0, .int .i64 e.f1, .string e.f2, .slice A3 e.f3.length c3] 35 (0, 0))
theorem ent_start (l0 : List Acc) (dims curs : Int) (c0 : Nat) (A0 : Option Addr) (e : Ent) (A3 : Option Addr) (c3 : Nat) (w : World) : EntInv l0 dims curs c0 A0 e A3 c3 w (((w.alloc (.cells #[.slice A0 l0.length c0, .int .i64 dims, .int .i64 curs] 26)).alloc (.cells #[.int .i64 e.f0, .int .i64 e.f1, .string e.f2, .slice A3 e.f3.length c3] 35)).alloc (.map #[] 0)) 0 where
  map := by
    rw [show e.f3.take (0 : Int).toNat = [] from rfl, sums_nil, show w.heap.size + 2 = ((w.alloc (.cells #[.slice A0 l0.length c0, .int .i64 dims, .int .i64 curs] 26)).alloc (.cells #[.int .i64 e.f0, .int .i64 e.f1, .string e.f2, .slice A3 e.f3.length c3] 35)).heap.size by simp]
    exact HMap.MapIs.made _ _ _ _ _
  ok := fun x hx => by cases hx
  bel := below_alloc (below_two _ _ _) _
  fr := blk_alloc (blk_alloc (blk_new _ _) _) _
  en := by
    have h := blk_new (w.alloc (.cells #[.slice A0 l0.length c0, .int .i64 dims, .int .i64 curs] 26)) (.cells #[.int .i64 e.f0, .int .i64 e.f1, .string e.f2, .slice A3 e.f3.length c3] 35)
    rw [show (w.alloc (.cells #[.slice A0 l0.length c0, .int .i64 dims, .int .i64 curs] 26)).heap.size = w.heap.size + 1 by simp] at h
    exact blk_alloc h _
theorem sums_entry {W : World} {b n : Nat} {f : Int × Int → Option Int} {k1 k2 c d : Int} (h : HMap.MapIs Tryd.prog 102 3 pairK W b n f) (hn : n < maxLen) (h1 : (Lit.int .i64 k1).wf = true) (h2 : (Lit.int .i64 k2).wf = true) (hc : (f (k1, k2)).getD 0 = c) (hw : (Lit.int .i64 (c + d)).wf = true) :
    ∃ (st : Nat) (W1 W3 : World) (v0 : Value), (Instr.lookup 101 (.map (some b)) (.agg #[.int .i64 k1, .int .i64 k2]) false).run Tryd.prog W = .ok (.int .i64 c) W ∧
      (Instr.mapEntry 101 (.map (some b)) (.agg #[.int .i64 k1, .int .i64 k2])).run Tryd.prog W = .ok (.tuple #[v0, .int .i64 (st : Int)]) W1 ∧
      (Instr.lookup 101 (.map (some b)) (.agg #[.int .i64 k1, .int .i64 k2]) false).run Tryd.prog W1 = .ok (.int .i64 c) W1 ∧
      (Instr.entryStore 101 (.map (some b)) (.int .i64 (st : Int)) (.int .i64 (c + d))).run Tryd.prog W1 = .ok () W3 ∧
      HMap.MapIs Tryd.prog 102 3 pairK W3 b (n + 1) (HMap.upd f (k1, k2) (c + d)) ∧ W.grownBy W1 (some b) ∧ W.grownBy W3 (some b) := by
  obtain ⟨st, W1, v0, hent, hM1, hg1, hst⟩ := HMap.MapIs.entry (t := 101) impl_entryIn.key.law h Tryd.underlying101 Tryd.underlying3 zero3 hn (k1, k2) ⟨h1, h2⟩
  obtain ⟨W3, hr, hM3, hg3⟩ := hst W1 (c + d) rfl hw
  have l0 := (h.look (t := 101) Tryd.underlying101 Tryd.underlying3 zero3 (k1, k2) ⟨h1, h2⟩).1
  have l1 := (hM1.look (t := 101) Tryd.underlying101 Tryd.underlying3 zero3 (k1, k2) ⟨h1, h2⟩).1
  rw [hc] at l0
  rw [HMap.upd_same, hc] at l1
  exact ⟨st, W1, W3, v0, l0, hent, l1, hr, hM3, hg1, hg1.trans hg3⟩
def lineO (x : Lin) : Obj := .cells #[.int .i64 x.f0, .int .i64 x.f1, .int .i64 x.f2, .int .i64 x.f3, .int .i64 x.f4] 81 (0, 0)
theorem ent_round {chart : List Acc} {dims curs : Int} {c0 : Nat} {A0 : Option Addr} {e : Ent} {A3 : Option Addr} {c3 : Nat} {w wr : World} {j : Int} {x : Lin} (HI : EntInv chart dims curs c0 A0 e A3 c3 w wr j) (hj0 : 0 ≤ j) (hlt : j < (e.f3.length : Int)) (hx : lineP chart dims curs x) (hxe : rd_T81 e.f3 j = x) (hlen : e.f3.length ≤ 60) (hd : dims ≤ 20) (hc : curs ≤ 20) :
    ∃ (c d : Int) (st1 st2 : Nat) (W1 W3 W4 W6 : World) (v1 v2 : Value), (-6000000000000 ≤ c ∧ c ≤ 6000000000000) ∧ (-6000000000000 ≤ d ∧ d ≤ 6000000000000) ∧
      (Instr.lookup 101 (.map (some (w.heap.size + 1 + 1))) (.agg #[.int .i64 0, .int .i64 x.f2]) false).run Tryd.prog (wr.alloc (lineO x)).drew = .ok (.int .i64 c) (wr.alloc (lineO x)).drew ∧
      (Instr.mapEntry 101 (.map (some (w.heap.size + 1 + 1))) (.agg #[.int .i64 0, .int .i64 x.f2])).run Tryd.prog (wr.alloc (lineO x)).drew = .ok (.tuple #[v1, .int .i64 (st1 : Int)]) W1 ∧
      (Instr.lookup 101 (.map (some (w.heap.size + 1 + 1))) (.agg #[.int .i64 0, .int .i64 x.f2]) false).run Tryd.prog W1 = .ok (.int .i64 c) W1 ∧
      (Instr.entryStore 101 (.map (some (w.heap.size + 1 + 1))) (.int .i64 (st1 : Int)) (.int .i64 (c + x.f3))).run Tryd.prog W1 = .ok () W3 ∧
      (Instr.lookup 101 (.map (some (w.heap.size + 1 + 1))) (.agg #[.int .i64 1, .int .i64 x.f1]) false).run Tryd.prog W3.drew = .ok (.int .i64 d) W3.drew ∧
      (Instr.mapEntry 101 (.map (some (w.heap.size + 1 + 1))) (.agg #[.int .i64 1, .int .i64 x.f1])).run Tryd.prog W3.drew = .ok (.tuple #[v2, .int .i64 (st2 : Int)]) W4 ∧
      (Instr.lookup 101 (.map (some (w.heap.size + 1 + 1))) (.agg #[.int .i64 1, .int .i64 x.f1]) false).run Tryd.prog W4 = .ok (.int .i64 d) W4 ∧
      (Instr.entryStore 101 (.map (some (w.heap.size + 1 + 1))) (.int .i64 (st2 : Int)) (.int .i64 (d + x.f4))).run Tryd.prog W4 = .ok () W6 ∧
      W1.heap[wr.heap.size]? = some (lineO x) ∧ W3.heap[wr.heap.size]? = some (lineO x) ∧ W4.heap[wr.heap.size]? = some (lineO x) ∧ EntInv chart dims curs c0 A0 e A3 c3 w W6 (j + 1) := by
  obtain ⟨hl, hdm, hcr, ham, hbs, hz⟩ := hx
  have hsm : smallLines (e.f3.take j.toNat) := fun y hy => ⟨(HI.ok y hy).2.2.2.1, (HI.ok y hy).2.2.2.2.1⟩
  have hlen' : ((e.f3.take j.toNat).length : Int) ≤ 60 := by rw [List.length_take]; omega
  have hcb := curSum_small hsm x.f2
  have hdb := dimSum_small hsm x.f1
  have hbel := below_alloc HI.bel (lineO x)
  have hm0 := (HI.map.alloc (lineO x)).drew
  have hgm : w.heap.size + 1 + 1 < wr.heap.size := HI.map.lt
  obtain ⟨st1, W1, W3, v1, a1, a2, a3, a4, a5, a6, a7⟩ := sums_entry (k1 := 0) (k2 := x.f2) (c := curSum (e.f3.take j.toNat) x.f2) (d := x.f3) hm0 (by unfold maxLen; omega) (by decide) (wf_of (by omega)) (sums_cur _ _) (wf_of (by omega))
  obtain ⟨st2, W4, W6, v2, b1, b2, b3, b4, b5, b6, b7⟩ := sums_entry (k1 := 1) (k2 := x.f1) (c := dimSum (e.f3.take j.toNat) x.f1) (d := x.f4) a5.drew (by unfold maxLen; omega) (by decide) (wf_of (by omega)) (by rw [HMap.upd_other _ _ (by simp), sums_dim]) (wf_of (by omega))
  have hn : some wr.heap.size ≠ some (w.heap.size + 2) := by simp; omega
  have hL := blk_drew (blk_new wr (lineO x))
  have h1 := blk_grown hL a6 hn
  have h3 := blk_grown hL a7 hn
  have h4 := blk_grown (blk_drew h3) b6 hn
  refine ⟨_, _, st1, st2, W1, W3, W4, W6, v1, v2, by omega, by omega, a1, a2, a3, a4, b1, b2, b3, b4, h1, h3, h4, ?_, ?_, ?_, ?_, ?_⟩
  · rw [sums_snoc] at b5
    rw [take_snoc hj0 hlt, hxe, show 2 * (j + 1).toNat = 2 * j.toNat + 1 + 1 by omega]
    exact b5
  · rw [take_snoc hj0 hlt, hxe]
    intro y hy
    rcases List.mem_append.1 hy with hy | hy
    · exact HI.ok y hy
    · obtain rfl : y = x := by simpa using hy
      exact ⟨hl, hdm, hcr, ham, hbs, hz⟩
  · exact Below.grown (Below.drew (Below.grown (Below.drew hbel) a7 hbel.size (fun i hi => by cases hi; exact Nat.le_add_right _ _))) b7 (Nat.le_trans hbel.size a7.size) (fun i hi => by cases hi; exact Nat.le_add_right _ _)
  · exact blk_grown (blk_drew (blk_grown (blk_drew (blk_alloc HI.fr _)) a7 (by simp))) b7 (by simp)
  · exact blk_grown (blk_drew (blk_grown (blk_drew (blk_alloc HI.en _)) a7 (by simp))) b7 (by simp)
def SeenZero (f : Int × Int → Option Int) (left : Int × Int → Prop) : Prop := ∀ x, pairK.ok x → ¬ left x → ∀ v, f x = some v → v = 0
theorem seen_start (f : Int × Int → Option Int) : SeenZero f (fun x => (f x).isSome = true) := fun x _ h v hv => absurd (show (f x).isSome = true by rw [hv]; rfl) h
theorem seen_step {f : Int × Int → Option Int} {left : Int × Int → Prop} {x : Int × Int} {c : Int} (h : SeenZero f left) (hx : f x = some c) (hc : c = 0) : SeenZero f (fun z => left z ∧ z ≠ x) := by
  intro z hz hl v hv
  by_cases e : z = x
  · subst e
    rw [hx] at hv
    cases hv
    exact hc
  · exact h z hz (fun q => hl ⟨q, e⟩) v hv
theorem seen_end {l : List Lin} {chart : List Acc} {dims curs : Int} {left : Int × Int → Prop} (hok : ∀ x ∈ l, lineP chart dims curs x) (hd : dims ≤ 20) (hc : curs ≤ 20) (h : SeenZero (sumsOf l) left) (hl : ∀ x, pairK.ok x → ¬ left x) : ∀ x ∈ l, curSum l x.f2 = 0 ∧ dimSum l x.f1 = 0 := by
  intro x hx
  obtain ⟨_, hdm, hcr, _⟩ := hok x hx
  constructor
  · have k : pairK.ok (0, x.f2) := ⟨wf_of (n := 0) (by omega), wf_of (n := x.f2) (by omega)⟩
    exact h (0, x.f2) k (hl _ k) _ (by unfold sumsOf; rw [if_pos rfl, if_pos ⟨x, hx, rfl⟩])
  · have k : pairK.ok (1, x.f1) := ⟨wf_of (n := 1) (by omega), wf_of (n := x.f1) (by omega)⟩
    exact h (1, x.f1) k (hl _ k) _ (by unfold sumsOf; rw [if_neg (by simp), if_pos rfl, if_pos ⟨x, hx, rfl⟩])
set_option maxHeartbeats 8000000 in
set_option maxRecDepth 100000 in
theorem impl_entryIn.short (A0 : Option Addr) (c0 : Nat) (l0 : List Acc) (dims curs : Int) (e : Ent) (A3 : Option Addr) (c3 : Nat) (w : World) (hs : e.f2.size ≤ maxLen) (hn : (e.f3.length : Int) ≤ 9223372036854775807)
    (h : ¬ (e.f2.size ≤ 40 ∧ 2 ≤ e.f3.length ∧ e.f3.length ≤ 60)) :
    Calls Tryd.prog 47 #[.agg #[.slice A0 l0.length c0, .int .i64 dims, .int .i64 curs], .agg #[.int .i64 e.f0, .int .i64 e.f1, .string e.f2, .slice A3 e.f3.length c3]] w fun x w' => x = .returned (.bool (entryB l0 dims curs e)) ∧ Below w.heap.size w w' := by
  have hno : ¬ entryP l0 dims curs e := fun q => h ⟨q.2.2.1, q.2.2.2.1⟩
  go_enter Tryd.func47, Tryd.ntmps47
  go_wp2_with fail
  refine (impl_isDay.to e.f0 _).mono ?_
  rintro x w' ⟨rfl, rfl⟩
  cases hday : inB e.f0 0 40000 with
  | false =>
    go_wp2_with fail
    go_ret
    exact ⟨ret_bool (entryB_not hno), below_two _ _ _⟩
  | true =>
    go_wp2_with fail
    refine (impl_between.to e.f1 _ _ _).mono ?_
    rintro x w' ⟨rfl, rfl⟩
    cases href : inB e.f1 0 1000 with
    | false =>
      go_wp2_with fail
      go_ret
      exact ⟨ret_bool (entryB_not hno), below_two _ _ _⟩
    | true =>
      by_cases h2 : e.f2.size ≤ 40
      · by_cases h3 : 2 ≤ e.f3.length
        · have h4 : ¬ (e.f3.length ≤ 60) := fun q => h ⟨h2, h3, q⟩
          go_wp2_with fail
          go_ret
          exact ⟨ret_bool (entryB_not hno), below_two _ _ _⟩
        · have h3' : (e.f3.length : Int) < 2 := by omega
          go_wp2_with fail
          go_ret
          exact ⟨ret_bool (entryB_not hno), below_two _ _ _⟩
      · have h2' : 40 < (e.f2.size : Int) := by omega
        go_wp2_with fail
        go_ret
        exact ⟨ret_bool (entryB_not hno), below_two _ _ _⟩
set_option maxHeartbeats 8000000 in
set_option maxRecDepth 100000 in
theorem impl_entryIn.to (A0 : Option Addr) (c0 : Nat) (l0 : List Acc) (dims curs : Int) (e : Ent) (A3 : Option Addr) (c3 : Nat) (w : World) (hr0 : Kd.C k64 w A0 l0.length l0) (hr3 : Kd.C k81 w A3 e.f3.length e.f3)
    (hd : 1 ≤ dims ∧ dims ≤ 20) (hc : 1 ≤ curs ∧ curs ≤ 20) (hs : e.f2.size ≤ maxLen) :
    Calls Tryd.prog 47 #[.agg #[.slice A0 l0.length c0, .int .i64 dims, .int .i64 curs], .agg #[.int .i64 e.f0, .int .i64 e.f1, .string e.f2, .slice A3 e.f3.length c3]] w fun x w' => x = .returned (.bool (entryB l0 dims curs e)) ∧ Below w.heap.size w w' := by
  have hn : (e.f3.length : Int) ≤ 9223372036854775807 := by have := hr3.2.1; omega
  have H0 := Aside0.mk hr0
  have H3 := Aside0.mk hr3
  clear hr0 hr3
  obtain ⟨hd0, hd1⟩ := hd
  obtain ⟨hc0, hc1⟩ := hc
  by_cases h2 : e.f2.size ≤ 40
  case neg => exact impl_entryIn.short A0 c0 l0 dims curs e A3 c3 w hs hn (fun q => h2 q.1)
  by_cases h3 : 2 ≤ e.f3.length
  case neg => exact impl_entryIn.short A0 c0 l0 dims curs e A3 c3 w hs hn (fun q => h3 q.2.1)
  by_cases h4 : e.f3.length ≤ 60
  case neg => exact impl_entryIn.short A0 c0 l0 dims curs e A3 c3 w hs hn (fun q => h4 q.2.2)
  go_enter Tryd.func47, Tryd.ntmps47
  go_wp2_with fail
  refine (impl_isDay.to e.f0 _).mono ?_
  rintro x w' ⟨rfl, rfl⟩
  cases hday : inB e.f0 0 40000 with
  | false =>
    go_wp2_with fail
    go_ret
    exact ⟨ret_bool (entryB_not (fun q => inB_false.1 hday q.1)), below_two _ _ _⟩
  | true =>
    go_wp2_with fail
    refine (impl_between.to e.f1 _ _ _).mono ?_
    rintro x w' ⟨rfl, rfl⟩
    cases href : inB e.f1 0 1000 with
    | false =>
      go_wp2_with fail
      go_ret
      exact ⟨ret_bool (entryB_not (fun q => inB_false.1 href q.2.1)), below_two _ _ _⟩
    | true =>
      have HDAY := Aside0.mk (inB_true.1 hday)
      have HREF := Aside0.mk (inB_true.1 href)
      clear hday href
      go_wp2_with fail
      go_loop [5] (fun v => ∃ i : Int, 0 ≤ i ∧ i ≤ (e.f2.size : Int) ∧ v = .int .i64 i ∧ Aside0 (textUpto e.f2 i)) (fun v => (e.f2.size - (intOf v).toNat))
      case atStart => exact ⟨0, by omega, by omega, rfl, ⟨fun j h0 h1 => by omega⟩⟩
      case round =>
        obtain ⟨i, hi0, hi1, rfl, HT⟩ := hrel
        by_cases hlt : i < (e.f2.size : Int)
        · have hx := bt_at e.f2 i
          by_cases hb : 32 ≤ bt e.f2 i
          · have HB := Aside0.mk (textUpto_step hi0 HT.out hb)
            go_wp2_with fail
            go_round
            case rel => exact ⟨i + 1, by omega, by omega, rfl, HB⟩
            case measure => simp [intOf]; omega
          · have HB := Aside0.mk (entryB_not (chart := l0) (dims := dims) (curs := curs) (fun q => hb (q.2.2.2.2.1 i hi0 hlt)))
            go_wp2_with fail
            go_ret
            exact ⟨ret_bool HB.out, below_two _ _ _⟩
        · have HTX := Aside0.mk (show textUpto e.f2 e.f2.size from fun j h0 h1 => HT.out j h0 (by omega))
          clear HT
          have HI := Aside0.mk (ent_start l0 dims curs c0 A0 e A3 c3 w)
          have hmm := @run_makeMap Tryd.prog
          go_wp2_with fail
          go_loopw [55] (fun v wr => ∃ i : Int, 0 ≤ i ∧ i ≤ (e.f3.length : Int) ∧ v = .int .i64 i ∧ Aside0 (EntInv l0 dims curs c0 A0 e A3 c3 w wr i)) (fun v _ => (e.f3.length - (intOf v).toNat))
          case atStart => exact ⟨0, by omega, by omega, rfl, HI⟩
          case round =>
            clear HI
            obtain ⟨j, hj0, hj1, rfl, HI⟩ := hrel
            by_cases hlt : j < (e.f3.length : Int)
            · obtain ⟨ad, e0, x0, x1, x2, x3, x4⟩ := at_T81 (Kd.C_below H3.out HI.out.bel) j hj0 hlt
              cases e0
              have hsz : w.heap.size < wr.heap.size := blk_lt HI.out.fr
              have hsz1 : w.heap.size + 1 < wr.heap.size := blk_lt HI.out.en
              have f0 := blk_cell HI.out.fr 0
              have f1 := blk_cell HI.out.fr 1
              have f2 := blk_cell HI.out.fr 2
              have HC := Aside0.mk (Kd.C_below H0.out (below_alloc HI.out.bel (.cells #[.int .i64 (rd_T81 e.f3 j).f0, .int .i64 (rd_T81 e.f3 j).f1, .int .i64 (rd_T81 e.f3 j).f2, .int .i64 (rd_T81 e.f3 j).f3, .int .i64 (rd_T81 e.f3 j).f4] 81)))
              have HBX := Aside0.mk (below_alloc HI.out.bel (.cells #[.int .i64 (rd_T81 e.f3 j).f0, .int .i64 (rd_T81 e.f3 j).f1, .int .i64 (rd_T81 e.f3 j).f2, .int .i64 (rd_T81 e.f3 j).f3, .int .i64 (rd_T81 e.f3 j).f4] 81))
              have HNO := Aside0.mk (fun (q : entryP l0 dims curs e) => all_at (z := z81) (p := lineP l0 dims curs) hj0 hlt q.2.2.2.2.2.1)
              go_wp2_with fail
              refine (impl_leafAt.to A0 c0 l0 _ _ HC.out).mono ?_
              rintro x w' ⟨rfl, rfl⟩
              cases hlf : leafB l0 (rd_T81 e.f3 j).f0 with
              | false =>
                go_wp2_with fail
                go_ret
                exact ⟨ret_bool (entryB_not (fun q => absurd (leafB_of (HNO.out q).1) (by rw [show leafB l0 (e.f3.getD j.toNat z81).f0 = false from hlf]; simp))), HBX.out⟩
              | true =>
                have HLF := Aside0.mk (leafB_true.1 hlf)
                clear hlf
                go_wp2_with fail
                refine (impl_between.to _ _ _ _).mono ?_
                rintro x w' ⟨rfl, rfl⟩
                cases hdm : inB (rd_T81 e.f3 j).f1 0 (dims - 1) with
                | false =>
                  go_wp2_with fail
                  go_ret
                  exact ⟨ret_bool (entryB_not (fun q => inB_false.1 hdm (HNO.out q).2.1)), HBX.out⟩
                | true =>
                  have HDM := Aside0.mk (inB_true.1 hdm)
                  clear hdm
                  go_wp2_with fail
                  refine (impl_between.to _ _ _ _).mono ?_
                  rintro x w' ⟨rfl, rfl⟩
                  cases hcr : inB (rd_T81 e.f3 j).f2 0 (curs - 1) with
                  | false =>
                    go_wp2_with fail
                    go_ret
                    exact ⟨ret_bool (entryB_not (fun q => inB_false.1 hcr (HNO.out q).2.2.1)), HBX.out⟩
                  | true =>
                    have HCR := Aside0.mk (inB_true.1 hcr)
                    clear hcr
                    go_wp2_with fail
                    refine (impl_amount.to _ _).mono ?_
                    rintro x w' ⟨rfl, rfl⟩
                    cases ham : inB (rd_T81 e.f3 j).f3 (-100000000000) 100000000000 with
                    | false =>
                      go_wp2_with fail
                      go_ret
                      exact ⟨ret_bool (entryB_not (fun q => inB_false.1 ham (HNO.out q).2.2.2.1)), HBX.out⟩
                    | true =>
                      have HAM := Aside0.mk (inB_true.1 ham)
                      clear ham
                      go_wp2_with fail
                      refine (impl_amount.to _ _).mono ?_
                      rintro x w' ⟨rfl, rfl⟩
                      cases hbs : inB (rd_T81 e.f3 j).f4 (-100000000000) 100000000000 with
                      | false =>
                        go_wp2_with fail
                        go_ret
                        exact ⟨ret_bool (entryB_not (fun q => inB_false.1 hbs (HNO.out q).2.2.2.2.1)), HBX.out⟩
                      | true =>
                        have HBS := Aside0.mk (inB_true.1 hbs)
                        clear hbs
                        have hway : (rd_T81 e.f3 j).f2 = 0 ∧ (rd_T81 e.f3 j).f3 ≠ (rd_T81 e.f3 j).f4 ∨ ((rd_T81 e.f3 j).f2 == 0) = false ∧ Aside0 (lineP l0 dims curs (rd_T81 e.f3 j)) ∨ (((rd_T81 e.f3 j).f2 == 0) = true ∧ ((rd_T81 e.f3 j).f3 != (rd_T81 e.f3 j).f4) = false) ∧ Aside0 (lineP l0 dims curs (rd_T81 e.f3 j)) := by
                          by_cases q : (rd_T81 e.f3 j).f2 = 0
                          · by_cases q2 : (rd_T81 e.f3 j).f3 = (rd_T81 e.f3 j).f4
                            · exact Or.inr (Or.inr ⟨⟨beq_iff_eq.2 q, by rw [q2]; exact bne_self_eq_false' _⟩, ⟨HLF.out, HDM.out, HCR.out, HAM.out, HBS.out, fun _ => q2⟩⟩)
                            · exact Or.inl ⟨q, q2⟩
                          · exact Or.inr (Or.inl ⟨beq_eq_false_iff_ne.2 q, ⟨HLF.out, HDM.out, HCR.out, HAM.out, HBS.out, fun q' => absurd q' q⟩⟩)
                        rcases hway with ⟨q1, q2⟩ | ⟨p1, HX⟩ | ⟨⟨p1, p2⟩, HX⟩
                        · have HN2 := Aside0.mk (show ¬ entryP l0 dims curs e from fun q => q2 ((HNO.out q).2.2.2.2.2 q1))
                          have p1 : ((rd_T81 e.f3 j).f2 == 0) = true := beq_iff_eq.2 q1
                          have p2 : ((rd_T81 e.f3 j).f3 != (rd_T81 e.f3 j).f4) = true := bne_iff_ne.2 q2
                          clear q1 q2
                          go_wp2_with fail
                          go_ret
                          exact ⟨ret_bool (entryB_not HN2.out), HBX.out⟩
                        all_goals (
                          obtain ⟨c, d, st1, st2, W1, W3, W4, W6, v1, v2, ⟨hc0', hc1'⟩, ⟨hd0', hd1'⟩, a1, a2, a3, a4, b1, b2, b3, b4, n1, n3, n4, HN⟩ := ent_round HI.out hj0 hlt HX.out rfl h4 hd1 hc1
                          have HN := Aside0.mk HN
                          have m2 := blk_cell n1 2
                          have m3 := blk_cell n1 3
                          have r1 := blk_cell n3 1
                          have r4 := blk_cell n3 4
                          have s1 := blk_cell n4 1
                          have s4 := blk_cell n4 4
                          obtain ⟨hx1, hx2⟩ := HAM.out
                          obtain ⟨hy1, hy2⟩ := HBS.out
                          clear n1 n3 n4 HX HI HNO HLF HDM HCR HC H0 H3
                          unfold lineO at a1 a2
                          go_wp2_with fail
                          go_region
                          go_wp2_with fail
                          go_region
                          go_wp2_with fail
                          go_roundw
                          case rel => exact ⟨j + 1, by omega, by omega, rfl, HN⟩
                          case measure => simp [intOf]; omega)
            · obtain ⟨em, eok, ebel⟩ : HMap.MapIs Tryd.prog 102 3 pairK wr (w.heap.size + 1 + 1) (2 * j.toNat) (sumsOf e.f3) ∧ (∀ x ∈ e.f3, lineP l0 dims curs x) ∧ Below w.heap.size w wr := by
                have hm := HI.out.map
                have ho := HI.out.ok
                rw [List.take_of_length_le (by omega)] at hm ho
                exact ⟨hm, ho, HI.out.bel⟩
              have HOK := Aside0.mk eok
              have HB := Aside0.mk ebel
              have hgm : w.heap.size + 1 + 1 < wr.heap.size := em.lt
              clear HI eok ebel
              go_wp2_with (at_range; refine HMap.wpList_range_seeks (K := pairK) (kt := 102) (et := 3) (b := w.heap.size + 1 + 1) (n := 2 * j.toNat) (f := sumsOf e.f3) rfl _ rfl Tryd.underlying101 rfl em ?_; intro w0 cnt0 hrg0 hg0 hs0)
              clear em
              have HB0 := Aside0.mk (Below.grown HB.out hg0 HB.out.size (fun i hi => by cases hi))
              clear HB hg0
              go_loopw [10] (fun _ ws => ∃ (left : Int × Int → Prop) (cnt : Nat), HMap.Seeks Tryd.prog 102 3 pairK ws (w.heap.size + 1 + 1) wr.heap.size (2 * j.toNat) (sumsOf e.f3) left cnt ∧ Aside0 (Below w.heap.size w ws) ∧ Aside0 (SeenZero (sumsOf e.f3) left)) (fun _ ws => ws.rangeLeft (w.heap.size + 1 + 1) wr.heap.size)
              case atStart => exact ⟨_, cnt0, hrg0, HB0, ⟨seen_start _⟩⟩
              case round =>
                clear hrg0 HB0
                obtain ⟨left, cnt, hsk, HBW, HZ⟩ := hrel
                go_wp2_with (at_next; refine HMap.wpList_next_seeks (K := pairK) (et := 3) (b := w.heap.size + 1 + 1) rfl _ rfl Tryd.underlying3 rfl hsk ?_ ?_)
                · intro hall
                  have HE := Aside0.mk (show entryP l0 dims curs e from ⟨HDAY.out, HREF.out, h2, ⟨h3, h4⟩, HTX.out, HOK.out, seen_end HOK.out hd1 hc1 HZ.out (fun p hp => hall p.1 p.2 hp)⟩)
                  clear hall hsk
                  go_wp2_with fail
                  go_ret
                  exact ⟨ret_bool (entryB_true.2 HE.out).symm, HBW.out⟩
                · intro xa xb c ws1 cnt1 hxk hlx hfx hsk1 hlt1 hg1 hs1 hen
                  have HB1 := Aside0.mk (Below.grown HBW.out hg1 HBW.out.size (fun i hi => by cases hi; omega))
                  have hm0 := hsk.left_eq
                  by_cases hz : c = 0
                  · subst hz
                    have HZ1 := Aside0.mk (seen_step HZ.out hfx rfl)
                    clear hsk hxk hlx hfx HZ HBW hg1 hs1
                    go_wp2_with fail
                    go_roundw
                    case rel => exact ⟨_, cnt1, hsk1, HB1, HZ1⟩
                    case measure => rw [hsk1.left_eq, hm0]; omega
                  · have HN := Aside0.mk (show ¬ entryP l0 dims curs e from fun q => hz (sums_zero.2 q.2.2.2.2.2.2 (xa, xb) c hfx))
                    have hzb : (c != 0) = true := bne_iff_ne.2 hz
                    clear hsk hxk hlx hfx HZ hg1 hs1 hz
                    go_wp2_with fail
                    go_ret
                    exact ⟨ret_bool (entryB_not HN.out), HB1.out⟩
set_option maxHeartbeats 4000000 in
set_option maxRecDepth 100000 in
theorem spec_FrameOk.to (A0 : Option Addr) (c0 : Nat) (l0 : List Acc) (dims curs : Int) (w : World) (hr0 : Kd.C k64 w A0 l0.length l0) (hs : ∀ x ∈ l0, x.f0.size ≤ maxLen) :
    Calls Tryd.prog 41 #[.agg #[.slice A0 l0.length c0, .int .i64 dims, .int .i64 curs]] w fun e w' => e = .returned (.bool (frameB l0 dims curs)) ∧ Below w.heap.size w w' := by
  have H0 := Aside0.mk hr0
  clear hr0
  unfold frameB
  go_enter Tryd.func41, Tryd.ntmps41
  go_wp2_with fail
  refine (spec_ChartOk.to A0 c0 l0 _ (Kd.C_below H0.out (below_alloc (Below.refl _ _) _)) hs).mono ?_
  rintro e w1 ⟨rfl, hb⟩
  have HB := Aside0.mk (below_into (w := w) hb (below_alloc (Below.refl _ _) _))
  have s0 : w1.cell? ⟨w.heap.size, 0, none⟩ = some (.slice A0 l0.length c0) := pw_cell_below hb (by go_simp)
  have s1 : w1.cell? ⟨w.heap.size, 1, none⟩ = some (.int .i64 dims) := pw_cell_below hb (by go_simp)
  have s2 : w1.cell? ⟨w.heap.size, 2, none⟩ = some (.int .i64 curs) := pw_cell_below hb (by go_simp)
  clear hb
  cases hch : chartOk l0 with
  | false =>
    go_wp2_with fail
    go_ret
    exact ⟨ret_bool (by simp [hch]), HB.out⟩
  | true =>
    go_wp2_with fail
    refine (spec_l1In.to dims _ _ _).mono ?_
    rintro e w6 ⟨rfl, rfl⟩
    cases hinB : inB dims 1 20 with
    | false =>
      go_wp2_with fail
      go_ret
      exact ⟨ret_bool (by simp [hch, hinB]), HB.out⟩
    | true =>
      go_wp2_with fail
      refine (spec_l1In.to curs _ _ _).mono ?_
      rintro e w7 ⟨rfl, rfl⟩
      cases hinC : inB curs 1 20 with
      | false =>
        go_wp2_with fail
        go_ret
        exact ⟨ret_bool (by simp [hch, hinB, hinC]), HB.out⟩
      | true =>
        go_wp2_with fail
        go_ret
        exact ⟨ret_bool (by simp [hch, hinB, hinC]), HB.out⟩
set_option maxRecDepth 100000 in
theorem impl_ChartOk.to (A0 : Option Addr) (c0 : Nat) (l0 : List Acc) (w : World) (hr0 : Kd.C k64 w A0 l0.length l0) (hs : ∀ x ∈ l0, x.f0.size ≤ maxLen) :
    Calls Tryd.prog 69 #[.slice A0 l0.length c0] w fun e w' => e = .returned (.bool (chartOk l0)) ∧ Below w.heap.size w w' := by
  go_enter Tryd.func69, Tryd.ntmps69
  go_wp2_with fail
  refine (impl_depths.to A0 c0 l0 _ hr0 hs).mono ?_
  rintro e w1 ⟨v, rfl, hb⟩
  go_wp2_with fail
  go_ret
  exact ⟨rfl, hb⟩
end Go.Proofs.YtjkjjfbcakbmnaaDoor.Q
