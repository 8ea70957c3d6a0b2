/- Parts of the proof: what functions of the program and of the reference answer.
   No condition. -/
import Derived.Test.YtjkjjfbcakbmnaaDoorZBooksShut1
import Derived.Laws.CopyRow
import Derived.Lib.SlBuf
import Derived.Deep.DeepCutAuto
import Derived.Test.YtjkjjfbcakbmnaaDoorZBooksShut4
namespace Go.Proofs.YtjkjjfbcakbmnaaDoor.Q
open Go.RowKit Go.Proofs.YtjkjjfbcakbmnaaDoorW.PrintWords Go.Proofs.YtjkjjfbcakbmnaaDoorW.PrintLast Go.Proofs.YtjkjjfbcakbmnaaDoorW.PrintMore
attribute [local go_sem] max2_int min2_int max_two min_two max_three min_three max_four min_four   -- for this text's walks alone
set_option linter.unusedVariables false
set_option linter.unusedSimpArgs false
theorem R_copy {α : Type} (P : Program) (d : Kd α) {Rr : α → List Value → Prop} {W : World} {base e g n cap sCap : Nat} {ad : Addr} {xs ys : List α} {ok : Nat → Prop} (HO : d.R e W base ok (.slice (some ⟨g, 0, none⟩) n cap) xs) (HR : ReadsRow Rr d.sz W (some ad) n ys)
    (hKM : ∀ (w : World) x cs, Rr x cs → d.M w base (fun _ => False) x cs) (hs0 : 0 < d.sz) (dT sT ty : TypeId) (hu : P.underlying dT = some (.slice e)) (hs : (P.info? e).map (·.size) = some d.sz) :
    ∃ w1, (Builtin.copy_ #[dT, sT] ty #[.slice (some ⟨g, 0, none⟩) n cap, .slice (some ad) n sCap]).run P W = .ok (goInt n) w1 ∧ d.R e w1 base ok (.slice (some ⟨g, 0, none⟩) n cap) ys ∧ W.grownBy w1 (some g) := by
  obtain ⟨news, hnr, hnc⟩ := ReadsRow.inner_ HR
  have hyl : ys.length = n := HR.1
  subst hyl
  have hnl : news.length = ys.length * d.sz := hnr.1
  have hxl := (Kd.R_reads' HO).1
  obtain ⟨hok, inner, ⟨hil, hown⟩, hr⟩ := HO
  rcases hown with ⟨h, _⟩ | ⟨g', cap', cur, hv, hbase, hheap, hnc', hcm, hcs, htk⟩
  · cases h
  · injection hv with ha hn hc
    injection ha with ha
    injection ha with ha
    subst ha hc
    have hone : ∀ u ∈ news, u.oneCell' = true := by
      intro u hu
      obtain ⟨q, hq, rfl⟩ := List.mem_iff_getElem.1 hu
      have hql : q / d.sz < ys.length := by
        rw [Nat.div_lt_iff_lt_mul hs0, ← hnr.1]
        exact hq
      have hc := hnr.2 (q / d.sz) _ (List.getElem?_eq_getElem hql)
      refine d.K_one (d.K_of_M (hKM W _ _ hc)) _ ?_
      rw [List.mem_iff_getElem?]
      refine ⟨q % d.sz, ?_⟩
      rw [List.getElem?_take, if_pos (Nat.mod_lt _ hs0), List.getElem?_drop, Nat.mul_comm, Nat.div_add_mod, List.getElem?_eq_getElem hq]
    have hnc2 : ys.length ≤ cap := by omega
    have hle : ys.length * d.sz ≤ cur.size := by rw [hcs]; exact Nat.mul_le_mul_right _ hnc2
    have hl := run_loadCells_list (P := P) W ad news hnc
    have hst := run_storeCells_at P g 0 e news 0 cur W hheap (by rw [hnl]; omega) hone
    have hcells : (cur.toList.take (0 + 0) ++ news ++ cur.toList.drop (0 + 0 + news.length)) = news ++ cur.toList.drop news.length := by simp
    rw [hcells] at hst
    have hq : ∃ i0, P.info? e = some i0 ∧ i0.size = d.sz := by
      cases hq : P.info? e with
      | none => simp [hq] at hs
      | some i => exact ⟨i, rfl, by simpa [hq] using hs⟩
    obtain ⟨i0, hi0, hi1⟩ := hq
    refine ⟨W.setRow g (news ++ cur.toList.drop news.length).toArray, ?_, ⟨hok, news, ⟨hnl, .inr ⟨g, cap, _, rfl, hbase, setRow_heap W g cur _ e (0, 0) hheap, hnc2, hcm, ?_, ?_⟩⟩, ?_⟩, ?_⟩
    · simp [Builtin.copy_, run_underlying hu, Builtin.lenOf, Builtin.firstCells, sizeOf, typeInfo, hi0, hi1, ← hnl, hl, hst]
    · simp [← hcs]
      omega
    · simp [← hnl]
    · exact hnr.imp_ (fun p c hp => d.M_mono (fun _ hk => hk.elim) (hKM _ p c hp))
    · exact ⟨rfl, rfl, rfl, by simp, fun k hk hne => setRow_other W g k _ (fun e => hne (by rw [e]))⟩
theorem run_copy_zero (P : Program) (W : World) (dT sT ty e : TypeId) (D A : Option Addr) (cD cA : Nat) (hu : P.underlying dT = some (.slice e)) (hs : ((P.info? e).map (·.size)).isSome = true) :
    (Builtin.copy_ #[dT, sT] ty #[.slice D 0 cD, .slice A 0 cA]).run P W = .ok (goInt 0) W := by
  cases hq : P.info? e with
  | none => simp [hq] at hs
  | some i => cases D <;> cases A <;> simp [Builtin.copy_, run_underlying hu, Builtin.lenOf, Builtin.firstCells, sizeOf, typeInfo, hq, loadCells, loadCellsFrom, storeCells]
set_option maxHeartbeats 8000000 in
set_option maxRecDepth 100000 in
theorem impl_copyEntry.to (a0 a1 : Int) (a2 : ByteArray) (A : Option Addr) (c : Nat) (l : List Lin) (w : World) (hr : Kd.C k81 w A l.length l) (hl : l.length ≤ 1048576) :
    Calls Tryd.prog 62 #[.agg #[.int .i64 a0, .int .i64 a1, .string a2, .slice A l.length c]] w fun e w' => ∃ v : Value, e = .returned (.agg #[.int .i64 a0, .int .i64 a1, .string a2, v]) ∧ Kd.R k81 81 w' w.heap.size (fun _ => True) v l ∧ Below w.heap.size w w' := by
  have HR := Aside0.mk hr
  have HB0 := Aside0.mk (below_two w (.cells #[.int .i64 a0, .int .i64 a1, .string a2, .slice A l.length c] 35) (.cells #[.int .i64 0, .int .i64 0, .string ⟨#[]⟩, .slice none 0 0] 35))
  clear hr
  go_enter Tryd.func62, Tryd.ntmps62
  go_wp2_with ((with_reducible refine gate_dst (N := 7) rfl ?_); refine Kd.R_make k81 _ 81 rfl (N := 7) rfl 33 _ _ rfl (l.length : Int) rfl rfl Tryd.underlying33 (.agg #[(.int .i64 0), (.int .i64 0), (.int .i64 0), (.int .i64 0), (.int .i64 0)]) 40 info81 rfl (by decide) (by omega) z81 (ok := fun _ => True) (okp := fun _ => True) (k81_mkM _ _ _ z81) (fun _ hk => hk) trivial (by omega) (by simp; omega) (Below.refl _ _) (Nat.le_refl _) ?_; intro v1 w1 ho hb hg hnew; have f3 : w1.cell? ⟨w.heap.size, 3, none⟩ = some (.slice A l.length c) := pw_cell_below hb (by go_simp))
  have RR := Aside0.mk (Kd.R_lower (Kd.R_mono (ok' := fun k => w.heap.size + 2 ≤ k) (Kd.R_bound ho) (fun k hk => by have := hk.2.1; simpa using this)) (base' := w.heap.size) (by simp; omega))
  obtain ⟨A1, c1, hv⟩ := Kd.R_slice RR.out
  rw [List.length_replicate, Int.toNat_natCast] at hv
  subst hv
  have HB := Aside0.mk (below_into (w := w) hb HB0.out)
  have f0 : w1.cell? ⟨w.heap.size, 0, none⟩ = some (.int .i64 a0) := pw_cell_below hb (by go_simp)
  have f1 : w1.cell? ⟨w.heap.size, 1, none⟩ = some (.int .i64 a1) := pw_cell_below hb (by go_simp)
  have f2 : w1.cell? ⟨w.heap.size, 2, none⟩ = some (.string a2) := pw_cell_below hb (by go_simp)
  have g0 : w1.cell? ⟨w.heap.size + 1, 0, none⟩ = some (.int .i64 0) := pw_cell_below hb (by go_simp)
  have g1 : w1.cell? ⟨w.heap.size + 1, 1, none⟩ = some (.int .i64 0) := pw_cell_below hb (by go_simp)
  have g2 : w1.cell? ⟨w.heap.size + 1, 2, none⟩ = some (.string ⟨#[]⟩) := pw_cell_below hb (by go_simp)
  have g3 : w1.cell? ⟨w.heap.size + 1, 3, none⟩ = some (.slice none 0 0) := pw_cell_below hb (by go_simp)
  have z0 : w1.frozen? ⟨w.heap.size, 3, none⟩ = false := (hb.frozen (p := ⟨w.heap.size, 3, none⟩) (by simp; omega)).trans (by go_simp)
  have k0 : w1.frozen? ⟨w.heap.size + 1, 0, none⟩ = false := (hb.frozen (p := ⟨w.heap.size + 1, 0, none⟩) (by simp)).trans (by go_simp)
  have k1 : w1.frozen? ⟨w.heap.size + 1, 1, none⟩ = false := (hb.frozen (p := ⟨w.heap.size + 1, 1, none⟩) (by simp)).trans (by go_simp)
  have k2 : w1.frozen? ⟨w.heap.size + 1, 2, none⟩ = false := (hb.frozen (p := ⟨w.heap.size + 1, 2, none⟩) (by simp)).trans (by go_simp)
  have k3 : w1.frozen? ⟨w.heap.size + 1, 3, none⟩ = false := (hb.frozen (p := ⟨w.heap.size + 1, 3, none⟩) (by simp)).trans (by go_simp)
  have hz1 : w.heap.size + 1 < w1.heap.size := World.block_lt_of_cell? _ _ g0
  have hz0 : w.heap.size < w1.heap.size := by omega
  obtain ⟨w2, hrun, R2, hg2⟩ : ∃ w2, (Builtin.copy_ #[33, 33] 3 #[.slice A1 l.length c1, .slice A l.length c]).run Tryd.prog w1 = .ok (goInt l.length) w2 ∧ Kd.R k81 81 w2 w.heap.size (fun k => w.heap.size + 2 ≤ k) (.slice A1 l.length c1) l ∧ Below (w.heap.size + 2) w1 w2 := by
    by_cases h0 : l.length = 0
    · have hl0 : l = [] := List.eq_nil_of_length_eq_zero h0
      refine ⟨w1, ?_, ?_, Below.refl _ _⟩
      · rw [h0]; exact run_copy_zero Tryd.prog w1 33 33 3 81 A1 A c1 c Tryd.underlying33 (by kernel_rfl)
      · have := RR.out; rw [Int.toNat_natCast, h0] at this; rw [h0, hl0]; exact this
    · obtain ⟨g, cap, e1, hgb, _⟩ := Kd.R_form RR.out (by simp; omega)
      rw [List.length_replicate, Int.toNat_natCast] at e1
      injection e1 with ea _ ec
      subst ea ec
      have hgk := RR.out.1 g rfl
      obtain ⟨ad, hA, _⟩ := (Kd.C_below HR.out HB.out).2.2 (by omega)
      subst hA
      obtain ⟨w2, h1, h2, h3⟩ := R_copy Tryd.prog k81 (sCap := c) RR.out (Kd.C_below HR.out HB.out) (fun W x cs hk => by rw [k81_open hk]; exact k81_mkM _ _ _ _) (by decide) 33 33 3 Tryd.underlying33 (by kernel_rfl)
      exact ⟨w2, h1, h2, (Below.refl _ w1).grown h3 (by omega) (fun k hk => by injection hk with hk; omega)⟩
  have R2' := Aside0.mk R2
  have HB2 := Aside0.mk (HB.out.trans (hg2.mono (by omega)))
  replace f0 := (hg2.cell (p := ⟨w.heap.size, 0, none⟩) (by simp)).trans f0
  replace f1 := (hg2.cell (p := ⟨w.heap.size, 1, none⟩) (by simp)).trans f1
  replace f2 := (hg2.cell (p := ⟨w.heap.size, 2, none⟩) (by simp)).trans f2
  replace f3 := (hg2.cell (p := ⟨w.heap.size, 3, none⟩) (by simp)).trans f3
  replace g0 := (hg2.cell (p := ⟨w.heap.size + 1, 0, none⟩) (by simp)).trans g0
  replace g1 := (hg2.cell (p := ⟨w.heap.size + 1, 1, none⟩) (by simp)).trans g1
  replace g2 := (hg2.cell (p := ⟨w.heap.size + 1, 2, none⟩) (by simp)).trans g2
  replace g3 := (hg2.cell (p := ⟨w.heap.size + 1, 3, none⟩) (by simp)).trans g3
  replace k0 := (hg2.frozen (p := ⟨w.heap.size + 1, 0, none⟩) (by simp)).trans k0
  replace k1 := (hg2.frozen (p := ⟨w.heap.size + 1, 1, none⟩) (by simp)).trans k1
  replace k2 := (hg2.frozen (p := ⟨w.heap.size + 1, 2, none⟩) (by simp)).trans k2
  replace k3 := (hg2.frozen (p := ⟨w.heap.size + 1, 3, none⟩) (by simp)).trans k3
  have z0' := (hg2.frozen (p := ⟨w.heap.size, 3, none⟩) (by simp)).trans z0
  have hw2 : w.heap.size + 1 < w2.heap.size := World.block_lt_of_cell? _ _ g0
  have hw0 : w.heap.size < w2.heap.size := by omega
  clear R2 hg2 RR HB hb ho hg hnew HB0 HR z0
  rw [hrun]
  clear hrun
  go_wp2_with fail
  have hR := R2'.out
  refine bodyPost_ret (v := .agg #[.int .i64 a0, .int .i64 a1, .string a2, .slice A1 l.length c1]) (by simp [results, Tryd.results62, go_sem]; go_simp) rfl ⟨_, rfl, ?_, ?_⟩
  · refine Kd.R_mono (ok := fun k => w.heap.size + 2 ≤ k) ?_ (fun _ _ => trivial)
    (repeat (refine Kd.R_far ?_ (fun k hk => by simp; omega) _))
    exact hR
  · (repeat (refine below_set ?_ (by simp <;> omega)))
    exact HB2.out
theorem made_row {α : Type} (P : Program) (d : Kd α) (e t : TypeId) (z : Value) (bytes : Nat) (ht : P.underlying t = some (.slice e)) (hinfo : (P.info? e).map (fun i => (i.zero, i.size, i.bytes)) = some (some z, d.sz, bytes)) (hz : z.cells.size = d.sz) (hs0 : 0 < d.sz) (hb0 : 0 < bytes)
    (z0 : α) (hzero : ∀ W base, d.M W base (fun _ => False) z0 z.cells.toList) (m : Nat) (hl : m * bytes ≤ 281474976710656) :
    ∃ cs : Array Value, (∀ W : World, (Instr.makeSlice t (.int .i64 (m : Int)) (.int .i64 (m : Int))).run P W = .ok (.slice (some ⟨W.heap.size, 0, none⟩) m m) (W.alloc (.cells cs e))) ∧
      ∀ (W : World) (base : Nat) (ok : Nat → Prop), base ≤ W.heap.size → ok W.heap.size → Kd.S d e (W.alloc (.cells cs e)) base ok (.slice (some ⟨W.heap.size, 0, none⟩) m m) (List.replicate m z0) := by
  obtain ⟨i0, hi, hzz⟩ := Option.map_eq_some_iff.1 hinfo
  simp only [Prod.mk.injEq] at hzz
  obtain ⟨hz0, hz1, hz2⟩ := hzz
  have hm : m ≤ 281474976710656 := Nat.le_trans (Nat.le_mul_of_pos_right _ hb0) hl
  refine ⟨madeCells z.cells (m * d.sz), fun W => ?_, fun W base ok hb hok => ?_⟩
  · have hr := run_make (P := P) W t e i0 z ht hi hz0 .i64 .i64 (m : Int) (m : Int) (by omega) (by omega)
      (by
        have h3 : ((i0.bytes * m : Nat) : Int) ≤ 281474976710656 := by rw [hz2, Nat.mul_comm]; omega
        rwa [Int.natCast_mul] at h3) (by omega)
    simp only [Int.toNat_natCast] at hr
    rw [hz1] at hr
    exact hr
  · have hrep := Kd.reps_made hz hs0 (hzero (W.alloc (.cells (madeCells z.cells (m * d.sz)) e)) base) m
    refine Kd.S_bare ⟨fun k hk => ?_, (madeCells z.cells (m * d.sz)).toList, ?_, hrep⟩
    · have : W.heap.size = k := by simpa [Value.ownBlock] using hk
      subst this
      exact hok
    · have h2 := World.ownsRow_lit (base := base) (e := e) (size := d.sz) W (madeCells z.cells (m * d.sz)) m hb (by simp [maxLen]; omega) (by simp [size_madeCells])
      have h3 : (W.alloc (Obj.cells (madeCells z.cells (m * d.sz)) e)).ownsRow base e d.sz (.slice (some ⟨W.heap.size, 0, none⟩) m m) m (madeCells z.cells (m * d.sz)).toList := by simpa using h2
      simp only [List.length_replicate]
      exact h3
theorem take_fill1 {α : Type} (x l : List α) (z : α) (i : Nat) (h : i < l.length) (hx : x.length = l.length) (ht : x.take i = l.take i) : (x.set i (l.getD i z)).take (i + 1) = l.take (i + 1) := by
  rw [List.take_add_one, List.take_add_one, List.take_set, ht, List.getElem?_set_self (by omega), List.getD_eq_getElem?_getD, List.getElem?_eq_getElem h]
  rw [List.set_eq_of_length_le (by simp; omega)]
  simp
theorem wrap_add1 (i : Int) (h0 : 0 ≤ i) (h1 : i ≤ 1048576) : IntKind.i64.wrap (i + 1) = i + 1 := by rw [IntKind.wrap_i64]; omega
theorem cell_off {W : World} {p q : Addr} {r : Option Value} (h : q.block ≠ p.block) (u : Value) (hc : W.cell? q = r) : (W.setCell p u).cell? q = r := (World.cell?_of_block (Below.heap_setCell W p u q.block h)).trans hc
theorem frozen_off {W : World} {p q : Addr} {r : Bool} (h : q.block ≠ p.block) (u : Value) (hc : W.frozen? q = r) : (W.setCell p u).frozen? q = r := (World.frozen?_of_block (Below.heap_setCell W p u q.block h)).trans hc
set_option maxHeartbeats 8000000 in
set_option maxRecDepth 100000 in
theorem impl_copyLedger.to (A : Option Addr) (c : Nat) (h0 : Int) (l : List S35) (w : World) (hr : Kd.C k35 w A l.length l) (hl : l.length ≤ 1048576) (hs : ∀ y ∈ l, y.f3.length ≤ 1048576) :
    Calls Tryd.prog 51 #[.agg #[.slice A l.length c, .int .i64 h0]] w fun e w' => ∃ v : Value, e = .returned (.agg #[v, .int .i64 h0]) ∧ Kd.S k35 35 w' w.heap.size (fun _ => True) v l ∧ Below w.heap.size w w' := by
  have HR := Aside0.mk hr
  clear hr
  have HB := Aside0.mk (Below.refl w.heap.size w)
  go_enter Tryd.func51, Tryd.ntmps51
  have f0 : ((w.alloc (Obj.cells #[Value.slice A l.length c, Value.int IntKind.i64 h0] 29)).alloc (Obj.cells #[Value.slice none 0 0, Value.int IntKind.i64 0] 29)).cell? ⟨w.heap.size, 0, none⟩ = some (.slice A l.length c) := by go_simp
  have f1 : ((w.alloc (Obj.cells #[Value.slice A l.length c, Value.int IntKind.i64 h0] 29)).alloc (Obj.cells #[Value.slice none 0 0, Value.int IntKind.i64 0] 29)).cell? ⟨w.heap.size, 1, none⟩ = some (.int .i64 h0) := by go_simp
  go_upto_region 1 with fail
  go_cut [3] (fun s3 wx => ∃ (b : Nat) (v : Value), s3 = .pointer (some ⟨b, 0, none⟩) ∧ w.heap.size + 2 ≤ b ∧ wx.cell? ⟨b, 0, none⟩ = some v ∧ wx.cell? ⟨b, 1, none⟩ = some (.int .i64 h0) ∧ wx.cell? ⟨w.heap.size, 0, none⟩ = some (.slice A l.length c) ∧ wx.cell? ⟨w.heap.size + 1, 0, none⟩ = some (.slice none 0 0) ∧ wx.cell? ⟨w.heap.size + 1, 1, none⟩ = some (.int .i64 0) ∧ wx.frozen? ⟨w.heap.size + 1, 0, none⟩ = false ∧ wx.frozen? ⟨w.heap.size + 1, 1, none⟩ = false ∧ Aside0 (Kd.S k35 35 wx (w.heap.size + 2) (fun k => k ≠ b) v (List.replicate l.length z35)) ∧ Aside0 (Below w.heap.size w wx))
  case first =>
    obtain ⟨cs, hmk, hS⟩ := made_row Tryd.prog k35 35 27 (.agg #[(.int .i64 0), (.int .i64 0), (.string ⟨#[]⟩), (.slice none 0 0)]) 56 Tryd.underlying27 infoEntry rfl (by decide) (by omega) z35 (fun W base => k35_mkM _ _ _ z35 (Kd.R_nil _ _ _ _ _)) l.length (by omega)
    go_region_held3 (fun w' => w'.cell? ⟨w.heap.size, 0, none⟩ = some (.slice A l.length c) ∧ w'.cell? ⟨w.heap.size, 1, none⟩ = some (.int .i64 h0)) ((first | go_keep | exact ⟨pw_cell_below hb (by assumption), pw_cell_below hb (by assumption)⟩))
     ((first | (go_simp; rw [hmk])))
    all_goals (try go_wp2_with fail)
    all_goals go_meet
    · refine ⟨w.heap.size + 1 + 1 + 1, .slice (some ⟨w.heap.size + 1 + 1, 0, none⟩) l.length l.length, rfl, by omega, by go_simp, by go_simp, by go_simp, by go_simp, by go_simp, by go_simp, by go_simp, ⟨Kd.S_drew (Kd.S_alloc (by simpa using hS ((w.alloc (Obj.cells #[Value.slice A l.length c, Value.int IntKind.i64 h0] 29)).alloc (Obj.cells #[Value.slice none 0 0, Value.int IntKind.i64 0] 29)) (w.heap.size + 2) (fun k => k ≠ w.heap.size + 1 + 1 + 1) (by simp) (by simp)) _)⟩, ⟨by repeat (first | exact Below.refl _ _ | refine below_drew ?_ | refine below_alloc ?_ _)⟩⟩
    · refine ⟨w.heap.size + 1 + 1, .slice (some ⟨w.heap.size + 1 + 1 + 1, 0, none⟩) l.length l.length, rfl, by omega, by go_simp, by go_simp, by go_simp, by go_simp, by go_simp, by go_simp, by go_simp, ⟨Kd.S_drew (by simpa using hS (((w.alloc (Obj.cells #[Value.slice A l.length c, Value.int IntKind.i64 h0] 29)).alloc (Obj.cells #[Value.slice none 0 0, Value.int IntKind.i64 0] 29)).alloc (Obj.cells #[Value.slice (some ⟨w.heap.size + 1 + 1 + 1, 0, none⟩) l.length l.length, Value.int IntKind.i64 h0] 29)) (w.heap.size + 2) (fun k => k ≠ w.heap.size + 1 + 1) (by simp) (by simp))⟩, ⟨by repeat (first | exact Below.refl _ _ | refine below_drew ?_ | refine below_alloc ?_ _)⟩⟩
  case rest =>
    obtain ⟨b, v, rfl, hb2, g0, g1, e0, r0, r1, q0, q1, HS, HB'⟩ := hcut
    obtain ⟨A1, c1, hv⟩ := Kd.R_slice (Kd.S_R HS.out)
    rw [List.length_replicate] at hv
    subst hv
    go_wp2_with fail
    go_loopg [16] l.length (fun kq v16 w' => ∃ (i : Int) (x : List S35), v16 = .int .i64 i ∧ 0 ≤ i ∧ i ≤ (l.length : Int) ∧ kq + i.toNat = l.length ∧ x.length = l.length ∧ x.take i.toNat = l.take i.toNat ∧ w'.cell? ⟨b, 0, none⟩ = some (.slice A1 l.length c1) ∧ w'.cell? ⟨b, 1, none⟩ = some (.int .i64 h0) ∧ w'.cell? ⟨w.heap.size + 1, 0, none⟩ = some (.slice none 0 0) ∧ w'.cell? ⟨w.heap.size + 1, 1, none⟩ = some (.int .i64 0) ∧ w'.frozen? ⟨w.heap.size + 1, 0, none⟩ = false ∧ w'.frozen? ⟨w.heap.size + 1, 1, none⟩ = false ∧ Aside0 (Kd.S k35 35 w' (w.heap.size + 2) (fun k => k ≠ b) (.slice A1 l.length c1) x) ∧ Aside0 (Below w.heap.size w w'))
    case atStart => exact ⟨0, _, rfl, by omega, by omega, by simp, by simp, by simp, g0, g1, r0, r1, q0, q1, HS, HB'⟩
    case round =>
      clear g0 g1 r0 r1 q0 q1 HS HB' HB
      obtain ⟨i, x, rfl, p0, ple, hki, hxl, htk, g0, g1, r0, r1, q0, q1, HS, HB⟩ := hrel
      by_cases hlt : i < (l.length : Int)
      · obtain ⟨k1, rfl⟩ : ∃ k1, gk = k1 + 1 := ⟨gk - 1, by omega⟩
        have cc : decide (i < (l.length : Int)) = true := decide_eq_true (by omega)
        obtain ⟨ad, A3, c3, eA, x0, x1, x2, x3, hl3, hi3⟩ := at_T35 HR.out i p0 hlt
        subst eA
        replace x0 := (HB.out.cell (World.block_lt_of_cell? w _ x0)).trans x0
        replace x1 := (HB.out.cell (World.block_lt_of_cell? w _ x1)).trans x1
        replace x2 := (HB.out.cell (World.block_lt_of_cell? w _ x2)).trans x2
        replace x3 := (HB.out.cell (World.block_lt_of_cell? w _ x3)).trans x3
        have HI := Aside0.mk hi3
        clear hi3
        have p0' := eq_true p0
        have q0' := eq_true hlt
        go_wp2_with fail
        have hb1 := World.block_lt_of_cell? _ _ g0
        obtain ⟨g, co, eo, gb, gl, cells, HG⟩ := Kd.S_form HS.out (by omega)
        injection eo with ea en ec
        clear en
        subst ea ec
        generalize hmt : (rd_T35 l i).f0 = t0 at *
        generalize hm1 : (rd_T35 l i).f1 = t1 at *
        generalize hm2 : (rd_T35 l i).f2 = t2 at *
        have hf3 : (rd_T35 l i).f3.length ≤ 1048576 := hs _ (by unfold rd_T35; rw [List.getD_eq_getElem?_getD, List.getElem?_eq_getElem (by omega)]; simp)
        generalize hm3 : (rd_T35 l i).f3 = t3 at *
        obtain ⟨_, ce, hcl, hM, hcc, hfr, _, _⟩ := Kd.S_elem HS.out z35 i p0 (by omega)
        obtain ⟨ve, rfl, _⟩ := k35_openM hM
        have y0 : wr.cell? ⟨g, i.toNat * 4, none⟩ = some (.int .i64 (x.getD i.toNat z35).f0) := hcc 0 _ rfl
        have y1 : wr.cell? ⟨g, i.toNat * 4 + 1, none⟩ = some (.int .i64 (x.getD i.toNat z35).f1) := hcc 1 _ rfl
        have y2 : wr.cell? ⟨g, i.toNat * 4 + 2, none⟩ = some (.string (x.getD i.toNat z35).f2) := hcc 2 _ rfl
        have y3 : wr.cell? ⟨g, i.toNat * 4 + 3, none⟩ = some ve := hcc 3 _ rfl
        have z0 : wr.frozen? ⟨g, i.toNat * 4, none⟩ = false := hfr 0
        have z1 : wr.frozen? ⟨g, i.toNat * 4 + 1, none⟩ = false := hfr 1
        have z2 : wr.frozen? ⟨g, i.toNat * 4 + 2, none⟩ = false := hfr 2
        have z3 : wr.frozen? ⟨g, i.toNat * 4 + 3, none⟩ = false := hfr 3
        have hS := Aside0.mk HS.out
        have gl' := Aside0.mk gl
        have hkk := Aside0.mk (And.intro hki (And.intro hxl htk))
        have hmm := Aside0.mk (show (⟨t0, t1, t2, t3⟩ : S35) = l.getD i.toNat z35 by rw [← hmt, ← hm1, ← hm2, ← hm3]; rfl)
        have hss := Aside0.mk hs
        have hll := Aside0.mk hl
        have hgb := Aside0.mk gb
        clear hki htk hmt hm1 hm2 hm3 hs hl gb ple
        have hG := Aside0.mk HG
        clear hM hcc hfr hcl HS HG
        have p4 : decide (i < (l.length : Int)) = true := decide_eq_true hlt
        have hb1 : b < wr.heap.size := World.block_lt_of_cell? _ _ g0
        have hBA := Aside0.mk (below_alloc (Below.refl wr.heap.size wr) (Obj.cells #[.int .i64 t0, .int .i64 t1, .string t2, .slice A3 t3.length c3] 35))
        have nbg : b ≠ g := fun e => (Kd.S_R hS.out).1 g rfl e.symm
        have nwg : wr.heap.size ≠ g := by omega
        have K0 : (wr.alloc (Obj.cells #[.int .i64 t0, .int .i64 t1, .string t2, .slice A3 t3.length c3] 35)).drew.cell? ⟨b, 0, none⟩ = some (.slice (some ⟨g, 0, none⟩) l.length c1) := ((below_drew hBA.out).cell hb1).trans g0
        have K1 : (wr.alloc (Obj.cells #[.int .i64 t0, .int .i64 t1, .string t2, .slice A3 t3.length c3] 35)).drew.cell? ⟨wr.heap.size, 0, none⟩ = some (.int .i64 t0) := by go_simp
        have K2 : (wr.alloc (Obj.cells #[.int .i64 t0, .int .i64 t1, .string t2, .slice A3 t3.length c3] 35)).drew.cell? ⟨wr.heap.size, 1, none⟩ = some (.int .i64 t1) := by go_simp
        have K3 : (wr.alloc (Obj.cells #[.int .i64 t0, .int .i64 t1, .string t2, .slice A3 t3.length c3] 35)).drew.cell? ⟨wr.heap.size, 2, none⟩ = some (.string t2) := by go_simp
        have K4 : (wr.alloc (Obj.cells #[.int .i64 t0, .int .i64 t1, .string t2, .slice A3 t3.length c3] 35)).drew.cell? ⟨wr.heap.size, 3, none⟩ = some (.slice A3 t3.length c3) := by go_simp
        go_region_held3 (fun w' => w'.cell? ⟨b, 0, none⟩ = some (.slice (some ⟨g, 0, none⟩) l.length c1) ∧ w'.cell? ⟨wr.heap.size, 0, none⟩ = some (.int .i64 t0) ∧ w'.cell? ⟨wr.heap.size, 1, none⟩ = some (.int .i64 t1) ∧ w'.cell? ⟨wr.heap.size, 2, none⟩ = some (.string t2) ∧ w'.cell? ⟨wr.heap.size, 3, none⟩ = some (.slice A3 t3.length c3))
          ((first | exact ⟨K0, K1, K2, K3, K4⟩ | exact ⟨pw_cell_below hb K0, pw_cell_below hb K1, pw_cell_below hb K2, pw_cell_below hb K3, pw_cell_below hb K4⟩ | exact ⟨by (repeat (refine cell_off nbg _ ?_)); exact pw_cell_below hb K0, by (repeat (refine cell_off nwg _ ?_)); exact pw_cell_below hb K1, by (repeat (refine cell_off nwg _ ?_)); exact pw_cell_below hb K2, by (repeat (refine cell_off nwg _ ?_)); exact pw_cell_below hb K3, by (repeat (refine cell_off nwg _ ?_)); exact pw_cell_below hb K4⟩ | go_keep))
          ((go_at_call 62; refine (impl_copyEntry.to t0 t1 t2 A3 c3 t3 _ (by repeat (first | exact Kd.C_below HI.out HB.out | refine Kd.C_drew ?_ | refine Kd.C_alloc ?_ _)) hf3).mono ?_; rintro e2 w2 ⟨vv, rfl, R2, hb⟩; obtain ⟨A5, c5, rfl⟩ := Kd.R_slice R2; have Y0 := pw_cell_below hb (((below_drew hBA.out).cell (p := ⟨g, i.toNat * 4, none⟩) gl).trans y0); have Y1 := pw_cell_below hb (((below_drew hBA.out).cell (p := ⟨g, i.toNat * 4 + 1, none⟩) gl).trans y1); have Y2 := pw_cell_below hb (((below_drew hBA.out).cell (p := ⟨g, i.toNat * 4 + 2, none⟩) gl).trans y2); have Y3 := pw_cell_below hb (((below_drew hBA.out).cell (p := ⟨g, i.toNat * 4 + 3, none⟩) gl).trans y3); have hgl : g < (wr.alloc (Obj.cells #[.int .i64 t0, .int .i64 t1, .string t2, .slice A3 t3.length c3] 35)).drew.heap.size := (by simp; omega); have Z0 := (hb.frozen (p := ⟨g, i.toNat * 4, none⟩) hgl).trans (((below_drew hBA.out).frozen (p := ⟨g, i.toNat * 4, none⟩) gl).trans z0); have Z1 := (hb.frozen (p := ⟨g, i.toNat * 4 + 1, none⟩) hgl).trans (((below_drew hBA.out).frozen (p := ⟨g, i.toNat * 4 + 1, none⟩) gl).trans z1); have Z2 := (hb.frozen (p := ⟨g, i.toNat * 4 + 2, none⟩) hgl).trans (((below_drew hBA.out).frozen (p := ⟨g, i.toNat * 4 + 2, none⟩) gl).trans z2); have Z3 := (hb.frozen (p := ⟨g, i.toNat * 4 + 3, none⟩) hgl).trans (((below_drew hBA.out).frozen (p := ⟨g, i.toNat * 4 + 3, none⟩) gl).trans z3)))
        all_goals (
          have HR5 := Kd.R_lower (Kd.R_mono (ok' := fun k => k ≠ b) (Kd.R_bound R2) (fun k hk => by have := hk.2.1; simp at this; omega)) (base' := w.heap.size + 2) (by simp; omega)
          have HO := Kd.S_elder' (Kd.S_drew (Kd.S_alloc hS.out (Obj.cells #[.int .i64 t0, .int .i64 t1, .string t2, .slice A3 t3.length c3] 35))) (Kd.R_base R2) hb
          have HX : Kd.S k35 35 w2 (w.heap.size + 2) (fun k => k ≠ b ∧ ¬ (some k = (Value.slice A5 t3.length c5).ownBlock)) (.slice (some ⟨g, 0, none⟩) l.length c1) x := HO
          obtain ⟨oki, ce, hcl, hM, hcc, hfr, hoki, hH⟩ := Kd.S_elem HX z35 i p0 hlt
          obtain ⟨ve2, rfl, ge2⟩ := k35_openM hM
          have HT := Kd.R_mono (ok' := fun k => k ≠ b ∧ k ≠ g) (Kd.R_apart' HR5 (Kd.S_typed HO) (by decide)) (fun k hk => ⟨hk.1, fun e => hk.2 (by rw [e]; rfl)⟩)
          have HP := Kd.S_seg hH p0 hlt (seg := [.int .i64 t0, .int .i64 t1, .string t2, (Value.slice A5 t3.length c5)]) (j := 0) (show 4 ≤ 4 from by decide) (x' := (⟨t0, t1, t2, t3⟩ : S35)) (k35_mkM _ _ _ (⟨t0, t1, t2, t3⟩ : S35) (Kd.R_mono (Kd.R_tight rfl HT) (fun _ h => Or.inr h))) (fun _ hk => hk) (fun k hk => HT.1 k hk.symm)
          have hr1 : w.heap.size + 1 < wr.heap.size := World.block_lt_of_cell? _ _ r0
          have nrg : w.heap.size + 1 ≠ g := by have := hgb.out; omega
          have HB2 := below_into (w := w) hb (below_drew (below_alloc HB.out (Obj.cells #[.int .i64 t0, .int .i64 t1, .string t2, .slice A3 t3.length c3] 35)))
          have hlw : w.heap.size + 1 < (wr.alloc (Obj.cells #[.int .i64 t0, .int .i64 t1, .string t2, .slice A3 t3.length c3] 35)).drew.heap.size := by simp; omega
          generalize hwf : ((((w2.setCell ⟨g, i.toNat * 4, none⟩ (Value.int IntKind.i64 t0)).setCell ⟨g, i.toNat * 4 + 1, none⟩ (Value.int IntKind.i64 t1)).setCell ⟨g, i.toNat * 4 + 2, none⟩ (Value.string t2)).setCell ⟨g, i.toNat * 4 + 3, none⟩ (Value.slice A5 t3.length c5)) = wf
          have HPf : Kd.S k35 35 wf (w.heap.size + 2) (fun k => k ≠ b) (.slice (some ⟨g, 0, none⟩) l.length c1) (x.set i.toNat (⟨t0, t1, t2, t3⟩ : S35)) := by rw [← hwf]; exact HP.1
          have G0 : wf.cell? ⟨b, 0, none⟩ = some (.slice (some ⟨g, 0, none⟩) l.length c1) := by rw [← hwf]; (repeat (refine cell_off nbg _ ?_)); exact pw_cell_below hb K0
          have G1 : wf.cell? ⟨b, 1, none⟩ = some (.int .i64 h0) := by rw [← hwf]; (repeat (refine cell_off nbg _ ?_)); exact pw_cell_below hb (((below_drew hBA.out).cell hb1).trans g1)
          have R0 : wf.cell? ⟨w.heap.size + 1, 0, none⟩ = some (.slice none 0 0) := by rw [← hwf]; (repeat (refine cell_off nrg _ ?_)); exact pw_cell_below hb (((below_drew hBA.out).cell hr1).trans r0)
          have R1 : wf.cell? ⟨w.heap.size + 1, 1, none⟩ = some (.int .i64 0) := by rw [← hwf]; (repeat (refine cell_off nrg _ ?_)); exact pw_cell_below hb (((below_drew hBA.out).cell hr1).trans r1)
          have Q0 : wf.frozen? ⟨w.heap.size + 1, 0, none⟩ = false := by rw [← hwf]; (repeat (refine frozen_off nrg _ ?_)); exact (hb.frozen (p := ⟨w.heap.size + 1, 0, none⟩) hlw).trans (((below_drew hBA.out).frozen (p := ⟨w.heap.size + 1, 0, none⟩) hr1).trans q0)
          have Q1 : wf.frozen? ⟨w.heap.size + 1, 1, none⟩ = false := by rw [← hwf]; (repeat (refine frozen_off nrg _ ?_)); exact (hb.frozen (p := ⟨w.heap.size + 1, 1, none⟩) hlw).trans (((below_drew hBA.out).frozen (p := ⟨w.heap.size + 1, 1, none⟩) hr1).trans q1)
          have HBf : Below w.heap.size w wf := by rw [← hwf]; (repeat (refine below_set ?_ (by have := hgb.out; simp <;> omega))); exact HB2
          have hwr : IntKind.i64.wrap (i + 1) = i + 1 := wrap_add1 i p0 (by have := hll.out; omega)
          clear hwf HP HT ge2 hH hoki hfr hcc hM hcl HX HO HR5 Y0 Y1 Y2 Y3 Z0 Z1 Z2 Z3 R2 hb K0 K1 K2 K3 K4 g0 g1 r0 r1 q0 q1 HB hBA y0 y1 y2 y3 z0 z1 z2 z3 x0 x1 x2 x3
          go_wp2_with fail
          go_roundg k1
          case measure => omega
          case rel =>
            obtain ⟨h1, h2, h3⟩ := hkk.out
            refine ⟨i + 1, x.set i.toNat (⟨t0, t1, t2, t3⟩ : S35), (by first | rfl | (simp; done) | (simp [*]; done)), by omega, by omega, by omega, by simpa using h2, ?_, G0, G1, R0, R1, Q0, Q1, ⟨HPf⟩, ⟨HBf⟩⟩
            rw [show (i + 1).toNat = i.toNat + 1 by omega, hmm.out]
            exact take_fill1 x l z35 i.toNat (by omega) h2 h3)
      · have cc : decide (i < (l.length : Int)) = false := decide_eq_false (by omega)
        have hx : x = l := by
          rw [List.take_of_length_le (by omega), List.take_of_length_le (by omega)] at htk
          exact htk
        subst hx
        go_wp2_with fail
        refine bodyPost_ret (v := .agg #[.slice A1 x.length c1, .int .i64 h0]) (by simp [results, Tryd.results51, go_sem]; go_simp) rfl ⟨_, rfl, ?_, ?_⟩
        · refine Kd.S_mono (ok := fun k => w.heap.size + 2 ≤ k) ?_ (fun _ _ => trivial)
          (repeat (refine Kd.S_far ?_ (fun k hk => by simp; omega) _))
          exact Kd.S_lower (Kd.S_mono (Kd.S_bound HS.out) (fun k hk => hk.2.1)) (by omega)
        · (repeat (refine below_set ?_ (by simp <;> omega)))
          exact HB.out
open Classical in
noncomputable def impl_copyLedger.f (l : List S35) (h : Int) : Option (List S35 × Int) := if l.length ≤ 1048576 ∧ ∀ y ∈ l, y.f3.length ≤ 1048576 then some (l, h) else none
theorem impl_copyLedger.calls (A0_0 : Option Addr) (c0_0 : Nat) (l0_0 : List S35) (a0_1 : Int) (r1 : List S35) (r2 : Int) (w : World) (hr0_0 : Kd.C k35 w A0_0 l0_0.length l0_0) (hc0_0 : l0_0.length ≤ c0_0) (h : impl_copyLedger.f l0_0 a0_1 = some (r1, r2)) :
    Calls Tryd.prog 51 #[.agg #[.slice A0_0 l0_0.length c0_0, .int .i64 a0_1]] w fun e w' => ∃ v0_ : Value, e = .returned (.agg #[v0_, .int .i64 r2]) ∧ Kd.S k35 35 w' w.heap.size (fun _ => True) v0_ r1 ∧ Below w.heap.size w w' := by
  unfold impl_copyLedger.f at h
  split at h
  · rename_i hl
    simp only [Option.some.injEq, Prod.mk.injEq] at h
    obtain ⟨rfl, rfl⟩ := h
    exact impl_copyLedger.to A0_0 c0_0 a0_1 l0_0 w hr0_0 hl.1 hl.2
  · cases h
noncomputable def spec_l5Entries.l0 : Nat → List (S35) → List (S35) → Int → Option ((List (S35)))
  | 0, _, _, _ => none
  | k + 1, x0, x3, x4 => if x4 < (x0.length : Int) then (if 0 ≤ x4 then ((spec_l5Entry.f ((rd_T35 x0 x4).f0) ((rd_T35 x0 x4).f1) ((rd_T35 x0 x4).f2) ((rd_T35 x0 x4).f3)).bind fun bt59005 => (if x3.length < 2513169434916 then (spec_l5Entries.l0 k x0 (x3 ++ [(⟨bt59005.1, bt59005.2.1, bt59005.2.2.1, bt59005.2.2.2⟩ : S35)]) (wrap64 (x4 + 1))) else (none))) else (none)) else (some x3)
noncomputable def spec_l5Entries.f (k : Nat) (l0 : List (S35)) : Option ((List (S35))) := spec_l5Entries.l0 k l0 (([] : List (S35))) 0
set_option maxHeartbeats 8000000 in
set_option maxRecDepth 100000 in
theorem spec_l5Entries.calls (k : Nat) (A0 : Option Addr) (c0 : Nat) (l0 : List (S35)) (r : List (S35)) (w : World) (hr0 : Kd.C k35 w A0 l0.length l0) (hc0 : l0.length ≤ c0) (h : spec_l5Entries.f k l0 = some r) :
    Calls Tryd.prog 58 #[.slice A0 l0.length c0] w fun e w' => ∃ v0_ : Value, e = .returned (v0_) ∧ Kd.S k35 35 w' w.heap.size (fun _ => True) v0_ r ∧ Below w.heap.size w w' := by
  have hu35 := Tryd.underlying35
  have HR0 := Aside0.mk hr0
  have HC0 := Aside0.mk hc0
  clear hr0 hc0
  have HB := Aside0.mk (Below.refl w.heap.size w)
  have H : (spec_l5Entries.l0 k l0 (([] : List (S35))) 0) = some r := h
  clear h
  obtain ⟨y59001, hy59001⟩ : ∃ y_ : List (S35), y_ = (([] : List (S35))) := ⟨_, rfl⟩
  replace H : (spec_l5Entries.l0 k l0 y59001 0) = some r := by first | (rw [hy59001]; with_reducible exact H) | (have H2_ := (Option.bind_some _ _).symm.trans H; rw [hy59001]; with_reducible exact H2_) | (have H2_ := (Option.bind_some _ _).symm.trans H; with_reducible exact H2_) | with_reducible exact H | (rw [hy59001]; exact H) | exact H
  have Ny59001 := Aside0.mk hy59001
  clear hy59001
  have H' := Aside0.mk H
  clear H
  go_enter Tryd.func58, Tryd.ntmps58
  go_wp2_with (first | ((with_reducible refine gate_dst (N := 5) rfl ?_); refine Kd.S_lit k35 _ 35 ?hg (N := 5) ?hd (xs := ([] : List (S35))) (inner := []) (ok := fun _ => True) (okp := fun _ => True) ?hr ?hp (fun _ hk => hk) trivial (Below.refl _ _) (Nat.le_refl _) (by simp) ?_; (case hd => rfl); (case hg => rfl); (case hr => first | (go_simp; done) | (go_simp; rfl)); (case hp => exact (Reps.none _ _)); intro v59002 w2 ho3 hb hg_ hnew_; clear hg_ hnew_; (first | rw [← Ny59001.out] at ho3 | (simp only [Int.reduceToNat] at ho3; rw [← Ny59001.out] at ho3)); have n0_ := Aside0.mk (Kd.S_lower ho3 (below_size (by repeat (first | (with_reducible first | exact HB.out | apply below_alloc | apply pw_below_drewN | apply below_drew1) | exact HB.out)))); have n1_ := Aside0.mk (below_step (by repeat (first | (with_reducible first | exact HB.out | apply below_alloc | apply pw_below_drewN | apply below_drew1) | exact HB.out)) hb); clear HB; have HO59003 := n0_; have HB := n1_; clear n0_ n1_; clear hb ho3))
  go_loopg [3, 4] k (fun kq v3 v4 w' => ∃ (x3_1 : List (S35)) (x4_1 : Int), v4 = .int .i64 x4_1 ∧ Aside0 (spec_l5Entries.l0 kq l0 x3_1 x4_1 = some r) ∧ Aside0 (kq ≤ k) ∧ Aside0 (Kd.S k35 35 w' w.heap.size (fun _ => True) v3 x3_1) ∧ Aside0 (Below w.heap.size w w'))
  case atStart => exact ⟨(y59001), (0), (by first | rfl | (simp; done) | (simp [*]; done)), H', ⟨Nat.le_refl _⟩, ⟨by (with_reducible repeat (first | apply Kd.S_alloc | apply Kd.S_drewN | apply Kd.S_drew)); exact HO59003.out⟩, ⟨by repeat (first | (with_reducible first | exact HB.out | apply below_alloc | apply pw_below_drewN | apply below_drew1) | exact HB.out)⟩⟩
  case round =>
    clear H'
    try clear p2
    obtain ⟨x3_1, x4_1, rfl, HA, HK1, HO_3, HB⟩ := hrel
    cases gk with
    | zero => exact absurd HA.out (by simp [spec_l5Entries.l0])
    | succ k1 =>
      have H := HA.out
      clear HA
      simp only [spec_l5Entries.l0] at H
      by_cases c4 : x4_1 < (l0.length : Int)
      · rw [if_pos c4] at H
        have c4b0 : decide (x4_1 < (l0.length : Int)) = true := decide_eq_true c4
        clear c4
        by_cases c5 : 0 ≤ x4_1
        · rw [if_pos c5] at H
          have c5b0 : decide (0 ≤ x4_1) = true := decide_eq_true c5
          clear c5
          replace H := Option.bind_eq_some_iff.mp H
          obtain ⟨⟨t59005, t59006, t59007, t59008⟩, A60, H⟩ := H
          replace H : (if x3_1.length < 2513169434916 then (spec_l5Entries.l0 k1 l0 (x3_1 ++ [(⟨t59005, t59006, t59007, t59008⟩ : S35)]) (wrap64 (x4_1 + 1))) else (none)) = some r := H
          have A6 := Aside0.mk A60
          clear A60
          by_cases c7 : x3_1.length < 2513169434916
          · rw [if_pos c7] at H
            have LMc7 := Aside0.mk c7
            clear c7
            obtain ⟨y59011, hy59011⟩ : ∃ y_ : List (S35), y_ = (x3_1 ++ [(⟨t59005, t59006, t59007, t59008⟩ : S35)]) := ⟨_, rfl⟩
            replace H : (spec_l5Entries.l0 k1 l0 y59011 (wrap64 (x4_1 + 1))) = some r := by first | (rw [hy59011]; with_reducible exact H) | (have H2_ := (Option.bind_some _ _).symm.trans H; rw [hy59011]; with_reducible exact H2_) | (have H2_ := (Option.bind_some _ _).symm.trans H; with_reducible exact H2_) | with_reducible exact H | (rw [hy59011]; exact H) | exact H
            have Ny59011 := Aside0.mk hy59011
            clear hy59011
            have H' := Aside0.mk H
            clear H
            have p59004 : 0 ≤ (x4_1 : Int) := of_decide_eq_true (by first | (with_reducible assumption) | assumption)
            have q59004 : x4_1 < (l0.length : Int) := of_decide_eq_true (by first | (with_reducible assumption) | assumption)
            obtain ⟨ad59004, A59004_3, c59004_3, e59004, hx59004_0, hx59004_1, hx59004_2, hx59004_3, hl59004_3, hi59004_3⟩ := at_T35 HR0.out x4_1 p59004 q59004
            cases e59004
            replace hx59004_0 := (HB.out.cell (World.block_lt_of_cell? w _ hx59004_0)).trans hx59004_0
            replace hx59004_1 := (HB.out.cell (World.block_lt_of_cell? w _ hx59004_1)).trans hx59004_1
            replace hx59004_2 := (HB.out.cell (World.block_lt_of_cell? w _ hx59004_2)).trans hx59004_2
            replace hx59004_3 := (HB.out.cell (World.block_lt_of_cell? w _ hx59004_3)).trans hx59004_3
            have HR59004_3 := Aside0.mk hi59004_3
            have HC59004_3 := Aside0.mk hl59004_3
            clear hi59004_3 hl59004_3
            replace p59004 := eq_true p59004
            replace q59004 := eq_true q59004
            go_wp2_with (first | ((with_reducible refine gate_callee (f := 45) rfl ?_); refine goesL_ (some 17) rfl rfl Tryd.func45 (by kernel_rfl) rfl #[.agg #[.int .i64 ((rd_T35 l0 x4_1).f0), .int .i64 ((rd_T35 l0 x4_1).f1), .string ((rd_T35 l0 x4_1).f2), .slice A59004_3 ((rd_T35 l0 x4_1).f3).length c59004_3]] rfl (by (try simp only [List.map_toArray, List.map_cons, List.map_nil]); first | done | rfl | (simp only [List.length_drop, List.length_take]; rfl)) ?_; (with_reducible refine (spec_l5Entry.calls ((rd_T35 l0 x4_1).f0) ((rd_T35 l0 x4_1).f1) ((rd_T35 l0 x4_1).f2) _ _ ((rd_T35 l0 x4_1).f3) t59005 t59006 t59007 t59008 _ ?side1 ?side2 A6.out).mono ?_); (case side1 => repeat (first | exact (Kd.C_below HR59004_3.out HB.out) | (with_reducible refine Kd.C_alloc ?_ _) | (with_reducible refine Kd.C_drewN ?_ _) | (with_reducible refine Kd.C_drew ?_))); (case side2 => exact HC59004_3.out); rintro e w8 ⟨v59009, rfl, ho0, hb⟩; refine ⟨_, rfl, ?_⟩; have n0_ := Aside0.mk (Kd.S_elder' (by (with_reducible repeat (first | apply Kd.S_alloc | apply Kd.S_drewN | apply Kd.S_drew)); exact HO_3.out) (Kd.R_base ho0) hb); have n1_ := Aside0.mk (Kd.R_lower ho0 (below_size (by repeat (first | (with_reducible first | exact HB.out | apply below_alloc | apply pw_below_drewN | apply below_drew1) | exact HB.out)))); have n2_ := Aside0.mk (below_step (by repeat (first | (with_reducible first | exact HB.out | apply below_alloc | apply pw_below_drewN | apply below_drew1) | exact HB.out)) hb); clear HO_3; clear HB; have HO_3 := n0_; have HO59010 := n1_; have HB := n2_; clear n0_ n1_ n2_; (try clear hb); (try clear hb2); (try clear hk); (try clear hi); (try clear ho0); obtain ⟨Ao10, co10, eo10⟩ := Kd.R_slice HO59010.out; subst eo10) | ((with_reducible refine gate_builtin (b := .append) (xs := #[.tmp 12, .tmp 18]) rfl ?_); at_builtin; refine Kd.S_append k35 (w0 := w) w.heap.size rfl (.tmp 12) (.tmp 18) 27 35 (.agg #[(.int .i64 0), (.int .i64 0), (.string ⟨#[]⟩), (.slice none 0 0)]) 56 rfl Tryd.underlying27 info35 rfl (by decide) (by omega) u3 x3_1 (⟨t59005, t59006, t59007, t59008⟩ : S35) [.int .i64 t59005, .int .i64 t59006, .string t59007, .slice Ao10 t59008.length co10] (fun _ => True) (fun k_ => some k_ = (.slice Ao10 t59008.length co10 : Value).ownBlock) rfl rfl ?aP (fun k_ hk_ => ((Kd.R_mono (ok' := fun k_ => ((fun _ => True)) k_ ∧ some k_ ≠ (u3 : Value).ownBlock) (Kd.R_apart' (HO59010.out) (Kd.S_typed HO_3.out) (by decide)) (fun k_ hk => ⟨trivial, hk.2⟩))).1 k_ hk_.symm) ?aF ?aO ?aB ?aS ?aL ?_; (case aP => exact k35_mkM _ _ _ (⟨t59005, t59006, t59007, t59008⟩ : S35) (Kd.R_mono (Kd.R_tight rfl (Kd.R_mono (ok' := fun k_ => ((fun _ => True)) k_ ∧ some k_ ≠ (u3 : Value).ownBlock) (Kd.R_apart' (HO59010.out) (Kd.S_typed HO_3.out) (by decide)) (fun k_ hk => ⟨trivial, hk.2⟩))) (fun _ h_ => h_))); (case aB => exact (by repeat (first | (with_reducible first | exact HB.out | apply below_alloc | apply pw_below_drewN | apply below_drew1) | exact HB.out))); (case aF => exact (fun _ _ => trivial)); (case aO => exact (by (with_reducible repeat (first | apply Kd.S_alloc | apply Kd.S_drewN | apply Kd.S_drew)); exact Kd.S_mono HO_3.out (fun k_ hk => ⟨trivial, fun e_ => hk.2 e_⟩))); (case aS => exact (below_size (by repeat (first | (with_reducible first | exact HB.out | apply below_alloc | apply pw_below_drewN | apply below_drew1) | exact HB.out)))); (case aL => have := LMc7.out; omega); intro v59012 w9 ho hb hg hat; rw [← Ny59011.out] at ho; have n0_ := Aside0.mk (hb); have n1_ := Aside0.mk (ho); clear HB; clear HO_3; clear HO59010; have HB := n0_; have HO59013 := n1_; clear n0_ n1_; clear ho hb hg hat))
            go_roundg k1
            case measure => have := HK1.out; omega
            case rel => exact ⟨(y59011), (wrap64 (x4_1 + 1)), (by first | rfl | (simp; done) | (simp [*]; done)), H', ⟨by have := HK1.out; omega⟩, ⟨by (with_reducible repeat (first | apply Kd.S_alloc | apply Kd.S_drewN | apply Kd.S_drew)); exact HO59013.out⟩, ⟨by repeat (first | (with_reducible first | exact HB.out | apply below_alloc | apply pw_below_drewN | apply below_drew1) | exact HB.out)⟩⟩
          · rw [if_neg c7] at H
            exact absurd H (by simp)
        · rw [if_neg c5] at H
          exact absurd H (by simp)
      · rw [if_neg c4] at H
        have c4b0 : decide (x4_1 < (l0.length : Int)) = false := decide_eq_false c4
        clear c4
        obtain rfl := Option.some.inj H
        go_wp2
        go_ret
        exact ⟨_, by first | rfl | (simp [errW_none, errW_some] <;> rfl) | (simp [*, errW_none, errW_some] <;> rfl), by (with_reducible repeat (first | apply Kd.S_alloc | apply Kd.S_drewN | apply Kd.S_drew)); exact HO_3.out, by repeat (first | (with_reducible first | exact HB.out | apply below_alloc | apply pw_below_drewN | apply below_drew1) | exact HB.out)⟩
end Go.Proofs.YtjkjjfbcakbmnaaDoor.Q
