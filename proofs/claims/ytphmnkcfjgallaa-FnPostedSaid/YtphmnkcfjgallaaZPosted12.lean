/- Parts of the proof: what functions of the program and of the reference answer.
   No condition. -/
import Derived.Test.YtphmnkcfjgallaaZPosted1
import Derived.Test.YtphmnkcfjgallaaZPosted9
import Derived.Laws.CopyRow
import Derived.Lib.SlBuf
import Derived.Deep.DeepCutAuto
import Derived.Test.YtphmnkcfjgallaaZPosted3
import Derived.Test.YtphmnkcfjgallaaZPosted8
namespace Go.Proofs.Ytphmnkcfjgallaa.Q
open Go.RowKit Go.Proofs.YtphmnkcfjgallaaW.PrintWords Go.Proofs.YtphmnkcfjgallaaW.PrintLast Go.Proofs.YtphmnkcfjgallaaW.PrintMore
attribute [local go_sem] max2_int min2_int max_two min_two max_three min_three max_four min_four   -- for this text's walks alone
set_option linter.unusedVariables false
set_option linter.unusedSimpArgs false
theorem R_copy {α : Type} (P : Program) (d : Kd α) {Rr : α → List Value → Prop} {W : World} {base e g n cap sCap : Nat} {ad : Addr} {xs ys : List α} {ok : Nat → Prop} (HO : d.R e W base ok (.slice (some ⟨g, 0, none⟩) n cap) xs) (HR : ReadsRow Rr d.sz W (some ad) n ys)
    (hKM : ∀ (w : World) x cs, Rr x cs → d.M w base (fun _ => False) x cs) (hs0 : 0 < d.sz) (dT sT ty : TypeId) (hu : P.underlying dT = some (.slice e)) (hs : (P.info? e).map (·.size) = some d.sz) :
    ∃ w1, (Builtin.copy_ #[dT, sT] ty #[.slice (some ⟨g, 0, none⟩) n cap, .slice (some ad) n sCap]).run P W = .ok (goInt n) w1 ∧ d.R e w1 base ok (.slice (some ⟨g, 0, none⟩) n cap) ys ∧ W.grownBy w1 (some g) := by
  obtain ⟨news, hnr, hnc⟩ := ReadsRow.inner_ HR
  have hyl : ys.length = n := HR.1
  subst hyl
  have hnl : news.length = ys.length * d.sz := hnr.1
  have hxl := (Kd.R_reads' HO).1
  obtain ⟨hok, inner, ⟨hil, hown⟩, hr⟩ := HO
  rcases hown with ⟨h, _⟩ | ⟨g', cap', cur, hv, hbase, hheap, hnc', hcm, hcs, htk⟩
  · cases h
  · injection hv with ha hn hc
    injection ha with ha
    injection ha with ha
    subst ha hc
    have hone : ∀ u ∈ news, u.oneCell' = true := by
      intro u hu
      obtain ⟨q, hq, rfl⟩ := List.mem_iff_getElem.1 hu
      have hql : q / d.sz < ys.length := by
        rw [Nat.div_lt_iff_lt_mul hs0, ← hnr.1]
        exact hq
      have hc := hnr.2 (q / d.sz) _ (List.getElem?_eq_getElem hql)
      refine d.K_one (d.K_of_M (hKM W _ _ hc)) _ ?_
      rw [List.mem_iff_getElem?]
      refine ⟨q % d.sz, ?_⟩
      rw [List.getElem?_take, if_pos (Nat.mod_lt _ hs0), List.getElem?_drop, Nat.mul_comm, Nat.div_add_mod, List.getElem?_eq_getElem hq]
    have hnc2 : ys.length ≤ cap := by omega
    have hle : ys.length * d.sz ≤ cur.size := by rw [hcs]; exact Nat.mul_le_mul_right _ hnc2
    have hl := run_loadCells_list (P := P) W ad news hnc
    have hst := run_storeCells_at P g 0 e news 0 cur W hheap (by rw [hnl]; omega) hone
    have hcells : (cur.toList.take (0 + 0) ++ news ++ cur.toList.drop (0 + 0 + news.length)) = news ++ cur.toList.drop news.length := by simp
    rw [hcells] at hst
    have hq : ∃ i0, P.info? e = some i0 ∧ i0.size = d.sz := by
      cases hq : P.info? e with
      | none => simp [hq] at hs
      | some i => exact ⟨i, rfl, by simpa [hq] using hs⟩
    obtain ⟨i0, hi0, hi1⟩ := hq
    refine ⟨W.setRow g (news ++ cur.toList.drop news.length).toArray, ?_, ⟨hok, news, ⟨hnl, .inr ⟨g, cap, _, rfl, hbase, setRow_heap W g cur _ e (0, 0) hheap, hnc2, hcm, ?_, ?_⟩⟩, ?_⟩, ?_⟩
    · simp [Builtin.copy_, run_underlying hu, Builtin.lenOf, Builtin.firstCells, sizeOf, typeInfo, hi0, hi1, ← hnl, hl, hst]
    · simp [← hcs]
      omega
    · simp [← hnl]
    · exact hnr.imp_ (fun p c hp => d.M_mono (fun _ hk => hk.elim) (hKM _ p c hp))
    · exact ⟨rfl, rfl, rfl, by simp, fun k hk hne => setRow_other W g k _ (fun e => hne (by rw [e]))⟩
theorem run_copy_zero (P : Program) (W : World) (dT sT ty e : TypeId) (D A : Option Addr) (cD cA : Nat) (hu : P.underlying dT = some (.slice e)) (hs : ((P.info? e).map (·.size)).isSome = true) :
    (Builtin.copy_ #[dT, sT] ty #[.slice D 0 cD, .slice A 0 cA]).run P W = .ok (goInt 0) W := by
  cases hq : P.info? e with
  | none => simp [hq] at hs
  | some i => cases D <;> cases A <;> simp [Builtin.copy_, run_underlying hu, Builtin.lenOf, Builtin.firstCells, sizeOf, typeInfo, hq, loadCells, loadCellsFrom, storeCells]
set_option maxHeartbeats 8000000 in
set_option maxRecDepth 100000 in
theorem impl_copyEntry.to (a0 a1 : Int) (a2 : ByteArray) (A : Option Addr) (c : Nat) (l : List Lin) (w : World) (hr : Kd.C k112 w A l.length l) (hl : l.length ≤ 1048576) :
    Calls Try.prog 76 #[.agg #[.int .i64 a0, .int .i64 a1, .string a2, .slice A l.length c]] w fun e w' => ∃ v : Value, e = .returned (.agg #[.int .i64 a0, .int .i64 a1, .string a2, v]) ∧ Kd.R k112 112 w' w.heap.size (fun _ => True) v l ∧ Below w.heap.size w w' := by
  have HR := Aside0.mk hr
  have HB0 := Aside0.mk (below_two w (.cells #[.int .i64 a0, .int .i64 a1, .string a2, .slice A l.length c] 34) (.cells #[.int .i64 0, .int .i64 0, .string ⟨#[]⟩, .slice none 0 0] 34))
  clear hr
  go_enter Try.func76, Try.ntmps76
  go_wp2_with ((with_reducible refine gate_dst (N := 7) rfl ?_); refine Kd.R_make k112 _ 112 rfl (N := 7) rfl 32 _ _ rfl (l.length : Int) rfl rfl Try.underlying32 (.agg #[(.int .i64 0), (.int .i64 0), (.int .i64 0), (.int .i64 0), (.int .i64 0)]) 40 info112 rfl (by decide) (by omega) z112 (ok := fun _ => True) (okp := fun _ => True) (k112_mkM _ _ _ z112) (fun _ hk => hk) trivial (by omega) (by simp; omega) (Below.refl _ _) (Nat.le_refl _) ?_; intro v1 w1 ho hb hg hnew; have f3 : w1.cell? ⟨w.heap.size, 3, none⟩ = some (.slice A l.length c) := pw_cell_below hb (by go_simp))
  have RR := Aside0.mk (Kd.R_lower (Kd.R_mono (ok' := fun k => w.heap.size + 2 ≤ k) (Kd.R_bound ho) (fun k hk => by have := hk.2.1; simpa using this)) (base' := w.heap.size) (by simp; omega))
  obtain ⟨A1, c1, hv⟩ := Kd.R_slice RR.out
  rw [List.length_replicate, Int.toNat_natCast] at hv
  subst hv
  have HB := Aside0.mk (below_into (w := w) hb HB0.out)
  have f0 : w1.cell? ⟨w.heap.size, 0, none⟩ = some (.int .i64 a0) := pw_cell_below hb (by go_simp)
  have f1 : w1.cell? ⟨w.heap.size, 1, none⟩ = some (.int .i64 a1) := pw_cell_below hb (by go_simp)
  have f2 : w1.cell? ⟨w.heap.size, 2, none⟩ = some (.string a2) := pw_cell_below hb (by go_simp)
  have g0 : w1.cell? ⟨w.heap.size + 1, 0, none⟩ = some (.int .i64 0) := pw_cell_below hb (by go_simp)
  have g1 : w1.cell? ⟨w.heap.size + 1, 1, none⟩ = some (.int .i64 0) := pw_cell_below hb (by go_simp)
  have g2 : w1.cell? ⟨w.heap.size + 1, 2, none⟩ = some (.string ⟨#[]⟩) := pw_cell_below hb (by go_simp)
  have g3 : w1.cell? ⟨w.heap.size + 1, 3, none⟩ = some (.slice none 0 0) := pw_cell_below hb (by go_simp)
  have z0 : w1.frozen? ⟨w.heap.size, 3, none⟩ = false := (hb.frozen (p := ⟨w.heap.size, 3, none⟩) (by simp; omega)).trans (by go_simp)
  have k0 : w1.frozen? ⟨w.heap.size + 1, 0, none⟩ = false := (hb.frozen (p := ⟨w.heap.size + 1, 0, none⟩) (by simp)).trans (by go_simp)
  have k1 : w1.frozen? ⟨w.heap.size + 1, 1, none⟩ = false := (hb.frozen (p := ⟨w.heap.size + 1, 1, none⟩) (by simp)).trans (by go_simp)
  have k2 : w1.frozen? ⟨w.heap.size + 1, 2, none⟩ = false := (hb.frozen (p := ⟨w.heap.size + 1, 2, none⟩) (by simp)).trans (by go_simp)
  have k3 : w1.frozen? ⟨w.heap.size + 1, 3, none⟩ = false := (hb.frozen (p := ⟨w.heap.size + 1, 3, none⟩) (by simp)).trans (by go_simp)
  have hz1 : w.heap.size + 1 < w1.heap.size := World.block_lt_of_cell? _ _ g0
  have hz0 : w.heap.size < w1.heap.size := by omega
  obtain ⟨w2, hrun, R2, hg2⟩ : ∃ w2, (Builtin.copy_ #[32, 32] 3 #[.slice A1 l.length c1, .slice A l.length c]).run Try.prog w1 = .ok (goInt l.length) w2 ∧ Kd.R k112 112 w2 w.heap.size (fun k => w.heap.size + 2 ≤ k) (.slice A1 l.length c1) l ∧ Below (w.heap.size + 2) w1 w2 := by
    by_cases h0 : l.length = 0
    · have hl0 : l = [] := List.eq_nil_of_length_eq_zero h0
      refine ⟨w1, ?_, ?_, Below.refl _ _⟩
      · rw [h0]; exact run_copy_zero Try.prog w1 32 32 3 112 A1 A c1 c Try.underlying32 (by kernel_rfl)
      · have := RR.out; rw [Int.toNat_natCast, h0] at this; rw [h0, hl0]; exact this
    · obtain ⟨g, cap, e1, hgb, _⟩ := Kd.R_form RR.out (by simp; omega)
      rw [List.length_replicate, Int.toNat_natCast] at e1
      injection e1 with ea _ ec
      subst ea ec
      have hgk := RR.out.1 g rfl
      obtain ⟨ad, hA, _⟩ := (Kd.C_below HR.out HB.out).2.2 (by omega)
      subst hA
      obtain ⟨w2, h1, h2, h3⟩ := R_copy Try.prog k112 (sCap := c) RR.out (Kd.C_below HR.out HB.out) (fun W x cs hk => by rw [k112_open hk]; exact k112_mkM _ _ _ _) (by decide) 32 32 3 Try.underlying32 (by kernel_rfl)
      exact ⟨w2, h1, h2, (Below.refl _ w1).grown h3 (by omega) (fun k hk => by injection hk with hk; omega)⟩
  have R2' := Aside0.mk R2
  have HB2 := Aside0.mk (HB.out.trans (hg2.mono (by omega)))
  replace f0 := (hg2.cell (p := ⟨w.heap.size, 0, none⟩) (by simp)).trans f0
  replace f1 := (hg2.cell (p := ⟨w.heap.size, 1, none⟩) (by simp)).trans f1
  replace f2 := (hg2.cell (p := ⟨w.heap.size, 2, none⟩) (by simp)).trans f2
  replace f3 := (hg2.cell (p := ⟨w.heap.size, 3, none⟩) (by simp)).trans f3
  replace g0 := (hg2.cell (p := ⟨w.heap.size + 1, 0, none⟩) (by simp)).trans g0
  replace g1 := (hg2.cell (p := ⟨w.heap.size + 1, 1, none⟩) (by simp)).trans g1
  replace g2 := (hg2.cell (p := ⟨w.heap.size + 1, 2, none⟩) (by simp)).trans g2
  replace g3 := (hg2.cell (p := ⟨w.heap.size + 1, 3, none⟩) (by simp)).trans g3
  replace k0 := (hg2.frozen (p := ⟨w.heap.size + 1, 0, none⟩) (by simp)).trans k0
  replace k1 := (hg2.frozen (p := ⟨w.heap.size + 1, 1, none⟩) (by simp)).trans k1
  replace k2 := (hg2.frozen (p := ⟨w.heap.size + 1, 2, none⟩) (by simp)).trans k2
  replace k3 := (hg2.frozen (p := ⟨w.heap.size + 1, 3, none⟩) (by simp)).trans k3
  have z0' := (hg2.frozen (p := ⟨w.heap.size, 3, none⟩) (by simp)).trans z0
  have hw2 : w.heap.size + 1 < w2.heap.size := World.block_lt_of_cell? _ _ g0
  have hw0 : w.heap.size < w2.heap.size := by omega
  clear R2 hg2 RR HB hb ho hg hnew HB0 HR z0
  rw [hrun]
  clear hrun
  go_wp2_with fail
  have hR := R2'.out
  refine bodyPost_ret (v := .agg #[.int .i64 a0, .int .i64 a1, .string a2, .slice A1 l.length c1]) (by simp [results, Try.results76, go_sem]; go_simp) rfl ⟨_, rfl, ?_, ?_⟩
  · refine Kd.R_mono (ok := fun k => w.heap.size + 2 ≤ k) ?_ (fun _ _ => trivial)
    (repeat (refine Kd.R_far ?_ (fun k hk => by simp; omega) _))
    exact hR
  · (repeat (refine below_set ?_ (by simp <;> omega)))
    exact HB2.out
theorem made_row {α : Type} (P : Program) (d : Kd α) (e t : TypeId) (z : Value) (bytes : Nat) (ht : P.underlying t = some (.slice e)) (hinfo : (P.info? e).map (fun i => (i.zero, i.size, i.bytes)) = some (some z, d.sz, bytes)) (hz : z.cells.size = d.sz) (hs0 : 0 < d.sz) (hb0 : 0 < bytes)
    (z0 : α) (hzero : ∀ W base, d.M W base (fun _ => False) z0 z.cells.toList) (m : Nat) (hl : m * bytes ≤ 281474976710656) :
    ∃ cs : Array Value, (∀ W : World, (Instr.makeSlice t (.int .i64 (m : Int)) (.int .i64 (m : Int))).run P W = .ok (.slice (some ⟨W.heap.size, 0, none⟩) m m) (W.alloc (.cells cs e))) ∧
      ∀ (W : World) (base : Nat) (ok : Nat → Prop), base ≤ W.heap.size → ok W.heap.size → Kd.S d e (W.alloc (.cells cs e)) base ok (.slice (some ⟨W.heap.size, 0, none⟩) m m) (List.replicate m z0) := by
  obtain ⟨i0, hi, hzz⟩ := Option.map_eq_some_iff.1 hinfo
  simp only [Prod.mk.injEq] at hzz
  obtain ⟨hz0, hz1, hz2⟩ := hzz
  have hm : m ≤ 281474976710656 := Nat.le_trans (Nat.le_mul_of_pos_right _ hb0) hl
  refine ⟨madeCells z.cells (m * d.sz), fun W => ?_, fun W base ok hb hok => ?_⟩
  · have hr := run_make (P := P) W t e i0 z ht hi hz0 .i64 .i64 (m : Int) (m : Int) (by omega) (by omega)
      (by
        have h3 : ((i0.bytes * m : Nat) : Int) ≤ 281474976710656 := by rw [hz2, Nat.mul_comm]; omega
        rwa [Int.natCast_mul] at h3) (by omega)
    simp only [Int.toNat_natCast] at hr
    rw [hz1] at hr
    exact hr
  · have hrep := Kd.reps_made hz hs0 (hzero (W.alloc (.cells (madeCells z.cells (m * d.sz)) e)) base) m
    refine Kd.S_bare ⟨fun k hk => ?_, (madeCells z.cells (m * d.sz)).toList, ?_, hrep⟩
    · have : W.heap.size = k := by simpa [Value.ownBlock] using hk
      subst this
      exact hok
    · have h2 := World.ownsRow_lit (base := base) (e := e) (size := d.sz) W (madeCells z.cells (m * d.sz)) m hb (by simp [maxLen]; omega) (by simp [size_madeCells])
      have h3 : (W.alloc (Obj.cells (madeCells z.cells (m * d.sz)) e)).ownsRow base e d.sz (.slice (some ⟨W.heap.size, 0, none⟩) m m) m (madeCells z.cells (m * d.sz)).toList := by simpa using h2
      simp only [List.length_replicate]
      exact h3
theorem take_fill1 {α : Type} (x l : List α) (z : α) (i : Nat) (h : i < l.length) (hx : x.length = l.length) (ht : x.take i = l.take i) : (x.set i (l.getD i z)).take (i + 1) = l.take (i + 1) := by
  rw [List.take_add_one, List.take_add_one, List.take_set, ht, List.getElem?_set_self (by omega), List.getD_eq_getElem?_getD, List.getElem?_eq_getElem h]
  rw [List.set_eq_of_length_le (by simp; omega)]
  simp
theorem wrap_add1 (i : Int) (h0 : 0 ≤ i) (h1 : i ≤ 1048576) : IntKind.i64.wrap (i + 1) = i + 1 := by rw [IntKind.wrap_i64]; omega
theorem cell_off {W : World} {p q : Addr} {r : Option Value} (h : q.block ≠ p.block) (u : Value) (hc : W.cell? q = r) : (W.setCell p u).cell? q = r := (World.cell?_of_block (Below.heap_setCell W p u q.block h)).trans hc
theorem frozen_off {W : World} {p q : Addr} {r : Bool} (h : q.block ≠ p.block) (u : Value) (hc : W.frozen? q = r) : (W.setCell p u).frozen? q = r := (World.frozen?_of_block (Below.heap_setCell W p u q.block h)).trans hc
set_option maxHeartbeats 8000000 in
set_option maxRecDepth 100000 in
theorem impl_copyLedger.to (A : Option Addr) (c : Nat) (h0 : Int) (l : List S34) (w : World) (hr : Kd.C k34 w A l.length l) (hl : l.length ≤ 1048576) (hs : ∀ y ∈ l, y.f3.length ≤ 1048576) :
    Calls Try.prog 83 #[.agg #[.slice A l.length c, .int .i64 h0]] w fun e w' => ∃ v : Value, e = .returned (.agg #[v, .int .i64 h0]) ∧ Kd.S k34 34 w' w.heap.size (fun _ => True) v l ∧ Below w.heap.size w w' := by
  have HR := Aside0.mk hr
  clear hr
  have HB := Aside0.mk (Below.refl w.heap.size w)
  go_enter Try.func83, Try.ntmps83
  have f0 : ((w.alloc (Obj.cells #[Value.slice A l.length c, Value.int IntKind.i64 h0] 29)).alloc (Obj.cells #[Value.slice none 0 0, Value.int IntKind.i64 0] 29)).cell? ⟨w.heap.size, 0, none⟩ = some (.slice A l.length c) := by go_simp
  have f1 : ((w.alloc (Obj.cells #[Value.slice A l.length c, Value.int IntKind.i64 h0] 29)).alloc (Obj.cells #[Value.slice none 0 0, Value.int IntKind.i64 0] 29)).cell? ⟨w.heap.size, 1, none⟩ = some (.int .i64 h0) := by go_simp
  go_upto_region 1 with fail
  go_cut [3] (fun s3 wx => ∃ (b : Nat) (v : Value), s3 = .pointer (some ⟨b, 0, none⟩) ∧ w.heap.size + 2 ≤ b ∧ wx.cell? ⟨b, 0, none⟩ = some v ∧ wx.cell? ⟨b, 1, none⟩ = some (.int .i64 h0) ∧ wx.cell? ⟨w.heap.size, 0, none⟩ = some (.slice A l.length c) ∧ wx.cell? ⟨w.heap.size + 1, 0, none⟩ = some (.slice none 0 0) ∧ wx.cell? ⟨w.heap.size + 1, 1, none⟩ = some (.int .i64 0) ∧ wx.frozen? ⟨w.heap.size + 1, 0, none⟩ = false ∧ wx.frozen? ⟨w.heap.size + 1, 1, none⟩ = false ∧ Aside0 (Kd.S k34 34 wx (w.heap.size + 2) (fun k => k ≠ b) v (List.replicate l.length z34)) ∧ Aside0 (Below w.heap.size w wx))
  case first =>
    obtain ⟨cs, hmk, hS⟩ := made_row Try.prog k34 34 27 (.agg #[(.int .i64 0), (.int .i64 0), (.string ⟨#[]⟩), (.slice none 0 0)]) 56 Try.underlying27 infoEntry rfl (by decide) (by omega) z34 (fun W base => k34_mkM _ _ _ z34 (Kd.R_nil _ _ _ _ _)) l.length (by omega)
    go_region_held3 (fun w' => w'.cell? ⟨w.heap.size, 0, none⟩ = some (.slice A l.length c) ∧ w'.cell? ⟨w.heap.size, 1, none⟩ = some (.int .i64 h0)) ((first | go_keep | exact ⟨pw_cell_below hb (by assumption), pw_cell_below hb (by assumption)⟩))
     ((first | (go_simp; rw [hmk])))
    all_goals (try go_wp2_with fail)
    all_goals go_meet
    · refine ⟨w.heap.size + 1 + 1 + 1, .slice (some ⟨w.heap.size + 1 + 1, 0, none⟩) l.length l.length, rfl, by omega, by go_simp, by go_simp, by go_simp, by go_simp, by go_simp, by go_simp, by go_simp, ⟨Kd.S_drew (Kd.S_alloc (by simpa using hS ((w.alloc (Obj.cells #[Value.slice A l.length c, Value.int IntKind.i64 h0] 29)).alloc (Obj.cells #[Value.slice none 0 0, Value.int IntKind.i64 0] 29)) (w.heap.size + 2) (fun k => k ≠ w.heap.size + 1 + 1 + 1) (by simp) (by simp)) _)⟩, ⟨by repeat (first | exact Below.refl _ _ | refine below_drew ?_ | refine below_alloc ?_ _)⟩⟩
    · refine ⟨w.heap.size + 1 + 1, .slice (some ⟨w.heap.size + 1 + 1 + 1, 0, none⟩) l.length l.length, rfl, by omega, by go_simp, by go_simp, by go_simp, by go_simp, by go_simp, by go_simp, by go_simp, ⟨Kd.S_drew (by simpa using hS (((w.alloc (Obj.cells #[Value.slice A l.length c, Value.int IntKind.i64 h0] 29)).alloc (Obj.cells #[Value.slice none 0 0, Value.int IntKind.i64 0] 29)).alloc (Obj.cells #[Value.slice (some ⟨w.heap.size + 1 + 1 + 1, 0, none⟩) l.length l.length, Value.int IntKind.i64 h0] 29)) (w.heap.size + 2) (fun k => k ≠ w.heap.size + 1 + 1) (by simp) (by simp))⟩, ⟨by repeat (first | exact Below.refl _ _ | refine below_drew ?_ | refine below_alloc ?_ _)⟩⟩
  case rest =>
    obtain ⟨b, v, rfl, hb2, g0, g1, e0, r0, r1, q0, q1, HS, HB'⟩ := hcut
    obtain ⟨A1, c1, hv⟩ := Kd.R_slice (Kd.S_R HS.out)
    rw [List.length_replicate] at hv
    subst hv
    go_wp2_with fail
    go_loopg [16] l.length (fun kq v16 w' => ∃ (i : Int) (x : List S34), v16 = .int .i64 i ∧ 0 ≤ i ∧ i ≤ (l.length : Int) ∧ kq + i.toNat = l.length ∧ x.length = l.length ∧ x.take i.toNat = l.take i.toNat ∧ w'.cell? ⟨b, 0, none⟩ = some (.slice A1 l.length c1) ∧ w'.cell? ⟨b, 1, none⟩ = some (.int .i64 h0) ∧ w'.cell? ⟨w.heap.size + 1, 0, none⟩ = some (.slice none 0 0) ∧ w'.cell? ⟨w.heap.size + 1, 1, none⟩ = some (.int .i64 0) ∧ w'.frozen? ⟨w.heap.size + 1, 0, none⟩ = false ∧ w'.frozen? ⟨w.heap.size + 1, 1, none⟩ = false ∧ Aside0 (Kd.S k34 34 w' (w.heap.size + 2) (fun k => k ≠ b) (.slice A1 l.length c1) x) ∧ Aside0 (Below w.heap.size w w'))
    case atStart => exact ⟨0, _, rfl, by omega, by omega, by simp, by simp, by simp, g0, g1, r0, r1, q0, q1, HS, HB'⟩
    case round =>
      clear g0 g1 r0 r1 q0 q1 HS HB' HB
      obtain ⟨i, x, rfl, p0, ple, hki, hxl, htk, g0, g1, r0, r1, q0, q1, HS, HB⟩ := hrel
      by_cases hlt : i < (l.length : Int)
      · obtain ⟨k1, rfl⟩ : ∃ k1, gk = k1 + 1 := ⟨gk - 1, by omega⟩
        have cc : decide (i < (l.length : Int)) = true := decide_eq_true (by omega)
        obtain ⟨ad, A3, c3, eA, x0, x1, x2, x3, hl3, hi3⟩ := at_T34 HR.out i p0 hlt
        subst eA
        replace x0 := (HB.out.cell (World.block_lt_of_cell? w _ x0)).trans x0
        replace x1 := (HB.out.cell (World.block_lt_of_cell? w _ x1)).trans x1
        replace x2 := (HB.out.cell (World.block_lt_of_cell? w _ x2)).trans x2
        replace x3 := (HB.out.cell (World.block_lt_of_cell? w _ x3)).trans x3
        have HI := Aside0.mk hi3
        clear hi3
        have p0' := eq_true p0
        have q0' := eq_true hlt
        go_wp2_with fail
        have hb1 := World.block_lt_of_cell? _ _ g0
        obtain ⟨g, co, eo, gb, gl, cells, HG⟩ := Kd.S_form HS.out (by omega)
        injection eo with ea en ec
        clear en
        subst ea ec
        generalize hmt : (rd_T34 l i).f0 = t0 at *
        generalize hm1 : (rd_T34 l i).f1 = t1 at *
        generalize hm2 : (rd_T34 l i).f2 = t2 at *
        have hf3 : (rd_T34 l i).f3.length ≤ 1048576 := hs _ (by unfold rd_T34; rw [List.getD_eq_getElem?_getD, List.getElem?_eq_getElem (by omega)]; simp)
        generalize hm3 : (rd_T34 l i).f3 = t3 at *
        obtain ⟨_, ce, hcl, hM, hcc, hfr, _, _⟩ := Kd.S_elem HS.out z34 i p0 (by omega)
        obtain ⟨ve, rfl, _⟩ := k34_openM hM
        have y0 : wr.cell? ⟨g, i.toNat * 4, none⟩ = some (.int .i64 (x.getD i.toNat z34).f0) := hcc 0 _ rfl
        have y1 : wr.cell? ⟨g, i.toNat * 4 + 1, none⟩ = some (.int .i64 (x.getD i.toNat z34).f1) := hcc 1 _ rfl
        have y2 : wr.cell? ⟨g, i.toNat * 4 + 2, none⟩ = some (.string (x.getD i.toNat z34).f2) := hcc 2 _ rfl
        have y3 : wr.cell? ⟨g, i.toNat * 4 + 3, none⟩ = some ve := hcc 3 _ rfl
        have z0 : wr.frozen? ⟨g, i.toNat * 4, none⟩ = false := hfr 0
        have z1 : wr.frozen? ⟨g, i.toNat * 4 + 1, none⟩ = false := hfr 1
        have z2 : wr.frozen? ⟨g, i.toNat * 4 + 2, none⟩ = false := hfr 2
        have z3 : wr.frozen? ⟨g, i.toNat * 4 + 3, none⟩ = false := hfr 3
        have hS := Aside0.mk HS.out
        have gl' := Aside0.mk gl
        have hkk := Aside0.mk (And.intro hki (And.intro hxl htk))
        have hmm := Aside0.mk (show (⟨t0, t1, t2, t3⟩ : S34) = l.getD i.toNat z34 by rw [← hmt, ← hm1, ← hm2, ← hm3]; rfl)
        have hss := Aside0.mk hs
        have hll := Aside0.mk hl
        have hgb := Aside0.mk gb
        clear hki htk hmt hm1 hm2 hm3 hs hl gb ple
        have hG := Aside0.mk HG
        clear hM hcc hfr hcl HS HG
        have p4 : decide (i < (l.length : Int)) = true := decide_eq_true hlt
        have hb1 : b < wr.heap.size := World.block_lt_of_cell? _ _ g0
        have hBA := Aside0.mk (below_alloc (Below.refl wr.heap.size wr) (Obj.cells #[.int .i64 t0, .int .i64 t1, .string t2, .slice A3 t3.length c3] 34))
        have nbg : b ≠ g := fun e => (Kd.S_R hS.out).1 g rfl e.symm
        have nwg : wr.heap.size ≠ g := by omega
        have K0 : (wr.alloc (Obj.cells #[.int .i64 t0, .int .i64 t1, .string t2, .slice A3 t3.length c3] 34)).drew.cell? ⟨b, 0, none⟩ = some (.slice (some ⟨g, 0, none⟩) l.length c1) := ((below_drew hBA.out).cell hb1).trans g0
        have K1 : (wr.alloc (Obj.cells #[.int .i64 t0, .int .i64 t1, .string t2, .slice A3 t3.length c3] 34)).drew.cell? ⟨wr.heap.size, 0, none⟩ = some (.int .i64 t0) := by go_simp
        have K2 : (wr.alloc (Obj.cells #[.int .i64 t0, .int .i64 t1, .string t2, .slice A3 t3.length c3] 34)).drew.cell? ⟨wr.heap.size, 1, none⟩ = some (.int .i64 t1) := by go_simp
        have K3 : (wr.alloc (Obj.cells #[.int .i64 t0, .int .i64 t1, .string t2, .slice A3 t3.length c3] 34)).drew.cell? ⟨wr.heap.size, 2, none⟩ = some (.string t2) := by go_simp
        have K4 : (wr.alloc (Obj.cells #[.int .i64 t0, .int .i64 t1, .string t2, .slice A3 t3.length c3] 34)).drew.cell? ⟨wr.heap.size, 3, none⟩ = some (.slice A3 t3.length c3) := by go_simp
        go_region_held3 (fun w' => w'.cell? ⟨b, 0, none⟩ = some (.slice (some ⟨g, 0, none⟩) l.length c1) ∧ w'.cell? ⟨wr.heap.size, 0, none⟩ = some (.int .i64 t0) ∧ w'.cell? ⟨wr.heap.size, 1, none⟩ = some (.int .i64 t1) ∧ w'.cell? ⟨wr.heap.size, 2, none⟩ = some (.string t2) ∧ w'.cell? ⟨wr.heap.size, 3, none⟩ = some (.slice A3 t3.length c3))
          ((first | exact ⟨K0, K1, K2, K3, K4⟩ | exact ⟨pw_cell_below hb K0, pw_cell_below hb K1, pw_cell_below hb K2, pw_cell_below hb K3, pw_cell_below hb K4⟩ | exact ⟨by (repeat (refine cell_off nbg _ ?_)); exact pw_cell_below hb K0, by (repeat (refine cell_off nwg _ ?_)); exact pw_cell_below hb K1, by (repeat (refine cell_off nwg _ ?_)); exact pw_cell_below hb K2, by (repeat (refine cell_off nwg _ ?_)); exact pw_cell_below hb K3, by (repeat (refine cell_off nwg _ ?_)); exact pw_cell_below hb K4⟩ | go_keep))
          ((go_at_call 76; refine (impl_copyEntry.to t0 t1 t2 A3 c3 t3 _ (by repeat (first | exact Kd.C_below HI.out HB.out | refine Kd.C_drew ?_ | refine Kd.C_alloc ?_ _)) hf3).mono ?_; rintro e2 w2 ⟨vv, rfl, R2, hb⟩; obtain ⟨A5, c5, rfl⟩ := Kd.R_slice R2; have Y0 := pw_cell_below hb (((below_drew hBA.out).cell (p := ⟨g, i.toNat * 4, none⟩) gl).trans y0); have Y1 := pw_cell_below hb (((below_drew hBA.out).cell (p := ⟨g, i.toNat * 4 + 1, none⟩) gl).trans y1); have Y2 := pw_cell_below hb (((below_drew hBA.out).cell (p := ⟨g, i.toNat * 4 + 2, none⟩) gl).trans y2); have Y3 := pw_cell_below hb (((below_drew hBA.out).cell (p := ⟨g, i.toNat * 4 + 3, none⟩) gl).trans y3); have hgl : g < (wr.alloc (Obj.cells #[.int .i64 t0, .int .i64 t1, .string t2, .slice A3 t3.length c3] 34)).drew.heap.size := (by simp; omega); have Z0 := (hb.frozen (p := ⟨g, i.toNat * 4, none⟩) hgl).trans (((below_drew hBA.out).frozen (p := ⟨g, i.toNat * 4, none⟩) gl).trans z0); have Z1 := (hb.frozen (p := ⟨g, i.toNat * 4 + 1, none⟩) hgl).trans (((below_drew hBA.out).frozen (p := ⟨g, i.toNat * 4 + 1, none⟩) gl).trans z1); have Z2 := (hb.frozen (p := ⟨g, i.toNat * 4 + 2, none⟩) hgl).trans (((below_drew hBA.out).frozen (p := ⟨g, i.toNat * 4 + 2, none⟩) gl).trans z2); have Z3 := (hb.frozen (p := ⟨g, i.toNat * 4 + 3, none⟩) hgl).trans (((below_drew hBA.out).frozen (p := ⟨g, i.toNat * 4 + 3, none⟩) gl).trans z3)))
        all_goals (
          have HR5 := Kd.R_lower (Kd.R_mono (ok' := fun k => k ≠ b) (Kd.R_bound R2) (fun k hk => by have := hk.2.1; simp at this; omega)) (base' := w.heap.size + 2) (by simp; omega)
          have HO := Kd.S_elder' (Kd.S_drew (Kd.S_alloc hS.out (Obj.cells #[.int .i64 t0, .int .i64 t1, .string t2, .slice A3 t3.length c3] 34))) (Kd.R_base R2) hb
          have HX : Kd.S k34 34 w2 (w.heap.size + 2) (fun k => k ≠ b ∧ ¬ (some k = (Value.slice A5 t3.length c5).ownBlock)) (.slice (some ⟨g, 0, none⟩) l.length c1) x := HO
          obtain ⟨oki, ce, hcl, hM, hcc, hfr, hoki, hH⟩ := Kd.S_elem HX z34 i p0 hlt
          obtain ⟨ve2, rfl, ge2⟩ := k34_openM hM
          have HT := Kd.R_mono (ok' := fun k => k ≠ b ∧ k ≠ g) (Kd.R_apart' HR5 (Kd.S_typed HO) (by decide)) (fun k hk => ⟨hk.1, fun e => hk.2 (by rw [e]; rfl)⟩)
          have HP := Kd.S_seg hH p0 hlt (seg := [.int .i64 t0, .int .i64 t1, .string t2, (Value.slice A5 t3.length c5)]) (j := 0) (show 4 ≤ 4 from by decide) (x' := (⟨t0, t1, t2, t3⟩ : S34)) (k34_mkM _ _ _ (⟨t0, t1, t2, t3⟩ : S34) (Kd.R_mono (Kd.R_tight rfl HT) (fun _ h => Or.inr h))) (fun _ hk => hk) (fun k hk => HT.1 k hk.symm)
          have hr1 : w.heap.size + 1 < wr.heap.size := World.block_lt_of_cell? _ _ r0
          have nrg : w.heap.size + 1 ≠ g := by have := hgb.out; omega
          have HB2 := below_into (w := w) hb (below_drew (below_alloc HB.out (Obj.cells #[.int .i64 t0, .int .i64 t1, .string t2, .slice A3 t3.length c3] 34)))
          have hlw : w.heap.size + 1 < (wr.alloc (Obj.cells #[.int .i64 t0, .int .i64 t1, .string t2, .slice A3 t3.length c3] 34)).drew.heap.size := by simp; omega
          generalize hwf : ((((w2.setCell ⟨g, i.toNat * 4, none⟩ (Value.int IntKind.i64 t0)).setCell ⟨g, i.toNat * 4 + 1, none⟩ (Value.int IntKind.i64 t1)).setCell ⟨g, i.toNat * 4 + 2, none⟩ (Value.string t2)).setCell ⟨g, i.toNat * 4 + 3, none⟩ (Value.slice A5 t3.length c5)) = wf
          have HPf : Kd.S k34 34 wf (w.heap.size + 2) (fun k => k ≠ b) (.slice (some ⟨g, 0, none⟩) l.length c1) (x.set i.toNat (⟨t0, t1, t2, t3⟩ : S34)) := by rw [← hwf]; exact HP.1
          have G0 : wf.cell? ⟨b, 0, none⟩ = some (.slice (some ⟨g, 0, none⟩) l.length c1) := by rw [← hwf]; (repeat (refine cell_off nbg _ ?_)); exact pw_cell_below hb K0
          have G1 : wf.cell? ⟨b, 1, none⟩ = some (.int .i64 h0) := by rw [← hwf]; (repeat (refine cell_off nbg _ ?_)); exact pw_cell_below hb (((below_drew hBA.out).cell hb1).trans g1)
          have R0 : wf.cell? ⟨w.heap.size + 1, 0, none⟩ = some (.slice none 0 0) := by rw [← hwf]; (repeat (refine cell_off nrg _ ?_)); exact pw_cell_below hb (((below_drew hBA.out).cell hr1).trans r0)
          have R1 : wf.cell? ⟨w.heap.size + 1, 1, none⟩ = some (.int .i64 0) := by rw [← hwf]; (repeat (refine cell_off nrg _ ?_)); exact pw_cell_below hb (((below_drew hBA.out).cell hr1).trans r1)
          have Q0 : wf.frozen? ⟨w.heap.size + 1, 0, none⟩ = false := by rw [← hwf]; (repeat (refine frozen_off nrg _ ?_)); exact (hb.frozen (p := ⟨w.heap.size + 1, 0, none⟩) hlw).trans (((below_drew hBA.out).frozen (p := ⟨w.heap.size + 1, 0, none⟩) hr1).trans q0)
          have Q1 : wf.frozen? ⟨w.heap.size + 1, 1, none⟩ = false := by rw [← hwf]; (repeat (refine frozen_off nrg _ ?_)); exact (hb.frozen (p := ⟨w.heap.size + 1, 1, none⟩) hlw).trans (((below_drew hBA.out).frozen (p := ⟨w.heap.size + 1, 1, none⟩) hr1).trans q1)
          have HBf : Below w.heap.size w wf := by rw [← hwf]; (repeat (refine below_set ?_ (by have := hgb.out; simp <;> omega))); exact HB2
          have hwr : IntKind.i64.wrap (i + 1) = i + 1 := wrap_add1 i p0 (by have := hll.out; omega)
          clear hwf HP HT ge2 hH hoki hfr hcc hM hcl HX HO HR5 Y0 Y1 Y2 Y3 Z0 Z1 Z2 Z3 R2 hb K0 K1 K2 K3 K4 g0 g1 r0 r1 q0 q1 HB hBA y0 y1 y2 y3 z0 z1 z2 z3 x0 x1 x2 x3
          go_wp2_with fail
          go_roundg k1
          case measure => omega
          case rel =>
            obtain ⟨h1, h2, h3⟩ := hkk.out
            refine ⟨i + 1, x.set i.toNat (⟨t0, t1, t2, t3⟩ : S34), (by first | rfl | (simp; done) | (simp [*]; done)), by omega, by omega, by omega, by simpa using h2, ?_, G0, G1, R0, R1, Q0, Q1, ⟨HPf⟩, ⟨HBf⟩⟩
            rw [show (i + 1).toNat = i.toNat + 1 by omega, hmm.out]
            exact take_fill1 x l z34 i.toNat (by omega) h2 h3)
      · have cc : decide (i < (l.length : Int)) = false := decide_eq_false (by omega)
        have hx : x = l := by
          rw [List.take_of_length_le (by omega), List.take_of_length_le (by omega)] at htk
          exact htk
        subst hx
        go_wp2_with fail
        refine bodyPost_ret (v := .agg #[.slice A1 x.length c1, .int .i64 h0]) (by simp [results, Try.results83, go_sem]; go_simp) rfl ⟨_, rfl, ?_, ?_⟩
        · refine Kd.S_mono (ok := fun k => w.heap.size + 2 ≤ k) ?_ (fun _ _ => trivial)
          (repeat (refine Kd.S_far ?_ (fun k hk => by simp; omega) _))
          exact Kd.S_lower (Kd.S_mono (Kd.S_bound HS.out) (fun k hk => hk.2.1)) (by omega)
        · (repeat (refine below_set ?_ (by simp <;> omega)))
          exact HB.out
end Go.Proofs.Ytphmnkcfjgallaa.Q
namespace Go.Proofs.Ytphmnkcfjgallaa.Q
open Go.RowKit Go.Proofs.YtphmnkcfjgallaaW.PrintWords Go.Proofs.YtphmnkcfjgallaaW.PrintLast Go.Proofs.YtphmnkcfjgallaaW.PrintMore
set_option linter.unusedVariables false
set_option linter.unusedSimpArgs false
set_option maxHeartbeats 8000000 in
set_option maxRecDepth 100000 in
theorem spec_l4DrawChart.e (w0 w : World) (g : Nat) (c : List Int) (m : Int) (hI : Cur w0 w g c) (hB : Below w0.heap.size w0 w) (hc : c.length ≤ 1048576) (hm : 0 < m) (hm7 : m ≤ 7) :
    Calls Try.prog 127 #[.pointer (some ⟨g, 0, none⟩), .int .i64 m] w fun e w' => ∃ (v : Value) (l : List Acc), e = .returned v ∧ Kd.R k131 131 w' w.heap.size (fun _ => True) v l ∧ (goodChart l ∧ 3 ≤ l.length) ∧ Drew w0 w w' g c := by
  have HL := hB.size
  have D0 := Aside0.mk (Drew.refl hI hB)
  clear hI hB
  go_enter Try.func127, Try.ntmps127
  go_wp2_with (first | ((with_reducible refine gate_dst (N := 12) rfl ?_); refine Kd.R_lit k131 _ 131 ?hg (N := 12) ?hd (xs := ([] : List (S131))) (inner := []) (ok := fun _ => True) (okp := fun _ => True) ?hr ?hp (fun _ hk => hk) trivial (Below.refl _ _) (Nat.le_refl _) (by simp) ?_; (case hd => rfl); (case hg => rfl); (case hr => first | (go_simp; done) | (go_simp; rfl)); (case hp => exact (Reps.none _ _)); intro v5 w4 ho hb hg_ hnew_; clear hg_ hnew_; have D1 := Aside0.mk (D0.out.below hb); have R1 := Aside0.mk (Kd.R_mono (D1.out.cur.apart ho (by decide)) (ok' := fun k => k ≠ g) (fun _ hk => hk.2)); clear hb ho))
  refine (spec_l1Below.e m D1.out.cur D1.out.bel hc (by omega)).mono ?_
  rintro x w5 ⟨r, rfl, ⟨r0, r1, _⟩, hD⟩
  have D2 := Aside0.mk (D1.out.call hD)
  have R2 := Aside0.mk (hD.R R1.out (fun _ hk => hk))
  have hr := r1 hm
  clear D0 D1 R1 hD r1
  have GC := Aside0.mk goodChart_nil
  go_wp2_with fail
  go_loopg [5, 6] (3 + r).toNat (fun kq v5 v6 W => ∃ (n : Int) (l : List Acc), v6 = .int .i64 n ∧ 0 ≤ n ∧ kq = n.toNat ∧ (l.length : Int) + n = 3 + r ∧ Aside0 (k131.R 131 W w.heap.size (fun k => k ≠ g) v5 l) ∧ Aside0 (goodChart l) ∧ Aside0 (Drew w0 w W g c))
  case atStart => exact ⟨3 + r, [], rfl, by omega, rfl, by simp, R2, GC, D2⟩
  case round =>
    clear R2 GC D2
    obtain ⟨n, l, rfl, n0, hk, hln, RO, GC, D⟩ := hrel
    obtain ⟨A5, c5, rfl⟩ := Kd.R_slice RO.out
    by_cases hn : n > 0
    · obtain ⟨q0, rfl⟩ : ∃ q, gk = q + 1 := ⟨gk - 1, by omega⟩
      have hl10 : l.length < 10 := by omega
      go_wp2_with fail
      refine (spec_l1DrawName.e D.out.cur D.out.bel hc).mono ?_
      rintro x w6 ⟨s, rfl, hs, hD⟩
      replace RO := Aside0.mk (hD.R RO.out (fun _ hk => hk))
      replace D := Aside0.mk (D.out.call hD)
      clear hD
      go_wp2_with fail
      refine (spec_l1Below.e 5 D.out.cur D.out.bel hc (by omega)).mono ?_
      rintro x w7 ⟨kd, rfl, ⟨kd0, kd1, _⟩, hD⟩
      replace RO := Aside0.mk (hD.R RO.out (fun _ hk => hk))
      replace D := Aside0.mk (D.out.call hD)
      have kd2 := kd1 (by omega)
      clear hD kd1
      have hb := below_alloc (Below.refl w7.heap.size w7) (Obj.cells #[.string s, .int .i64 (-1), .int .i64 (1 + kd)] 131)
      have BK := Aside0.mk (blk_new w7 (Obj.cells #[.string s, .int .i64 (-1), .int .i64 (1 + kd)] 131))
      have GB := D.out.size
      have NB := Nat.ne_of_gt D.out.cur.lt
      replace RO := Aside0.mk (Kd.R_below (Kd.R_mono (ok' := fun k => k ≠ g ∧ k ≠ w7.heap.size) (Kd.R_bound RO.out) (fun k hk => ⟨hk.1, by have := hk.2.2.1; omega⟩)) hb)
      replace D := Aside0.mk (D.out.below hb)
      clear hb
      go_wp2_with fail
      generalize w7.alloc (Obj.cells #[.string s, .int .i64 (-1), .int .i64 (1 + kd)] 131) = w8 at *
      have hs' : s.size ≤ 100 := by omega
      clear hs
      go_loopg [9] l.length (fun kq v9 W => ∃ (k : Int) (s' : ByteArray), v9 = .int .i64 k ∧ 0 ≤ k ∧ k ≤ (l.length : Int) ∧ kq + k.toNat = l.length ∧ s'.size ≤ 100 ∧ Aside0 (W.heap[w7.heap.size]? = some (.cells #[.string s', .int .i64 (-1), .int .i64 (1 + kd)] 131 (0, 0))) ∧ Aside0 (k131.R 131 W w.heap.size (fun k => k ≠ g ∧ k ≠ w7.heap.size) (.slice A5 l.length c5) l) ∧ Aside0 (Drew w0 w W g c))
      case atStart => exact ⟨0, s, rfl, by omega, by omega, by simp, hs', BK, RO, D⟩
      case round =>
        clear BK RO D hs'
        obtain ⟨k, s, rfl, k0, k1, hkk, hs, BK, RO, D⟩ := hrel
        by_cases hkl : k < (l.length : Int)
        · obtain ⟨q, rfl⟩ : ∃ q, gk = q + 1 := ⟨gk - 1, by omega⟩
          obtain ⟨ad, e0, x0, x1, x2⟩ := at_T131 (Kd.R_reads' RO.out).2.2 k k0 hkl
          subst e0
          have y0 : wr.cell? ⟨w7.heap.size, 0, none⟩ = some (.string s) := (blk_cell BK.out 0).trans rfl
          clear x1 x2
          go_wp2_with fail
          go_quiet (fail)
          go_wp2_with fail
          · refine (spec_l1Text.to l.length (l.length : Int) _ (by omega) (by omega) (by omega)).mono ?_
            rintro x w9 ⟨rfl, hd⟩
            have hsz := decT_size l.length
            replace BK := Aside0.mk (blk_below (o := .cells #[.string s, .int .i64 (-1), .int .i64 (1 + kd)] 131 (0, 0)) (blk_drewN BK.out _) hd.below)
            replace RO := Aside0.mk (Kd.R_below (Kd.R_drewN RO.out _) hd.below)
            replace D := Aside0.mk ((D.out.drewN _).below hd.below)
            have y0 : w9.cell? ⟨w7.heap.size, 0, none⟩ = some (.string s) := (blk_cell BK.out 0).trans rfl
            have y1 : w9.frozen? ⟨w7.heap.size, 0, none⟩ = false := blk_frozen BK.out 0
            clear hd x0
            go_wp2_with fail
            go_roundg q
            case rel =>
              refine ⟨k + 1, _, by go_num, by omega, by omega, by omega, ?_, ⟨blk_set BK.out 0 _⟩, ⟨Kd.R_far (p := ⟨w7.heap.size, 0, none⟩) RO.out (fun _ hk => hk.2) _⟩, ⟨D.out.set (p := ⟨w7.heap.size, 0, none⟩) HL GB NB _⟩⟩
              rw [ByteArray.size_append]
              show 1 + _ ≤ 100
              omega
            case measure => omega
          · go_roundg q
            case rel => exact ⟨k + 1, s, by go_num, by omega, by omega, by omega, hs, ⟨blk_drewN BK.out _⟩, ⟨Kd.R_drewN RO.out _⟩, ⟨D.out.drewN _⟩⟩
            case measure => omega
        · have hke : k = (l.length : Int) := by omega
          clear hkk k0 k1 hkl
          subst hke
          go_upto_region 12 with fail
          go_cut [52] (fun v52 W => ∃ b : Bool, v52 = .bool b ∧ (b = true → 0 < l.length) ∧ Aside0 (W.heap[w7.heap.size]? = some (.cells #[.string s, .int .i64 (-1), .int .i64 (1 + kd)] 131 (0, 0))) ∧ Aside0 (k131.R 131 W w.heap.size (fun k => k ≠ g ∧ k ≠ w7.heap.size) (.slice A5 l.length c5) l) ∧ Aside0 (Drew w0 w W g c))
          case first =>
            by_cases h0 : 0 < l.length
            · go_wp2_with fail
              refine (spec_l1Once.e 3 D.out.cur D.out.bel hc (by omega)).mono ?_
              rintro x w9 ⟨b, rfl, hD⟩
              replace BK := Aside0.mk (hD.blk BK.out NB)
              replace RO := Aside0.mk (hD.R RO.out (fun _ hk => hk.1))
              replace D := Aside0.mk (D.out.call hD)
              clear hD
              go_wp2_with fail
              go_meet
              exact ⟨!b, rfl, fun _ => h0, BK, RO, D⟩
            · have h0' : l.length = 0 := by omega
              go_wp2_with fail
              go_meet
              exact ⟨false, rfl, (fun h => by cases h), BK, RO, D⟩
          case rest =>
            clear BK RO D
            obtain ⟨b, rfl, hb0, BK, RO, D⟩ := hcut
            go_upto_if 52 with fail
            go_cut [] (fun W => ∃ (p kk : Int), p < (l.length : Int) ∧ Aside0 (W.heap[w7.heap.size]? = some (.cells #[.string s, .int .i64 p, .int .i64 kk] 131 (0, 0))) ∧ Aside0 (k131.R 131 W w.heap.size (fun k => k ≠ g ∧ k ≠ w7.heap.size) (.slice A5 l.length c5) l) ∧ Aside0 (Drew w0 w W g c))
            case first =>
              cases b
              · go_wp2_with fail
                go_meet
                exact ⟨-1, 1 + kd, by omega, BK, RO, D⟩
              · have h0 := hb0 rfl
                go_wp2_with fail
                refine (spec_l1Below.e 3 D.out.cur D.out.bel hc (by omega)).mono ?_
                rintro x w9 ⟨u, rfl, ⟨u0, u1, _⟩, hD⟩
                have u2 := u1 (by omega)
                replace BK := Aside0.mk (hD.blk BK.out NB)
                replace RO := Aside0.mk (hD.R RO.out (fun _ hk => hk.1))
                replace D := Aside0.mk (D.out.call hD)
                clear hD
                go_wp2_with fail
                go_loopg [10, 11] u.toNat (fun kq v10 v11 W => ∃ (on up : Int), v10 = .int .i64 on ∧ 0 ≤ on ∧ on < (l.length : Int) ∧ v11 = .int .i64 up ∧ 0 ≤ up ∧ up ≤ 3 ∧ kq = up.toNat ∧ Aside0 (W.heap[w7.heap.size]? = some (.cells #[.string s, .int .i64 (-1), .int .i64 (1 + kd)] 131 (0, 0))) ∧ Aside0 (k131.R 131 W w.heap.size (fun k => k ≠ g ∧ k ≠ w7.heap.size) (.slice A5 l.length c5) l) ∧ Aside0 (Drew w0 w W g c))
                case atStart => exact ⟨(l.length : Int) - 1, u, by go_num, by omega, by omega, rfl, u0, by omega, rfl, BK, RO, D⟩
                case round =>
                  clear BK RO D u0 u1 u2
                  obtain ⟨on, up, rfl, o0, o1, rfl, up0, up3, hup, BK, RO, D⟩ := hrel
                  obtain ⟨ad, e0, x0, x1, x2⟩ := at_T131 (Kd.R_reads' RO.out).2.2 on o0 o1
                  have hlt := GC.out.2.2 on o0 o1
                  have HLT := Aside0.mk hlt
                  subst e0
                  clear x0 x2 hlt
                  by_cases hu : up > 0
                  · obtain ⟨q, rfl⟩ : ∃ q, gk = q + 1 := ⟨gk - 1, by omega⟩
                    by_cases hp : 0 ≤ (rd_T131 l on).f1
                    · go_wp2_with fail
                      go_roundg q
                      case rel => exact ⟨(rd_T131 l on).f1, up - 1, rfl, hp, Int.lt_trans HLT.out o1, by go_num, by omega, by omega, by omega, BK, RO, D⟩
                      case measure => omega
                    · have hp' : (rd_T131 l on).f1 < 0 := by omega
                      clear HLT hp
                      go_wp2_with fail
                      refine (spec_l4Deep.to _ c5 l on _ (Kd.R_reads' RO.out).2.2 o0 o1 (by omega) (goodChart_deep GC.out o1)).mono ?_
                      rintro x w' ⟨rfl, rfl⟩
                      by_cases hdp : deepAt l on < 8
                      · obtain ⟨ad, e0, x0, x1, x2⟩ := at_T131 (Kd.R_reads' RO.out).2.2 on o0 o1
                        cases e0
                        have y1 := blk_frozen BK.out 1
                        have y2 := blk_frozen BK.out 2
                        have z1 := (blk_cell BK.out 1).trans rfl
                        have z2 := (blk_cell BK.out 2).trans rfl
                        have x2' := (blk_far BK.out (p := ad.add (on.toNat * 3 + 2)))
                        clear x0 x1 x2'
                        go_wp2_with fail
                        go_meet
                        exact ⟨on, (rd_T131 l on).f2, o1, ⟨blk_set (blk_set BK.out 1 _) 2 _⟩, ⟨Kd.R_far (p := ⟨w7.heap.size, 2, none⟩) (Kd.R_far (p := ⟨w7.heap.size, 1, none⟩) RO.out (fun _ hk => hk.2) _) (fun _ hk => hk.2) _⟩, ⟨(D.out.set (p := ⟨w7.heap.size, 1, none⟩) HL GB NB _).set (p := ⟨w7.heap.size, 2, none⟩) HL GB NB _⟩⟩
                      · go_wp2_with fail
                        go_meet
                        exact ⟨-1, 1 + kd, by omega, BK, RO, D⟩
                  · clear HLT
                    go_wp2_with fail
                    refine (spec_l4Deep.to _ c5 l on _ (Kd.R_reads' RO.out).2.2 o0 o1 (by omega) (goodChart_deep GC.out o1)).mono ?_
                    rintro x w' ⟨rfl, rfl⟩
                    by_cases hdp : deepAt l on < 8
                    · obtain ⟨ad, e0, x0, x1, x2⟩ := at_T131 (Kd.R_reads' RO.out).2.2 on o0 o1
                      cases e0
                      have y1 := blk_frozen BK.out 1
                      have y2 := blk_frozen BK.out 2
                      have z1 := (blk_cell BK.out 1).trans rfl
                      have z2 := (blk_cell BK.out 2).trans rfl
                      have x2' := (blk_far BK.out (p := ad.add (on.toNat * 3 + 2)))
                      clear x0 x1 x2'
                      go_wp2_with fail
                      go_meet
                      exact ⟨on, (rd_T131 l on).f2, o1, ⟨blk_set (blk_set BK.out 1 _) 2 _⟩, ⟨Kd.R_far (p := ⟨w7.heap.size, 2, none⟩) (Kd.R_far (p := ⟨w7.heap.size, 1, none⟩) RO.out (fun _ hk => hk.2) _) (fun _ hk => hk.2) _⟩, ⟨(D.out.set (p := ⟨w7.heap.size, 1, none⟩) HL GB NB _).set (p := ⟨w7.heap.size, 2, none⟩) HL GB NB _⟩⟩
                    · go_wp2_with fail
                      go_meet
                      exact ⟨-1, 1 + kd, by omega, BK, RO, D⟩
            case rest =>
              clear BK RO D
              obtain ⟨p, kk, hp, BK, RO, D⟩ := hcut
              have y0 := (blk_cell BK.out 0).trans rfl
              have y1 := (blk_cell BK.out 1).trans rfl
              have y2 := (blk_cell BK.out 2).trans rfl
              go_wp2_with (first | ((with_reducible refine gate_builtin (b := .append) (xs := #[.tmp 86, .tmp 88]) rfl ?_); at_builtin; refine Kd.R_append k131 w.heap.size rfl (.tmp 86) (.tmp 88) 24 131 (.agg #[(.string ⟨#[]⟩), (.int .i64 0), (.int .i64 0)]) 32 rfl Try.underlying24 info131 rfl (by decide) (by omega) (.slice A5 l.length c5) l (⟨s, p, kk⟩ : S131) [.string s, .int .i64 p, .int .i64 kk] (fun k_ => k_ ≠ g ∧ k_ ≠ w7.heap.size) (fun _ => False) rfl (by first | (go_simp; done) | (go_simp; rfl)) ?aP (fun _ hk => hk.elim) ?aF ?aO (Below.refl _ _) ?aS ?aL ?_; (case aP => exact k131_mkM _ _ _ (⟨s, p, kk⟩ : S131)); (case aF => exact fun k hk => ⟨by have := D.out.cur.lt; omega, by have := blk_lt BK.out; omega⟩); (case aO => exact RO.out); (case aS => exact D.out.size); (case aL => omega); intro v1 w1 ho hb hg hat; have RO2 := Aside0.mk ho; have D2 := Aside0.mk (D.out.grown HL hg (fun k hk => ⟨Kd.R_base RO.out k hk, (RO.out.1 k hk).1⟩)); clear ho hb hg hat y0 y1 y2))
              go_roundg q0
              case rel => exact ⟨n - 1, l ++ [⟨s, p, kk⟩], by go_num, by omega, by omega, by simp; omega, ⟨Kd.R_mono RO2.out (fun _ hk => hk.1)⟩, ⟨goodChart_snoc GC.out hl10 hs hp⟩, D2⟩
              case measure => omega
    · have hn0 : n = 0 := by omega
      subst hn0
      go_wp2_with fail
      go_ret
      exact ⟨_, rfl, l, Kd.R_mono RO.out (fun _ _ => trivial), ⟨GC.out, by omega⟩, D.out⟩
end Go.Proofs.Ytphmnkcfjgallaa.Q
