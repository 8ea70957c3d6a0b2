/- Parts of the proof: what functions of the program and of the reference answer.
   No condition. -/
import Derived.Test.YtphmnkcfjgallaaWRepsOne
import Derived.Test.YtphmnkcfjgallaaZC1
import Derived.Test.YtphmnkcfjgallaaZMoves2
import Derived.Test.YtphmnkcfjgallaaZC4
import Derived.Test.YtphmnkcfjgallaaZB1
import Derived.Test.YtphmnkcfjgallaaZMoves3
import Derived.Test.YtphmnkcfjgallaaZMoves1
import Derived.Test.YtphmnkcfjgallaaZC2
namespace Go.Proofs.Ytphmnkcfjgallaa.Q
open Go.RowKit Go.Proofs.YtphmnkcfjgallaaW.PrintWords Go.Proofs.YtphmnkcfjgallaaW.PrintLast Go.Proofs.YtphmnkcfjgallaaW.PrintMore
set_option linter.unusedVariables false
set_option linter.unusedSimpArgs false
theorem snoc_row {W : World} {base i : Nat} {v : Value} {X : Nat → Int} {xx : Int} (h : Kd.R (Kd.int .i64) 3 W base (fun _ => True) v (mapN i X ++ [xx])) (hx : X i = xx) : Kd.R (Kd.int .i64) 3 W base (fun _ => True) v (mapN (i + 1) X) := by
  have e : mapN i X ++ [xx] = mapN (i + 1) X := by rw [← hx]; unfold mapN; rw [List.range_succ, List.map_append]; rfl
  rwa [e] at h
theorem basV_days {a d c fr fr' tt : Int} {es : List Ent} (h : ∀ e ∈ es, fr ≤ e.f0 ∧ fr' ≤ e.f0) : basV a d c fr tt es = basV a d c fr' tt es := by
  induction es with
  | nil => rfl
  | cons e l ih =>
    have h1 := h e List.mem_cons_self
    simp only [basV]
    rw [ih (fun x hx => h x (List.mem_cons_of_mem _ hx))]
    have : inB e.f0 fr tt = inB e.f0 fr' tt := by unfold inB; rw [decide_eq_true h1.1, decide_eq_true h1.2]
    rw [this]
def AP (v u : Value) : Prop := ∀ k, v.ownBlock = some k → u.ownBlock ≠ some k
theorem AP.symm {v u : Value} (h : AP v u) : AP u v := fun k hk he => h k he hk
theorem AP.fresh {v u : Value} {W : World} (hv : ∃ b, v.ownBlock = some b ∧ W.heap.size ≤ b) (hu : ∀ k, u.ownBlock = some k → k < W.heap.size) : AP v u := fun k hk he => by
  obtain ⟨b, hb, hle⟩ := hv
  rw [hb] at hk
  injection hk with hk
  have := hu k he
  omega
theorem AP.after {v v1 u : Value} {W : World} (h : AP v u) (hat : v1.ownBlock = v.ownBlock ∨ ∃ b, v1.ownBlock = some b ∧ W.heap.size ≤ b) (hu : ∀ k, u.ownBlock = some k → k < W.heap.size) : AP v1 u := by
  rcases hat with hat | hat
  · intro k hk
    rw [hat] at hk
    exact h k hk
  · exact AP.fresh hat hu
theorem R_ap {α : Type} {d : Kd α} {e base : Nat} {W w1 : World} {ok : Nat → Prop} {u v : Value} {xs : List α} (h : d.R e W base ok u xs) (hE : d.E = []) (hg : W.grownBy w1 v.ownBlock) (ha : AP v u) : d.R e w1 base ok u xs := Kd.R_grown2 h hE hg (fun k hk he => ha k hk he.symm)
theorem cell_grown {W w1 : World} {row : Option Nat} {p : Addr} {u : Value} (hc : W.cell? p = some u) (hg : W.grownBy w1 row) (hne : some p.block ≠ row) : w1.cell? p = some u := by
  have := hg.block p.block (World.block_lt_of_cell? W p hc) hne
  simpa [World.cell?, this] using hc
/-- The row lies in neither of two blocks. -/
def NB (a b : Nat) (v : Value) : Prop := some a ≠ v.ownBlock ∧ some b ≠ v.ownBlock
theorem NB.after {a b : Nat} {v v1 : Value} {W : World} (h : NB a b v) (hat : v1.ownBlock = v.ownBlock ∨ ∃ q, v1.ownBlock = some q ∧ W.heap.size ≤ q) (ha : a < W.heap.size) (hb : b < W.heap.size) : NB a b v1 := by
  rcases hat with hat | ⟨q, hq, hle⟩
  · exact ⟨by rw [hat]; exact h.1, by rw [hat]; exact h.2⟩
  · exact ⟨by rw [hq]; intro e; injection e with e; omega, by rw [hq]; intro e; injection e with e; omega⟩
set_option maxHeartbeats 32000000 in
set_option maxRecDepth 100000 in
theorem spec_Moves.to (A0 : Option Addr) (c0 : Nat) (l0 : List Acc) (dims curs : Int) (A1 : Option Addr) (c1 : Nat) (l1 : List Ent) (h : Int) (A2 : Option Addr) (c2 : Nat) (l2 : List Per) (closed kept at_ : Int) (w : World) (hr0 : Kd.C k131 w A0 l0.length l0) (hs : ∀ x ∈ l0, x.f0.size ≤ maxLen) (hr1 : Kd.C k34 w A1 l1.length l1) (hc1 : l1.length ≤ c1) (hm : ∀ e ∈ l1, e.f2.size ≤ maxLen) (hr2 : Kd.C k133 w A2 l2.length l2) (hl2 : l2.length ≤ 1048576) :
    Calls Try.prog 61 #[.agg #[.slice A0 l0.length c0, .int .i64 dims, .int .i64 curs, .slice A1 l1.length c1, .int .i64 h, .slice A2 l2.length c2, .int .i64 closed, .int .i64 kept], .int .i64 at_] w fun e w' => ∃ v0 v1 v2 : Value, e = .returned (.tuple #[v0, v1, v2]) ∧ Kd.R (Kd.int .i64) 3 w' w.heap.size (fun _ => True) v0 (movesR l0 dims curs l1 h l2 closed kept at_).1 ∧ Kd.R (Kd.int .i64) 3 w' w.heap.size (fun _ => True) v1 (movesR l0 dims curs l1 h l2 closed kept at_).2.1 ∧ Kd.R (Kd.int .i64) 3 w' w.heap.size (fun _ => True) v2 (movesR l0 dims curs l1 h l2 closed kept at_).2.2 ∧ Below w.heap.size w w' := by
  have H0 := Aside0.mk hr0
  have H1 := Aside0.mk hr1
  have H2 := Aside0.mk hr2
  have HS := Aside0.mk hs
  have HM := Aside0.mk hm
  have HC1 := Aside0.mk hc1
  have HB := Aside0.mk (below_alloc (Below.refl w.heap.size w) (.cells #[.slice A0 l0.length c0, .int .i64 dims, .int .i64 curs, .slice A1 l1.length c1, .int .i64 h, .slice A2 l2.length c2, .int .i64 closed, .int .i64 kept] 50))
  clear hr0 hr1 hr2 hs hm hc1
  go_enter Try.func61, Try.ntmps61
  go_wp2_with (first | ((with_reducible refine gate_dst (N := 17) rfl ?_); refine Kd.R_lit (Kd.int .i64) _ 3 ?hg (N := 17) ?hd (xs := ([] : List Int)) (inner := []) (ok := fun _ => True) (okp := fun _ => True) ?hr ?hp (fun _ hk => hk) trivial (Below.refl _ _) (Nat.le_refl _) (by simp) ?_; (case hd => rfl); (case hg => rfl); (case hr => first | (go_simp; done) | (go_simp; rfl)); (case hp => exact (Reps.none _ _)); intro v17 w17 ho hb hg hnew; have B17 := Aside0.mk (Kd.R_base ho); have R17 := Aside0.mk (Kd.R_lower ho HB.out.size); have f0 : w17.cell? ⟨w.heap.size, 0, none⟩ = some (.slice A0 l0.length c0) := pw_cell_below hb (by go_simp); have f1 : w17.cell? ⟨w.heap.size, 1, none⟩ = some (.int .i64 dims) := pw_cell_below hb (by go_simp); have f2 : w17.cell? ⟨w.heap.size, 2, none⟩ = some (.int .i64 curs) := pw_cell_below hb (by go_simp); have f3 : w17.cell? ⟨w.heap.size, 3, none⟩ = some (.slice A1 l1.length c1) := pw_cell_below hb (by go_simp); have f4 : w17.cell? ⟨w.heap.size, 4, none⟩ = some (.int .i64 h) := pw_cell_below hb (by go_simp); have f5 : w17.cell? ⟨w.heap.size, 5, none⟩ = some (.slice A2 l2.length c2) := pw_cell_below hb (by go_simp); have f6 : w17.cell? ⟨w.heap.size, 6, none⟩ = some (.int .i64 closed) := pw_cell_below hb (by go_simp); have f7 : w17.cell? ⟨w.heap.size, 7, none⟩ = some (.int .i64 kept) := pw_cell_below hb (by go_simp); replace HB := Aside0.mk (below_into (w := w) hb HB.out); have zzb := World.block_lt_of_cell? _ _ f0; clear ho hb hg hnew) | ((with_reducible refine gate_dst (N := 18) rfl ?_); refine Kd.R_lit (Kd.int .i64) _ 3 ?hg (N := 18) ?hd (xs := ([] : List Int)) (inner := []) (ok := fun _ => True) (okp := fun _ => True) ?hr ?hp (fun _ hk => hk) trivial (Below.refl _ _) (Nat.le_refl _) (by simp) ?_; (case hd => rfl); (case hg => rfl); (case hr => first | (go_simp; done) | (go_simp; rfl)); (case hp => exact (Reps.none _ _)); intro v18 w18 ho hb hg hnew; have B18 := Aside0.mk (Kd.R_base ho); have R18 := Aside0.mk (Kd.R_lower ho HB.out.size); replace f0 : w18.cell? ⟨w.heap.size, 0, none⟩ = some (.slice A0 l0.length c0) := pw_cell_below hb f0; replace f1 : w18.cell? ⟨w.heap.size, 1, none⟩ = some (.int .i64 dims) := pw_cell_below hb f1; replace f2 : w18.cell? ⟨w.heap.size, 2, none⟩ = some (.int .i64 curs) := pw_cell_below hb f2; replace f3 : w18.cell? ⟨w.heap.size, 3, none⟩ = some (.slice A1 l1.length c1) := pw_cell_below hb f3; replace f4 : w18.cell? ⟨w.heap.size, 4, none⟩ = some (.int .i64 h) := pw_cell_below hb f4; replace f5 : w18.cell? ⟨w.heap.size, 5, none⟩ = some (.slice A2 l2.length c2) := pw_cell_below hb f5; replace f6 : w18.cell? ⟨w.heap.size, 6, none⟩ = some (.int .i64 closed) := pw_cell_below hb f6; replace f7 : w18.cell? ⟨w.heap.size, 7, none⟩ = some (.int .i64 kept) := pw_cell_below hb f7; have P1817 := Aside0.mk (AP.fresh hnew (Kd.R_lt R17.out)); replace R17 := Aside0.mk (Kd.R_below R17.out hb); replace HB := Aside0.mk (below_into (w := w) hb HB.out); have zzb := World.block_lt_of_cell? _ _ f0; clear ho hb hg hnew) | ((with_reducible refine gate_dst (N := 19) rfl ?_); refine Kd.R_lit (Kd.int .i64) _ 3 ?hg (N := 19) ?hd (xs := ([] : List Int)) (inner := []) (ok := fun _ => True) (okp := fun _ => True) ?hr ?hp (fun _ hk => hk) trivial (Below.refl _ _) (Nat.le_refl _) (by simp) ?_; (case hd => rfl); (case hg => rfl); (case hr => first | (go_simp; done) | (go_simp; rfl)); (case hp => exact (Reps.none _ _)); intro v19 w19 ho hb hg hnew; have B19 := Aside0.mk (Kd.R_base ho); have R19 := Aside0.mk (Kd.R_lower ho HB.out.size); replace f0 : w19.cell? ⟨w.heap.size, 0, none⟩ = some (.slice A0 l0.length c0) := pw_cell_below hb f0; replace f1 : w19.cell? ⟨w.heap.size, 1, none⟩ = some (.int .i64 dims) := pw_cell_below hb f1; replace f2 : w19.cell? ⟨w.heap.size, 2, none⟩ = some (.int .i64 curs) := pw_cell_below hb f2; replace f3 : w19.cell? ⟨w.heap.size, 3, none⟩ = some (.slice A1 l1.length c1) := pw_cell_below hb f3; replace f4 : w19.cell? ⟨w.heap.size, 4, none⟩ = some (.int .i64 h) := pw_cell_below hb f4; replace f5 : w19.cell? ⟨w.heap.size, 5, none⟩ = some (.slice A2 l2.length c2) := pw_cell_below hb f5; replace f6 : w19.cell? ⟨w.heap.size, 6, none⟩ = some (.int .i64 closed) := pw_cell_below hb f6; replace f7 : w19.cell? ⟨w.heap.size, 7, none⟩ = some (.int .i64 kept) := pw_cell_below hb f7; have P1917 := Aside0.mk (AP.fresh hnew (Kd.R_lt R17.out)); have P1918 := Aside0.mk (AP.fresh hnew (Kd.R_lt R18.out)); replace R17 := Aside0.mk (Kd.R_below R17.out hb); replace R18 := Aside0.mk (Kd.R_below R18.out hb); replace HB := Aside0.mk (below_into (w := w) hb HB.out); have zzb := World.block_lt_of_cell? _ _ f0; clear ho hb hg hnew))
  refine (spec_BooksOk.to A0 c0 l0 dims curs A1 c1 l1 h A2 c2 l2 closed kept _ (Kd.C_below H0.out HB.out) HS.out (Kd.C_below H1.out HB.out) HC1.out HM.out (Kd.C_below H2.out HB.out)).mono ?_
  rintro x w1 ⟨rfl, hb⟩
  replace f0 := pw_cell_below hb f0
  replace f1 := pw_cell_below hb f1
  replace f2 := pw_cell_below hb f2
  replace f3 := pw_cell_below hb f3
  replace f4 := pw_cell_below hb f4
  replace f5 := pw_cell_below hb f5
  replace f6 := pw_cell_below hb f6
  replace f7 := pw_cell_below hb f7
  replace R17 := Aside0.mk (Kd.R_below R17.out hb)
  replace R18 := Aside0.mk (Kd.R_below R18.out hb)
  replace R19 := Aside0.mk (Kd.R_below R19.out hb)
  replace HB := Aside0.mk (below_into (w := w) hb HB.out)
  clear hb
  have HNO := Aside0.mk (show (¬ (booksB l0 dims curs l1 h l2 closed kept = true ∧ 0 ≤ at_ ∧ at_ < (l2.length : Int))) → movesR l0 dims curs l1 h l2 closed kept at_ = ([], [], []) from fun hn => if_neg hn)
  obtain ⟨A17, c17, e17⟩ := Kd.R_slice R17.out
  obtain ⟨A18, c18, e18⟩ := Kd.R_slice R18.out
  obtain ⟨A19, c19, e19⟩ := Kd.R_slice R19.out
  subst e17 e18 e19
  cases q1 : booksB l0 dims curs l1 h l2 closed kept with
  | false =>
    have HN := Aside0.mk (HNO.out (fun q => by rw [q1] at q; cases q.1))
    clear q1
    go_wp2_with fail
    rw [HN.out]
    exact bodyPost_ret (v := .tuple #[.slice A17 0 c17, .slice A18 0 c18, .slice A19 0 c19]) (by simp [results, Try.results61, go_sem]) rfl ⟨_, _, _, rfl, R17.out, R18.out, R19.out, HB.out⟩
  | true =>
    have HQ := Aside0.mk q1
    clear q1
    obtain ⟨hbp, hpl, hper, hday, hkn⟩ := books_fine HQ.out
    have HBP := Aside0.mk hbp
    have HDY := Aside0.mk hday
    have HKN := Aside0.mk hkn
    have HPE := Aside0.mk hper
    have NL := hbp.1
    have NL2 := hbp.2.1
    clear hbp hper hday hkn
    have hlen : IntKind.i64.wrap ((l2.length : Int) - 1) = (l2.length : Int) - 1 := by rw [IntKind.wrap_i64]; omega
    go_wp2_with fail
    refine (spec_l1In.to _ _ _ _).mono ?_
    rintro x w' ⟨rfl, rfl⟩
    cases q3 : inB at_ 0 ((l2.length : Int) - 1) with
    | false =>
      have HN := Aside0.mk (HNO.out (fun q => by have := inB_false.1 q3; omega))
      clear q3
      go_wp2_with fail
      rw [HN.out]
      exact bodyPost_ret (v := .tuple #[.slice A17 0 c17, .slice A18 0 c18, .slice A19 0 c19]) (by simp [results, Try.results61, go_sem]) rfl ⟨_, _, _, rfl, R17.out, R18.out, R19.out, HB.out⟩
    | true =>
      obtain ⟨h1c, h2c⟩ := inB_true.1 q3
      have h2 : at_ < (l2.length : Int) := by omega
      clear q3 HNO hlen
      have HRV := Aside0.mk (show movesR l0 dims curs l1 h l2 closed kept at_ = _ from if_pos ⟨HQ.out, by omega, h2⟩)
      have hp := HPE.out at_ (by omega) h2
      have h2d : 0 < l2.length := by omega
      obtain ⟨ad, e0, x0, x1⟩ := at_T133 (Kd.C_below H2.out HB.out) at_ (by omega) h2
      obtain ⟨bd, e1, z0, z1⟩ := at_T133 H2.out 0 (by omega) (by omega)
      cases e0
      obtain rfl : ad = bd := by injection e1
      rw [show (0 : Int).toNat * 2 = 0 from rfl, Addr.add_zero'] at z0
      obtain ⟨⟨u0, u1⟩, ⟨u2, u3⟩, _⟩ := hp
      generalize (rd_T133 l2 at_).f0 = p0 at *
      generalize (rd_T133 l2 at_).f1 = p1 at *
      have HS0 := Aside0.mk (Eq.refl (rd_T133 l2 0).f0)
      generalize hs0 : (rd_T133 l2 0).f0 = s0 at *
      have Z0 := Aside0.mk z0
      have zz0 := World.block_lt_of_cell? _ _ f0
      have NN := Aside0.mk (show NB w.heap.size w'.heap.size (.slice A17 0 c17) ∧ NB w.heap.size w'.heap.size (.slice A18 0 c18) ∧ NB w.heap.size w'.heap.size (.slice A19 0 c19) from by
        refine ⟨⟨fun e => ?_, fun e => ?_⟩, ⟨fun e => ?_, fun e => ?_⟩, ⟨fun e => ?_, fun e => ?_⟩⟩
        · exact absurd (B17.out _ e.symm) (by simp)
        · exact Nat.lt_irrefl _ (Kd.R_lt R17.out _ e.symm)
        · have := B18.out _ e.symm; omega
        · exact Nat.lt_irrefl _ (Kd.R_lt R18.out _ e.symm)
        · have := B19.out _ e.symm; omega
        · exact Nat.lt_irrefl _ (Kd.R_lt R19.out _ e.symm))
      clear e1 z0 z1 HS0 hs0
      go_wp2_with fail
      have y0 : (w'.alloc (.cells #[.int .i64 p0, .int .i64 p1] 133)).cell? ⟨w'.heap.size, 0, none⟩ = some (.int .i64 p0) := by go_simp
      have y1 : (w'.alloc (.cells #[.int .i64 p0, .int .i64 p1] 133)).cell? ⟨w'.heap.size, 1, none⟩ = some (.int .i64 p1) := by go_simp
      have hb := below_alloc (Below.refl w'.heap.size w') (.cells #[.int .i64 p0, .int .i64 p1] 133)
      replace f0 := pw_cell_below hb f0
      replace f3 := pw_cell_below hb f3
      replace f4 := pw_cell_below hb f4
      replace f5 := pw_cell_below hb f5
      replace R17 := Aside0.mk (Kd.R_below R17.out hb)
      replace R18 := Aside0.mk (Kd.R_below R18.out hb)
      replace R19 := Aside0.mk (Kd.R_below R19.out hb)
      replace HB := Aside0.mk (below_into (w := w) hb HB.out)
      have hwb : w.heap.size ≤ w'.heap.size := by omega
      have CF := Aside0.mk (And.intro f0 (And.intro f3 (And.intro f4 (And.intro f5 (And.intro y0 y1)))))
      clear hb x0 x1 f0 f1 f2 f3 f4 f5 f6 f7 y0 y1
      generalize w'.alloc (.cells #[.int .i64 p0, .int .i64 p1] 133) = wp at *
      go_loopw [11, 7, 8, 9] (fun vi x7 x8 x9 wr => ∃ i : Nat, i ≤ l0.length ∧ vi = .int .i64 i ∧ Aside0 (Below w.heap.size w wr) ∧ Aside0 (Kd.R (Kd.int .i64) 3 wr w.heap.size (fun _ => True) x7 (mapN i (mvX l0 l1 s0 (p0 - 1)))) ∧ Aside0 (Kd.R (Kd.int .i64) 3 wr w.heap.size (fun _ => True) x8 (mapN i (fun a => basV a (-1) (-1) p0 p1 l1))) ∧ Aside0 (Kd.R (Kd.int .i64) 3 wr w.heap.size (fun _ => True) x9 (mapN i (fun a => mvX l0 l1 s0 (p0 - 1) a + basV a (-1) (-1) p0 p1 l1))) ∧ Aside0 (AP x8 x7 ∧ AP x9 x7 ∧ AP x9 x8) ∧ Aside0 (NB w.heap.size w'.heap.size x7 ∧ NB w.heap.size w'.heap.size x8 ∧ NB w.heap.size w'.heap.size x9) ∧ Aside0 (wr.cell? ⟨w.heap.size, 0, none⟩ = some (.slice A0 l0.length c0) ∧ wr.cell? ⟨w.heap.size, 3, none⟩ = some (.slice A1 l1.length c1) ∧ wr.cell? ⟨w.heap.size, 4, none⟩ = some (.int .i64 h) ∧ wr.cell? ⟨w.heap.size, 5, none⟩ = some (.slice (some ad) l2.length c2) ∧ wr.cell? ⟨w'.heap.size, 0, none⟩ = some (.int .i64 p0) ∧ wr.cell? ⟨w'.heap.size, 1, none⟩ = some (.int .i64 p1))) (fun vi _ _ _ _ => (l0.length - (intOf vi).toNat))
      case atStart => exact ⟨0, by omega, rfl, HB, R17, R18, R19, ⟨⟨P1817.out, P1917.out, P1918.out⟩⟩, NN, CF⟩
      case round =>
        clear HB R17 R18 R19 CF P1817 P1917 P1918 NN B17 B18 B19
        obtain ⟨i, hi1, rfl, HB, R7, R8, R9, AA, NN, CF⟩ := hrel
        obtain ⟨f0, f3, f4, f5, y0, y1⟩ := CF.out
        by_cases hlt : i < l0.length
        · have hkn := HKN.out i (by omega) (by omega)
          obtain ⟨ae, e0, x0, x1, x2⟩ := at_T131 (Kd.C_below H0.out HB.out) i (by omega) (by omega)
          cases e0
          simp only [Int.toNat_natCast] at x2
          have z0 := pw_cell_below HB.out Z0.out
          have hks : knd l0 i = (rd_T131 l0 i).f2 := rfl
          rw [hks] at hkn
          have HDX := Aside0.mk (show mvX l0 l1 s0 (p0 - 1) i = if (rd_T131 l0 i).f2 = 4 ∨ (rd_T131 l0 i).f2 = 5 then basV i (-1) (-1) s0 (p0 - 1) l1 else basV i (-1) (-1) (-4611686018427387904) (p0 - 1) l1 from rfl)
          generalize (rd_T131 l0 i).f2 = kd at *
          have zz0 := World.block_lt_of_cell? _ _ f0
          have zz1 := World.block_lt_of_cell? _ _ y0
          clear hks x0 x1
          by_cases hk : 4 ≤ kd
          · have hkb : decide (4 ≤ kd) = true := decide_eq_true hk
            go_wp2_with fail
            refine (spec_Balance.to A1 c1 l1 h i (-1) (-1) s0 (p0 - 1) _ (Kd.C_below H1.out HB.out) HBP.out.2.2.1 HBP.out.2.2.2.1).mono ?_
            rintro x w3 ⟨rfl, hb⟩
            replace f0 := pw_cell_below hb f0
            replace f3 := pw_cell_below hb f3
            replace f4 := pw_cell_below hb f4
            replace f5 := pw_cell_below hb f5
            replace y0 := pw_cell_below hb y0
            replace y1 := pw_cell_below hb y1
            replace R7 := Aside0.mk (Kd.R_below R7.out hb)
            replace R8 := Aside0.mk (Kd.R_below R8.out hb)
            replace R9 := Aside0.mk (Kd.R_below R9.out hb)
            replace HB := Aside0.mk (below_into (w := w) hb HB.out)
            clear hb
            go_wp2_with fail
            refine (spec_Balance.to A1 c1 l1 h i (-1) (-1) p0 p1 _ (Kd.C_below H1.out HB.out) HBP.out.2.2.1 HBP.out.2.2.2.1).mono ?_
            rintro x w4 ⟨rfl, hb⟩
            replace f0 := pw_cell_below hb f0
            replace f3 := pw_cell_below hb f3
            replace f4 := pw_cell_below hb f4
            replace f5 := pw_cell_below hb f5
            replace y0 := pw_cell_below hb y0
            replace y1 := pw_cell_below hb y1
            replace R7 := Aside0.mk (Kd.R_below R7.out hb)
            replace R8 := Aside0.mk (Kd.R_below R8.out hb)
            replace R9 := Aside0.mk (Kd.R_below R9.out hb)
            replace HB := Aside0.mk (below_into (w := w) hb HB.out)
            clear hb
            have bx := basV_b (i : Int) (-1) (-1) s0 (p0 - 1) l1 HBP.out.2.2.2.1
            have bm := basV_b (i : Int) (-1) (-1) p0 p1 l1 HBP.out.2.2.2.1
            have hes := HBP.out.2.2.1
            have HX := Aside0.mk (by have := HDX.out; rw [if_pos (by omega)] at this; exact this)
            obtain ⟨xx, hxx⟩ : ∃ x, x = basV (i : Int) (-1) (-1) s0 (p0 - 1) l1 := ⟨_, rfl⟩
            obtain ⟨mm, hmm⟩ : ∃ x, x = basV (i : Int) (-1) (-1) p0 p1 l1 := ⟨_, rfl⟩
            rw [← hxx] at bx HX ⊢
            rw [← hmm] at bm ⊢
            have HMM := Aside0.mk hmm
            clear hxx hmm
            go_wp2_with (first | ((with_reducible refine gate_builtin (b := .append) (xs := #[.tmp 83, .tmp 85]) rfl ?_); at_builtin; refine Kd.R_append (Kd.int .i64) (w0 := w) w.heap.size rfl (.tmp 83) (.tmp 85) 46 3 (.int .i64 0) 8 rfl Try.underlying46 info3 rfl (by decide) (by omega) u7 (mapN i (mvX l0 l1 s0 (p0 - 1))) xx [.int .i64 xx] (fun _ => True) (fun _ => False) rfl rfl rfl (fun _ hk => hk.elim) (fun _ _ => trivial) R7.out HB.out HB.out.size (by rw [mapN_len]; omega) ?_; intro v7 wa ho hb hg hat; have lt0 := World.block_lt_of_cell? _ _ f0; have lt1 := World.block_lt_of_cell? _ _ y0; have o7 := Kd.R_lt R7.out; have o8 := Kd.R_lt R8.out; have o9 := Kd.R_lt R9.out; replace R8 := Aside0.mk (R_ap R8.out rfl hg AA.out.1.symm); replace R9 := Aside0.mk (R_ap R9.out rfl hg AA.out.2.1.symm); replace f0 := cell_grown f0 hg (NN.out.1.1); replace f3 := cell_grown f3 hg (NN.out.1.1); replace f4 := cell_grown f4 hg (NN.out.1.1); replace f5 := cell_grown f5 hg (NN.out.1.1); replace y0 := cell_grown y0 hg (NN.out.1.2); replace y1 := cell_grown y1 hg (NN.out.1.2); replace R7 := Aside0.mk ho; replace AA := Aside0.mk (show AP u8 v7 ∧ AP u9 v7 ∧ AP u9 u8 from ⟨(AA.out.1.symm.after hat o8).symm, (AA.out.2.1.symm.after hat o9).symm, AA.out.2.2⟩); replace NN := Aside0.mk (And.intro (NN.out.1.after hat lt0 lt1) NN.out.2); replace HB := Aside0.mk hb; clear ho hb hg hat lt0 lt1 o7 o8 o9) | ((with_reducible refine gate_builtin (b := .append) (xs := #[.tmp 87, .tmp 89]) rfl ?_); at_builtin; refine Kd.R_append (Kd.int .i64) (w0 := w) w.heap.size rfl (.tmp 87) (.tmp 89) 46 3 (.int .i64 0) 8 rfl Try.underlying46 info3 rfl (by decide) (by omega) u8 (mapN i (fun a => basV a (-1) (-1) p0 p1 l1)) mm [.int .i64 mm] (fun _ => True) (fun _ => False) rfl rfl rfl (fun _ hk => hk.elim) (fun _ _ => trivial) R8.out HB.out HB.out.size (by rw [mapN_len]; omega) ?_; intro v8 wb ho hb hg hat; have lt0 := World.block_lt_of_cell? _ _ f0; have lt1 := World.block_lt_of_cell? _ _ y0; have o7 := Kd.R_lt R7.out; have o8 := Kd.R_lt R8.out; have o9 := Kd.R_lt R9.out; replace R7 := Aside0.mk (R_ap R7.out rfl hg AA.out.1); replace R9 := Aside0.mk (R_ap R9.out rfl hg AA.out.2.2.symm); replace f0 := cell_grown f0 hg (NN.out.2.1.1); replace f3 := cell_grown f3 hg (NN.out.2.1.1); replace f4 := cell_grown f4 hg (NN.out.2.1.1); replace f5 := cell_grown f5 hg (NN.out.2.1.1); replace y0 := cell_grown y0 hg (NN.out.2.1.2); replace y1 := cell_grown y1 hg (NN.out.2.1.2); replace R8 := Aside0.mk ho; replace AA := Aside0.mk (show AP v8 v7 ∧ AP u9 v7 ∧ AP u9 v8 from ⟨AA.out.1.after hat o7, AA.out.2.1, (AA.out.2.2.symm.after hat o9).symm⟩); replace NN := Aside0.mk (And.intro NN.out.1 (And.intro (NN.out.2.1.after hat lt0 lt1) NN.out.2.2)); replace HB := Aside0.mk hb; clear ho hb hg hat lt0 lt1 o7 o8 o9) | ((with_reducible refine gate_builtin (b := .append) (xs := #[.tmp 91, .tmp 95]) rfl ?_); at_builtin; refine Kd.R_append (Kd.int .i64) (w0 := w) w.heap.size rfl (.tmp 91) (.tmp 95) 46 3 (.int .i64 0) 8 rfl Try.underlying46 info3 rfl (by decide) (by omega) u9 (mapN i (fun a => mvX l0 l1 s0 (p0 - 1) a + basV a (-1) (-1) p0 p1 l1)) (xx + mm) [.int .i64 (xx + mm)] (fun _ => True) (fun _ => False) rfl rfl rfl (fun _ hk => hk.elim) (fun _ _ => trivial) R9.out HB.out HB.out.size (by rw [mapN_len]; omega) ?_; intro v9 wc ho hb hg hat; have lt0 := World.block_lt_of_cell? _ _ f0; have lt1 := World.block_lt_of_cell? _ _ y0; have o7 := Kd.R_lt R7.out; have o8 := Kd.R_lt R8.out; have o9 := Kd.R_lt R9.out; replace R7 := Aside0.mk (R_ap R7.out rfl hg AA.out.2.1); replace R8 := Aside0.mk (R_ap R8.out rfl hg AA.out.2.2); replace f0 := cell_grown f0 hg (NN.out.2.2.1); replace f3 := cell_grown f3 hg (NN.out.2.2.1); replace f4 := cell_grown f4 hg (NN.out.2.2.1); replace f5 := cell_grown f5 hg (NN.out.2.2.1); replace y0 := cell_grown y0 hg (NN.out.2.2.2); replace y1 := cell_grown y1 hg (NN.out.2.2.2); replace R9 := Aside0.mk ho; replace AA := Aside0.mk (show AP v8 v7 ∧ AP v9 v7 ∧ AP v9 v8 from ⟨AA.out.1, AA.out.2.1.after hat o7, AA.out.2.2.after hat o8⟩); replace NN := Aside0.mk (And.intro NN.out.1 (And.intro NN.out.2.1 (NN.out.2.2.after hat lt0 lt1))); replace HB := Aside0.mk hb; clear ho hb hg hat lt0 lt1 o7 o8 o9))
            go_roundw
            case rel => exact ⟨i + 1, by omega, by go_num, HB, ⟨snoc_row R7.out HX.out⟩, ⟨snoc_row R8.out HMM.out.symm⟩, ⟨snoc_row R9.out (by show mvX l0 l1 s0 (p0 - 1) i + basV (i : Int) (-1) (-1) p0 p1 l1 = xx + mm; rw [HX.out, ← HMM.out])⟩, AA, NN, ⟨⟨f0, f3, f4, f5, y0, y1⟩⟩⟩
            case measure => simp [intOf]; omega
          · have hkb : decide (4 ≤ kd) = false := decide_eq_false hk
            go_wp2_with fail
            refine (spec_Balance.to A1 c1 l1 h i (-1) (-1) 0 (p0 - 1) _ (Kd.C_below H1.out HB.out) HBP.out.2.2.1 HBP.out.2.2.2.1).mono ?_
            rintro x w3 ⟨rfl, hb⟩
            replace f0 := pw_cell_below hb f0
            replace f3 := pw_cell_below hb f3
            replace f4 := pw_cell_below hb f4
            replace f5 := pw_cell_below hb f5
            replace y0 := pw_cell_below hb y0
            replace y1 := pw_cell_below hb y1
            replace R7 := Aside0.mk (Kd.R_below R7.out hb)
            replace R8 := Aside0.mk (Kd.R_below R8.out hb)
            replace R9 := Aside0.mk (Kd.R_below R9.out hb)
            replace HB := Aside0.mk (below_into (w := w) hb HB.out)
            clear hb
            go_wp2_with fail
            refine (spec_Balance.to A1 c1 l1 h i (-1) (-1) p0 p1 _ (Kd.C_below H1.out HB.out) HBP.out.2.2.1 HBP.out.2.2.2.1).mono ?_
            rintro x w4 ⟨rfl, hb⟩
            replace f0 := pw_cell_below hb f0
            replace f3 := pw_cell_below hb f3
            replace f4 := pw_cell_below hb f4
            replace f5 := pw_cell_below hb f5
            replace y0 := pw_cell_below hb y0
            replace y1 := pw_cell_below hb y1
            replace R7 := Aside0.mk (Kd.R_below R7.out hb)
            replace R8 := Aside0.mk (Kd.R_below R8.out hb)
            replace R9 := Aside0.mk (Kd.R_below R9.out hb)
            replace HB := Aside0.mk (below_into (w := w) hb HB.out)
            clear hb
            have bx := basV_b (i : Int) (-1) (-1) 0 (p0 - 1) l1 HBP.out.2.2.2.1
            have bm := basV_b (i : Int) (-1) (-1) p0 p1 l1 HBP.out.2.2.2.1
            have hes := HBP.out.2.2.1
            have HX := Aside0.mk (by have := HDX.out; rw [if_neg (by omega)] at this; rw [basV_days (fr' := 0) (fun e he => ⟨by have := (HDY.out e he).1; omega, (HDY.out e he).1⟩)] at this; exact this)
            obtain ⟨xx, hxx⟩ : ∃ x, x = basV (i : Int) (-1) (-1) 0 (p0 - 1) l1 := ⟨_, rfl⟩
            obtain ⟨mm, hmm⟩ : ∃ x, x = basV (i : Int) (-1) (-1) p0 p1 l1 := ⟨_, rfl⟩
            rw [← hxx] at bx HX ⊢
            rw [← hmm] at bm ⊢
            have HMM := Aside0.mk hmm
            clear hxx hmm
            go_wp2_with (first | ((with_reducible refine gate_builtin (b := .append) (xs := #[.tmp 83, .tmp 85]) rfl ?_); at_builtin; refine Kd.R_append (Kd.int .i64) (w0 := w) w.heap.size rfl (.tmp 83) (.tmp 85) 46 3 (.int .i64 0) 8 rfl Try.underlying46 info3 rfl (by decide) (by omega) u7 (mapN i (mvX l0 l1 s0 (p0 - 1))) xx [.int .i64 xx] (fun _ => True) (fun _ => False) rfl rfl rfl (fun _ hk => hk.elim) (fun _ _ => trivial) R7.out HB.out HB.out.size (by rw [mapN_len]; omega) ?_; intro v7 wa ho hb hg hat; have lt0 := World.block_lt_of_cell? _ _ f0; have lt1 := World.block_lt_of_cell? _ _ y0; have o7 := Kd.R_lt R7.out; have o8 := Kd.R_lt R8.out; have o9 := Kd.R_lt R9.out; replace R8 := Aside0.mk (R_ap R8.out rfl hg AA.out.1.symm); replace R9 := Aside0.mk (R_ap R9.out rfl hg AA.out.2.1.symm); replace f0 := cell_grown f0 hg (NN.out.1.1); replace f3 := cell_grown f3 hg (NN.out.1.1); replace f4 := cell_grown f4 hg (NN.out.1.1); replace f5 := cell_grown f5 hg (NN.out.1.1); replace y0 := cell_grown y0 hg (NN.out.1.2); replace y1 := cell_grown y1 hg (NN.out.1.2); replace R7 := Aside0.mk ho; replace AA := Aside0.mk (show AP u8 v7 ∧ AP u9 v7 ∧ AP u9 u8 from ⟨(AA.out.1.symm.after hat o8).symm, (AA.out.2.1.symm.after hat o9).symm, AA.out.2.2⟩); replace NN := Aside0.mk (And.intro (NN.out.1.after hat lt0 lt1) NN.out.2); replace HB := Aside0.mk hb; clear ho hb hg hat lt0 lt1 o7 o8 o9) | ((with_reducible refine gate_builtin (b := .append) (xs := #[.tmp 87, .tmp 89]) rfl ?_); at_builtin; refine Kd.R_append (Kd.int .i64) (w0 := w) w.heap.size rfl (.tmp 87) (.tmp 89) 46 3 (.int .i64 0) 8 rfl Try.underlying46 info3 rfl (by decide) (by omega) u8 (mapN i (fun a => basV a (-1) (-1) p0 p1 l1)) mm [.int .i64 mm] (fun _ => True) (fun _ => False) rfl rfl rfl (fun _ hk => hk.elim) (fun _ _ => trivial) R8.out HB.out HB.out.size (by rw [mapN_len]; omega) ?_; intro v8 wb ho hb hg hat; have lt0 := World.block_lt_of_cell? _ _ f0; have lt1 := World.block_lt_of_cell? _ _ y0; have o7 := Kd.R_lt R7.out; have o8 := Kd.R_lt R8.out; have o9 := Kd.R_lt R9.out; replace R7 := Aside0.mk (R_ap R7.out rfl hg AA.out.1); replace R9 := Aside0.mk (R_ap R9.out rfl hg AA.out.2.2.symm); replace f0 := cell_grown f0 hg (NN.out.2.1.1); replace f3 := cell_grown f3 hg (NN.out.2.1.1); replace f4 := cell_grown f4 hg (NN.out.2.1.1); replace f5 := cell_grown f5 hg (NN.out.2.1.1); replace y0 := cell_grown y0 hg (NN.out.2.1.2); replace y1 := cell_grown y1 hg (NN.out.2.1.2); replace R8 := Aside0.mk ho; replace AA := Aside0.mk (show AP v8 v7 ∧ AP u9 v7 ∧ AP u9 v8 from ⟨AA.out.1.after hat o7, AA.out.2.1, (AA.out.2.2.symm.after hat o9).symm⟩); replace NN := Aside0.mk (And.intro NN.out.1 (And.intro (NN.out.2.1.after hat lt0 lt1) NN.out.2.2)); replace HB := Aside0.mk hb; clear ho hb hg hat lt0 lt1 o7 o8 o9) | ((with_reducible refine gate_builtin (b := .append) (xs := #[.tmp 91, .tmp 95]) rfl ?_); at_builtin; refine Kd.R_append (Kd.int .i64) (w0 := w) w.heap.size rfl (.tmp 91) (.tmp 95) 46 3 (.int .i64 0) 8 rfl Try.underlying46 info3 rfl (by decide) (by omega) u9 (mapN i (fun a => mvX l0 l1 s0 (p0 - 1) a + basV a (-1) (-1) p0 p1 l1)) (xx + mm) [.int .i64 (xx + mm)] (fun _ => True) (fun _ => False) rfl rfl rfl (fun _ hk => hk.elim) (fun _ _ => trivial) R9.out HB.out HB.out.size (by rw [mapN_len]; omega) ?_; intro v9 wc ho hb hg hat; have lt0 := World.block_lt_of_cell? _ _ f0; have lt1 := World.block_lt_of_cell? _ _ y0; have o7 := Kd.R_lt R7.out; have o8 := Kd.R_lt R8.out; have o9 := Kd.R_lt R9.out; replace R7 := Aside0.mk (R_ap R7.out rfl hg AA.out.2.1); replace R8 := Aside0.mk (R_ap R8.out rfl hg AA.out.2.2); replace f0 := cell_grown f0 hg (NN.out.2.2.1); replace f3 := cell_grown f3 hg (NN.out.2.2.1); replace f4 := cell_grown f4 hg (NN.out.2.2.1); replace f5 := cell_grown f5 hg (NN.out.2.2.1); replace y0 := cell_grown y0 hg (NN.out.2.2.2); replace y1 := cell_grown y1 hg (NN.out.2.2.2); replace R9 := Aside0.mk ho; replace AA := Aside0.mk (show AP v8 v7 ∧ AP v9 v7 ∧ AP v9 v8 from ⟨AA.out.1, AA.out.2.1.after hat o7, AA.out.2.2.after hat o8⟩); replace NN := Aside0.mk (And.intro NN.out.1 (And.intro NN.out.2.1 (NN.out.2.2.after hat lt0 lt1))); replace HB := Aside0.mk hb; clear ho hb hg hat lt0 lt1 o7 o8 o9))
            go_roundw
            case rel => exact ⟨i + 1, by omega, by go_num, HB, ⟨snoc_row R7.out HX.out⟩, ⟨snoc_row R8.out HMM.out.symm⟩, ⟨snoc_row R9.out (by show mvX l0 l1 s0 (p0 - 1) i + basV (i : Int) (-1) (-1) p0 p1 l1 = xx + mm; rw [HX.out, ← HMM.out])⟩, AA, NN, ⟨⟨f0, f3, f4, f5, y0, y1⟩⟩⟩
            case measure => simp [intOf]; omega
        · go_wp2_with fail
          obtain ⟨B7, d7, e7⟩ := Kd.R_slice R7.out
          obtain ⟨B8, d8, e8⟩ := Kd.R_slice R8.out
          obtain ⟨B9, d9, e9⟩ := Kd.R_slice R9.out
          subst e7 e8 e9
          have hi : i = l0.length := by omega
          have g7 := R7.out
          have g8 := R8.out
          have g9 := R9.out
          rw [hi] at g7 g8 g9
          rw [HRV.out]
          exact bodyPost_ret (v := .tuple #[.slice B7 (mapN i (mvX l0 l1 s0 (p0 - 1))).length d7, .slice B8 (mapN i (fun a => basV a (-1) (-1) p0 p1 l1)).length d8, .slice B9 (mapN i (fun a => mvX l0 l1 s0 (p0 - 1) a + basV a (-1) (-1) p0 p1 l1)).length d9]) (by simp [results, Try.results61, go_sem]) rfl ⟨_, _, _, rfl, by rw [hi]; exact g7, by rw [hi]; exact g8, by rw [hi]; exact g9, HB.out⟩

end Go.Proofs.Ytphmnkcfjgallaa.Q
