/- Parts of the proof: what functions of the program and of the reference answer.
   No condition. -/
import Derived.Test.YtjnibbkjoclboaaZYearClosed1
import Derived.Test.YtjnibbkjoclboaaZYearClosed11
import Derived.Test.YtjnibbkjoclboaaZYearClosed19
import Derived.Test.YtjnibbkjoclboaaZYearClosed16
import Derived.Test.YtjnibbkjoclboaaZYearClosed8
namespace Go.Proofs.Ytjnibbkjoclboaa.Q
open Go.RowKit Go.Proofs.YtjnibbkjoclboaaW.PrintWords Go.Proofs.YtjnibbkjoclboaaW.PrintLast Go.Proofs.YtjnibbkjoclboaaW.PrintMore
attribute [local go_sem] max2_int min2_int max_two min_two max_three min_three max_four min_four   -- for this text's walks alone
set_option linter.unusedVariables false
set_option linter.unusedSimpArgs false
mutual
noncomputable def spec_CloseYear.l0 : Nat → Int → Int → List (S43) → Int → Int → List (S37) → Int → List (S84) → Int → Int → List (S43) → Int → Int → Int → Int → ByteArray → List (S66) → Option (Int × Int × ByteArray × (List (S66)) × Bool)
  | 0, _, _, _, _, _, _, _, _, _, _, _, _, _, _, _, _, _ => none
  | k + 1, x1, x8, x8002000, x8002001, x8002002, x8002003, x8002004, x8002005, x8002006, x8002007, x8005000, x8005001, x8005002, x8006000, x8006001, x8006002, x8006003 => if x8 < x8005001 then (spec_CloseYear.l1 k x1 x8 0 false 0 x8002000 x8002001 x8002002 x8002003 x8002004 x8002005 x8002006 x8002007 x8005000 x8005001 x8005002 x8006000 x8006001 x8006002 x8006003) else ((spec_EntryOk.f x8005000 x8005001 x8005002 x8006000 x8006001 x8006002 x8006003).bind fun t8006 => (if t8006 = true then (some (x8006000, x8006001, x8006002, x8006003, true)) else (some (0, 0, (⟨#[]⟩ : ByteArray), ([] : List (S66)), false))))
noncomputable def spec_CloseYear.l1 : Nat → Int → Int → Int → Bool → Int → List (S43) → Int → Int → List (S37) → Int → List (S84) → Int → Int → List (S43) → Int → Int → Int → Int → ByteArray → List (S66) → Option (Int × Int × ByteArray × (List (S66)) × Bool)
  | 0, _, _, _, _, _, _, _, _, _, _, _, _, _, _, _, _, _, _, _, _ => none
  | k + 1, x1, x8, x9, x10, x11, x8002000, x8002001, x8002002, x8002003, x8002004, x8002005, x8002006, x8002007, x8005000, x8005001, x8005002, x8006000, x8006001, x8006002, x8006003 => if x11 < (x8005000.length : Int) then ((spec_Leaf.f x8005000 x11).bind fun t8010 => (if t8010 = true then (if 0 ≤ x11 then (if ((rd_T43 x8005000 x11).f2) = 4 then (spec_CloseYear.j2 k x1 x8 x9 x10 x11 false x8002000 x8002001 x8002002 x8002003 x8002004 x8002005 x8002006 x8002007 x8005000 x8005001 x8005002 x8006000 x8006001 x8006002 x8006003) else (spec_CloseYear.j2 k x1 x8 x9 x10 x11 (((rd_T43 x8005000 x11).f2) != 5) x8002000 x8002001 x8002002 x8002003 x8002004 x8002005 x8002006 x8002007 x8005000 x8005001 x8005002 x8006000 x8006001 x8006002 x8006003)) else (none)) else (spec_CloseYear.j2 k x1 x8 x9 x10 x11 true x8002000 x8002001 x8002002 x8002003 x8002004 x8002005 x8002006 x8002007 x8005000 x8005001 x8005002 x8006000 x8006001 x8006002 x8006003))) else (if x10 = true then (if x8006003.length < 3518437208883 then (spec_CloseYear.l0 k x1 (wrap64 (x8 + 1)) x8002000 x8002001 x8002002 x8002003 x8002004 x8002005 x8002006 x8002007 x8005000 x8005001 x8005002 x8006000 x8006001 x8006002 (x8006003 ++ [(⟨x8002007, x8, 0, x9, x9⟩ : S66)])) else (none)) else (spec_CloseYear.l0 k x1 (wrap64 (x8 + 1)) x8002000 x8002001 x8002002 x8002003 x8002004 x8002005 x8002006 x8002007 x8005000 x8005001 x8005002 x8006000 x8006001 x8006002 x8006003))
noncomputable def spec_CloseYear.j2 : Nat → Int → Int → Int → Bool → Int → Bool → List (S43) → Int → Int → List (S37) → Int → List (S84) → Int → Int → List (S43) → Int → Int → Int → Int → ByteArray → List (S66) → Option (Int × Int × ByteArray × (List (S66)) × Bool)
  | 0, _, _, _, _, _, _, _, _, _, _, _, _, _, _, _, _, _, _, _, _, _ => none
  | k + 1, x1, x8, x9, x10, x11, x57, x8002000, x8002001, x8002002, x8002003, x8002004, x8002005, x8002006, x8002007, x8005000, x8005001, x8005002, x8006000, x8006001, x8006002, x8006003 => if x57 = true then (spec_CloseYear.l1 k x1 x8 x9 x10 (wrap64 (x11 + 1)) x8002000 x8002001 x8002002 x8002003 x8002004 x8002005 x8002006 x8002007 x8005000 x8005001 x8005002 x8006000 x8006001 x8006002 x8006003) else ((spec_Balance.f x8002003 x8002004 x11 x8 (-1) 0 x1).bind fun bt8013 => (if bt8013.2 = 0 then (spec_CloseYear.l1 k x1 x8 x9 x10 (wrap64 (x11 + 1)) x8002000 x8002001 x8002002 x8002003 x8002004 x8002005 x8002006 x8002007 x8005000 x8005001 x8005002 x8006000 x8006001 x8006002 x8006003) else (if x8006003.length < 3518437208883 then (spec_CloseYear.l1 k x1 x8 (wrap64 (x9 + bt8013.2)) true (wrap64 (x11 + 1)) x8002000 x8002001 x8002002 x8002003 x8002004 x8002005 x8002006 x8002007 x8005000 x8005001 x8005002 x8006000 x8006001 x8006002 (x8006003 ++ [(⟨x11, x8, 0, wrap64 (-bt8013.2), wrap64 (-bt8013.2)⟩ : S66)])) else (none))))
end
noncomputable def spec_CloseYear.f (k : Nat) (l0_0 : List (S43)) (a0_1 : Int) (a0_2 : Int) (l0_3 : List (S37)) (a0_4 : Int) (l0_5 : List (S84)) (a0_6 : Int) (a0_7 : Int) (a1 : Int) : Option (Int × Int × ByteArray × (List (S66)) × Bool) := (spec_BooksOk.f l0_0 a0_1 a0_2 l0_3 a0_4 l0_5 a0_6 a0_7).bind fun t8003 => (if t8003 = true then (spec_CloseYear.l0 k a1 0 l0_0 a0_1 a0_2 l0_3 a0_4 l0_5 a0_6 a0_7 l0_0 a0_1 a0_2 a1 0 (⟨#[99, 108, 111, 115, 101]⟩ : ByteArray) ([] : List (S66))) else (some (0, 0, (⟨#[]⟩ : ByteArray), ([] : List (S66)), false)))
set_option maxHeartbeats 8000000 in
set_option maxRecDepth 100000 in
theorem spec_CloseYear.calls (k : Nat) (A0_0 : Option Addr) (c0_0 : Nat) (l0_0 : List (S43)) (a0_1 : Int) (a0_2 : Int) (A0_3 : Option Addr) (c0_3 : Nat) (l0_3 : List (S37)) (a0_4 : Int) (A0_5 : Option Addr) (c0_5 : Nat) (l0_5 : List (S84)) (a0_6 : Int) (a0_7 : Int) (a1 : Int) (r1 : Int) (r2 : Int) (r3 : ByteArray) (r4 : List (S66)) (r5 : Bool) (w : World) (hr0_0 : Kd.C k43 w A0_0 l0_0.length l0_0) (hc0_0 : l0_0.length ≤ c0_0) (hr0_3 : Kd.C k37 w A0_3 l0_3.length l0_3) (hc0_3 : l0_3.length ≤ c0_3) (hr0_5 : Kd.C k84 w A0_5 l0_5.length l0_5) (hc0_5 : l0_5.length ≤ c0_5) (h : spec_CloseYear.f k l0_0 a0_1 a0_2 l0_3 a0_4 l0_5 a0_6 a0_7 a1 = some (r1, r2, r3, r4, r5)) :
    Calls Try.prog 7 #[.agg #[.slice A0_0 l0_0.length c0_0, .int .i64 a0_1, .int .i64 a0_2, .slice A0_3 l0_3.length c0_3, .int .i64 a0_4, .slice A0_5 l0_5.length c0_5, .int .i64 a0_6, .int .i64 a0_7], .int .i64 a1] w fun e w' => ∃ v3_ : Value, e = .returned (.tuple #[.agg #[.int .i64 r1, .int .i64 r2, .string r3, v3_], .bool r5]) ∧ Kd.R k66 66 w' w.heap.size (fun _ => True) v3_ r4 ∧ Below w.heap.size w w' := by
  have hu32 := Try.underlying32
  have hu37 := Try.underlying37
  have hu26 := Try.underlying26
  have hu29 := Try.underlying29
  have hu66 := Try.underlying66
  have HR0_0 := Aside0.mk hr0_0
  have HC0_0 := Aside0.mk hc0_0
  clear hr0_0 hc0_0
  have HR0_3 := Aside0.mk hr0_3
  have HC0_3 := Aside0.mk hc0_3
  clear hr0_3 hc0_3
  have HR0_5 := Aside0.mk hr0_5
  have HC0_5 := Aside0.mk hc0_5
  clear hr0_5 hc0_5
  have HB := Aside0.mk (Below.refl w.heap.size w)
  have H : ((spec_BooksOk.f l0_0 a0_1 a0_2 l0_3 a0_4 l0_5 a0_6 a0_7).bind fun t8003 => (if t8003 = true then (spec_CloseYear.l0 k a1 0 l0_0 a0_1 a0_2 l0_3 a0_4 l0_5 a0_6 a0_7 l0_0 a0_1 a0_2 a1 0 (⟨#[99, 108, 111, 115, 101]⟩ : ByteArray) ([] : List (S66))) else (some (0, 0, (⟨#[]⟩ : ByteArray), ([] : List (S66)), false)))) = some (r1, r2, r3, r4, r5) := h
  clear h
  replace H := Option.bind_eq_some_iff.mp H
  obtain ⟨t8003, A30, H⟩ := H
  replace H : (if t8003 = true then (spec_CloseYear.l0 k a1 0 l0_0 a0_1 a0_2 l0_3 a0_4 l0_5 a0_6 a0_7 l0_0 a0_1 a0_2 a1 0 (⟨#[99, 108, 111, 115, 101]⟩ : ByteArray) ([] : List (S66))) else (some (0, 0, (⟨#[]⟩ : ByteArray), ([] : List (S66)), false))) = some (r1, r2, r3, r4, r5) := H
  have A3 := Aside0.mk A30
  clear A30
  by_cases c4 : t8003 = true
  · subst c4
    have H1 : (spec_CloseYear.l0 k a1 0 l0_0 a0_1 a0_2 l0_3 a0_4 l0_5 a0_6 a0_7 l0_0 a0_1 a0_2 a1 0 (⟨#[99, 108, 111, 115, 101]⟩ : ByteArray) ([] : List (S66))) = some (r1, r2, r3, r4, r5) := by rw [if_pos rfl] at H; exact H
    clear H
    have H := H1
    clear H1
    have H' := Aside0.mk H
    clear H
    go_enter Try.func7, Try.ntmps7
    go_wp2_with (first | ((with_reducible refine gate_dst (N := 2) rfl ?_); refine box_event ?hg (N := 2) ?hd (cs := #[.slice A0_0 l0_0.length c0_0, .int .i64 a0_1, .int .i64 a0_2, .slice A0_3 l0_3.length c0_3, .int .i64 a0_4, .slice A0_5 l0_5.length c0_5, .int .i64 a0_6, .int .i64 a0_7]) (t := 32) ?hr ?_; (case hd => rfl); (case hg => rfl); (case hr => first | (go_simp; done) | (go_simp; rfl)); intro gb8001 hg w5 hbox hb; have n0_ := Aside0.mk (below_step (by repeat (first | (with_reducible first | exact HB.out | apply below_alloc | apply pw_below_drewN | apply below_drew1) | exact HB.out)) hb); have n1_ := Aside0.mk (hbox); have n2_ := Aside0.mk ((by rw [hg]; exact (below_size (by repeat (first | (with_reducible first | exact HB.out | apply below_alloc | apply pw_below_drewN | apply below_drew1) | exact HB.out))) : w.heap.size ≤ gb8001)); have n3_ := Aside0.mk ((by rw [hg]; exact (below_size (by repeat (first | (with_reducible first | exact HB.out | apply below_alloc | apply pw_below_drewN | apply below_drew1) | exact HB.out))) : w.heap.size ≤ gb8001)); clear HB; have HB := n0_; have BK8001 := n1_; have GW8001 := n2_; have GE8001 := n3_; clear n0_ n1_ n2_ n3_; clear hb hbox hg) | ((with_reducible refine gate_dst (N := 4) rfl ?_); refine box_event ?hg (N := 4) ?hd (cs := #[.int .i64 0, .int .i64 0, .string (⟨#[]⟩ : ByteArray), .slice none 0 0]) (t := 37) ?hr ?_; (case hd => rfl); (case hg => rfl); (case hr => first | (go_simp; done) | (go_simp; rfl)); intro gb8002 hg w6 hbox hb; have n0_ := Aside0.mk (blk_below (g := gb8001) (o := .cells #[.slice A0_0 l0_0.length c0_0, .int .i64 a0_1, .int .i64 a0_2, .slice A0_3 l0_3.length c0_3, .int .i64 a0_4, .slice A0_5 l0_5.length c0_5, .int .i64 a0_6, .int .i64 a0_7] 32 (0, 0)) (by (with_reducible repeat (first | refine blk_drewN ?_ _ | refine blk_drew ?_ | refine blk_alloc ?_ _)); exact BK8001.out) hb); have n1_ := Aside0.mk (below_step (by repeat (first | (with_reducible first | exact HB.out | apply below_alloc | apply pw_below_drewN | apply below_drew1 | refine below_set ?_ GE8001.out) | exact HB.out)) hb); have n2_ := Aside0.mk (hbox); have n3_ := Aside0.mk ((by rw [hg]; exact (below_size (by repeat (first | (with_reducible first | exact HB.out | apply below_alloc | apply pw_below_drewN | apply below_drew1 | refine below_set ?_ GE8001.out) | exact HB.out))) : w.heap.size ≤ gb8002)); have n4_ := Aside0.mk ((by rw [hg]; exact (below_size (by repeat (first | (with_reducible first | exact HB.out | apply below_alloc | apply pw_below_drewN | apply below_drew1 | refine below_set ?_ GE8001.out) | exact HB.out))) : w.heap.size ≤ gb8002)); have n5_ := Aside0.mk ((by rw [hg]; exact Nat.ne_of_lt (blk_lt (g := gb8001) (o := .cells #[.slice A0_0 l0_0.length c0_0, .int .i64 a0_1, .int .i64 a0_2, .slice A0_3 l0_3.length c0_3, .int .i64 a0_4, .slice A0_5 l0_5.length c0_5, .int .i64 a0_6, .int .i64 a0_7] 32 (0, 0)) (by (with_reducible repeat (first | refine blk_drewN ?_ _ | refine blk_drew ?_ | refine blk_alloc ?_ _)); exact BK8001.out)) : gb8001 ≠ gb8002)); have n6_ := Aside0.mk ((by rw [hg]; exact Nat.ne_of_gt (blk_lt (g := gb8001) (o := .cells #[.slice A0_0 l0_0.length c0_0, .int .i64 a0_1, .int .i64 a0_2, .slice A0_3 l0_3.length c0_3, .int .i64 a0_4, .slice A0_5 l0_5.length c0_5, .int .i64 a0_6, .int .i64 a0_7] 32 (0, 0)) (by (with_reducible repeat (first | refine blk_drewN ?_ _ | refine blk_drew ?_ | refine blk_alloc ?_ _)); exact BK8001.out)) : gb8002 ≠ gb8001)); clear BK8001; clear HB; have BK8001 := n0_; have HB := n1_; have BK8002 := n2_; have GW8002 := n3_; have GE8002 := n4_; have NB8001_8002 := n5_; have NB8002_8001 := n6_; clear n0_ n1_ n2_ n3_ n4_ n5_ n6_; clear hb hbox hg; have hnb7 := NB8001_8002.out; have hnc7 := NB8002_8001.out; have hcz8_0 : w6.cell? ⟨gb8001, 0, none⟩ = some (.slice A0_0 l0_0.length c0_0) := (blk_cell BK8001.out 0).trans rfl; have hcz8_1 : w6.cell? ⟨gb8001, 1, none⟩ = some (.int .i64 a0_1) := (blk_cell BK8001.out 1).trans rfl; have hcz8_2 : w6.cell? ⟨gb8001, 2, none⟩ = some (.int .i64 a0_2) := (blk_cell BK8001.out 2).trans rfl; have hcz8_3 : w6.cell? ⟨gb8001, 3, none⟩ = some (.slice A0_3 l0_3.length c0_3) := (blk_cell BK8001.out 3).trans rfl; have hcz8_4 : w6.cell? ⟨gb8001, 4, none⟩ = some (.int .i64 a0_4) := (blk_cell BK8001.out 4).trans rfl; have hcz8_5 : w6.cell? ⟨gb8001, 5, none⟩ = some (.slice A0_5 l0_5.length c0_5) := (blk_cell BK8001.out 5).trans rfl; have hcz8_6 : w6.cell? ⟨gb8001, 6, none⟩ = some (.int .i64 a0_6) := (blk_cell BK8001.out 6).trans rfl; have hcz8_7 : w6.cell? ⟨gb8001, 7, none⟩ = some (.int .i64 a0_7) := (blk_cell BK8001.out 7).trans rfl; have hfz8_0 := blk_frozen BK8001.out 0; have hfz8_1 := blk_frozen BK8001.out 1; have hfz8_2 := blk_frozen BK8001.out 2; have hfz8_3 := blk_frozen BK8001.out 3; have hfz8_4 := blk_frozen BK8001.out 4; have hfz8_5 := blk_frozen BK8001.out 5; have hfz8_6 := blk_frozen BK8001.out 6; have hfz8_7 := blk_frozen BK8001.out 7) | ((with_reducible refine gate_callee (f := 22) rfl ?_); refine goesL_ (some 15) rfl rfl Try.func22 (by kernel_rfl) rfl #[.agg #[.slice A0_0 l0_0.length c0_0, .int .i64 a0_1, .int .i64 a0_2, .slice A0_3 l0_3.length c0_3, .int .i64 a0_4, .slice A0_5 l0_5.length c0_5, .int .i64 a0_6, .int .i64 a0_7]] rfl (by (try simp only [List.map_toArray, List.map_cons, List.map_nil]); first | done | rfl | (simp only [List.length_drop, List.length_take]; rfl)) ?_; (with_reducible refine (spec_BooksOk.calls _ _ l0_0 a0_1 a0_2 _ _ l0_3 a0_4 _ _ l0_5 a0_6 a0_7 true _ ?side1 ?side2 ?side3 ?side4 ?side5 ?side6 A3.out).mono ?_); (case side1 => repeat (first | exact (Kd.C_below HR0_0.out HB.out) | (with_reducible refine Kd.C_alloc ?_ _) | (with_reducible refine Kd.C_drewN ?_ _) | (with_reducible refine Kd.C_drew ?_))); (case side2 => exact HC0_0.out); (case side3 => repeat (first | exact (Kd.C_below HR0_3.out HB.out) | (with_reducible refine Kd.C_alloc ?_ _) | (with_reducible refine Kd.C_drewN ?_ _) | (with_reducible refine Kd.C_drew ?_))); (case side4 => exact HC0_3.out); (case side5 => repeat (first | exact (Kd.C_below HR0_5.out HB.out) | (with_reducible refine Kd.C_alloc ?_ _) | (with_reducible refine Kd.C_drewN ?_ _) | (with_reducible refine Kd.C_drew ?_))); (case side6 => exact HC0_5.out); rintro e w9 ⟨rfl, hb⟩; refine ⟨_, rfl, ?_⟩; have n0_ := Aside0.mk (blk_below (g := gb8001) (o := .cells #[.slice A0_0 l0_0.length c0_0, .int .i64 a0_1, .int .i64 a0_2, .slice A0_3 l0_3.length c0_3, .int .i64 a0_4, .slice A0_5 l0_5.length c0_5, .int .i64 a0_6, .int .i64 a0_7] 32 (0, 0)) (by (with_reducible repeat (first | refine blk_drewN ?_ _ | refine blk_drew ?_ | refine blk_alloc ?_ _)); exact BK8001.out) hb); have n1_ := Aside0.mk (blk_below (g := gb8002) (o := .cells #[.int .i64 0, .int .i64 0, .string (⟨#[]⟩ : ByteArray), .slice none 0 0] 37 (0, 0)) (by (with_reducible repeat (first | refine blk_drewN ?_ _ | refine blk_drew ?_ | refine blk_alloc ?_ _)); exact BK8002.out) hb); have n2_ := Aside0.mk (below_step (by repeat (first | (with_reducible first | exact HB.out | apply below_alloc | apply pw_below_drewN | apply below_drew1 | refine below_set ?_ GE8001.out | refine below_set ?_ GE8002.out) | exact HB.out)) hb); clear BK8001; clear BK8002; clear HB; have BK8001 := n0_; have BK8002 := n1_; have HB := n2_; clear n0_ n1_ n2_; (try clear hb); (try clear hb2); (try clear hk); (try clear hi); have hcz10_0 : w9.cell? ⟨gb8001, 0, none⟩ = some (.slice A0_0 l0_0.length c0_0) := (blk_cell BK8001.out 0).trans rfl; have hcz10_1 : w9.cell? ⟨gb8001, 1, none⟩ = some (.int .i64 a0_1) := (blk_cell BK8001.out 1).trans rfl; have hcz10_2 : w9.cell? ⟨gb8001, 2, none⟩ = some (.int .i64 a0_2) := (blk_cell BK8001.out 2).trans rfl; have hcz10_3 : w9.cell? ⟨gb8001, 3, none⟩ = some (.slice A0_3 l0_3.length c0_3) := (blk_cell BK8001.out 3).trans rfl; have hcz10_4 : w9.cell? ⟨gb8001, 4, none⟩ = some (.int .i64 a0_4) := (blk_cell BK8001.out 4).trans rfl; have hcz10_5 : w9.cell? ⟨gb8001, 5, none⟩ = some (.slice A0_5 l0_5.length c0_5) := (blk_cell BK8001.out 5).trans rfl; have hcz10_6 : w9.cell? ⟨gb8001, 6, none⟩ = some (.int .i64 a0_6) := (blk_cell BK8001.out 6).trans rfl; have hcz10_7 : w9.cell? ⟨gb8001, 7, none⟩ = some (.int .i64 a0_7) := (blk_cell BK8001.out 7).trans rfl; have hfz10_0 := blk_frozen BK8001.out 0; have hfz10_1 := blk_frozen BK8001.out 1; have hfz10_2 := blk_frozen BK8001.out 2; have hfz10_3 := blk_frozen BK8001.out 3; have hfz10_4 := blk_frozen BK8001.out 4; have hfz10_5 := blk_frozen BK8001.out 5; have hfz10_6 := blk_frozen BK8001.out 6; have hfz10_7 := blk_frozen BK8001.out 7) | ((with_reducible refine gate_dst (N := 6) rfl ?_); refine box_event ?hg (N := 6) ?hd (cs := #[.slice none 0 0, .int .i64 0, .int .i64 0]) (t := 26) ?hr ?_; (case hd => rfl); (case hg => rfl); (case hr => first | (go_simp; done) | (go_simp; rfl)); intro gb8004 hg w11 hbox hb; have n0_ := Aside0.mk (blk_below (g := gb8001) (o := .cells #[.slice A0_0 l0_0.length c0_0, .int .i64 a0_1, .int .i64 a0_2, .slice A0_3 l0_3.length c0_3, .int .i64 a0_4, .slice A0_5 l0_5.length c0_5, .int .i64 a0_6, .int .i64 a0_7] 32 (0, 0)) (by (with_reducible repeat (first | refine blk_drewN ?_ _ | refine blk_drew ?_ | refine blk_alloc ?_ _)); exact BK8001.out) hb); have n1_ := Aside0.mk (blk_below (g := gb8002) (o := .cells #[.int .i64 0, .int .i64 0, .string (⟨#[]⟩ : ByteArray), .slice none 0 0] 37 (0, 0)) (by (with_reducible repeat (first | refine blk_drewN ?_ _ | refine blk_drew ?_ | refine blk_alloc ?_ _)); exact BK8002.out) hb); have n2_ := Aside0.mk (below_step (by repeat (first | (with_reducible first | exact HB.out | apply below_alloc | apply pw_below_drewN | apply below_drew1 | refine below_set ?_ GE8001.out | refine below_set ?_ GE8002.out) | exact HB.out)) hb); have n3_ := Aside0.mk (hbox); have n4_ := Aside0.mk ((by rw [hg]; exact (below_size (by repeat (first | (with_reducible first | exact HB.out | apply below_alloc | apply pw_below_drewN | apply below_drew1 | refine below_set ?_ GE8001.out | refine below_set ?_ GE8002.out) | exact HB.out))) : w.heap.size ≤ gb8004)); have n5_ := Aside0.mk ((by rw [hg]; exact (below_size (by repeat (first | (with_reducible first | exact HB.out | apply below_alloc | apply pw_below_drewN | apply below_drew1 | refine below_set ?_ GE8001.out | refine below_set ?_ GE8002.out) | exact HB.out))) : w.heap.size ≤ gb8004)); have n6_ := Aside0.mk ((by rw [hg]; exact Nat.ne_of_lt (blk_lt (g := gb8001) (o := .cells #[.slice A0_0 l0_0.length c0_0, .int .i64 a0_1, .int .i64 a0_2, .slice A0_3 l0_3.length c0_3, .int .i64 a0_4, .slice A0_5 l0_5.length c0_5, .int .i64 a0_6, .int .i64 a0_7] 32 (0, 0)) (by (with_reducible repeat (first | refine blk_drewN ?_ _ | refine blk_drew ?_ | refine blk_alloc ?_ _)); exact BK8001.out)) : gb8001 ≠ gb8004)); have n7_ := Aside0.mk ((by rw [hg]; exact Nat.ne_of_gt (blk_lt (g := gb8001) (o := .cells #[.slice A0_0 l0_0.length c0_0, .int .i64 a0_1, .int .i64 a0_2, .slice A0_3 l0_3.length c0_3, .int .i64 a0_4, .slice A0_5 l0_5.length c0_5, .int .i64 a0_6, .int .i64 a0_7] 32 (0, 0)) (by (with_reducible repeat (first | refine blk_drewN ?_ _ | refine blk_drew ?_ | refine blk_alloc ?_ _)); exact BK8001.out)) : gb8004 ≠ gb8001)); have n8_ := Aside0.mk ((by rw [hg]; exact Nat.ne_of_lt (blk_lt (g := gb8002) (o := .cells #[.int .i64 0, .int .i64 0, .string (⟨#[]⟩ : ByteArray), .slice none 0 0] 37 (0, 0)) (by (with_reducible repeat (first | refine blk_drewN ?_ _ | refine blk_drew ?_ | refine blk_alloc ?_ _)); exact BK8002.out)) : gb8002 ≠ gb8004)); have n9_ := Aside0.mk ((by rw [hg]; exact Nat.ne_of_gt (blk_lt (g := gb8002) (o := .cells #[.int .i64 0, .int .i64 0, .string (⟨#[]⟩ : ByteArray), .slice none 0 0] 37 (0, 0)) (by (with_reducible repeat (first | refine blk_drewN ?_ _ | refine blk_drew ?_ | refine blk_alloc ?_ _)); exact BK8002.out)) : gb8004 ≠ gb8002)); clear BK8001; clear BK8002; clear HB; have BK8001 := n0_; have BK8002 := n1_; have HB := n2_; have BK8004 := n3_; have GW8004 := n4_; have GE8004 := n5_; have NB8001_8004 := n6_; have NB8004_8001 := n7_; have NB8002_8004 := n8_; have NB8004_8002 := n9_; clear n0_ n1_ n2_ n3_ n4_ n5_ n6_ n7_ n8_ n9_; clear hb hbox hg; have hnb12 := NB8004_8001.out; have hnc12 := NB8001_8004.out; have hnb13 := NB8004_8002.out; have hnc13 := NB8002_8004.out; have hcz14_0 : w11.cell? ⟨gb8004, 0, none⟩ = some (.slice none 0 0) := (blk_cell BK8004.out 0).trans rfl; have hcz14_1 : w11.cell? ⟨gb8004, 1, none⟩ = some (.int .i64 0) := (blk_cell BK8004.out 1).trans rfl; have hcz14_2 : w11.cell? ⟨gb8004, 2, none⟩ = some (.int .i64 0) := (blk_cell BK8004.out 2).trans rfl; have hfz14_0 := blk_frozen BK8004.out 0; have hfz14_1 := blk_frozen BK8004.out 1; have hfz14_2 := blk_frozen BK8004.out 2) | ((with_reducible refine gate_dst (N := 7) rfl ?_); refine box_event ?hg (N := 7) ?hd (cs := #[.int .i64 0, .int .i64 0, .string (⟨#[]⟩ : ByteArray), .slice none 0 0]) (t := 37) ?hr ?_; (case hd => rfl); (case hg => rfl); (case hr => first | (go_simp; done) | (go_simp; rfl)); intro gb8005 hg w15 hbox hb; have n0_ := Aside0.mk (blk_below (g := gb8001) (o := .cells #[.slice A0_0 l0_0.length c0_0, .int .i64 a0_1, .int .i64 a0_2, .slice A0_3 l0_3.length c0_3, .int .i64 a0_4, .slice A0_5 l0_5.length c0_5, .int .i64 a0_6, .int .i64 a0_7] 32 (0, 0)) (by (with_reducible repeat (first | refine blk_drewN ?_ _ | refine blk_drew ?_ | refine blk_alloc ?_ _)); refine blk_far ?_ NB8001_8004.out _; (with_reducible repeat (first | refine blk_drewN ?_ _ | refine blk_drew ?_ | refine blk_alloc ?_ _)); refine blk_far ?_ NB8001_8004.out _; (with_reducible repeat (first | refine blk_drewN ?_ _ | refine blk_drew ?_ | refine blk_alloc ?_ _)); refine blk_far ?_ NB8001_8004.out _; (with_reducible repeat (first | refine blk_drewN ?_ _ | refine blk_drew ?_ | refine blk_alloc ?_ _)); exact BK8001.out) hb); have n1_ := Aside0.mk (blk_below (g := gb8002) (o := .cells #[.int .i64 0, .int .i64 0, .string (⟨#[]⟩ : ByteArray), .slice none 0 0] 37 (0, 0)) (by (with_reducible repeat (first | refine blk_drewN ?_ _ | refine blk_drew ?_ | refine blk_alloc ?_ _)); refine blk_far ?_ NB8002_8004.out _; (with_reducible repeat (first | refine blk_drewN ?_ _ | refine blk_drew ?_ | refine blk_alloc ?_ _)); refine blk_far ?_ NB8002_8004.out _; (with_reducible repeat (first | refine blk_drewN ?_ _ | refine blk_drew ?_ | refine blk_alloc ?_ _)); refine blk_far ?_ NB8002_8004.out _; (with_reducible repeat (first | refine blk_drewN ?_ _ | refine blk_drew ?_ | refine blk_alloc ?_ _)); exact BK8002.out) hb); have n2_ := Aside0.mk (blk_below (g := gb8004) (o := .cells #[.slice A0_0 l0_0.length c0_0, .int .i64 a0_1, .int .i64 a0_2] 26 (0, 0)) (by (with_reducible repeat (first | refine blk_drewN ?_ _ | refine blk_drew ?_ | refine blk_alloc ?_ _)); refine blk_put (cs := #[.slice A0_0 l0_0.length c0_0, .int .i64 a0_1, .int .i64 0]) ?_ 2 _ rfl; (with_reducible repeat (first | refine blk_drewN ?_ _ | refine blk_drew ?_ | refine blk_alloc ?_ _)); refine blk_put (cs := #[.slice A0_0 l0_0.length c0_0, .int .i64 0, .int .i64 0]) ?_ 1 _ rfl; (with_reducible repeat (first | refine blk_drewN ?_ _ | refine blk_drew ?_ | refine blk_alloc ?_ _)); refine blk_put (cs := #[.slice none 0 0, .int .i64 0, .int .i64 0]) ?_ 0 _ rfl; (with_reducible repeat (first | refine blk_drewN ?_ _ | refine blk_drew ?_ | refine blk_alloc ?_ _)); exact BK8004.out) hb); have n3_ := Aside0.mk (below_step (by repeat (first | (with_reducible first | exact HB.out | apply below_alloc | apply pw_below_drewN | apply below_drew1 | refine below_set ?_ GE8001.out | refine below_set ?_ GE8002.out | refine below_set ?_ GE8004.out) | exact HB.out)) hb); have n4_ := Aside0.mk (hbox); have n5_ := Aside0.mk ((by rw [hg]; exact (below_size (by repeat (first | (with_reducible first | exact HB.out | apply below_alloc | apply pw_below_drewN | apply below_drew1 | refine below_set ?_ GE8001.out | refine below_set ?_ GE8002.out | refine below_set ?_ GE8004.out) | exact HB.out))) : w.heap.size ≤ gb8005)); have n6_ := Aside0.mk ((by rw [hg]; exact (below_size (by repeat (first | (with_reducible first | exact HB.out | apply below_alloc | apply pw_below_drewN | apply below_drew1 | refine below_set ?_ GE8001.out | refine below_set ?_ GE8002.out | refine below_set ?_ GE8004.out) | exact HB.out))) : w.heap.size ≤ gb8005)); have n7_ := Aside0.mk ((by rw [hg]; exact Nat.ne_of_lt (blk_lt (g := gb8001) (o := .cells #[.slice A0_0 l0_0.length c0_0, .int .i64 a0_1, .int .i64 a0_2, .slice A0_3 l0_3.length c0_3, .int .i64 a0_4, .slice A0_5 l0_5.length c0_5, .int .i64 a0_6, .int .i64 a0_7] 32 (0, 0)) (by (with_reducible repeat (first | refine blk_drewN ?_ _ | refine blk_drew ?_ | refine blk_alloc ?_ _)); refine blk_far ?_ NB8001_8004.out _; (with_reducible repeat (first | refine blk_drewN ?_ _ | refine blk_drew ?_ | refine blk_alloc ?_ _)); refine blk_far ?_ NB8001_8004.out _; (with_reducible repeat (first | refine blk_drewN ?_ _ | refine blk_drew ?_ | refine blk_alloc ?_ _)); refine blk_far ?_ NB8001_8004.out _; (with_reducible repeat (first | refine blk_drewN ?_ _ | refine blk_drew ?_ | refine blk_alloc ?_ _)); exact BK8001.out)) : gb8001 ≠ gb8005)); have n8_ := Aside0.mk ((by rw [hg]; exact Nat.ne_of_gt (blk_lt (g := gb8001) (o := .cells #[.slice A0_0 l0_0.length c0_0, .int .i64 a0_1, .int .i64 a0_2, .slice A0_3 l0_3.length c0_3, .int .i64 a0_4, .slice A0_5 l0_5.length c0_5, .int .i64 a0_6, .int .i64 a0_7] 32 (0, 0)) (by (with_reducible repeat (first | refine blk_drewN ?_ _ | refine blk_drew ?_ | refine blk_alloc ?_ _)); refine blk_far ?_ NB8001_8004.out _; (with_reducible repeat (first | refine blk_drewN ?_ _ | refine blk_drew ?_ | refine blk_alloc ?_ _)); refine blk_far ?_ NB8001_8004.out _; (with_reducible repeat (first | refine blk_drewN ?_ _ | refine blk_drew ?_ | refine blk_alloc ?_ _)); refine blk_far ?_ NB8001_8004.out _; (with_reducible repeat (first | refine blk_drewN ?_ _ | refine blk_drew ?_ | refine blk_alloc ?_ _)); exact BK8001.out)) : gb8005 ≠ gb8001)); have n9_ := Aside0.mk ((by rw [hg]; exact Nat.ne_of_lt (blk_lt (g := gb8002) (o := .cells #[.int .i64 0, .int .i64 0, .string (⟨#[]⟩ : ByteArray), .slice none 0 0] 37 (0, 0)) (by (with_reducible repeat (first | refine blk_drewN ?_ _ | refine blk_drew ?_ | refine blk_alloc ?_ _)); refine blk_far ?_ NB8002_8004.out _; (with_reducible repeat (first | refine blk_drewN ?_ _ | refine blk_drew ?_ | refine blk_alloc ?_ _)); refine blk_far ?_ NB8002_8004.out _; (with_reducible repeat (first | refine blk_drewN ?_ _ | refine blk_drew ?_ | refine blk_alloc ?_ _)); refine blk_far ?_ NB8002_8004.out _; (with_reducible repeat (first | refine blk_drewN ?_ _ | refine blk_drew ?_ | refine blk_alloc ?_ _)); exact BK8002.out)) : gb8002 ≠ gb8005)); have n10_ := Aside0.mk ((by rw [hg]; exact Nat.ne_of_gt (blk_lt (g := gb8002) (o := .cells #[.int .i64 0, .int .i64 0, .string (⟨#[]⟩ : ByteArray), .slice none 0 0] 37 (0, 0)) (by (with_reducible repeat (first | refine blk_drewN ?_ _ | refine blk_drew ?_ | refine blk_alloc ?_ _)); refine blk_far ?_ NB8002_8004.out _; (with_reducible repeat (first | refine blk_drewN ?_ _ | refine blk_drew ?_ | refine blk_alloc ?_ _)); refine blk_far ?_ NB8002_8004.out _; (with_reducible repeat (first | refine blk_drewN ?_ _ | refine blk_drew ?_ | refine blk_alloc ?_ _)); refine blk_far ?_ NB8002_8004.out _; (with_reducible repeat (first | refine blk_drewN ?_ _ | refine blk_drew ?_ | refine blk_alloc ?_ _)); exact BK8002.out)) : gb8005 ≠ gb8002)); have n11_ := Aside0.mk ((by rw [hg]; exact Nat.ne_of_lt (blk_lt (g := gb8004) (o := .cells #[.slice A0_0 l0_0.length c0_0, .int .i64 a0_1, .int .i64 a0_2] 26 (0, 0)) (by (with_reducible repeat (first | refine blk_drewN ?_ _ | refine blk_drew ?_ | refine blk_alloc ?_ _)); refine blk_put (cs := #[.slice A0_0 l0_0.length c0_0, .int .i64 a0_1, .int .i64 0]) ?_ 2 _ rfl; (with_reducible repeat (first | refine blk_drewN ?_ _ | refine blk_drew ?_ | refine blk_alloc ?_ _)); refine blk_put (cs := #[.slice A0_0 l0_0.length c0_0, .int .i64 0, .int .i64 0]) ?_ 1 _ rfl; (with_reducible repeat (first | refine blk_drewN ?_ _ | refine blk_drew ?_ | refine blk_alloc ?_ _)); refine blk_put (cs := #[.slice none 0 0, .int .i64 0, .int .i64 0]) ?_ 0 _ rfl; (with_reducible repeat (first | refine blk_drewN ?_ _ | refine blk_drew ?_ | refine blk_alloc ?_ _)); exact BK8004.out)) : gb8004 ≠ gb8005)); have n12_ := Aside0.mk ((by rw [hg]; exact Nat.ne_of_gt (blk_lt (g := gb8004) (o := .cells #[.slice A0_0 l0_0.length c0_0, .int .i64 a0_1, .int .i64 a0_2] 26 (0, 0)) (by (with_reducible repeat (first | refine blk_drewN ?_ _ | refine blk_drew ?_ | refine blk_alloc ?_ _)); refine blk_put (cs := #[.slice A0_0 l0_0.length c0_0, .int .i64 a0_1, .int .i64 0]) ?_ 2 _ rfl; (with_reducible repeat (first | refine blk_drewN ?_ _ | refine blk_drew ?_ | refine blk_alloc ?_ _)); refine blk_put (cs := #[.slice A0_0 l0_0.length c0_0, .int .i64 0, .int .i64 0]) ?_ 1 _ rfl; (with_reducible repeat (first | refine blk_drewN ?_ _ | refine blk_drew ?_ | refine blk_alloc ?_ _)); refine blk_put (cs := #[.slice none 0 0, .int .i64 0, .int .i64 0]) ?_ 0 _ rfl; (with_reducible repeat (first | refine blk_drewN ?_ _ | refine blk_drew ?_ | refine blk_alloc ?_ _)); exact BK8004.out)) : gb8005 ≠ gb8004)); clear BK8001; clear BK8002; clear BK8004; clear HB; have BK8001 := n0_; have BK8002 := n1_; have BK8004 := n2_; have HB := n3_; have BK8005 := n4_; have GW8005 := n5_; have GE8005 := n6_; have NB8001_8005 := n7_; have NB8005_8001 := n8_; have NB8002_8005 := n9_; have NB8005_8002 := n10_; have NB8004_8005 := n11_; have NB8005_8004 := n12_; clear n0_ n1_ n2_ n3_ n4_ n5_ n6_ n7_ n8_ n9_ n10_ n11_ n12_; clear hb hbox hg; have hnb16 := NB8005_8001.out; have hnc16 := NB8001_8005.out; have hnb17 := NB8005_8002.out; have hnc17 := NB8002_8005.out; have hnb18 := NB8005_8004.out; have hnc18 := NB8004_8005.out; have hcz19_0 : w15.cell? ⟨gb8005, 0, none⟩ = some (.int .i64 0) := (blk_cell BK8005.out 0).trans rfl; have hcz19_1 : w15.cell? ⟨gb8005, 1, none⟩ = some (.int .i64 0) := (blk_cell BK8005.out 1).trans rfl; have hcz19_2 : w15.cell? ⟨gb8005, 2, none⟩ = some (.string (⟨#[]⟩ : ByteArray)) := (blk_cell BK8005.out 2).trans rfl; have hcz19_3 : w15.cell? ⟨gb8005, 3, none⟩ = some (.slice none 0 0) := (blk_cell BK8005.out 3).trans rfl; have hfz19_0 := blk_frozen BK8005.out 0; have hfz19_1 := blk_frozen BK8005.out 1; have hfz19_2 := blk_frozen BK8005.out 2; have hfz19_3 := blk_frozen BK8005.out 3))
    go_loopg [8] k (fun kq v8 w' => ∃ (x8_1 : Int) (x8006003_1 : List (S66)) (u8006003 : Value), v8 = .int .i64 x8_1 ∧ Aside0 (spec_CloseYear.l0 kq a1 x8_1 l0_0 a0_1 a0_2 l0_3 a0_4 l0_5 a0_6 a0_7 l0_0 a0_1 a0_2 a1 0 (⟨#[99, 108, 111, 115, 101]⟩ : ByteArray) x8006003_1 = some (r1, r2, r3, r4, r5)) ∧ Aside0 (kq ≤ k) ∧ Aside0 (Kd.R k66 66 w' w.heap.size (fun _ => True) u8006003 x8006003_1) ∧ Aside0 (w'.heap[gb8001]? = some (.cells #[(.slice A0_0 l0_0.length c0_0), .int .i64 a0_1, .int .i64 a0_2, (.slice A0_3 l0_3.length c0_3), .int .i64 a0_4, (.slice A0_5 l0_5.length c0_5), .int .i64 a0_6, .int .i64 a0_7] 32 (0, 0))) ∧ Aside0 (w'.heap[gb8002]? = some (.cells #[.int .i64 0, .int .i64 0, .string (⟨#[]⟩ : ByteArray), (.slice none 0 0)] 37 (0, 0))) ∧ Aside0 (w'.heap[gb8004]? = some (.cells #[(.slice A0_0 l0_0.length c0_0), .int .i64 a0_1, .int .i64 a0_2] 26 (0, 0))) ∧ Aside0 (w'.heap[gb8005]? = some (.cells #[.int .i64 a1, .int .i64 0, .string (⟨#[99, 108, 111, 115, 101]⟩ : ByteArray), u8006003] 37 (0, 0))) ∧ Aside0 (Below w.heap.size w w'))
    case atStart => exact ⟨(0), (([] : List (S66))), (.slice none 0 0), (by first | rfl | (simp; done) | (simp [*]; done)), H', ⟨Nat.le_refl _⟩, ⟨by first | exact Kd.R_nil _ _ _ _ _ | exact Kd.N_nil _ _ _ _ _ | exact Kd.V_nil _ _ _ _ _ | exact Kd.Q_nil _ _ _ _ _ | exact Kd.S_nil _ _ _ _ _⟩, ⟨by (with_reducible repeat (first | refine blk_drewN ?_ _ | refine blk_drew ?_ | refine blk_alloc ?_ _)); refine blk_far ?_ NB8001_8005.out _; (with_reducible repeat (first | refine blk_drewN ?_ _ | refine blk_drew ?_ | refine blk_alloc ?_ _)); refine blk_far ?_ NB8001_8005.out _; (with_reducible repeat (first | refine blk_drewN ?_ _ | refine blk_drew ?_ | refine blk_alloc ?_ _)); refine blk_far ?_ NB8001_8005.out _; (with_reducible repeat (first | refine blk_drewN ?_ _ | refine blk_drew ?_ | refine blk_alloc ?_ _)); refine blk_far ?_ NB8001_8005.out _; (with_reducible repeat (first | refine blk_drewN ?_ _ | refine blk_drew ?_ | refine blk_alloc ?_ _)); exact BK8001.out⟩, ⟨by (with_reducible repeat (first | refine blk_drewN ?_ _ | refine blk_drew ?_ | refine blk_alloc ?_ _)); refine blk_far ?_ NB8002_8005.out _; (with_reducible repeat (first | refine blk_drewN ?_ _ | refine blk_drew ?_ | refine blk_alloc ?_ _)); refine blk_far ?_ NB8002_8005.out _; (with_reducible repeat (first | refine blk_drewN ?_ _ | refine blk_drew ?_ | refine blk_alloc ?_ _)); refine blk_far ?_ NB8002_8005.out _; (with_reducible repeat (first | refine blk_drewN ?_ _ | refine blk_drew ?_ | refine blk_alloc ?_ _)); refine blk_far ?_ NB8002_8005.out _; (with_reducible repeat (first | refine blk_drewN ?_ _ | refine blk_drew ?_ | refine blk_alloc ?_ _)); exact BK8002.out⟩, ⟨by (with_reducible repeat (first | refine blk_drewN ?_ _ | refine blk_drew ?_ | refine blk_alloc ?_ _)); refine blk_far ?_ NB8004_8005.out _; (with_reducible repeat (first | refine blk_drewN ?_ _ | refine blk_drew ?_ | refine blk_alloc ?_ _)); refine blk_far ?_ NB8004_8005.out _; (with_reducible repeat (first | refine blk_drewN ?_ _ | refine blk_drew ?_ | refine blk_alloc ?_ _)); refine blk_far ?_ NB8004_8005.out _; (with_reducible repeat (first | refine blk_drewN ?_ _ | refine blk_drew ?_ | refine blk_alloc ?_ _)); refine blk_far ?_ NB8004_8005.out _; (with_reducible repeat (first | refine blk_drewN ?_ _ | refine blk_drew ?_ | refine blk_alloc ?_ _)); exact BK8004.out⟩, ⟨by (with_reducible repeat (first | refine blk_drewN ?_ _ | refine blk_drew ?_ | refine blk_alloc ?_ _)); refine blk_put (cs := #[.int .i64 a1, .int .i64 0, .string (⟨#[99, 108, 111, 115, 101]⟩ : ByteArray), .slice none 0 0]) ?_ 3 _ rfl; (with_reducible repeat (first | refine blk_drewN ?_ _ | refine blk_drew ?_ | refine blk_alloc ?_ _)); refine blk_put (cs := #[.int .i64 a1, .int .i64 0, .string (⟨#[]⟩ : ByteArray), .slice none 0 0]) ?_ 2 _ rfl; (with_reducible repeat (first | refine blk_drewN ?_ _ | refine blk_drew ?_ | refine blk_alloc ?_ _)); refine blk_put (cs := #[.int .i64 a1, .int .i64 0, .string (⟨#[]⟩ : ByteArray), .slice none 0 0]) ?_ 1 _ rfl; (with_reducible repeat (first | refine blk_drewN ?_ _ | refine blk_drew ?_ | refine blk_alloc ?_ _)); refine blk_put (cs := #[.int .i64 0, .int .i64 0, .string (⟨#[]⟩ : ByteArray), .slice none 0 0]) ?_ 0 _ rfl; (with_reducible repeat (first | refine blk_drewN ?_ _ | refine blk_drew ?_ | refine blk_alloc ?_ _)); exact BK8005.out⟩, ⟨by repeat (first | (with_reducible first | exact HB.out | apply below_alloc | apply pw_below_drewN | apply below_drew1 | refine below_set ?_ GE8001.out | refine below_set ?_ GE8002.out | refine below_set ?_ GE8004.out | refine below_set ?_ GE8005.out) | exact HB.out)⟩⟩
    case round =>
      clear H'
      try clear c1
      try clear c2
      try clear p2
      try clear c4
      try clear c7
      try clear c12
      try clear c13
      try clear c16
      try clear c17
      try clear c18
      try clear hcz10_0
      try clear hcz10_1
      try clear hcz10_2
      try clear hcz10_3
      try clear hcz10_4
      try clear hcz10_5
      try clear hcz10_6
      try clear hcz10_7
      try clear hcz14_0
      try clear hcz14_1
      try clear hcz14_2
      try clear hcz19_0
      try clear hcz19_1
      try clear hcz19_2
      try clear hcz19_3
      try clear hcz8_0
      try clear hcz8_1
      try clear hcz8_2
      try clear hcz8_3
      try clear hcz8_4
      try clear hcz8_5
      try clear hcz8_6
      try clear hcz8_7
      try clear hfz10_0
      try clear hfz10_1
      try clear hfz10_2
      try clear hfz10_3
      try clear hfz10_4
      try clear hfz10_5
      try clear hfz10_6
      try clear hfz10_7
      try clear hfz14_0
      try clear hfz14_1
      try clear hfz14_2
      try clear hfz19_0
      try clear hfz19_1
      try clear hfz19_2
      try clear hfz19_3
      try clear hfz8_0
      try clear hfz8_1
      try clear hfz8_2
      try clear hfz8_3
      try clear hfz8_4
      try clear hfz8_5
      try clear hfz8_6
      try clear hfz8_7
      obtain ⟨x8_1, x8006003_1, u8006003, rfl, HA, HK1, HO_8006003, BK8001, BK8002, BK8004, BK8005, HB⟩ := hrel
      cases gk with
      | zero => exact absurd HA.out (by simp [spec_CloseYear.l0])
      | succ k1 =>
        have H := HA.out
        clear HA
        simp only [spec_CloseYear.l0] at H
        by_cases c20 : x8_1 < a0_1
        · rw [if_pos c20] at H
          have c20b0 : decide (x8_1 < a0_1) = true := decide_eq_true c20
          clear c20
          have H' := Aside0.mk H
          clear H
          have hnb21 := NB8004_8001.out
          have hnc21 := NB8001_8004.out
          have hnb22 := NB8004_8002.out
          have hnc22 := NB8002_8004.out
          have hnb23 := NB8004_8005.out
          have hnc23 := NB8005_8004.out
          have hcz24_0 : wr.cell? ⟨gb8004, 0, none⟩ = some (.slice A0_0 l0_0.length c0_0) := (blk_cell BK8004.out 0).trans rfl
          have hcz24_1 : wr.cell? ⟨gb8004, 1, none⟩ = some (.int .i64 a0_1) := (blk_cell BK8004.out 1).trans rfl
          have hcz24_2 : wr.cell? ⟨gb8004, 2, none⟩ = some (.int .i64 a0_2) := (blk_cell BK8004.out 2).trans rfl
          have hfz24_0 := blk_frozen BK8004.out 0
          have hfz24_1 := blk_frozen BK8004.out 1
          have hfz24_2 := blk_frozen BK8004.out 2
          go_wp2
          go_loopg [9, 10, 11] k1 (fun kq v9 v10 v11 w' => ∃ (x9_2 : Int) (x10_2 : Bool) (x11_2 : Int) (x8006003_2 : List (S66)) (u8006003 : Value), v9 = .int .i64 x9_2 ∧ v10 = .bool x10_2 ∧ v11 = .int .i64 x11_2 ∧ Aside0 (spec_CloseYear.l1 kq a1 x8_1 x9_2 x10_2 x11_2 l0_0 a0_1 a0_2 l0_3 a0_4 l0_5 a0_6 a0_7 l0_0 a0_1 a0_2 a1 0 (⟨#[99, 108, 111, 115, 101]⟩ : ByteArray) x8006003_2 = some (r1, r2, r3, r4, r5)) ∧ Aside0 (kq ≤ k1) ∧ Aside0 (Kd.R k66 66 w' w.heap.size (fun _ => True) u8006003 x8006003_2) ∧ Aside0 (w'.heap[gb8001]? = some (.cells #[(.slice A0_0 l0_0.length c0_0), .int .i64 a0_1, .int .i64 a0_2, (.slice A0_3 l0_3.length c0_3), .int .i64 a0_4, (.slice A0_5 l0_5.length c0_5), .int .i64 a0_6, .int .i64 a0_7] 32 (0, 0))) ∧ Aside0 (w'.heap[gb8002]? = some (.cells #[.int .i64 0, .int .i64 0, .string (⟨#[]⟩ : ByteArray), (.slice none 0 0)] 37 (0, 0))) ∧ Aside0 (w'.heap[gb8004]? = some (.cells #[(.slice A0_0 l0_0.length c0_0), .int .i64 a0_1, .int .i64 a0_2] 26 (0, 0))) ∧ Aside0 (w'.heap[gb8005]? = some (.cells #[.int .i64 a1, .int .i64 0, .string (⟨#[99, 108, 111, 115, 101]⟩ : ByteArray), u8006003] 37 (0, 0))) ∧ Aside0 (Below w.heap.size w w'))
          case atStart => exact ⟨(0), (false), (0), (x8006003_1), (u8006003), (by first | rfl | (simp; done) | (simp [*]; done)), (by first | rfl | (simp; done) | (simp [*]; done)), (by first | rfl | (simp; done) | (simp [*]; done)), H', ⟨Nat.le_refl _⟩, ⟨by (with_reducible repeat (first | apply Kd.R_alloc | apply Kd.R_drewN | apply Kd.R_drew)); exact HO_8006003.out⟩, ⟨by (with_reducible repeat (first | refine blk_drewN ?_ _ | refine blk_drew ?_ | refine blk_alloc ?_ _)); exact BK8001.out⟩, ⟨by (with_reducible repeat (first | refine blk_drewN ?_ _ | refine blk_drew ?_ | refine blk_alloc ?_ _)); exact BK8002.out⟩, ⟨by (with_reducible repeat (first | refine blk_drewN ?_ _ | refine blk_drew ?_ | refine blk_alloc ?_ _)); exact BK8004.out⟩, ⟨by (with_reducible repeat (first | refine blk_drewN ?_ _ | refine blk_drew ?_ | refine blk_alloc ?_ _)); exact BK8005.out⟩, ⟨by repeat (first | (with_reducible first | exact HB.out | apply below_alloc | apply pw_below_drewN | apply below_drew1 | refine below_set ?_ GE8001.out | refine below_set ?_ GE8002.out | refine below_set ?_ GE8004.out | refine below_set ?_ GE8005.out) | exact HB.out)⟩⟩
          case round =>
            clear H'
            try clear c1
            try clear c2
            try clear p2
            try clear c4
            try clear c7
            try clear c12
            try clear c13
            try clear c16
            try clear c17
            try clear c18
            try clear c20
            try clear c20b0
            try clear c21
            try clear c22
            try clear c23
            try clear hcz10_0
            try clear hcz10_1
            try clear hcz10_2
            try clear hcz10_3
            try clear hcz10_4
            try clear hcz10_5
            try clear hcz10_6
            try clear hcz10_7
            try clear hcz14_0
            try clear hcz14_1
            try clear hcz14_2
            try clear hcz19_0
            try clear hcz19_1
            try clear hcz19_2
            try clear hcz19_3
            try clear hcz24_0
            try clear hcz24_1
            try clear hcz24_2
            try clear hcz8_0
            try clear hcz8_1
            try clear hcz8_2
            try clear hcz8_3
            try clear hcz8_4
            try clear hcz8_5
            try clear hcz8_6
            try clear hcz8_7
            try clear hfz10_0
            try clear hfz10_1
            try clear hfz10_2
            try clear hfz10_3
            try clear hfz10_4
            try clear hfz10_5
            try clear hfz10_6
            try clear hfz10_7
            try clear hfz14_0
            try clear hfz14_1
            try clear hfz14_2
            try clear hfz19_0
            try clear hfz19_1
            try clear hfz19_2
            try clear hfz19_3
            try clear hfz24_0
            try clear hfz24_1
            try clear hfz24_2
            try clear hfz8_0
            try clear hfz8_1
            try clear hfz8_2
            try clear hfz8_3
            try clear hfz8_4
            try clear hfz8_5
            try clear hfz8_6
            try clear hfz8_7
            try clear p2
            obtain ⟨x9_2, x10_2, x11_2, x8006003_2, u8006003, rfl, rfl, rfl, HA, HK2, HO_8006003, BK8001, BK8002, BK8004, BK8005, HB⟩ := hrel
            cases gk with
            | zero => exact absurd HA.out (by simp [spec_CloseYear.l1])
            | succ k2 =>
              have H := HA.out
              clear HA
              simp only [spec_CloseYear.l1] at H
              by_cases c25 : x11_2 < (l0_0.length : Int)
              · rw [if_pos c25] at H
                have c25b0 : decide (x11_2 < (l0_0.length : Int)) = true := decide_eq_true c25
                clear c25
                have HC26 := Aside0.mk H
                clear H
                have hnb27 := NB8004_8001.out
                have hnc27 := NB8001_8004.out
                have hnb28 := NB8004_8002.out
                have hnc28 := NB8002_8004.out
                have hnb29 := NB8004_8005.out
                have hnc29 := NB8005_8004.out
                have hcz30_0 : wr.cell? ⟨gb8004, 0, none⟩ = some (.slice A0_0 l0_0.length c0_0) := (blk_cell BK8004.out 0).trans rfl
                have hcz30_1 : wr.cell? ⟨gb8004, 1, none⟩ = some (.int .i64 a0_1) := (blk_cell BK8004.out 1).trans rfl
                have hcz30_2 : wr.cell? ⟨gb8004, 2, none⟩ = some (.int .i64 a0_2) := (blk_cell BK8004.out 2).trans rfl
                have hfz30_0 := blk_frozen BK8004.out 0
                have hfz30_1 := blk_frozen BK8004.out 1
                have hfz30_2 := blk_frozen BK8004.out 2
                go_upto_region 13 with (fail)
                go_cut [57] (fun v57 wc => ∃ (kq : Nat) (x57_25 : Bool), v57 = .bool x57_25 ∧ Aside0 (spec_CloseYear.j2 kq a1 x8_1 x9_2 x10_2 x11_2 x57_25 l0_0 a0_1 a0_2 l0_3 a0_4 l0_5 a0_6 a0_7 l0_0 a0_1 a0_2 a1 0 (⟨#[99, 108, 111, 115, 101]⟩ : ByteArray) x8006003_2 = some (r1, r2, r3, r4, r5)) ∧ Aside0 (kq ≤ k2) ∧ Aside0 (Kd.R k66 66 wc w.heap.size (fun _ => True) u8006003 x8006003_2) ∧ Aside0 (wc.heap[gb8001]? = some (.cells #[(.slice A0_0 l0_0.length c0_0), .int .i64 a0_1, .int .i64 a0_2, (.slice A0_3 l0_3.length c0_3), .int .i64 a0_4, (.slice A0_5 l0_5.length c0_5), .int .i64 a0_6, .int .i64 a0_7] 32 (0, 0))) ∧ Aside0 (wc.heap[gb8002]? = some (.cells #[.int .i64 0, .int .i64 0, .string (⟨#[]⟩ : ByteArray), (.slice none 0 0)] 37 (0, 0))) ∧ Aside0 (wc.heap[gb8004]? = some (.cells #[(.slice A0_0 l0_0.length c0_0), .int .i64 a0_1, .int .i64 a0_2] 26 (0, 0))) ∧ Aside0 (wc.heap[gb8005]? = some (.cells #[.int .i64 a1, .int .i64 0, .string (⟨#[99, 108, 111, 115, 101]⟩ : ByteArray), u8006003] 37 (0, 0))) ∧ Aside0 (Below w.heap.size w wc))
                case first =>
                  have H := HC26.out
                  clear HC26
                  replace H := Option.bind_eq_some_iff.mp H
                  obtain ⟨t8010, A310, H⟩ := H
                  replace H : (if t8010 = true then (if 0 ≤ x11_2 then (if ((rd_T43 l0_0 x11_2).f2) = 4 then (spec_CloseYear.j2 k2 a1 x8_1 x9_2 x10_2 x11_2 false l0_0 a0_1 a0_2 l0_3 a0_4 l0_5 a0_6 a0_7 l0_0 a0_1 a0_2 a1 0 (⟨#[99, 108, 111, 115, 101]⟩ : ByteArray) x8006003_2) else (spec_CloseYear.j2 k2 a1 x8_1 x9_2 x10_2 x11_2 (((rd_T43 l0_0 x11_2).f2) != 5) l0_0 a0_1 a0_2 l0_3 a0_4 l0_5 a0_6 a0_7 l0_0 a0_1 a0_2 a1 0 (⟨#[99, 108, 111, 115, 101]⟩ : ByteArray) x8006003_2)) else (none)) else (spec_CloseYear.j2 k2 a1 x8_1 x9_2 x10_2 x11_2 true l0_0 a0_1 a0_2 l0_3 a0_4 l0_5 a0_6 a0_7 l0_0 a0_1 a0_2 a1 0 (⟨#[99, 108, 111, 115, 101]⟩ : ByteArray) x8006003_2)) = some (r1, r2, r3, r4, r5) := H
                  have A31 := Aside0.mk A310
                  clear A310
                  by_cases c32 : t8010 = true
                  · subst c32
                    have H1 : (if 0 ≤ x11_2 then (if ((rd_T43 l0_0 x11_2).f2) = 4 then (spec_CloseYear.j2 k2 a1 x8_1 x9_2 x10_2 x11_2 false l0_0 a0_1 a0_2 l0_3 a0_4 l0_5 a0_6 a0_7 l0_0 a0_1 a0_2 a1 0 (⟨#[99, 108, 111, 115, 101]⟩ : ByteArray) x8006003_2) else (spec_CloseYear.j2 k2 a1 x8_1 x9_2 x10_2 x11_2 (((rd_T43 l0_0 x11_2).f2) != 5) l0_0 a0_1 a0_2 l0_3 a0_4 l0_5 a0_6 a0_7 l0_0 a0_1 a0_2 a1 0 (⟨#[99, 108, 111, 115, 101]⟩ : ByteArray) x8006003_2)) else (none)) = some (r1, r2, r3, r4, r5) := by rw [if_pos rfl] at H; exact H
                    clear H
                    have H := H1
                    clear H1
                    by_cases c33 : 0 ≤ x11_2
                    · rw [if_pos c33] at H
                      have c33b0 : decide (0 ≤ x11_2) = true := decide_eq_true c33
                      clear c33
                      (first | rw [c33b0] | (simp only [i64_w, i32_w]; rw [c33b0]) | skip)
                      by_cases c34 : ((rd_T43 l0_0 x11_2).f2) = 4
                      · rw [if_pos c34] at H
                        have c34b0 : (((rd_T43 l0_0 x11_2).f2) == 4) = true := beq_iff_eq.mpr c34
                        have c34b1 : (((rd_T43 l0_0 x11_2).f2) != 4) = false := bne_eq_false_iff_eq.mpr c34
                        clear c34
                        have H' := Aside0.mk H
                        clear H
                        have hnb35 := NB8004_8001.out
                        have hnc35 := NB8001_8004.out
                        have hnb36 := NB8004_8002.out
                        have hnc36 := NB8002_8004.out
                        have hnb37 := NB8004_8005.out
                        have hnc37 := NB8005_8004.out
                        have hcz38_0 : wr.cell? ⟨gb8004, 0, none⟩ = some (.slice A0_0 l0_0.length c0_0) := (blk_cell BK8004.out 0).trans rfl
                        have hcz38_1 : wr.cell? ⟨gb8004, 1, none⟩ = some (.int .i64 a0_1) := (blk_cell BK8004.out 1).trans rfl
                        have hcz38_2 : wr.cell? ⟨gb8004, 2, none⟩ = some (.int .i64 a0_2) := (blk_cell BK8004.out 2).trans rfl
                        have hfz38_0 := blk_frozen BK8004.out 0
                        have hfz38_1 := blk_frozen BK8004.out 1
                        have hfz38_2 := blk_frozen BK8004.out 2
                        go_wp2_with (first | ((with_reducible refine gate_callee (f := 23) rfl ?_); refine goesL_ (some 38) rfl rfl Try.func23 (by kernel_rfl) rfl #[.slice A0_0 l0_0.length c0_0, .int .i64 x11_2] rfl (by (try simp only [List.map_toArray, List.map_cons, List.map_nil]); first | done | rfl | (simp only [List.length_drop, List.length_take]; rfl)) ?_; (with_reducible refine (spec_Leaf.calls _ _ l0_0 x11_2 true _ ?side1 ?side2 A31.out).mono ?_); (case side1 => repeat (first | exact (Kd.C_below HR0_0.out HB.out) | (with_reducible refine Kd.C_alloc ?_ _) | (with_reducible refine Kd.C_drewN ?_ _) | (with_reducible refine Kd.C_drew ?_))); (case side2 => exact HC0_0.out); rintro e w39 ⟨rfl, hb⟩; refine ⟨_, rfl, ?_⟩; have n0_ := Aside0.mk (Kd.R_below (by (with_reducible repeat (first | apply Kd.R_alloc | apply Kd.R_drewN | apply Kd.R_drew)); exact HO_8006003.out) hb); have n1_ := Aside0.mk (blk_below (g := gb8001) (o := .cells #[.slice A0_0 l0_0.length c0_0, .int .i64 a0_1, .int .i64 a0_2, .slice A0_3 l0_3.length c0_3, .int .i64 a0_4, .slice A0_5 l0_5.length c0_5, .int .i64 a0_6, .int .i64 a0_7] 32 (0, 0)) (by (with_reducible repeat (first | refine blk_drewN ?_ _ | refine blk_drew ?_ | refine blk_alloc ?_ _)); exact BK8001.out) hb); have n2_ := Aside0.mk (blk_below (g := gb8002) (o := .cells #[.int .i64 0, .int .i64 0, .string (⟨#[]⟩ : ByteArray), .slice none 0 0] 37 (0, 0)) (by (with_reducible repeat (first | refine blk_drewN ?_ _ | refine blk_drew ?_ | refine blk_alloc ?_ _)); exact BK8002.out) hb); have n3_ := Aside0.mk (blk_below (g := gb8004) (o := .cells #[.slice A0_0 l0_0.length c0_0, .int .i64 a0_1, .int .i64 a0_2] 26 (0, 0)) (by (with_reducible repeat (first | refine blk_drewN ?_ _ | refine blk_drew ?_ | refine blk_alloc ?_ _)); exact BK8004.out) hb); have n4_ := Aside0.mk (blk_below (g := gb8005) (o := .cells #[.int .i64 a1, .int .i64 0, .string (⟨#[99, 108, 111, 115, 101]⟩ : ByteArray), u8006003] 37 (0, 0)) (by (with_reducible repeat (first | refine blk_drewN ?_ _ | refine blk_drew ?_ | refine blk_alloc ?_ _)); exact BK8005.out) hb); have n5_ := Aside0.mk (below_step (by repeat (first | (with_reducible first | exact HB.out | apply below_alloc | apply pw_below_drewN | apply below_drew1 | refine below_set ?_ GE8001.out | refine below_set ?_ GE8002.out | refine below_set ?_ GE8004.out | refine below_set ?_ GE8005.out) | exact HB.out)) hb); clear HO_8006003; clear BK8001; clear BK8002; clear BK8004; clear BK8005; clear HB; have HO_8006003 := n0_; have BK8001 := n1_; have BK8002 := n2_; have BK8004 := n3_; have BK8005 := n4_; have HB := n5_; clear n0_ n1_ n2_ n3_ n4_ n5_; (try clear hb); (try clear hb2); (try clear hk); (try clear hi); have hcz40_0 : w39.cell? ⟨gb8004, 0, none⟩ = some (.slice A0_0 l0_0.length c0_0) := (blk_cell BK8004.out 0).trans rfl; have hcz40_1 : w39.cell? ⟨gb8004, 1, none⟩ = some (.int .i64 a0_1) := (blk_cell BK8004.out 1).trans rfl; have hcz40_2 : w39.cell? ⟨gb8004, 2, none⟩ = some (.int .i64 a0_2) := (blk_cell BK8004.out 2).trans rfl; have hfz40_0 := blk_frozen BK8004.out 0; have hfz40_1 := blk_frozen BK8004.out 1; have hfz40_2 := blk_frozen BK8004.out 2; have p8011 : 0 ≤ (x11_2 : Int) := of_decide_eq_true (by first | (with_reducible assumption) | assumption); have q8011 : x11_2 < (l0_0.length : Int) := of_decide_eq_true (by first | (with_reducible assumption) | assumption); obtain ⟨ad8011, e8011, hx8011_0, hx8011_1, hx8011_2⟩ := at_T43 HR0_0.out x11_2 p8011 q8011; cases e8011; replace hx8011_0 := (HB.out.cell (World.block_lt_of_cell? w _ hx8011_0)).trans hx8011_0; replace hx8011_1 := (HB.out.cell (World.block_lt_of_cell? w _ hx8011_1)).trans hx8011_1; replace hx8011_2 := (HB.out.cell (World.block_lt_of_cell? w _ hx8011_2)).trans hx8011_2; replace p8011 := eq_true p8011; replace q8011 := eq_true q8011))
                        go_meet
                        case rel => exact ⟨_, (false), (by first | rfl | (simp; done) | (simp [*]; done)), H', ⟨by have := HK1.out; have := HK2.out; first | omega | exact Nat.le_refl _⟩, ⟨by (with_reducible repeat (first | apply Kd.R_alloc | apply Kd.R_drewN | apply Kd.R_drew)); exact HO_8006003.out⟩, ⟨by (with_reducible repeat (first | refine blk_drewN ?_ _ | refine blk_drew ?_ | refine blk_alloc ?_ _)); exact BK8001.out⟩, ⟨by (with_reducible repeat (first | refine blk_drewN ?_ _ | refine blk_drew ?_ | refine blk_alloc ?_ _)); exact BK8002.out⟩, ⟨by (with_reducible repeat (first | refine blk_drewN ?_ _ | refine blk_drew ?_ | refine blk_alloc ?_ _)); exact BK8004.out⟩, ⟨by (with_reducible repeat (first | refine blk_drewN ?_ _ | refine blk_drew ?_ | refine blk_alloc ?_ _)); exact BK8005.out⟩, ⟨by repeat (first | (with_reducible first | exact HB.out | apply below_alloc | apply pw_below_drewN | apply below_drew1 | refine below_set ?_ GE8001.out | refine below_set ?_ GE8002.out | refine below_set ?_ GE8004.out | refine below_set ?_ GE8005.out) | exact HB.out)⟩⟩
                      · rw [if_neg c34] at H
                        have c34b0 : (((rd_T43 l0_0 x11_2).f2) == 4) = false := beq_eq_false_iff_ne.mpr c34
                        have c34b1 : (((rd_T43 l0_0 x11_2).f2) != 4) = true := bne_iff_ne.mpr c34
                        have H' := Aside0.mk H
                        clear H
                        have hnb41 := NB8004_8001.out
                        have hnc41 := NB8001_8004.out
                        have hnb42 := NB8004_8002.out
                        have hnc42 := NB8002_8004.out
                        have hnb43 := NB8004_8005.out
                        have hnc43 := NB8005_8004.out
                        have hcz44_0 : wr.cell? ⟨gb8004, 0, none⟩ = some (.slice A0_0 l0_0.length c0_0) := (blk_cell BK8004.out 0).trans rfl
                        have hcz44_1 : wr.cell? ⟨gb8004, 1, none⟩ = some (.int .i64 a0_1) := (blk_cell BK8004.out 1).trans rfl
                        have hcz44_2 : wr.cell? ⟨gb8004, 2, none⟩ = some (.int .i64 a0_2) := (blk_cell BK8004.out 2).trans rfl
                        have hfz44_0 := blk_frozen BK8004.out 0
                        have hfz44_1 := blk_frozen BK8004.out 1
                        have hfz44_2 := blk_frozen BK8004.out 2
                        go_wp2_with (first | ((with_reducible refine gate_callee (f := 23) rfl ?_); refine goesL_ (some 38) rfl rfl Try.func23 (by kernel_rfl) rfl #[.slice A0_0 l0_0.length c0_0, .int .i64 x11_2] rfl (by (try simp only [List.map_toArray, List.map_cons, List.map_nil]); first | done | rfl | (simp only [List.length_drop, List.length_take]; rfl)) ?_; (with_reducible refine (spec_Leaf.calls _ _ l0_0 x11_2 true _ ?side1 ?side2 A31.out).mono ?_); (case side1 => repeat (first | exact (Kd.C_below HR0_0.out HB.out) | (with_reducible refine Kd.C_alloc ?_ _) | (with_reducible refine Kd.C_drewN ?_ _) | (with_reducible refine Kd.C_drew ?_))); (case side2 => exact HC0_0.out); rintro e w45 ⟨rfl, hb⟩; refine ⟨_, rfl, ?_⟩; have n0_ := Aside0.mk (Kd.R_below (by (with_reducible repeat (first | apply Kd.R_alloc | apply Kd.R_drewN | apply Kd.R_drew)); exact HO_8006003.out) hb); have n1_ := Aside0.mk (blk_below (g := gb8001) (o := .cells #[.slice A0_0 l0_0.length c0_0, .int .i64 a0_1, .int .i64 a0_2, .slice A0_3 l0_3.length c0_3, .int .i64 a0_4, .slice A0_5 l0_5.length c0_5, .int .i64 a0_6, .int .i64 a0_7] 32 (0, 0)) (by (with_reducible repeat (first | refine blk_drewN ?_ _ | refine blk_drew ?_ | refine blk_alloc ?_ _)); exact BK8001.out) hb); have n2_ := Aside0.mk (blk_below (g := gb8002) (o := .cells #[.int .i64 0, .int .i64 0, .string (⟨#[]⟩ : ByteArray), .slice none 0 0] 37 (0, 0)) (by (with_reducible repeat (first | refine blk_drewN ?_ _ | refine blk_drew ?_ | refine blk_alloc ?_ _)); exact BK8002.out) hb); have n3_ := Aside0.mk (blk_below (g := gb8004) (o := .cells #[.slice A0_0 l0_0.length c0_0, .int .i64 a0_1, .int .i64 a0_2] 26 (0, 0)) (by (with_reducible repeat (first | refine blk_drewN ?_ _ | refine blk_drew ?_ | refine blk_alloc ?_ _)); exact BK8004.out) hb); have n4_ := Aside0.mk (blk_below (g := gb8005) (o := .cells #[.int .i64 a1, .int .i64 0, .string (⟨#[99, 108, 111, 115, 101]⟩ : ByteArray), u8006003] 37 (0, 0)) (by (with_reducible repeat (first | refine blk_drewN ?_ _ | refine blk_drew ?_ | refine blk_alloc ?_ _)); exact BK8005.out) hb); have n5_ := Aside0.mk (below_step (by repeat (first | (with_reducible first | exact HB.out | apply below_alloc | apply pw_below_drewN | apply below_drew1 | refine below_set ?_ GE8001.out | refine below_set ?_ GE8002.out | refine below_set ?_ GE8004.out | refine below_set ?_ GE8005.out) | exact HB.out)) hb); clear HO_8006003; clear BK8001; clear BK8002; clear BK8004; clear BK8005; clear HB; have HO_8006003 := n0_; have BK8001 := n1_; have BK8002 := n2_; have BK8004 := n3_; have BK8005 := n4_; have HB := n5_; clear n0_ n1_ n2_ n3_ n4_ n5_; (try clear hb); (try clear hb2); (try clear hk); (try clear hi); have hcz46_0 : w45.cell? ⟨gb8004, 0, none⟩ = some (.slice A0_0 l0_0.length c0_0) := (blk_cell BK8004.out 0).trans rfl; have hcz46_1 : w45.cell? ⟨gb8004, 1, none⟩ = some (.int .i64 a0_1) := (blk_cell BK8004.out 1).trans rfl; have hcz46_2 : w45.cell? ⟨gb8004, 2, none⟩ = some (.int .i64 a0_2) := (blk_cell BK8004.out 2).trans rfl; have hfz46_0 := blk_frozen BK8004.out 0; have hfz46_1 := blk_frozen BK8004.out 1; have hfz46_2 := blk_frozen BK8004.out 2; have p8011 : 0 ≤ (x11_2 : Int) := of_decide_eq_true (by first | (with_reducible assumption) | assumption); have q8011 : x11_2 < (l0_0.length : Int) := of_decide_eq_true (by first | (with_reducible assumption) | assumption); obtain ⟨ad8011, e8011, hx8011_0, hx8011_1, hx8011_2⟩ := at_T43 HR0_0.out x11_2 p8011 q8011; cases e8011; replace hx8011_0 := (HB.out.cell (World.block_lt_of_cell? w _ hx8011_0)).trans hx8011_0; replace hx8011_1 := (HB.out.cell (World.block_lt_of_cell? w _ hx8011_1)).trans hx8011_1; replace hx8011_2 := (HB.out.cell (World.block_lt_of_cell? w _ hx8011_2)).trans hx8011_2; replace p8011 := eq_true p8011; replace q8011 := eq_true q8011; have p8012 : 0 ≤ (x11_2 : Int) := of_decide_eq_true (by first | (with_reducible assumption) | assumption); have q8012 : x11_2 < (l0_0.length : Int) := of_decide_eq_true (by first | (with_reducible assumption) | assumption); obtain ⟨ad8012, e8012, hx8012_0, hx8012_1, hx8012_2⟩ := at_T43 HR0_0.out x11_2 p8012 q8012; obtain rfl : ad8011 = ad8012 := (by injection e8012); replace hx8012_0 := (HB.out.cell (World.block_lt_of_cell? w _ hx8012_0)).trans hx8012_0; replace hx8012_1 := (HB.out.cell (World.block_lt_of_cell? w _ hx8012_1)).trans hx8012_1; replace hx8012_2 := (HB.out.cell (World.block_lt_of_cell? w _ hx8012_2)).trans hx8012_2; replace p8012 := eq_true p8012; replace q8012 := eq_true q8012))
                        go_meet
                        case rel => exact ⟨_, ((((rd_T43 l0_0 x11_2).f2) != 5)), (by first | rfl | (simp; done) | (simp [*]; done)), H', ⟨by have := HK1.out; have := HK2.out; first | omega | exact Nat.le_refl _⟩, ⟨by (with_reducible repeat (first | apply Kd.R_alloc | apply Kd.R_drewN | apply Kd.R_drew)); exact HO_8006003.out⟩, ⟨by (with_reducible repeat (first | refine blk_drewN ?_ _ | refine blk_drew ?_ | refine blk_alloc ?_ _)); exact BK8001.out⟩, ⟨by (with_reducible repeat (first | refine blk_drewN ?_ _ | refine blk_drew ?_ | refine blk_alloc ?_ _)); exact BK8002.out⟩, ⟨by (with_reducible repeat (first | refine blk_drewN ?_ _ | refine blk_drew ?_ | refine blk_alloc ?_ _)); exact BK8004.out⟩, ⟨by (with_reducible repeat (first | refine blk_drewN ?_ _ | refine blk_drew ?_ | refine blk_alloc ?_ _)); exact BK8005.out⟩, ⟨by repeat (first | (with_reducible first | exact HB.out | apply below_alloc | apply pw_below_drewN | apply below_drew1 | refine below_set ?_ GE8001.out | refine below_set ?_ GE8002.out | refine below_set ?_ GE8004.out | refine below_set ?_ GE8005.out) | exact HB.out)⟩⟩
                    · rw [if_neg c33] at H
                      exact absurd H (by simp)
                  · replace c32 := Bool.eq_false_iff.mpr c32
                    subst c32
                    have H1 : (spec_CloseYear.j2 k2 a1 x8_1 x9_2 x10_2 x11_2 true l0_0 a0_1 a0_2 l0_3 a0_4 l0_5 a0_6 a0_7 l0_0 a0_1 a0_2 a1 0 (⟨#[99, 108, 111, 115, 101]⟩ : ByteArray) x8006003_2) = some (r1, r2, r3, r4, r5) := by rw [if_neg (show ¬ (false = true) by decide)] at H; exact H
                    clear H
                    have H := H1
                    clear H1
                    have H' := Aside0.mk H
                    clear H
                    have hnb47 := NB8004_8001.out
                    have hnc47 := NB8001_8004.out
                    have hnb48 := NB8004_8002.out
                    have hnc48 := NB8002_8004.out
                    have hnb49 := NB8004_8005.out
                    have hnc49 := NB8005_8004.out
                    have hcz50_0 : wr.cell? ⟨gb8004, 0, none⟩ = some (.slice A0_0 l0_0.length c0_0) := (blk_cell BK8004.out 0).trans rfl
                    have hcz50_1 : wr.cell? ⟨gb8004, 1, none⟩ = some (.int .i64 a0_1) := (blk_cell BK8004.out 1).trans rfl
                    have hcz50_2 : wr.cell? ⟨gb8004, 2, none⟩ = some (.int .i64 a0_2) := (blk_cell BK8004.out 2).trans rfl
                    have hfz50_0 := blk_frozen BK8004.out 0
                    have hfz50_1 := blk_frozen BK8004.out 1
                    have hfz50_2 := blk_frozen BK8004.out 2
                    go_wp2_with (first | ((with_reducible refine gate_callee (f := 23) rfl ?_); refine goesL_ (some 38) rfl rfl Try.func23 (by kernel_rfl) rfl #[.slice A0_0 l0_0.length c0_0, .int .i64 x11_2] rfl (by (try simp only [List.map_toArray, List.map_cons, List.map_nil]); first | done | rfl | (simp only [List.length_drop, List.length_take]; rfl)) ?_; (with_reducible refine (spec_Leaf.calls _ _ l0_0 x11_2 false _ ?side1 ?side2 A31.out).mono ?_); (case side1 => repeat (first | exact (Kd.C_below HR0_0.out HB.out) | (with_reducible refine Kd.C_alloc ?_ _) | (with_reducible refine Kd.C_drewN ?_ _) | (with_reducible refine Kd.C_drew ?_))); (case side2 => exact HC0_0.out); rintro e w51 ⟨rfl, hb⟩; refine ⟨_, rfl, ?_⟩; have n0_ := Aside0.mk (Kd.R_below (by (with_reducible repeat (first | apply Kd.R_alloc | apply Kd.R_drewN | apply Kd.R_drew)); exact HO_8006003.out) hb); have n1_ := Aside0.mk (blk_below (g := gb8001) (o := .cells #[.slice A0_0 l0_0.length c0_0, .int .i64 a0_1, .int .i64 a0_2, .slice A0_3 l0_3.length c0_3, .int .i64 a0_4, .slice A0_5 l0_5.length c0_5, .int .i64 a0_6, .int .i64 a0_7] 32 (0, 0)) (by (with_reducible repeat (first | refine blk_drewN ?_ _ | refine blk_drew ?_ | refine blk_alloc ?_ _)); exact BK8001.out) hb); have n2_ := Aside0.mk (blk_below (g := gb8002) (o := .cells #[.int .i64 0, .int .i64 0, .string (⟨#[]⟩ : ByteArray), .slice none 0 0] 37 (0, 0)) (by (with_reducible repeat (first | refine blk_drewN ?_ _ | refine blk_drew ?_ | refine blk_alloc ?_ _)); exact BK8002.out) hb); have n3_ := Aside0.mk (blk_below (g := gb8004) (o := .cells #[.slice A0_0 l0_0.length c0_0, .int .i64 a0_1, .int .i64 a0_2] 26 (0, 0)) (by (with_reducible repeat (first | refine blk_drewN ?_ _ | refine blk_drew ?_ | refine blk_alloc ?_ _)); exact BK8004.out) hb); have n4_ := Aside0.mk (blk_below (g := gb8005) (o := .cells #[.int .i64 a1, .int .i64 0, .string (⟨#[99, 108, 111, 115, 101]⟩ : ByteArray), u8006003] 37 (0, 0)) (by (with_reducible repeat (first | refine blk_drewN ?_ _ | refine blk_drew ?_ | refine blk_alloc ?_ _)); exact BK8005.out) hb); have n5_ := Aside0.mk (below_step (by repeat (first | (with_reducible first | exact HB.out | apply below_alloc | apply pw_below_drewN | apply below_drew1 | refine below_set ?_ GE8001.out | refine below_set ?_ GE8002.out | refine below_set ?_ GE8004.out | refine below_set ?_ GE8005.out) | exact HB.out)) hb); clear HO_8006003; clear BK8001; clear BK8002; clear BK8004; clear BK8005; clear HB; have HO_8006003 := n0_; have BK8001 := n1_; have BK8002 := n2_; have BK8004 := n3_; have BK8005 := n4_; have HB := n5_; clear n0_ n1_ n2_ n3_ n4_ n5_; (try clear hb); (try clear hb2); (try clear hk); (try clear hi)))
                    go_meet
                    case rel => exact ⟨_, (true), (by first | rfl | (simp; done) | (simp [*]; done)), H', ⟨by have := HK1.out; have := HK2.out; first | omega | exact Nat.le_refl _⟩, ⟨by (with_reducible repeat (first | apply Kd.R_alloc | apply Kd.R_drewN | apply Kd.R_drew)); exact HO_8006003.out⟩, ⟨by (with_reducible repeat (first | refine blk_drewN ?_ _ | refine blk_drew ?_ | refine blk_alloc ?_ _)); exact BK8001.out⟩, ⟨by (with_reducible repeat (first | refine blk_drewN ?_ _ | refine blk_drew ?_ | refine blk_alloc ?_ _)); exact BK8002.out⟩, ⟨by (with_reducible repeat (first | refine blk_drewN ?_ _ | refine blk_drew ?_ | refine blk_alloc ?_ _)); exact BK8004.out⟩, ⟨by (with_reducible repeat (first | refine blk_drewN ?_ _ | refine blk_drew ?_ | refine blk_alloc ?_ _)); exact BK8005.out⟩, ⟨by repeat (first | (with_reducible first | exact HB.out | apply below_alloc | apply pw_below_drewN | apply below_drew1 | refine below_set ?_ GE8001.out | refine below_set ?_ GE8002.out | refine below_set ?_ GE8004.out | refine below_set ?_ GE8005.out) | exact HB.out)⟩⟩
                case rest =>
                  clear HC26
                  try clear c1
                  try clear c2
                  try clear p2
                  try clear c3
                  try clear c4
                  try clear c7
                  try clear p8
                  try clear q8
                  try clear hx8
                  try clear c12
                  try clear c13
                  try clear c16
                  try clear c17
                  try clear c18
                  try clear c20
                  try clear c20b0
                  try clear c21
                  try clear c22
                  try clear c23
                  try clear c25
                  try clear c25b0
                  try clear c27
                  try clear c28
                  try clear c29
                  try clear c32
                  try clear c33
                  try clear c33b0
                  try clear c34
                  try clear c34b0
                  try clear c34b1
                  try clear c35
                  try clear c36
                  try clear c37
                  try clear c41
                  try clear c42
                  try clear c43
                  try clear c47
                  try clear c48
                  try clear c49
                  try clear hcz10_0
                  try clear hcz10_1
                  try clear hcz10_2
                  try clear hcz10_3
                  try clear hcz10_4
                  try clear hcz10_5
                  try clear hcz10_6
                  try clear hcz10_7
                  try clear hcz14_0
                  try clear hcz14_1
                  try clear hcz14_2
                  try clear hcz19_0
                  try clear hcz19_1
                  try clear hcz19_2
                  try clear hcz19_3
                  try clear hcz24_0
                  try clear hcz24_1
                  try clear hcz24_2
                  try clear hcz30_0
                  try clear hcz30_1
                  try clear hcz30_2
                  try clear hcz38_0
                  try clear hcz38_1
                  try clear hcz38_2
                  try clear hcz40_0
                  try clear hcz40_1
                  try clear hcz40_2
                  try clear hcz44_0
                  try clear hcz44_1
                  try clear hcz44_2
                  try clear hcz46_0
                  try clear hcz46_1
                  try clear hcz46_2
                  try clear hcz50_0
                  try clear hcz50_1
                  try clear hcz50_2
                  try clear hcz8_0
                  try clear hcz8_1
                  try clear hcz8_2
                  try clear hcz8_3
                  try clear hcz8_4
                  try clear hcz8_5
                  try clear hcz8_6
                  try clear hcz8_7
                  try clear hfz10_0
                  try clear hfz10_1
                  try clear hfz10_2
                  try clear hfz10_3
                  try clear hfz10_4
                  try clear hfz10_5
                  try clear hfz10_6
                  try clear hfz10_7
                  try clear hfz14_0
                  try clear hfz14_1
                  try clear hfz14_2
                  try clear hfz19_0
                  try clear hfz19_1
                  try clear hfz19_2
                  try clear hfz19_3
                  try clear hfz24_0
                  try clear hfz24_1
                  try clear hfz24_2
                  try clear hfz30_0
                  try clear hfz30_1
                  try clear hfz30_2
                  try clear hfz38_0
                  try clear hfz38_1
                  try clear hfz38_2
                  try clear hfz40_0
                  try clear hfz40_1
                  try clear hfz40_2
                  try clear hfz44_0
                  try clear hfz44_1
                  try clear hfz44_2
                  try clear hfz46_0
                  try clear hfz46_1
                  try clear hfz46_2
                  try clear hfz50_0
                  try clear hfz50_1
                  try clear hfz50_2
                  try clear hfz8_0
                  try clear hfz8_1
                  try clear hfz8_2
                  try clear hfz8_3
                  try clear hfz8_4
                  try clear hfz8_5
                  try clear hfz8_6
                  try clear hfz8_7
                  try clear hx8011_0
                  try clear hx8011_1
                  try clear hx8011_2
                  try clear hx8012_0
                  try clear hx8012_1
                  try clear hx8012_2
                  try clear p2
                  try clear p8011
                  try clear p8012
                  try clear q8011
                  try clear q8012
                  obtain ⟨kq, x57_25, rfl, HA, HJ25, HO_8006003, BK8001, BK8002, BK8004, BK8005, HB⟩ := hcut
                  cases kq with
                  | zero => exact absurd HA.out (by simp [spec_CloseYear.j2])
                  | succ kj25 =>
                    have H := HA.out
                    clear HA
                    simp only [spec_CloseYear.j2] at H
                    by_cases c52 : x57_25 = true
                    · subst c52
                      have H1 : (spec_CloseYear.l1 kj25 a1 x8_1 x9_2 x10_2 (wrap64 (x11_2 + 1)) l0_0 a0_1 a0_2 l0_3 a0_4 l0_5 a0_6 a0_7 l0_0 a0_1 a0_2 a1 0 (⟨#[99, 108, 111, 115, 101]⟩ : ByteArray) x8006003_2) = some (r1, r2, r3, r4, r5) := by rw [if_pos rfl] at H; exact H
                      clear H
                      have H := H1
                      clear H1
                      have H' := Aside0.mk H
                      clear H
                      go_wp2
                      go_roundg kj25
                      case measure => have := HK1.out; have := HK2.out; have := HJ25.out; omega
                      case rel => exact ⟨(x9_2), (x10_2), (wrap64 (x11_2 + 1)), (x8006003_2), (u8006003), (by first | rfl | (simp; done) | (simp [*]; done)), (by first | rfl | (simp; done) | (simp [*]; done)), (by first | rfl | (simp; done) | (simp [*]; done)), H', ⟨by have := HK1.out; have := HK2.out; have := HJ25.out; omega⟩, ⟨by (with_reducible repeat (first | apply Kd.R_alloc | apply Kd.R_drewN | apply Kd.R_drew)); exact HO_8006003.out⟩, ⟨by (with_reducible repeat (first | refine blk_drewN ?_ _ | refine blk_drew ?_ | refine blk_alloc ?_ _)); exact BK8001.out⟩, ⟨by (with_reducible repeat (first | refine blk_drewN ?_ _ | refine blk_drew ?_ | refine blk_alloc ?_ _)); exact BK8002.out⟩, ⟨by (with_reducible repeat (first | refine blk_drewN ?_ _ | refine blk_drew ?_ | refine blk_alloc ?_ _)); exact BK8004.out⟩, ⟨by (with_reducible repeat (first | refine blk_drewN ?_ _ | refine blk_drew ?_ | refine blk_alloc ?_ _)); exact BK8005.out⟩, ⟨by repeat (first | (with_reducible first | exact HB.out | apply below_alloc | apply pw_below_drewN | apply below_drew1 | refine below_set ?_ GE8001.out | refine below_set ?_ GE8002.out | refine below_set ?_ GE8004.out | refine below_set ?_ GE8005.out) | exact HB.out)⟩⟩
                    · replace c52 := Bool.eq_false_iff.mpr c52
                      subst c52
                      have H1 : ((spec_Balance.f l0_3 a0_4 x11_2 x8_1 (-1) 0 a1).bind fun bt8013 => (if bt8013.2 = 0 then (spec_CloseYear.l1 kj25 a1 x8_1 x9_2 x10_2 (wrap64 (x11_2 + 1)) l0_0 a0_1 a0_2 l0_3 a0_4 l0_5 a0_6 a0_7 l0_0 a0_1 a0_2 a1 0 (⟨#[99, 108, 111, 115, 101]⟩ : ByteArray) x8006003_2) else (if x8006003_2.length < 3518437208883 then (spec_CloseYear.l1 kj25 a1 x8_1 (wrap64 (x9_2 + bt8013.2)) true (wrap64 (x11_2 + 1)) l0_0 a0_1 a0_2 l0_3 a0_4 l0_5 a0_6 a0_7 l0_0 a0_1 a0_2 a1 0 (⟨#[99, 108, 111, 115, 101]⟩ : ByteArray) (x8006003_2 ++ [(⟨x11_2, x8_1, 0, wrap64 (-bt8013.2), wrap64 (-bt8013.2)⟩ : S66)])) else (none)))) = some (r1, r2, r3, r4, r5) := by rw [if_neg (show ¬ (false = true) by decide)] at H; exact H
                      clear H
                      have H := H1
                      clear H1
                      replace H := Option.bind_eq_some_iff.mp H
                      obtain ⟨⟨t8013, t8014⟩, A530, H⟩ := H
                      replace H : (if t8014 = 0 then (spec_CloseYear.l1 kj25 a1 x8_1 x9_2 x10_2 (wrap64 (x11_2 + 1)) l0_0 a0_1 a0_2 l0_3 a0_4 l0_5 a0_6 a0_7 l0_0 a0_1 a0_2 a1 0 (⟨#[99, 108, 111, 115, 101]⟩ : ByteArray) x8006003_2) else (if x8006003_2.length < 3518437208883 then (spec_CloseYear.l1 kj25 a1 x8_1 (wrap64 (x9_2 + t8014)) true (wrap64 (x11_2 + 1)) l0_0 a0_1 a0_2 l0_3 a0_4 l0_5 a0_6 a0_7 l0_0 a0_1 a0_2 a1 0 (⟨#[99, 108, 111, 115, 101]⟩ : ByteArray) (x8006003_2 ++ [(⟨x11_2, x8_1, 0, wrap64 (-t8014), wrap64 (-t8014)⟩ : S66)])) else (none))) = some (r1, r2, r3, r4, r5) := H
                      have A53 := Aside0.mk A530
                      clear A530
                      by_cases c54 : t8014 = 0
                      · rw [if_pos c54] at H
                        have c54b0 : (t8014 == 0) = true := beq_iff_eq.mpr c54
                        have c54b1 : (t8014 != 0) = false := bne_eq_false_iff_eq.mpr c54
                        clear c54
                        have H' := Aside0.mk H
                        clear H
                        have hnb55 := NB8001_8002.out
                        have hnc55 := NB8002_8001.out
                        have hnb56 := NB8001_8004.out
                        have hnc56 := NB8004_8001.out
                        have hnb57 := NB8001_8005.out
                        have hnc57 := NB8005_8001.out
                        have hcz58_0 : wc.cell? ⟨gb8001, 0, none⟩ = some (.slice A0_0 l0_0.length c0_0) := (blk_cell BK8001.out 0).trans rfl
                        have hcz58_1 : wc.cell? ⟨gb8001, 1, none⟩ = some (.int .i64 a0_1) := (blk_cell BK8001.out 1).trans rfl
                        have hcz58_2 : wc.cell? ⟨gb8001, 2, none⟩ = some (.int .i64 a0_2) := (blk_cell BK8001.out 2).trans rfl
                        have hcz58_3 : wc.cell? ⟨gb8001, 3, none⟩ = some (.slice A0_3 l0_3.length c0_3) := (blk_cell BK8001.out 3).trans rfl
                        have hcz58_4 : wc.cell? ⟨gb8001, 4, none⟩ = some (.int .i64 a0_4) := (blk_cell BK8001.out 4).trans rfl
                        have hcz58_5 : wc.cell? ⟨gb8001, 5, none⟩ = some (.slice A0_5 l0_5.length c0_5) := (blk_cell BK8001.out 5).trans rfl
                        have hcz58_6 : wc.cell? ⟨gb8001, 6, none⟩ = some (.int .i64 a0_6) := (blk_cell BK8001.out 6).trans rfl
                        have hcz58_7 : wc.cell? ⟨gb8001, 7, none⟩ = some (.int .i64 a0_7) := (blk_cell BK8001.out 7).trans rfl
                        have hfz58_0 := blk_frozen BK8001.out 0
                        have hfz58_1 := blk_frozen BK8001.out 1
                        have hfz58_2 := blk_frozen BK8001.out 2
                        have hfz58_3 := blk_frozen BK8001.out 3
                        have hfz58_4 := blk_frozen BK8001.out 4
                        have hfz58_5 := blk_frozen BK8001.out 5
                        have hfz58_6 := blk_frozen BK8001.out 6
                        have hfz58_7 := blk_frozen BK8001.out 7
                        go_wp2_with (first | ((with_reducible refine gate_callee (f := 24) rfl ?_); refine goesL_ (some 64) rfl rfl Try.func24 (by kernel_rfl) rfl #[.agg #[.slice A0_3 l0_3.length c0_3, .int .i64 a0_4], .int .i64 x11_2, .int .i64 x8_1, .int .i64 (-1), .int .i64 0, .int .i64 a1] rfl (by (try simp only [List.map_toArray, List.map_cons, List.map_nil]); first | done | rfl | (simp only [List.length_drop, List.length_take]; rfl)) ?_; (with_reducible refine (spec_Balance.calls _ _ l0_3 a0_4 x11_2 x8_1 (-1) 0 a1 t8013 t8014 _ ?side1 ?side2 A53.out).mono ?_); (case side1 => repeat (first | exact (Kd.C_below HR0_3.out HB.out) | (with_reducible refine Kd.C_alloc ?_ _) | (with_reducible refine Kd.C_drewN ?_ _) | (with_reducible refine Kd.C_drew ?_))); (case side2 => exact HC0_3.out); rintro e w59 ⟨rfl, hb⟩; refine ⟨_, rfl, ?_⟩; have n0_ := Aside0.mk (Kd.R_below (by (with_reducible repeat (first | apply Kd.R_alloc | apply Kd.R_drewN | apply Kd.R_drew)); exact HO_8006003.out) hb); have n1_ := Aside0.mk (blk_below (g := gb8001) (o := .cells #[.slice A0_0 l0_0.length c0_0, .int .i64 a0_1, .int .i64 a0_2, .slice A0_3 l0_3.length c0_3, .int .i64 a0_4, .slice A0_5 l0_5.length c0_5, .int .i64 a0_6, .int .i64 a0_7] 32 (0, 0)) (by (with_reducible repeat (first | refine blk_drewN ?_ _ | refine blk_drew ?_ | refine blk_alloc ?_ _)); exact BK8001.out) hb); have n2_ := Aside0.mk (blk_below (g := gb8002) (o := .cells #[.int .i64 0, .int .i64 0, .string (⟨#[]⟩ : ByteArray), .slice none 0 0] 37 (0, 0)) (by (with_reducible repeat (first | refine blk_drewN ?_ _ | refine blk_drew ?_ | refine blk_alloc ?_ _)); exact BK8002.out) hb); have n3_ := Aside0.mk (blk_below (g := gb8004) (o := .cells #[.slice A0_0 l0_0.length c0_0, .int .i64 a0_1, .int .i64 a0_2] 26 (0, 0)) (by (with_reducible repeat (first | refine blk_drewN ?_ _ | refine blk_drew ?_ | refine blk_alloc ?_ _)); exact BK8004.out) hb); have n4_ := Aside0.mk (blk_below (g := gb8005) (o := .cells #[.int .i64 a1, .int .i64 0, .string (⟨#[99, 108, 111, 115, 101]⟩ : ByteArray), u8006003] 37 (0, 0)) (by (with_reducible repeat (first | refine blk_drewN ?_ _ | refine blk_drew ?_ | refine blk_alloc ?_ _)); exact BK8005.out) hb); have n5_ := Aside0.mk (below_step (by repeat (first | (with_reducible first | exact HB.out | apply below_alloc | apply pw_below_drewN | apply below_drew1 | refine below_set ?_ GE8001.out | refine below_set ?_ GE8002.out | refine below_set ?_ GE8004.out | refine below_set ?_ GE8005.out) | exact HB.out)) hb); clear HO_8006003; clear BK8001; clear BK8002; clear BK8004; clear BK8005; clear HB; have HO_8006003 := n0_; have BK8001 := n1_; have BK8002 := n2_; have BK8004 := n3_; have BK8005 := n4_; have HB := n5_; clear n0_ n1_ n2_ n3_ n4_ n5_; (try clear hb); (try clear hb2); (try clear hk); (try clear hi)))
                        go_roundg kj25
                        case measure => have := HK1.out; have := HK2.out; have := HJ25.out; omega
                        case rel => exact ⟨(x9_2), (x10_2), (wrap64 (x11_2 + 1)), (x8006003_2), (u8006003), (by first | rfl | (simp; done) | (simp [*]; done)), (by first | rfl | (simp; done) | (simp [*]; done)), (by first | rfl | (simp; done) | (simp [*]; done)), H', ⟨by have := HK1.out; have := HK2.out; have := HJ25.out; omega⟩, ⟨by (with_reducible repeat (first | apply Kd.R_alloc | apply Kd.R_drewN | apply Kd.R_drew)); exact HO_8006003.out⟩, ⟨by (with_reducible repeat (first | refine blk_drewN ?_ _ | refine blk_drew ?_ | refine blk_alloc ?_ _)); exact BK8001.out⟩, ⟨by (with_reducible repeat (first | refine blk_drewN ?_ _ | refine blk_drew ?_ | refine blk_alloc ?_ _)); exact BK8002.out⟩, ⟨by (with_reducible repeat (first | refine blk_drewN ?_ _ | refine blk_drew ?_ | refine blk_alloc ?_ _)); exact BK8004.out⟩, ⟨by (with_reducible repeat (first | refine blk_drewN ?_ _ | refine blk_drew ?_ | refine blk_alloc ?_ _)); exact BK8005.out⟩, ⟨by repeat (first | (with_reducible first | exact HB.out | apply below_alloc | apply pw_below_drewN | apply below_drew1 | refine below_set ?_ GE8001.out | refine below_set ?_ GE8002.out | refine below_set ?_ GE8004.out | refine below_set ?_ GE8005.out) | exact HB.out)⟩⟩
                      · rw [if_neg c54] at H
                        have c54b0 : (t8014 == 0) = false := beq_eq_false_iff_ne.mpr c54
                        have c54b1 : (t8014 != 0) = true := bne_iff_ne.mpr c54
                        by_cases c60 : x8006003_2.length < 3518437208883
                        · rw [if_pos c60] at H
                          have LMc60 := Aside0.mk c60
                          clear c60
                          obtain ⟨y8015, hy8015⟩ : ∃ y_ : List (S66), y_ = (x8006003_2 ++ [(⟨x11_2, x8_1, 0, wrap64 (-t8014), wrap64 (-t8014)⟩ : S66)]) := ⟨_, rfl⟩
                          replace H : (spec_CloseYear.l1 kj25 a1 x8_1 (wrap64 (x9_2 + t8014)) true (wrap64 (x11_2 + 1)) l0_0 a0_1 a0_2 l0_3 a0_4 l0_5 a0_6 a0_7 l0_0 a0_1 a0_2 a1 0 (⟨#[99, 108, 111, 115, 101]⟩ : ByteArray) y8015) = some (r1, r2, r3, r4, r5) := by first | (rw [hy8015]; with_reducible exact H) | (have H2_ := (Option.bind_some _ _).symm.trans H; rw [hy8015]; with_reducible exact H2_) | (have H2_ := (Option.bind_some _ _).symm.trans H; with_reducible exact H2_) | with_reducible exact H | (rw [hy8015]; exact H) | exact H
                          have Ny8015 := Aside0.mk hy8015
                          clear hy8015
                          have H' := Aside0.mk H
                          clear H
                          have hnb61 := NB8001_8002.out
                          have hnc61 := NB8002_8001.out
                          have hnb62 := NB8001_8004.out
                          have hnc62 := NB8004_8001.out
                          have hnb63 := NB8001_8005.out
                          have hnc63 := NB8005_8001.out
                          have hcz64_0 : wc.cell? ⟨gb8001, 0, none⟩ = some (.slice A0_0 l0_0.length c0_0) := (blk_cell BK8001.out 0).trans rfl
                          have hcz64_1 : wc.cell? ⟨gb8001, 1, none⟩ = some (.int .i64 a0_1) := (blk_cell BK8001.out 1).trans rfl
                          have hcz64_2 : wc.cell? ⟨gb8001, 2, none⟩ = some (.int .i64 a0_2) := (blk_cell BK8001.out 2).trans rfl
                          have hcz64_3 : wc.cell? ⟨gb8001, 3, none⟩ = some (.slice A0_3 l0_3.length c0_3) := (blk_cell BK8001.out 3).trans rfl
                          have hcz64_4 : wc.cell? ⟨gb8001, 4, none⟩ = some (.int .i64 a0_4) := (blk_cell BK8001.out 4).trans rfl
                          have hcz64_5 : wc.cell? ⟨gb8001, 5, none⟩ = some (.slice A0_5 l0_5.length c0_5) := (blk_cell BK8001.out 5).trans rfl
                          have hcz64_6 : wc.cell? ⟨gb8001, 6, none⟩ = some (.int .i64 a0_6) := (blk_cell BK8001.out 6).trans rfl
                          have hcz64_7 : wc.cell? ⟨gb8001, 7, none⟩ = some (.int .i64 a0_7) := (blk_cell BK8001.out 7).trans rfl
                          have hfz64_0 := blk_frozen BK8001.out 0
                          have hfz64_1 := blk_frozen BK8001.out 1
                          have hfz64_2 := blk_frozen BK8001.out 2
                          have hfz64_3 := blk_frozen BK8001.out 3
                          have hfz64_4 := blk_frozen BK8001.out 4
                          have hfz64_5 := blk_frozen BK8001.out 5
                          have hfz64_6 := blk_frozen BK8001.out 6
                          have hfz64_7 := blk_frozen BK8001.out 7
                          go_wp2_with (first | ((with_reducible refine gate_callee (f := 24) rfl ?_); refine goesL_ (some 64) rfl rfl Try.func24 (by kernel_rfl) rfl #[.agg #[.slice A0_3 l0_3.length c0_3, .int .i64 a0_4], .int .i64 x11_2, .int .i64 x8_1, .int .i64 (-1), .int .i64 0, .int .i64 a1] rfl (by (try simp only [List.map_toArray, List.map_cons, List.map_nil]); first | done | rfl | (simp only [List.length_drop, List.length_take]; rfl)) ?_; (with_reducible refine (spec_Balance.calls _ _ l0_3 a0_4 x11_2 x8_1 (-1) 0 a1 t8013 t8014 _ ?side1 ?side2 A53.out).mono ?_); (case side1 => repeat (first | exact (Kd.C_below HR0_3.out HB.out) | (with_reducible refine Kd.C_alloc ?_ _) | (with_reducible refine Kd.C_drewN ?_ _) | (with_reducible refine Kd.C_drew ?_))); (case side2 => exact HC0_3.out); rintro e w65 ⟨rfl, hb⟩; refine ⟨_, rfl, ?_⟩; have n0_ := Aside0.mk (Kd.R_below (by (with_reducible repeat (first | apply Kd.R_alloc | apply Kd.R_drewN | apply Kd.R_drew)); exact HO_8006003.out) hb); have n1_ := Aside0.mk (blk_below (g := gb8001) (o := .cells #[.slice A0_0 l0_0.length c0_0, .int .i64 a0_1, .int .i64 a0_2, .slice A0_3 l0_3.length c0_3, .int .i64 a0_4, .slice A0_5 l0_5.length c0_5, .int .i64 a0_6, .int .i64 a0_7] 32 (0, 0)) (by (with_reducible repeat (first | refine blk_drewN ?_ _ | refine blk_drew ?_ | refine blk_alloc ?_ _)); exact BK8001.out) hb); have n2_ := Aside0.mk (blk_below (g := gb8002) (o := .cells #[.int .i64 0, .int .i64 0, .string (⟨#[]⟩ : ByteArray), .slice none 0 0] 37 (0, 0)) (by (with_reducible repeat (first | refine blk_drewN ?_ _ | refine blk_drew ?_ | refine blk_alloc ?_ _)); exact BK8002.out) hb); have n3_ := Aside0.mk (blk_below (g := gb8004) (o := .cells #[.slice A0_0 l0_0.length c0_0, .int .i64 a0_1, .int .i64 a0_2] 26 (0, 0)) (by (with_reducible repeat (first | refine blk_drewN ?_ _ | refine blk_drew ?_ | refine blk_alloc ?_ _)); exact BK8004.out) hb); have n4_ := Aside0.mk (blk_below (g := gb8005) (o := .cells #[.int .i64 a1, .int .i64 0, .string (⟨#[99, 108, 111, 115, 101]⟩ : ByteArray), u8006003] 37 (0, 0)) (by (with_reducible repeat (first | refine blk_drewN ?_ _ | refine blk_drew ?_ | refine blk_alloc ?_ _)); exact BK8005.out) hb); have n5_ := Aside0.mk (below_step (by repeat (first | (with_reducible first | exact HB.out | apply below_alloc | apply pw_below_drewN | apply below_drew1 | refine below_set ?_ GE8001.out | refine below_set ?_ GE8002.out | refine below_set ?_ GE8004.out | refine below_set ?_ GE8005.out) | exact HB.out)) hb); clear HO_8006003; clear BK8001; clear BK8002; clear BK8004; clear BK8005; clear HB; have HO_8006003 := n0_; have BK8001 := n1_; have BK8002 := n2_; have BK8004 := n3_; have BK8005 := n4_; have HB := n5_; clear n0_ n1_ n2_ n3_ n4_ n5_; (try clear hb); (try clear hb2); (try clear hk); (try clear hi); have hnb66 := NB8005_8002.out; have hnc66 := NB8002_8005.out; have hnb67 := NB8005_8004.out; have hnc67 := NB8004_8005.out; have hcz68_0 : w65.cell? ⟨gb8005, 0, none⟩ = some (.int .i64 a1) := (blk_cell BK8005.out 0).trans rfl; have hcz68_1 : w65.cell? ⟨gb8005, 1, none⟩ = some (.int .i64 0) := (blk_cell BK8005.out 1).trans rfl; have hcz68_2 : w65.cell? ⟨gb8005, 2, none⟩ = some (.string (⟨#[99, 108, 111, 115, 101]⟩ : ByteArray)) := (blk_cell BK8005.out 2).trans rfl; have hcz68_3 : w65.cell? ⟨gb8005, 3, none⟩ = some (u8006003) := (blk_cell BK8005.out 3).trans rfl; have hfz68_0 := blk_frozen BK8005.out 0; have hfz68_1 := blk_frozen BK8005.out 1; have hfz68_2 := blk_frozen BK8005.out 2; have hfz68_3 := blk_frozen BK8005.out 3) | ((with_reducible refine gate_builtin (b := .append) (xs := #[.tmp 70, .tmp 78]) rfl ?_); at_builtin; refine Kd.R_append k66 (w0 := w) w.heap.size rfl (.tmp 70) (.tmp 78) 35 66 (.agg #[(.int .i64 0), (.int .i64 0), (.int .i64 0), (.int .i64 0), (.int .i64 0)]) 40 rfl Try.underlying35 info66 rfl (by decide) (by omega) u8006003 x8006003_2 (⟨x11_2, x8_1, 0, wrap64 (-t8014), wrap64 (-t8014)⟩ : S66) [.int .i64 x11_2, .int .i64 x8_1, .int .i64 0, .int .i64 (wrap64 (-t8014)), .int .i64 (wrap64 (-t8014))] (fun _ => True) (fun _ => False) rfl rfl ?aP (fun _ hk => hk.elim) ?aF ?aO ?aB ?aS ?aL ?_; (case aP => exact k66_mkM _ _ _ (⟨x11_2, x8_1, 0, wrap64 (-t8014), wrap64 (-t8014)⟩ : S66)); (case aB => exact (by repeat (first | (with_reducible first | exact HB.out | apply below_alloc | apply pw_below_drewN | apply below_drew1 | refine below_set ?_ GE8001.out | refine below_set ?_ GE8002.out | refine below_set ?_ GE8004.out | refine below_set ?_ GE8005.out) | exact HB.out))); (case aF => exact (fun _ _ => trivial)); (case aO => exact (by (with_reducible repeat (first | apply Kd.R_alloc | apply Kd.R_drewN | apply Kd.R_drew)); exact HO_8006003.out)); (case aS => exact (below_size (by repeat (first | (with_reducible first | exact HB.out | apply below_alloc | apply pw_below_drewN | apply below_drew1 | refine below_set ?_ GE8001.out | refine below_set ?_ GE8002.out | refine below_set ?_ GE8004.out | refine below_set ?_ GE8005.out) | exact HB.out)))); (case aL => have := LMc60.out; omega); intro v8016 w69 ho hb hg hat; rw [← Ny8015.out] at ho; have n0_ := Aside0.mk (blk_grown (g := gb8001) (o := .cells #[.slice A0_0 l0_0.length c0_0, .int .i64 a0_1, .int .i64 a0_2, .slice A0_3 l0_3.length c0_3, .int .i64 a0_4, .slice A0_5 l0_5.length c0_5, .int .i64 a0_6, .int .i64 a0_7] 32 (0, 0)) (by (with_reducible repeat (first | refine blk_drewN ?_ _ | refine blk_drew ?_ | refine blk_alloc ?_ _)); exact BK8001.out) hg (Kd.R_ne HO_8006003.out BK8001.out (by decide))); have n1_ := Aside0.mk (blk_grown (g := gb8002) (o := .cells #[.int .i64 0, .int .i64 0, .string (⟨#[]⟩ : ByteArray), .slice none 0 0] 37 (0, 0)) (by (with_reducible repeat (first | refine blk_drewN ?_ _ | refine blk_drew ?_ | refine blk_alloc ?_ _)); exact BK8002.out) hg (Kd.R_ne HO_8006003.out BK8002.out (by decide))); have n2_ := Aside0.mk (blk_grown (g := gb8004) (o := .cells #[.slice A0_0 l0_0.length c0_0, .int .i64 a0_1, .int .i64 a0_2] 26 (0, 0)) (by (with_reducible repeat (first | refine blk_drewN ?_ _ | refine blk_drew ?_ | refine blk_alloc ?_ _)); exact BK8004.out) hg (Kd.R_ne HO_8006003.out BK8004.out (by decide))); have n3_ := Aside0.mk (blk_grown (g := gb8005) (o := .cells #[.int .i64 a1, .int .i64 0, .string (⟨#[99, 108, 111, 115, 101]⟩ : ByteArray), u8006003] 37 (0, 0)) (by (with_reducible repeat (first | refine blk_drewN ?_ _ | refine blk_drew ?_ | refine blk_alloc ?_ _)); exact BK8005.out) hg (Kd.R_ne HO_8006003.out BK8005.out (by decide))); have n4_ := Aside0.mk (hb); have n5_ := Aside0.mk (ho); clear BK8001; clear BK8002; clear BK8004; clear BK8005; clear HB; clear HO_8006003; have BK8001 := n0_; have BK8002 := n1_; have BK8004 := n2_; have BK8005 := n3_; have HB := n4_; have HO8017 := n5_; clear n0_ n1_ n2_ n3_ n4_ n5_; clear ho hb hg hat; obtain ⟨Ao70, co70, eo70⟩ := Kd.R_slice HO8017.out; subst eo70; have hcz71_0 : w69.cell? ⟨gb8005, 0, none⟩ = some (.int .i64 a1) := (blk_cell BK8005.out 0).trans rfl; have hcz71_1 : w69.cell? ⟨gb8005, 1, none⟩ = some (.int .i64 0) := (blk_cell BK8005.out 1).trans rfl; have hcz71_2 : w69.cell? ⟨gb8005, 2, none⟩ = some (.string (⟨#[99, 108, 111, 115, 101]⟩ : ByteArray)) := (blk_cell BK8005.out 2).trans rfl; have hcz71_3 : w69.cell? ⟨gb8005, 3, none⟩ = some (u8006003) := (blk_cell BK8005.out 3).trans rfl; have hfz71_0 := blk_frozen BK8005.out 0; have hfz71_1 := blk_frozen BK8005.out 1; have hfz71_2 := blk_frozen BK8005.out 2; have hfz71_3 := blk_frozen BK8005.out 3))
                          go_roundg kj25
                          case measure => have := HK1.out; have := HK2.out; have := HJ25.out; omega
                          case rel => exact ⟨(wrap64 (x9_2 + t8014)), (true), (wrap64 (x11_2 + 1)), (y8015), (.slice Ao70 y8015.length co70), (by first | rfl | (simp; done) | (simp [*]; done)), (by first | rfl | (simp; done) | (simp [*]; done)), (by first | rfl | (simp; done) | (simp [*]; done)), H', ⟨by have := HK1.out; have := HK2.out; have := HJ25.out; omega⟩, ⟨by (with_reducible repeat (first | apply Kd.R_alloc | apply Kd.R_drewN | apply Kd.R_drew)); exact Kd.R_mono (Kd.R_far (p := ⟨gb8005, 3, none⟩) (Kd.R_types HO8017.out BK8005.out (by decide)) (fun _ hk => hk.2) (.slice Ao70 y8015.length co70)) (fun _ hk => trivial)⟩, ⟨by (with_reducible repeat (first | refine blk_drewN ?_ _ | refine blk_drew ?_ | refine blk_alloc ?_ _)); refine blk_far ?_ NB8001_8005.out _; (with_reducible repeat (first | refine blk_drewN ?_ _ | refine blk_drew ?_ | refine blk_alloc ?_ _)); exact BK8001.out⟩, ⟨by (with_reducible repeat (first | refine blk_drewN ?_ _ | refine blk_drew ?_ | refine blk_alloc ?_ _)); refine blk_far ?_ NB8002_8005.out _; (with_reducible repeat (first | refine blk_drewN ?_ _ | refine blk_drew ?_ | refine blk_alloc ?_ _)); exact BK8002.out⟩, ⟨by (with_reducible repeat (first | refine blk_drewN ?_ _ | refine blk_drew ?_ | refine blk_alloc ?_ _)); refine blk_far ?_ NB8004_8005.out _; (with_reducible repeat (first | refine blk_drewN ?_ _ | refine blk_drew ?_ | refine blk_alloc ?_ _)); exact BK8004.out⟩, ⟨by (with_reducible repeat (first | refine blk_drewN ?_ _ | refine blk_drew ?_ | refine blk_alloc ?_ _)); refine blk_put (cs := #[.int .i64 a1, .int .i64 0, .string (⟨#[99, 108, 111, 115, 101]⟩ : ByteArray), u8006003]) ?_ 3 _ rfl; (with_reducible repeat (first | refine blk_drewN ?_ _ | refine blk_drew ?_ | refine blk_alloc ?_ _)); exact BK8005.out⟩, ⟨by repeat (first | (with_reducible first | exact HB.out | apply below_alloc | apply pw_below_drewN | apply below_drew1 | refine below_set ?_ GE8001.out | refine below_set ?_ GE8002.out | refine below_set ?_ GE8004.out | refine below_set ?_ GE8005.out) | exact HB.out)⟩⟩
                        · rw [if_neg c60] at H
                          exact absurd H (by simp)
              · rw [if_neg c25] at H
                have c25b0 : decide (x11_2 < (l0_0.length : Int)) = false := decide_eq_false c25
                clear c25
                by_cases c72 : x10_2 = true
                · subst c72
                  have H1 : (if x8006003_2.length < 3518437208883 then (spec_CloseYear.l0 k2 a1 (wrap64 (x8_1 + 1)) l0_0 a0_1 a0_2 l0_3 a0_4 l0_5 a0_6 a0_7 l0_0 a0_1 a0_2 a1 0 (⟨#[99, 108, 111, 115, 101]⟩ : ByteArray) (x8006003_2 ++ [(⟨a0_7, x8_1, 0, x9_2, x9_2⟩ : S66)])) else (none)) = some (r1, r2, r3, r4, r5) := by rw [if_pos rfl] at H; exact H
                  clear H
                  have H := H1
                  clear H1
                  by_cases c73 : x8006003_2.length < 3518437208883
                  · rw [if_pos c73] at H
                    have LMc73 := Aside0.mk c73
                    clear c73
                    obtain ⟨y8007, hy8007⟩ : ∃ y_ : List (S66), y_ = (x8006003_2 ++ [(⟨a0_7, x8_1, 0, x9_2, x9_2⟩ : S66)]) := ⟨_, rfl⟩
                    replace H : (spec_CloseYear.l0 k2 a1 (wrap64 (x8_1 + 1)) l0_0 a0_1 a0_2 l0_3 a0_4 l0_5 a0_6 a0_7 l0_0 a0_1 a0_2 a1 0 (⟨#[99, 108, 111, 115, 101]⟩ : ByteArray) y8007) = some (r1, r2, r3, r4, r5) := by first | (rw [hy8007]; with_reducible exact H) | (have H2_ := (Option.bind_some _ _).symm.trans H; rw [hy8007]; with_reducible exact H2_) | (have H2_ := (Option.bind_some _ _).symm.trans H; with_reducible exact H2_) | with_reducible exact H | (rw [hy8007]; exact H) | exact H
                    have Ny8007 := Aside0.mk hy8007
                    clear hy8007
                    have H' := Aside0.mk H
                    clear H
                    have hnb74 := NB8004_8001.out
                    have hnc74 := NB8001_8004.out
                    have hnb75 := NB8004_8002.out
                    have hnc75 := NB8002_8004.out
                    have hnb76 := NB8004_8005.out
                    have hnc76 := NB8005_8004.out
                    have hcz77_0 : wr.cell? ⟨gb8004, 0, none⟩ = some (.slice A0_0 l0_0.length c0_0) := (blk_cell BK8004.out 0).trans rfl
                    have hcz77_1 : wr.cell? ⟨gb8004, 1, none⟩ = some (.int .i64 a0_1) := (blk_cell BK8004.out 1).trans rfl
                    have hcz77_2 : wr.cell? ⟨gb8004, 2, none⟩ = some (.int .i64 a0_2) := (blk_cell BK8004.out 2).trans rfl
                    have hfz77_0 := blk_frozen BK8004.out 0
                    have hfz77_1 := blk_frozen BK8004.out 1
                    have hfz77_2 := blk_frozen BK8004.out 2
                    have hnb78 := NB8005_8001.out
                    have hnc78 := NB8001_8005.out
                    have hnb79 := NB8005_8002.out
                    have hnc79 := NB8002_8005.out
                    have hcz80_0 : wr.cell? ⟨gb8005, 0, none⟩ = some (.int .i64 a1) := (blk_cell BK8005.out 0).trans rfl
                    have hcz80_1 : wr.cell? ⟨gb8005, 1, none⟩ = some (.int .i64 0) := (blk_cell BK8005.out 1).trans rfl
                    have hcz80_2 : wr.cell? ⟨gb8005, 2, none⟩ = some (.string (⟨#[99, 108, 111, 115, 101]⟩ : ByteArray)) := (blk_cell BK8005.out 2).trans rfl
                    have hcz80_3 : wr.cell? ⟨gb8005, 3, none⟩ = some (u8006003) := (blk_cell BK8005.out 3).trans rfl
                    have hfz80_0 := blk_frozen BK8005.out 0
                    have hfz80_1 := blk_frozen BK8005.out 1
                    have hfz80_2 := blk_frozen BK8005.out 2
                    have hfz80_3 := blk_frozen BK8005.out 3
                    have hnb81 := NB8001_8002.out
                    have hnc81 := NB8002_8001.out
                    have hcz82_0 : wr.cell? ⟨gb8001, 0, none⟩ = some (.slice A0_0 l0_0.length c0_0) := (blk_cell BK8001.out 0).trans rfl
                    have hcz82_1 : wr.cell? ⟨gb8001, 1, none⟩ = some (.int .i64 a0_1) := (blk_cell BK8001.out 1).trans rfl
                    have hcz82_2 : wr.cell? ⟨gb8001, 2, none⟩ = some (.int .i64 a0_2) := (blk_cell BK8001.out 2).trans rfl
                    have hcz82_3 : wr.cell? ⟨gb8001, 3, none⟩ = some (.slice A0_3 l0_3.length c0_3) := (blk_cell BK8001.out 3).trans rfl
                    have hcz82_4 : wr.cell? ⟨gb8001, 4, none⟩ = some (.int .i64 a0_4) := (blk_cell BK8001.out 4).trans rfl
                    have hcz82_5 : wr.cell? ⟨gb8001, 5, none⟩ = some (.slice A0_5 l0_5.length c0_5) := (blk_cell BK8001.out 5).trans rfl
                    have hcz82_6 : wr.cell? ⟨gb8001, 6, none⟩ = some (.int .i64 a0_6) := (blk_cell BK8001.out 6).trans rfl
                    have hcz82_7 : wr.cell? ⟨gb8001, 7, none⟩ = some (.int .i64 a0_7) := (blk_cell BK8001.out 7).trans rfl
                    have hfz82_0 := blk_frozen BK8001.out 0
                    have hfz82_1 := blk_frozen BK8001.out 1
                    have hfz82_2 := blk_frozen BK8001.out 2
                    have hfz82_3 := blk_frozen BK8001.out 3
                    have hfz82_4 := blk_frozen BK8001.out 4
                    have hfz82_5 := blk_frozen BK8001.out 5
                    have hfz82_6 := blk_frozen BK8001.out 6
                    have hfz82_7 := blk_frozen BK8001.out 7
                    go_wp2_with (first | ((with_reducible refine gate_builtin (b := .append) (xs := #[.tmp 86, .tmp 93]) rfl ?_); at_builtin; refine Kd.R_append k66 (w0 := w) w.heap.size rfl (.tmp 86) (.tmp 93) 35 66 (.agg #[(.int .i64 0), (.int .i64 0), (.int .i64 0), (.int .i64 0), (.int .i64 0)]) 40 rfl Try.underlying35 info66 rfl (by decide) (by omega) u8006003 x8006003_2 (⟨a0_7, x8_1, 0, x9_2, x9_2⟩ : S66) [.int .i64 a0_7, .int .i64 x8_1, .int .i64 0, .int .i64 x9_2, .int .i64 x9_2] (fun _ => True) (fun _ => False) rfl rfl ?aP (fun _ hk => hk.elim) ?aF ?aO ?aB ?aS ?aL ?_; (case aP => exact k66_mkM _ _ _ (⟨a0_7, x8_1, 0, x9_2, x9_2⟩ : S66)); (case aB => exact (by repeat (first | (with_reducible first | exact HB.out | apply below_alloc | apply pw_below_drewN | apply below_drew1 | refine below_set ?_ GE8001.out | refine below_set ?_ GE8002.out | refine below_set ?_ GE8004.out | refine below_set ?_ GE8005.out) | exact HB.out))); (case aF => exact (fun _ _ => trivial)); (case aO => exact (by (with_reducible repeat (first | apply Kd.R_alloc | apply Kd.R_drewN | apply Kd.R_drew)); exact HO_8006003.out)); (case aS => exact (below_size (by repeat (first | (with_reducible first | exact HB.out | apply below_alloc | apply pw_below_drewN | apply below_drew1 | refine below_set ?_ GE8001.out | refine below_set ?_ GE8002.out | refine below_set ?_ GE8004.out | refine below_set ?_ GE8005.out) | exact HB.out)))); (case aL => have := LMc73.out; omega); intro v8008 w83 ho hb hg hat; rw [← Ny8007.out] at ho; have n0_ := Aside0.mk (blk_grown (g := gb8001) (o := .cells #[.slice A0_0 l0_0.length c0_0, .int .i64 a0_1, .int .i64 a0_2, .slice A0_3 l0_3.length c0_3, .int .i64 a0_4, .slice A0_5 l0_5.length c0_5, .int .i64 a0_6, .int .i64 a0_7] 32 (0, 0)) (by (with_reducible repeat (first | refine blk_drewN ?_ _ | refine blk_drew ?_ | refine blk_alloc ?_ _)); exact BK8001.out) hg (Kd.R_ne HO_8006003.out BK8001.out (by decide))); have n1_ := Aside0.mk (blk_grown (g := gb8002) (o := .cells #[.int .i64 0, .int .i64 0, .string (⟨#[]⟩ : ByteArray), .slice none 0 0] 37 (0, 0)) (by (with_reducible repeat (first | refine blk_drewN ?_ _ | refine blk_drew ?_ | refine blk_alloc ?_ _)); exact BK8002.out) hg (Kd.R_ne HO_8006003.out BK8002.out (by decide))); have n2_ := Aside0.mk (blk_grown (g := gb8004) (o := .cells #[.slice A0_0 l0_0.length c0_0, .int .i64 a0_1, .int .i64 a0_2] 26 (0, 0)) (by (with_reducible repeat (first | refine blk_drewN ?_ _ | refine blk_drew ?_ | refine blk_alloc ?_ _)); exact BK8004.out) hg (Kd.R_ne HO_8006003.out BK8004.out (by decide))); have n3_ := Aside0.mk (blk_grown (g := gb8005) (o := .cells #[.int .i64 a1, .int .i64 0, .string (⟨#[99, 108, 111, 115, 101]⟩ : ByteArray), u8006003] 37 (0, 0)) (by (with_reducible repeat (first | refine blk_drewN ?_ _ | refine blk_drew ?_ | refine blk_alloc ?_ _)); exact BK8005.out) hg (Kd.R_ne HO_8006003.out BK8005.out (by decide))); have n4_ := Aside0.mk (hb); have n5_ := Aside0.mk (ho); clear BK8001; clear BK8002; clear BK8004; clear BK8005; clear HB; clear HO_8006003; have BK8001 := n0_; have BK8002 := n1_; have BK8004 := n2_; have BK8005 := n3_; have HB := n4_; have HO8009 := n5_; clear n0_ n1_ n2_ n3_ n4_ n5_; clear ho hb hg hat; obtain ⟨Ao84, co84, eo84⟩ := Kd.R_slice HO8009.out; subst eo84; have hcz85_0 : w83.cell? ⟨gb8005, 0, none⟩ = some (.int .i64 a1) := (blk_cell BK8005.out 0).trans rfl; have hcz85_1 : w83.cell? ⟨gb8005, 1, none⟩ = some (.int .i64 0) := (blk_cell BK8005.out 1).trans rfl; have hcz85_2 : w83.cell? ⟨gb8005, 2, none⟩ = some (.string (⟨#[99, 108, 111, 115, 101]⟩ : ByteArray)) := (blk_cell BK8005.out 2).trans rfl; have hcz85_3 : w83.cell? ⟨gb8005, 3, none⟩ = some (u8006003) := (blk_cell BK8005.out 3).trans rfl; have hfz85_0 := blk_frozen BK8005.out 0; have hfz85_1 := blk_frozen BK8005.out 1; have hfz85_2 := blk_frozen BK8005.out 2; have hfz85_3 := blk_frozen BK8005.out 3))
                    go_roundg k2
                    case measure => have := HK1.out; have := HK2.out; omega
                    case rel => exact ⟨(wrap64 (x8_1 + 1)), (y8007), (.slice Ao84 y8007.length co84), (by first | rfl | (simp; done) | (simp [*]; done)), H', ⟨by have := HK1.out; have := HK2.out; omega⟩, ⟨by (with_reducible repeat (first | apply Kd.R_alloc | apply Kd.R_drewN | apply Kd.R_drew)); exact Kd.R_mono (Kd.R_far (p := ⟨gb8005, 3, none⟩) (Kd.R_types HO8009.out BK8005.out (by decide)) (fun _ hk => hk.2) (.slice Ao84 y8007.length co84)) (fun _ hk => trivial)⟩, ⟨by (with_reducible repeat (first | refine blk_drewN ?_ _ | refine blk_drew ?_ | refine blk_alloc ?_ _)); refine blk_far ?_ NB8001_8005.out _; (with_reducible repeat (first | refine blk_drewN ?_ _ | refine blk_drew ?_ | refine blk_alloc ?_ _)); exact BK8001.out⟩, ⟨by (with_reducible repeat (first | refine blk_drewN ?_ _ | refine blk_drew ?_ | refine blk_alloc ?_ _)); refine blk_far ?_ NB8002_8005.out _; (with_reducible repeat (first | refine blk_drewN ?_ _ | refine blk_drew ?_ | refine blk_alloc ?_ _)); exact BK8002.out⟩, ⟨by (with_reducible repeat (first | refine blk_drewN ?_ _ | refine blk_drew ?_ | refine blk_alloc ?_ _)); refine blk_far ?_ NB8004_8005.out _; (with_reducible repeat (first | refine blk_drewN ?_ _ | refine blk_drew ?_ | refine blk_alloc ?_ _)); exact BK8004.out⟩, ⟨by (with_reducible repeat (first | refine blk_drewN ?_ _ | refine blk_drew ?_ | refine blk_alloc ?_ _)); refine blk_put (cs := #[.int .i64 a1, .int .i64 0, .string (⟨#[99, 108, 111, 115, 101]⟩ : ByteArray), u8006003]) ?_ 3 _ rfl; (with_reducible repeat (first | refine blk_drewN ?_ _ | refine blk_drew ?_ | refine blk_alloc ?_ _)); exact BK8005.out⟩, ⟨by repeat (first | (with_reducible first | exact HB.out | apply below_alloc | apply pw_below_drewN | apply below_drew1 | refine below_set ?_ GE8001.out | refine below_set ?_ GE8002.out | refine below_set ?_ GE8004.out | refine below_set ?_ GE8005.out) | exact HB.out)⟩⟩
                  · rw [if_neg c73] at H
                    exact absurd H (by simp)
                · replace c72 := Bool.eq_false_iff.mpr c72
                  subst c72
                  have H1 : (spec_CloseYear.l0 k2 a1 (wrap64 (x8_1 + 1)) l0_0 a0_1 a0_2 l0_3 a0_4 l0_5 a0_6 a0_7 l0_0 a0_1 a0_2 a1 0 (⟨#[99, 108, 111, 115, 101]⟩ : ByteArray) x8006003_2) = some (r1, r2, r3, r4, r5) := by rw [if_neg (show ¬ (false = true) by decide)] at H; exact H
                  clear H
                  have H := H1
                  clear H1
                  have H' := Aside0.mk H
                  clear H
                  have hnb86 := NB8004_8001.out
                  have hnc86 := NB8001_8004.out
                  have hnb87 := NB8004_8002.out
                  have hnc87 := NB8002_8004.out
                  have hnb88 := NB8004_8005.out
                  have hnc88 := NB8005_8004.out
                  have hcz89_0 : wr.cell? ⟨gb8004, 0, none⟩ = some (.slice A0_0 l0_0.length c0_0) := (blk_cell BK8004.out 0).trans rfl
                  have hcz89_1 : wr.cell? ⟨gb8004, 1, none⟩ = some (.int .i64 a0_1) := (blk_cell BK8004.out 1).trans rfl
                  have hcz89_2 : wr.cell? ⟨gb8004, 2, none⟩ = some (.int .i64 a0_2) := (blk_cell BK8004.out 2).trans rfl
                  have hfz89_0 := blk_frozen BK8004.out 0
                  have hfz89_1 := blk_frozen BK8004.out 1
                  have hfz89_2 := blk_frozen BK8004.out 2
                  go_wp2
                  go_roundg k2
                  case measure => have := HK1.out; have := HK2.out; omega
                  case rel => exact ⟨(wrap64 (x8_1 + 1)), (x8006003_2), (u8006003), (by first | rfl | (simp; done) | (simp [*]; done)), H', ⟨by have := HK1.out; have := HK2.out; omega⟩, ⟨by (with_reducible repeat (first | apply Kd.R_alloc | apply Kd.R_drewN | apply Kd.R_drew)); exact HO_8006003.out⟩, ⟨by (with_reducible repeat (first | refine blk_drewN ?_ _ | refine blk_drew ?_ | refine blk_alloc ?_ _)); exact BK8001.out⟩, ⟨by (with_reducible repeat (first | refine blk_drewN ?_ _ | refine blk_drew ?_ | refine blk_alloc ?_ _)); exact BK8002.out⟩, ⟨by (with_reducible repeat (first | refine blk_drewN ?_ _ | refine blk_drew ?_ | refine blk_alloc ?_ _)); exact BK8004.out⟩, ⟨by (with_reducible repeat (first | refine blk_drewN ?_ _ | refine blk_drew ?_ | refine blk_alloc ?_ _)); exact BK8005.out⟩, ⟨by repeat (first | (with_reducible first | exact HB.out | apply below_alloc | apply pw_below_drewN | apply below_drew1 | refine below_set ?_ GE8001.out | refine below_set ?_ GE8002.out | refine below_set ?_ GE8004.out | refine below_set ?_ GE8005.out) | exact HB.out)⟩⟩
        · rw [if_neg c20] at H
          have c20b0 : decide (x8_1 < a0_1) = false := decide_eq_false c20
          clear c20
          replace H := Option.bind_eq_some_iff.mp H
          obtain ⟨t8006, A900, H⟩ := H
          replace H : (if t8006 = true then (some (a1, 0, (⟨#[99, 108, 111, 115, 101]⟩ : ByteArray), x8006003_1, true)) else (some (0, 0, (⟨#[]⟩ : ByteArray), ([] : List (S66)), false))) = some (r1, r2, r3, r4, r5) := H
          have A90 := Aside0.mk A900
          clear A900
          by_cases c91 : t8006 = true
          · subst c91
            have H1 : (some (a1, 0, (⟨#[99, 108, 111, 115, 101]⟩ : ByteArray), x8006003_1, true)) = some (r1, r2, r3, r4, r5) := by rw [if_pos rfl] at H; exact H
            clear H
            have H := H1
            clear H1
            simp only [Option.some.injEq, Prod.mk.injEq] at H
            obtain ⟨rfl, rfl, rfl, rfl, rfl⟩ := H
            have hnb92 := NB8004_8001.out
            have hnc92 := NB8001_8004.out
            have hnb93 := NB8004_8002.out
            have hnc93 := NB8002_8004.out
            have hnb94 := NB8004_8005.out
            have hnc94 := NB8005_8004.out
            have hcz95_0 : wr.cell? ⟨gb8004, 0, none⟩ = some (.slice A0_0 l0_0.length c0_0) := (blk_cell BK8004.out 0).trans rfl
            have hcz95_1 : wr.cell? ⟨gb8004, 1, none⟩ = some (.int .i64 a0_1) := (blk_cell BK8004.out 1).trans rfl
            have hcz95_2 : wr.cell? ⟨gb8004, 2, none⟩ = some (.int .i64 a0_2) := (blk_cell BK8004.out 2).trans rfl
            have hfz95_0 := blk_frozen BK8004.out 0
            have hfz95_1 := blk_frozen BK8004.out 1
            have hfz95_2 := blk_frozen BK8004.out 2
            have hnb96 := NB8005_8001.out
            have hnc96 := NB8001_8005.out
            have hnb97 := NB8005_8002.out
            have hnc97 := NB8002_8005.out
            have hcz98_0 : wr.cell? ⟨gb8005, 0, none⟩ = some (.int .i64 a1) := (blk_cell BK8005.out 0).trans rfl
            have hcz98_1 : wr.cell? ⟨gb8005, 1, none⟩ = some (.int .i64 0) := (blk_cell BK8005.out 1).trans rfl
            have hcz98_2 : wr.cell? ⟨gb8005, 2, none⟩ = some (.string (⟨#[99, 108, 111, 115, 101]⟩ : ByteArray)) := (blk_cell BK8005.out 2).trans rfl
            have hcz98_3 : wr.cell? ⟨gb8005, 3, none⟩ = some (u8006003) := (blk_cell BK8005.out 3).trans rfl
            have hfz98_0 := blk_frozen BK8005.out 0
            have hfz98_1 := blk_frozen BK8005.out 1
            have hfz98_2 := blk_frozen BK8005.out 2
            have hfz98_3 := blk_frozen BK8005.out 3
            obtain ⟨Ao99, co99, eo99⟩ := Kd.R_slice HO_8006003.out
            subst eo99
            go_wp2_with (first | ((with_reducible refine gate_callee (f := 25) rfl ?_); refine goesL_ (some 98) rfl rfl Try.func25 (by kernel_rfl) rfl #[.agg #[.slice A0_0 l0_0.length c0_0, .int .i64 a0_1, .int .i64 a0_2], .agg #[.int .i64 a1, .int .i64 0, .string (⟨#[99, 108, 111, 115, 101]⟩ : ByteArray), .slice Ao99 x8006003_1.length co99]] rfl (by (try simp only [List.map_toArray, List.map_cons, List.map_nil]); first | done | rfl | (simp only [List.length_drop, List.length_take]; rfl)) ?_; (with_reducible refine (spec_EntryOk.calls _ _ l0_0 a0_1 a0_2 a1 0 (⟨#[99, 108, 111, 115, 101]⟩ : ByteArray) _ _ x8006003_1 true _ ?side1 ?side2 ?side3 ?side4 A90.out).mono ?_); (case side1 => repeat (first | exact (Kd.C_below HR0_0.out HB.out) | (with_reducible refine Kd.C_alloc ?_ _) | (with_reducible refine Kd.C_drewN ?_ _) | (with_reducible refine Kd.C_drew ?_))); (case side2 => exact HC0_0.out); (case side3 => repeat (first | exact (Kd.R_reads' HO_8006003.out).2.2 | (with_reducible refine Kd.C_alloc ?_ _) | (with_reducible refine Kd.C_drewN ?_ _) | (with_reducible refine Kd.C_drew ?_))); (case side4 => exact (Kd.R_reads' HO_8006003.out).2.1); rintro e w100 ⟨rfl, hb⟩; refine ⟨_, rfl, ?_⟩; have n0_ := Aside0.mk (Kd.R_below (by (with_reducible repeat (first | apply Kd.R_alloc | apply Kd.R_drewN | apply Kd.R_drew)); exact HO_8006003.out) hb); have n1_ := Aside0.mk (blk_below (g := gb8001) (o := .cells #[.slice A0_0 l0_0.length c0_0, .int .i64 a0_1, .int .i64 a0_2, .slice A0_3 l0_3.length c0_3, .int .i64 a0_4, .slice A0_5 l0_5.length c0_5, .int .i64 a0_6, .int .i64 a0_7] 32 (0, 0)) (by (with_reducible repeat (first | refine blk_drewN ?_ _ | refine blk_drew ?_ | refine blk_alloc ?_ _)); exact BK8001.out) hb); have n2_ := Aside0.mk (blk_below (g := gb8002) (o := .cells #[.int .i64 0, .int .i64 0, .string (⟨#[]⟩ : ByteArray), .slice none 0 0] 37 (0, 0)) (by (with_reducible repeat (first | refine blk_drewN ?_ _ | refine blk_drew ?_ | refine blk_alloc ?_ _)); exact BK8002.out) hb); have n3_ := Aside0.mk (blk_below (g := gb8004) (o := .cells #[.slice A0_0 l0_0.length c0_0, .int .i64 a0_1, .int .i64 a0_2] 26 (0, 0)) (by (with_reducible repeat (first | refine blk_drewN ?_ _ | refine blk_drew ?_ | refine blk_alloc ?_ _)); exact BK8004.out) hb); have n4_ := Aside0.mk (blk_below (g := gb8005) (o := .cells #[.int .i64 a1, .int .i64 0, .string (⟨#[99, 108, 111, 115, 101]⟩ : ByteArray), .slice Ao99 x8006003_1.length co99] 37 (0, 0)) (by (with_reducible repeat (first | refine blk_drewN ?_ _ | refine blk_drew ?_ | refine blk_alloc ?_ _)); exact BK8005.out) hb); have n5_ := Aside0.mk (below_step (by repeat (first | (with_reducible first | exact HB.out | apply below_alloc | apply pw_below_drewN | apply below_drew1 | refine below_set ?_ GE8001.out | refine below_set ?_ GE8002.out | refine below_set ?_ GE8004.out | refine below_set ?_ GE8005.out) | exact HB.out)) hb); clear HO_8006003; clear BK8001; clear BK8002; clear BK8004; clear BK8005; clear HB; have HO_8006003 := n0_; have BK8001 := n1_; have BK8002 := n2_; have BK8004 := n3_; have BK8005 := n4_; have HB := n5_; clear n0_ n1_ n2_ n3_ n4_ n5_; (try clear hb); (try clear hb2); (try clear hk); (try clear hi); have hcz101_0 : w100.cell? ⟨gb8005, 0, none⟩ = some (.int .i64 a1) := (blk_cell BK8005.out 0).trans rfl; have hcz101_1 : w100.cell? ⟨gb8005, 1, none⟩ = some (.int .i64 0) := (blk_cell BK8005.out 1).trans rfl; have hcz101_2 : w100.cell? ⟨gb8005, 2, none⟩ = some (.string (⟨#[99, 108, 111, 115, 101]⟩ : ByteArray)) := (blk_cell BK8005.out 2).trans rfl; have hcz101_3 : w100.cell? ⟨gb8005, 3, none⟩ = some (.slice Ao99 x8006003_1.length co99) := (blk_cell BK8005.out 3).trans rfl; have hfz101_0 := blk_frozen BK8005.out 0; have hfz101_1 := blk_frozen BK8005.out 1; have hfz101_2 := blk_frozen BK8005.out 2; have hfz101_3 := blk_frozen BK8005.out 3; have hnb102 := NB8002_8001.out; have hnc102 := NB8001_8002.out; have hcz103_0 : w100.cell? ⟨gb8002, 0, none⟩ = some (.int .i64 0) := (blk_cell BK8002.out 0).trans rfl; have hcz103_1 : w100.cell? ⟨gb8002, 1, none⟩ = some (.int .i64 0) := (blk_cell BK8002.out 1).trans rfl; have hcz103_2 : w100.cell? ⟨gb8002, 2, none⟩ = some (.string (⟨#[]⟩ : ByteArray)) := (blk_cell BK8002.out 2).trans rfl; have hcz103_3 : w100.cell? ⟨gb8002, 3, none⟩ = some (.slice none 0 0) := (blk_cell BK8002.out 3).trans rfl; have hfz103_0 := blk_frozen BK8002.out 0; have hfz103_1 := blk_frozen BK8002.out 1; have hfz103_2 := blk_frozen BK8002.out 2; have hfz103_3 := blk_frozen BK8002.out 3))
            refine bodyPost_ret (results_ct rfl _ _ gb8002 37 #[.int .i64 a1, .int .i64 0, .string (⟨#[99, 108, 111, 115, 101]⟩ : ByteArray), .slice Ao99 x8006003_1.length co99] (0, 0) _ rfl (by (with_reducible repeat (first | refine blk_drewN ?_ _ | refine blk_drew ?_ | refine blk_alloc ?_ _)); refine blk_put (cs := #[.int .i64 a1, .int .i64 0, .string (⟨#[99, 108, 111, 115, 101]⟩ : ByteArray), .slice none 0 0]) ?_ 3 _ rfl; (with_reducible repeat (first | refine blk_drewN ?_ _ | refine blk_drew ?_ | refine blk_alloc ?_ _)); refine blk_put (cs := #[.int .i64 a1, .int .i64 0, .string (⟨#[]⟩ : ByteArray), .slice none 0 0]) ?_ 2 _ rfl; (with_reducible repeat (first | refine blk_drewN ?_ _ | refine blk_drew ?_ | refine blk_alloc ?_ _)); refine blk_put (cs := #[.int .i64 a1, .int .i64 0, .string (⟨#[]⟩ : ByteArray), .slice none 0 0]) ?_ 1 _ rfl; (with_reducible repeat (first | refine blk_drewN ?_ _ | refine blk_drew ?_ | refine blk_alloc ?_ _)); refine blk_put (cs := #[.int .i64 0, .int .i64 0, .string (⟨#[]⟩ : ByteArray), .slice none 0 0]) ?_ 0 _ rfl; (with_reducible repeat (first | refine blk_drewN ?_ _ | refine blk_drew ?_ | refine blk_alloc ?_ _)); exact BK8002.out) Try.underlying37 rfl (by kernel_rfl)) rfl ?_
            exact ⟨_, by first | rfl | (simp [errW_none, errW_some] <;> rfl) | (simp [*, errW_none, errW_some] <;> rfl), by (with_reducible repeat (first | apply Kd.R_alloc | apply Kd.R_drewN | apply Kd.R_drew)); exact Kd.R_mono (Kd.R_far (p := ⟨gb8002, 3, none⟩) (Kd.R_far (p := ⟨gb8002, 2, none⟩) (Kd.R_far (p := ⟨gb8002, 1, none⟩) (Kd.R_far (p := ⟨gb8002, 0, none⟩) (Kd.R_types HO_8006003.out BK8002.out (by decide)) (fun _ hk => hk.2) (.int .i64 a1)) (fun _ hk => hk.2) (.int .i64 0)) (fun _ hk => hk.2) (.string (⟨#[99, 108, 111, 115, 101]⟩ : ByteArray))) (fun _ hk => hk.2) (.slice Ao99 x8006003_1.length co99)) (fun _ hk => trivial), by repeat (first | (with_reducible first | exact HB.out | apply below_alloc | apply pw_below_drewN | apply below_drew1 | refine below_set ?_ GE8001.out | refine below_set ?_ GE8002.out | refine below_set ?_ GE8004.out | refine below_set ?_ GE8005.out) | exact HB.out)⟩
          · replace c91 := Bool.eq_false_iff.mpr c91
            subst c91
            have H1 : (some (0, 0, (⟨#[]⟩ : ByteArray), ([] : List (S66)), false)) = some (r1, r2, r3, r4, r5) := by rw [if_neg (show ¬ (false = true) by decide)] at H; exact H
            clear H
            have H := H1
            clear H1
            simp only [Option.some.injEq, Prod.mk.injEq] at H
            obtain ⟨rfl, rfl, rfl, rfl, rfl⟩ := H
            have hnb104 := NB8004_8001.out
            have hnc104 := NB8001_8004.out
            have hnb105 := NB8004_8002.out
            have hnc105 := NB8002_8004.out
            have hnb106 := NB8004_8005.out
            have hnc106 := NB8005_8004.out
            have hcz107_0 : wr.cell? ⟨gb8004, 0, none⟩ = some (.slice A0_0 l0_0.length c0_0) := (blk_cell BK8004.out 0).trans rfl
            have hcz107_1 : wr.cell? ⟨gb8004, 1, none⟩ = some (.int .i64 a0_1) := (blk_cell BK8004.out 1).trans rfl
            have hcz107_2 : wr.cell? ⟨gb8004, 2, none⟩ = some (.int .i64 a0_2) := (blk_cell BK8004.out 2).trans rfl
            have hfz107_0 := blk_frozen BK8004.out 0
            have hfz107_1 := blk_frozen BK8004.out 1
            have hfz107_2 := blk_frozen BK8004.out 2
            have hnb108 := NB8005_8001.out
            have hnc108 := NB8001_8005.out
            have hnb109 := NB8005_8002.out
            have hnc109 := NB8002_8005.out
            have hcz110_0 : wr.cell? ⟨gb8005, 0, none⟩ = some (.int .i64 a1) := (blk_cell BK8005.out 0).trans rfl
            have hcz110_1 : wr.cell? ⟨gb8005, 1, none⟩ = some (.int .i64 0) := (blk_cell BK8005.out 1).trans rfl
            have hcz110_2 : wr.cell? ⟨gb8005, 2, none⟩ = some (.string (⟨#[99, 108, 111, 115, 101]⟩ : ByteArray)) := (blk_cell BK8005.out 2).trans rfl
            have hcz110_3 : wr.cell? ⟨gb8005, 3, none⟩ = some (u8006003) := (blk_cell BK8005.out 3).trans rfl
            have hfz110_0 := blk_frozen BK8005.out 0
            have hfz110_1 := blk_frozen BK8005.out 1
            have hfz110_2 := blk_frozen BK8005.out 2
            have hfz110_3 := blk_frozen BK8005.out 3
            obtain ⟨Ao111, co111, eo111⟩ := Kd.R_slice HO_8006003.out
            subst eo111
            go_wp2_with (first | ((with_reducible refine gate_callee (f := 25) rfl ?_); refine goesL_ (some 98) rfl rfl Try.func25 (by kernel_rfl) rfl #[.agg #[.slice A0_0 l0_0.length c0_0, .int .i64 a0_1, .int .i64 a0_2], .agg #[.int .i64 a1, .int .i64 0, .string (⟨#[99, 108, 111, 115, 101]⟩ : ByteArray), .slice Ao111 x8006003_1.length co111]] rfl (by (try simp only [List.map_toArray, List.map_cons, List.map_nil]); first | done | rfl | (simp only [List.length_drop, List.length_take]; rfl)) ?_; (with_reducible refine (spec_EntryOk.calls _ _ l0_0 a0_1 a0_2 a1 0 (⟨#[99, 108, 111, 115, 101]⟩ : ByteArray) _ _ x8006003_1 false _ ?side1 ?side2 ?side3 ?side4 A90.out).mono ?_); (case side1 => repeat (first | exact (Kd.C_below HR0_0.out HB.out) | (with_reducible refine Kd.C_alloc ?_ _) | (with_reducible refine Kd.C_drewN ?_ _) | (with_reducible refine Kd.C_drew ?_))); (case side2 => exact HC0_0.out); (case side3 => repeat (first | exact (Kd.R_reads' HO_8006003.out).2.2 | (with_reducible refine Kd.C_alloc ?_ _) | (with_reducible refine Kd.C_drewN ?_ _) | (with_reducible refine Kd.C_drew ?_))); (case side4 => exact (Kd.R_reads' HO_8006003.out).2.1); rintro e w112 ⟨rfl, hb⟩; refine ⟨_, rfl, ?_⟩; have n0_ := Aside0.mk (Kd.R_below (by (with_reducible repeat (first | apply Kd.R_alloc | apply Kd.R_drewN | apply Kd.R_drew)); exact HO_8006003.out) hb); have n1_ := Aside0.mk (blk_below (g := gb8001) (o := .cells #[.slice A0_0 l0_0.length c0_0, .int .i64 a0_1, .int .i64 a0_2, .slice A0_3 l0_3.length c0_3, .int .i64 a0_4, .slice A0_5 l0_5.length c0_5, .int .i64 a0_6, .int .i64 a0_7] 32 (0, 0)) (by (with_reducible repeat (first | refine blk_drewN ?_ _ | refine blk_drew ?_ | refine blk_alloc ?_ _)); exact BK8001.out) hb); have n2_ := Aside0.mk (blk_below (g := gb8002) (o := .cells #[.int .i64 0, .int .i64 0, .string (⟨#[]⟩ : ByteArray), .slice none 0 0] 37 (0, 0)) (by (with_reducible repeat (first | refine blk_drewN ?_ _ | refine blk_drew ?_ | refine blk_alloc ?_ _)); exact BK8002.out) hb); have n3_ := Aside0.mk (blk_below (g := gb8004) (o := .cells #[.slice A0_0 l0_0.length c0_0, .int .i64 a0_1, .int .i64 a0_2] 26 (0, 0)) (by (with_reducible repeat (first | refine blk_drewN ?_ _ | refine blk_drew ?_ | refine blk_alloc ?_ _)); exact BK8004.out) hb); have n4_ := Aside0.mk (blk_below (g := gb8005) (o := .cells #[.int .i64 a1, .int .i64 0, .string (⟨#[99, 108, 111, 115, 101]⟩ : ByteArray), .slice Ao111 x8006003_1.length co111] 37 (0, 0)) (by (with_reducible repeat (first | refine blk_drewN ?_ _ | refine blk_drew ?_ | refine blk_alloc ?_ _)); exact BK8005.out) hb); have n5_ := Aside0.mk (below_step (by repeat (first | (with_reducible first | exact HB.out | apply below_alloc | apply pw_below_drewN | apply below_drew1 | refine below_set ?_ GE8001.out | refine below_set ?_ GE8002.out | refine below_set ?_ GE8004.out | refine below_set ?_ GE8005.out) | exact HB.out)) hb); clear HO_8006003; clear BK8001; clear BK8002; clear BK8004; clear BK8005; clear HB; have HO_8006003 := n0_; have BK8001 := n1_; have BK8002 := n2_; have BK8004 := n3_; have BK8005 := n4_; have HB := n5_; clear n0_ n1_ n2_ n3_ n4_ n5_; (try clear hb); (try clear hb2); (try clear hk); (try clear hi); have hnb113 := NB8002_8001.out; have hnc113 := NB8001_8002.out; have hcz114_0 : w112.cell? ⟨gb8002, 0, none⟩ = some (.int .i64 0) := (blk_cell BK8002.out 0).trans rfl; have hcz114_1 : w112.cell? ⟨gb8002, 1, none⟩ = some (.int .i64 0) := (blk_cell BK8002.out 1).trans rfl; have hcz114_2 : w112.cell? ⟨gb8002, 2, none⟩ = some (.string (⟨#[]⟩ : ByteArray)) := (blk_cell BK8002.out 2).trans rfl; have hcz114_3 : w112.cell? ⟨gb8002, 3, none⟩ = some (.slice none 0 0) := (blk_cell BK8002.out 3).trans rfl; have hfz114_0 := blk_frozen BK8002.out 0; have hfz114_1 := blk_frozen BK8002.out 1; have hfz114_2 := blk_frozen BK8002.out 2; have hfz114_3 := blk_frozen BK8002.out 3))
            refine bodyPost_ret (results_ct rfl _ _ gb8002 37 #[.int .i64 0, .int .i64 0, .string (⟨#[]⟩ : ByteArray), .slice none 0 0] (0, 0) _ rfl (by (with_reducible repeat (first | refine blk_drewN ?_ _ | refine blk_drew ?_ | refine blk_alloc ?_ _)); refine blk_put (cs := #[.int .i64 0, .int .i64 0, .string (⟨#[]⟩ : ByteArray), .slice none 0 0]) ?_ 3 _ rfl; (with_reducible repeat (first | refine blk_drewN ?_ _ | refine blk_drew ?_ | refine blk_alloc ?_ _)); refine blk_put (cs := #[.int .i64 0, .int .i64 0, .string (⟨#[]⟩ : ByteArray), .slice none 0 0]) ?_ 2 _ rfl; (with_reducible repeat (first | refine blk_drewN ?_ _ | refine blk_drew ?_ | refine blk_alloc ?_ _)); refine blk_put (cs := #[.int .i64 0, .int .i64 0, .string (⟨#[]⟩ : ByteArray), .slice none 0 0]) ?_ 1 _ rfl; (with_reducible repeat (first | refine blk_drewN ?_ _ | refine blk_drew ?_ | refine blk_alloc ?_ _)); refine blk_put (cs := #[.int .i64 0, .int .i64 0, .string (⟨#[]⟩ : ByteArray), .slice none 0 0]) ?_ 0 _ rfl; (with_reducible repeat (first | refine blk_drewN ?_ _ | refine blk_drew ?_ | refine blk_alloc ?_ _)); exact BK8002.out) Try.underlying37 rfl (by kernel_rfl)) rfl ?_
            exact ⟨_, by first | rfl | (simp [errW_none, errW_some] <;> rfl) | (simp [*, errW_none, errW_some] <;> rfl), by first | exact Kd.R_nil _ _ _ _ _ | exact Kd.N_nil _ _ _ _ _ | exact Kd.V_nil _ _ _ _ _ | exact Kd.Q_nil _ _ _ _ _ | exact Kd.S_nil _ _ _ _ _, by repeat (first | (with_reducible first | exact HB.out | apply below_alloc | apply pw_below_drewN | apply below_drew1 | refine below_set ?_ GE8001.out | refine below_set ?_ GE8002.out | refine below_set ?_ GE8004.out | refine below_set ?_ GE8005.out) | exact HB.out)⟩
  · replace c4 := Bool.eq_false_iff.mpr c4
    subst c4
    have H1 : (some (0, 0, (⟨#[]⟩ : ByteArray), ([] : List (S66)), false)) = some (r1, r2, r3, r4, r5) := by rw [if_neg (show ¬ (false = true) by decide)] at H; exact H
    clear H
    have H := H1
    clear H1
    simp only [Option.some.injEq, Prod.mk.injEq] at H
    obtain ⟨rfl, rfl, rfl, rfl, rfl⟩ := H
    go_enter Try.func7, Try.ntmps7
    go_wp2_with (first | ((with_reducible refine gate_dst (N := 2) rfl ?_); refine box_event ?hg (N := 2) ?hd (cs := #[.slice A0_0 l0_0.length c0_0, .int .i64 a0_1, .int .i64 a0_2, .slice A0_3 l0_3.length c0_3, .int .i64 a0_4, .slice A0_5 l0_5.length c0_5, .int .i64 a0_6, .int .i64 a0_7]) (t := 32) ?hr ?_; (case hd => rfl); (case hg => rfl); (case hr => first | (go_simp; done) | (go_simp; rfl)); intro gb8001 hg w115 hbox hb; have n0_ := Aside0.mk (below_step (by repeat (first | (with_reducible first | exact HB.out | apply below_alloc | apply pw_below_drewN | apply below_drew1) | exact HB.out)) hb); have n1_ := Aside0.mk (hbox); have n2_ := Aside0.mk ((by rw [hg]; exact (below_size (by repeat (first | (with_reducible first | exact HB.out | apply below_alloc | apply pw_below_drewN | apply below_drew1) | exact HB.out))) : w.heap.size ≤ gb8001)); have n3_ := Aside0.mk ((by rw [hg]; exact (below_size (by repeat (first | (with_reducible first | exact HB.out | apply below_alloc | apply pw_below_drewN | apply below_drew1) | exact HB.out))) : w.heap.size ≤ gb8001)); clear HB; have HB := n0_; have BK8001 := n1_; have GW8001 := n2_; have GE8001 := n3_; clear n0_ n1_ n2_ n3_; clear hb hbox hg) | ((with_reducible refine gate_dst (N := 4) rfl ?_); refine box_event ?hg (N := 4) ?hd (cs := #[.int .i64 0, .int .i64 0, .string (⟨#[]⟩ : ByteArray), .slice none 0 0]) (t := 37) ?hr ?_; (case hd => rfl); (case hg => rfl); (case hr => first | (go_simp; done) | (go_simp; rfl)); intro gb8002 hg w116 hbox hb; have n0_ := Aside0.mk (blk_below (g := gb8001) (o := .cells #[.slice A0_0 l0_0.length c0_0, .int .i64 a0_1, .int .i64 a0_2, .slice A0_3 l0_3.length c0_3, .int .i64 a0_4, .slice A0_5 l0_5.length c0_5, .int .i64 a0_6, .int .i64 a0_7] 32 (0, 0)) (by (with_reducible repeat (first | refine blk_drewN ?_ _ | refine blk_drew ?_ | refine blk_alloc ?_ _)); exact BK8001.out) hb); have n1_ := Aside0.mk (below_step (by repeat (first | (with_reducible first | exact HB.out | apply below_alloc | apply pw_below_drewN | apply below_drew1 | refine below_set ?_ GE8001.out) | exact HB.out)) hb); have n2_ := Aside0.mk (hbox); have n3_ := Aside0.mk ((by rw [hg]; exact (below_size (by repeat (first | (with_reducible first | exact HB.out | apply below_alloc | apply pw_below_drewN | apply below_drew1 | refine below_set ?_ GE8001.out) | exact HB.out))) : w.heap.size ≤ gb8002)); have n4_ := Aside0.mk ((by rw [hg]; exact (below_size (by repeat (first | (with_reducible first | exact HB.out | apply below_alloc | apply pw_below_drewN | apply below_drew1 | refine below_set ?_ GE8001.out) | exact HB.out))) : w.heap.size ≤ gb8002)); have n5_ := Aside0.mk ((by rw [hg]; exact Nat.ne_of_lt (blk_lt (g := gb8001) (o := .cells #[.slice A0_0 l0_0.length c0_0, .int .i64 a0_1, .int .i64 a0_2, .slice A0_3 l0_3.length c0_3, .int .i64 a0_4, .slice A0_5 l0_5.length c0_5, .int .i64 a0_6, .int .i64 a0_7] 32 (0, 0)) (by (with_reducible repeat (first | refine blk_drewN ?_ _ | refine blk_drew ?_ | refine blk_alloc ?_ _)); exact BK8001.out)) : gb8001 ≠ gb8002)); have n6_ := Aside0.mk ((by rw [hg]; exact Nat.ne_of_gt (blk_lt (g := gb8001) (o := .cells #[.slice A0_0 l0_0.length c0_0, .int .i64 a0_1, .int .i64 a0_2, .slice A0_3 l0_3.length c0_3, .int .i64 a0_4, .slice A0_5 l0_5.length c0_5, .int .i64 a0_6, .int .i64 a0_7] 32 (0, 0)) (by (with_reducible repeat (first | refine blk_drewN ?_ _ | refine blk_drew ?_ | refine blk_alloc ?_ _)); exact BK8001.out)) : gb8002 ≠ gb8001)); clear BK8001; clear HB; have BK8001 := n0_; have HB := n1_; have BK8002 := n2_; have GW8002 := n3_; have GE8002 := n4_; have NB8001_8002 := n5_; have NB8002_8001 := n6_; clear n0_ n1_ n2_ n3_ n4_ n5_ n6_; clear hb hbox hg; have hnb117 := NB8001_8002.out; have hnc117 := NB8002_8001.out; have hcz118_0 : w116.cell? ⟨gb8001, 0, none⟩ = some (.slice A0_0 l0_0.length c0_0) := (blk_cell BK8001.out 0).trans rfl; have hcz118_1 : w116.cell? ⟨gb8001, 1, none⟩ = some (.int .i64 a0_1) := (blk_cell BK8001.out 1).trans rfl; have hcz118_2 : w116.cell? ⟨gb8001, 2, none⟩ = some (.int .i64 a0_2) := (blk_cell BK8001.out 2).trans rfl; have hcz118_3 : w116.cell? ⟨gb8001, 3, none⟩ = some (.slice A0_3 l0_3.length c0_3) := (blk_cell BK8001.out 3).trans rfl; have hcz118_4 : w116.cell? ⟨gb8001, 4, none⟩ = some (.int .i64 a0_4) := (blk_cell BK8001.out 4).trans rfl; have hcz118_5 : w116.cell? ⟨gb8001, 5, none⟩ = some (.slice A0_5 l0_5.length c0_5) := (blk_cell BK8001.out 5).trans rfl; have hcz118_6 : w116.cell? ⟨gb8001, 6, none⟩ = some (.int .i64 a0_6) := (blk_cell BK8001.out 6).trans rfl; have hcz118_7 : w116.cell? ⟨gb8001, 7, none⟩ = some (.int .i64 a0_7) := (blk_cell BK8001.out 7).trans rfl; have hfz118_0 := blk_frozen BK8001.out 0; have hfz118_1 := blk_frozen BK8001.out 1; have hfz118_2 := blk_frozen BK8001.out 2; have hfz118_3 := blk_frozen BK8001.out 3; have hfz118_4 := blk_frozen BK8001.out 4; have hfz118_5 := blk_frozen BK8001.out 5; have hfz118_6 := blk_frozen BK8001.out 6; have hfz118_7 := blk_frozen BK8001.out 7) | ((with_reducible refine gate_callee (f := 22) rfl ?_); refine goesL_ (some 15) rfl rfl Try.func22 (by kernel_rfl) rfl #[.agg #[.slice A0_0 l0_0.length c0_0, .int .i64 a0_1, .int .i64 a0_2, .slice A0_3 l0_3.length c0_3, .int .i64 a0_4, .slice A0_5 l0_5.length c0_5, .int .i64 a0_6, .int .i64 a0_7]] rfl (by (try simp only [List.map_toArray, List.map_cons, List.map_nil]); first | done | rfl | (simp only [List.length_drop, List.length_take]; rfl)) ?_; (with_reducible refine (spec_BooksOk.calls _ _ l0_0 a0_1 a0_2 _ _ l0_3 a0_4 _ _ l0_5 a0_6 a0_7 false _ ?side1 ?side2 ?side3 ?side4 ?side5 ?side6 A3.out).mono ?_); (case side1 => repeat (first | exact (Kd.C_below HR0_0.out HB.out) | (with_reducible refine Kd.C_alloc ?_ _) | (with_reducible refine Kd.C_drewN ?_ _) | (with_reducible refine Kd.C_drew ?_))); (case side2 => exact HC0_0.out); (case side3 => repeat (first | exact (Kd.C_below HR0_3.out HB.out) | (with_reducible refine Kd.C_alloc ?_ _) | (with_reducible refine Kd.C_drewN ?_ _) | (with_reducible refine Kd.C_drew ?_))); (case side4 => exact HC0_3.out); (case side5 => repeat (first | exact (Kd.C_below HR0_5.out HB.out) | (with_reducible refine Kd.C_alloc ?_ _) | (with_reducible refine Kd.C_drewN ?_ _) | (with_reducible refine Kd.C_drew ?_))); (case side6 => exact HC0_5.out); rintro e w119 ⟨rfl, hb⟩; refine ⟨_, rfl, ?_⟩; have n0_ := Aside0.mk (blk_below (g := gb8001) (o := .cells #[.slice A0_0 l0_0.length c0_0, .int .i64 a0_1, .int .i64 a0_2, .slice A0_3 l0_3.length c0_3, .int .i64 a0_4, .slice A0_5 l0_5.length c0_5, .int .i64 a0_6, .int .i64 a0_7] 32 (0, 0)) (by (with_reducible repeat (first | refine blk_drewN ?_ _ | refine blk_drew ?_ | refine blk_alloc ?_ _)); exact BK8001.out) hb); have n1_ := Aside0.mk (blk_below (g := gb8002) (o := .cells #[.int .i64 0, .int .i64 0, .string (⟨#[]⟩ : ByteArray), .slice none 0 0] 37 (0, 0)) (by (with_reducible repeat (first | refine blk_drewN ?_ _ | refine blk_drew ?_ | refine blk_alloc ?_ _)); exact BK8002.out) hb); have n2_ := Aside0.mk (below_step (by repeat (first | (with_reducible first | exact HB.out | apply below_alloc | apply pw_below_drewN | apply below_drew1 | refine below_set ?_ GE8001.out | refine below_set ?_ GE8002.out) | exact HB.out)) hb); clear BK8001; clear BK8002; clear HB; have BK8001 := n0_; have BK8002 := n1_; have HB := n2_; clear n0_ n1_ n2_; (try clear hb); (try clear hb2); (try clear hk); (try clear hi); have hcz120_0 : w119.cell? ⟨gb8002, 0, none⟩ = some (.int .i64 0) := (blk_cell BK8002.out 0).trans rfl; have hcz120_1 : w119.cell? ⟨gb8002, 1, none⟩ = some (.int .i64 0) := (blk_cell BK8002.out 1).trans rfl; have hcz120_2 : w119.cell? ⟨gb8002, 2, none⟩ = some (.string (⟨#[]⟩ : ByteArray)) := (blk_cell BK8002.out 2).trans rfl; have hcz120_3 : w119.cell? ⟨gb8002, 3, none⟩ = some (.slice none 0 0) := (blk_cell BK8002.out 3).trans rfl; have hfz120_0 := blk_frozen BK8002.out 0; have hfz120_1 := blk_frozen BK8002.out 1; have hfz120_2 := blk_frozen BK8002.out 2; have hfz120_3 := blk_frozen BK8002.out 3))
    refine bodyPost_ret (results_ct rfl _ _ gb8002 37 #[.int .i64 0, .int .i64 0, .string (⟨#[]⟩ : ByteArray), .slice none 0 0] (0, 0) _ rfl (by (with_reducible repeat (first | refine blk_drewN ?_ _ | refine blk_drew ?_ | refine blk_alloc ?_ _)); refine blk_put (cs := #[.int .i64 0, .int .i64 0, .string (⟨#[]⟩ : ByteArray), .slice none 0 0]) ?_ 3 _ rfl; (with_reducible repeat (first | refine blk_drewN ?_ _ | refine blk_drew ?_ | refine blk_alloc ?_ _)); refine blk_put (cs := #[.int .i64 0, .int .i64 0, .string (⟨#[]⟩ : ByteArray), .slice none 0 0]) ?_ 2 _ rfl; (with_reducible repeat (first | refine blk_drewN ?_ _ | refine blk_drew ?_ | refine blk_alloc ?_ _)); refine blk_put (cs := #[.int .i64 0, .int .i64 0, .string (⟨#[]⟩ : ByteArray), .slice none 0 0]) ?_ 1 _ rfl; (with_reducible repeat (first | refine blk_drewN ?_ _ | refine blk_drew ?_ | refine blk_alloc ?_ _)); refine blk_put (cs := #[.int .i64 0, .int .i64 0, .string (⟨#[]⟩ : ByteArray), .slice none 0 0]) ?_ 0 _ rfl; (with_reducible repeat (first | refine blk_drewN ?_ _ | refine blk_drew ?_ | refine blk_alloc ?_ _)); exact BK8002.out) Try.underlying37 rfl (by kernel_rfl)) rfl ?_
    exact ⟨_, by first | rfl | (simp [errW_none, errW_some] <;> rfl) | (simp [*, errW_none, errW_some] <;> rfl), by first | exact Kd.R_nil _ _ _ _ _ | exact Kd.N_nil _ _ _ _ _ | exact Kd.V_nil _ _ _ _ _ | exact Kd.Q_nil _ _ _ _ _ | exact Kd.S_nil _ _ _ _ _, by repeat (first | (with_reducible first | exact HB.out | apply below_alloc | apply pw_below_drewN | apply below_drew1 | refine below_set ?_ GE8001.out | refine below_set ?_ GE8002.out) | exact HB.out)⟩
end Go.Proofs.Ytjnibbkjoclboaa.Q
