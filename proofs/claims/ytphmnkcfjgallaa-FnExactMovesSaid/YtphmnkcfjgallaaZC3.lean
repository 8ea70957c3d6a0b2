/- Parts of the proof: what functions of the program and of the reference answer.
   No condition. -/
import Derived.Test.YtphmnkcfjgallaaWRepsOne
import Derived.Test.YtphmnkcfjgallaaZC1
import Derived.Test.YtphmnkcfjgallaaZC2
namespace Go.Proofs.Ytphmnkcfjgallaa.Q
open Go.RowKit Go.Proofs.YtphmnkcfjgallaaW.PrintWords Go.Proofs.YtphmnkcfjgallaaW.PrintLast Go.Proofs.YtphmnkcfjgallaaW.PrintMore
attribute [local go_sem] max2_int min2_int max_two min_two max_three min_three max_four min_four   -- for this text's walks alone
set_option linter.unusedVariables false
set_option linter.unusedSimpArgs false

/-! ### hand text d4_specentry.lean -/
theorem curSum_step {l : List Lin} {i : Int} (c : Int) (h0 : 0 ≤ i) (h1 : i < (l.length : Int)) : curSum (l.take (i + 1).toNat) c = curSum (l.take i.toNat) c + if (rd_T112 l i).f2 = c then (rd_T112 l i).f3 else 0 := by rw [take_snoc h0 h1, curSum_snoc]
theorem dimSum_step {l : List Lin} {i : Int} (c : Int) (h0 : 0 ≤ i) (h1 : i < (l.length : Int)) : dimSum (l.take (i + 1).toNat) c = dimSum (l.take i.toNat) c + if (rd_T112 l i).f1 = c then (rd_T112 l i).f4 else 0 := by rw [take_snoc h0 h1, dimSum_snoc]
theorem sums_bounds {l : List Lin} (h : ∀ x ∈ l, (-100000000000 ≤ x.f3 ∧ x.f3 ≤ 100000000000) ∧ (-100000000000 ≤ x.f4 ∧ x.f4 ≤ 100000000000)) (hl : l.length ≤ 60) (n : Nat) (c d : Int) : (-6000000000000 ≤ curSum (l.take n) c ∧ curSum (l.take n) c ≤ 6000000000000) ∧ (-6000000000000 ≤ dimSum (l.take n) d ∧ dimSum (l.take n) d ≤ 6000000000000) := by
  have hs : smallLines (l.take n) := fun y hy => h y (List.mem_of_mem_take hy)
  have h1 := curSum_small hs c
  have h2 := dimSum_small hs d
  have h3 : ((l.take n).length : Int) ≤ 60 := by rw [List.length_take]; omega
  omega
theorem frame_parts {chart : List Acc} {dims curs : Int} (h : frameB chart dims curs = true) : chartOk chart = true ∧ (1 ≤ dims ∧ dims ≤ 20) ∧ (1 ≤ curs ∧ curs ≤ 20) := by
  unfold frameB at h
  rw [Bool.and_eq_true, Bool.and_eq_true] at h
  exact ⟨h.1, inB_true.1 h.2.1, inB_true.1 h.2.2⟩
theorem and_l {a b c : Bool} (h : a = true) (k : c = b) : c = (a && b) := by rw [h, Bool.true_and]; exact k
theorem and_r {a b : Bool} (h : a = false) : false = (a && b) := by rw [h]; rfl
set_option maxHeartbeats 16000000 in
set_option maxRecDepth 100000 in
theorem spec_EntryOk.to (A0 : Option Addr) (c0 : Nat) (l0 : List Acc) (dims curs : Int) (e : Ent) (A3 : Option Addr) (c3 : Nat) (w : World) (hr0 : Kd.C k131 w A0 l0.length l0) (hs : ∀ x ∈ l0, x.f0.size ≤ maxLen) (hr3 : Kd.C k112 w A3 e.f3.length e.f3) (hm : e.f2.size ≤ maxLen) :
    Calls Try.prog 91 #[.agg #[.slice A0 l0.length c0, .int .i64 dims, .int .i64 curs], .agg #[.int .i64 e.f0, .int .i64 e.f1, .string e.f2, .slice A3 e.f3.length c3]] w fun x w' => x = .returned (.bool (frameB l0 dims curs && entryB l0 dims curs e)) ∧ Below w.heap.size w w' := by
  have hl0 := hr0.2.1
  have hlen := hr3.2.1
  have H0 := Aside0.mk hr0
  have H3 := Aside0.mk hr3
  have HS := Aside0.mk hs
  have HM := Aside0.mk hm
  have H00 := Aside0.mk (Kd.C_below hr0 (below_two w (.cells #[.slice A0 l0.length c0, .int .i64 dims, .int .i64 curs] 26) (.cells #[.int .i64 e.f0, .int .i64 e.f1, .string e.f2, .slice A3 e.f3.length c3] 34)))
  clear hr0 hr3 hs hm
  go_enter Try.func91, Try.ntmps91
  go_wp2_with fail
  refine (spec_FrameOk.to A0 c0 l0 dims curs _ H00.out HS.out).mono ?_
  rintro x w1 ⟨rfl, hb⟩
  have HB := Aside0.mk (below_into (w := w) hb (below_two _ _ _))
  have f0 : w1.cell? ⟨w.heap.size, 0, none⟩ = some (.slice A0 l0.length c0) := pw_cell_below hb (by go_simp)
  have f1 : w1.cell? ⟨w.heap.size, 1, none⟩ = some (.int .i64 dims) := pw_cell_below hb (by go_simp)
  have f2 : w1.cell? ⟨w.heap.size, 2, none⟩ = some (.int .i64 curs) := pw_cell_below hb (by go_simp)
  have y0 : w1.cell? ⟨w.heap.size + 1, 0, none⟩ = some (.int .i64 e.f0) := pw_cell_below hb (by go_simp)
  have y1 : w1.cell? ⟨w.heap.size + 1, 1, none⟩ = some (.int .i64 e.f1) := pw_cell_below hb (by go_simp)
  have y2 : w1.cell? ⟨w.heap.size + 1, 2, none⟩ = some (.string e.f2) := pw_cell_below hb (by go_simp)
  have y3 : w1.cell? ⟨w.heap.size + 1, 3, none⟩ = some (.slice A3 e.f3.length c3) := pw_cell_below hb (by go_simp)
  clear hb H00
  cases hfr : frameB l0 dims curs with
  | false =>
    have HF := Aside0.mk hfr
    clear hfr
    go_wp2_with fail
    go_ret
    exact ⟨ret_bool (and_r HF.out), HB.out⟩
  | true =>
    obtain ⟨hch, hd, hc⟩ := frame_parts hfr
    have HCH := Aside0.mk hch
    have HD := Aside0.mk hd
    have HC := Aside0.mk hc
    have HF := Aside0.mk hfr
    clear hfr hch hd hc
    go_wp2_with fail
    refine (spec_l2Day.to _ _).mono ?_
    rintro x w' ⟨rfl, rfl⟩
    cases h1 : inB e.f0 0 40000 with
    | false =>
      have HN := Aside0.mk (entryB_not (fun q => inB_false.1 h1 q.1) : false = entryB l0 dims curs e)
      clear h1
      go_wp2_with fail
      go_ret
      exact ⟨ret_bool (and_l HF.out HN.out), HB.out⟩
    | true =>
      have P1 := Aside0.mk (inB_true.1 h1)
      clear h1
      go_wp2_with fail
      refine (spec_l1In.to _ _ _ _).mono ?_
      rintro x w' ⟨rfl, rfl⟩
      cases h2 : inB e.f1 0 1000 with
      | false =>
        have HN := Aside0.mk (entryB_not (fun q => inB_false.1 h2 q.2.1) : false = entryB l0 dims curs e)
        clear h2
        go_wp2_with fail
        go_ret
        exact ⟨ret_bool (and_l HF.out HN.out), HB.out⟩
      | true =>
        have P2 := Aside0.mk (inB_true.1 h2)
        clear h2
        go_wp2_with fail
        refine (spec_l5TextOk.to _ _ HM.out).mono ?_
        rintro x w' ⟨rfl, rfl⟩
        cases h3 : textB e.f2 with
        | false =>
          have HN := Aside0.mk (entryB_not (fun q => by have := textB_iff.2 ⟨q.2.2.2.2.1, q.2.2.1⟩; rw [h3] at this; cases this) : false = entryB l0 dims curs e)
          clear h3
          go_wp2_with fail
          go_ret
          exact ⟨ret_bool (and_l HF.out HN.out), HB.out⟩
        | true =>
          have P3 := Aside0.mk (textB_iff.1 h3)
          clear h3
          go_wp2_with fail
          refine (spec_l1In.to _ _ _ _).mono ?_
          rintro x w' ⟨rfl, rfl⟩
          cases h4 : inB (e.f3.length : Int) 2 60 with
          | false =>
            have HN := Aside0.mk (entryB_not (fun q => inB_false.1 h4 (by have := q.2.2.2.1; omega)) : false = entryB l0 dims curs e)
            clear h4
            go_wp2_with fail
            go_ret
            exact ⟨ret_bool (and_l HF.out HN.out), HB.out⟩
          | true =>
            obtain ⟨hn0, hn1⟩ := inB_true.1 h4
            clear h4
            have HB1 := Aside0.mk (Below.refl w'.heap.size w')
            have F0 := Aside0.mk f0
            have F1 := Aside0.mk f1
            have F2 := Aside0.mk f2
            have Y3 := Aside0.mk y3
            go_wp2_with fail
            clear f0 f1 f2 y0 y1 y2 y3
            go_loopw [5] (fun v wr => ∃ i : Int, 0 ≤ i ∧ i ≤ (e.f3.length : Int) ∧ v = .int .i64 i ∧ Aside0 (Below w'.heap.size w' wr) ∧ Aside0 (∀ x ∈ e.f3.take i.toNat, lineP l0 dims curs x)) (fun v _ => (e.f3.length - (intOf v).toNat))
            case atStart => exact ⟨0, by omega, by omega, rfl, HB1, ⟨fun x hx => by cases hx⟩⟩
            case round =>
              clear HB1
              obtain ⟨i, hi0, hi1, rfl, HB1, HO⟩ := hrel
              have f0 := pw_cell_below HB1.out F0.out
              have f1 := pw_cell_below HB1.out F1.out
              have f2 := pw_cell_below HB1.out F2.out
              have y3 := pw_cell_below HB1.out Y3.out
              have HBW := Aside0.mk (below_into HB1.out HB.out)
              by_cases hlt : i < (e.f3.length : Int)
              · obtain ⟨ad, e0, x0, x1, x2, x3, x4⟩ := at_T112 (Kd.C_below H3.out HBW.out) i hi0 hlt
                cases e0
                have HC0 := Aside0.mk (Kd.C_below H0.out HBW.out)
                go_wp2_with fail
                go_region_held3 (fun w' => w'.cell? ⟨w.heap.size, 0, none⟩ = some (.slice A0 l0.length c0) ∧ w'.cell? ⟨w.heap.size, 1, none⟩ = some (.int .i64 dims) ∧ w'.cell? ⟨w.heap.size, 2, none⟩ = some (.int .i64 curs) ∧ w'.cell? ⟨w.heap.size + 1, 3, none⟩ = some (.slice (some ad) e.f3.length c3) ∧ w'.cell? (ad.add (i.toNat * 5)) = some (.int .i64 (rd_T112 e.f3 i).f0) ∧ w'.cell? ⟨(ad.add (i.toNat * 5)).block, (ad.add (i.toNat * 5)).off + 1, none⟩ = some (.int .i64 (rd_T112 e.f3 i).f1) ∧ w'.cell? ⟨(ad.add (i.toNat * 5)).block, (ad.add (i.toNat * 5)).off + 2, none⟩ = some (.int .i64 (rd_T112 e.f3 i).f2) ∧ w'.cell? ⟨(ad.add (i.toNat * 5)).block, (ad.add (i.toNat * 5)).off + 3, none⟩ = some (.int .i64 (rd_T112 e.f3 i).f3) ∧ w'.cell? ⟨(ad.add (i.toNat * 5)).block, (ad.add (i.toNat * 5)).off + 4, none⟩ = some (.int .i64 (rd_T112 e.f3 i).f4)) ((first | go_keep | exact ⟨pw_cell_below hb (by assumption), pw_cell_below hb (by assumption), pw_cell_below hb (by assumption), pw_cell_below hb (by assumption), pw_cell_below hb (by assumption), pw_cell_below hb (by assumption), pw_cell_below hb (by assumption), pw_cell_below hb (by assumption), pw_cell_below hb (by assumption)⟩))
                  ((go_at_call 136; refine (spec_l5LineOk.to A0 c0 l0 dims curs (rd_T112 e.f3 i) _ (by repeat (first | exact HC0.out | refine Kd.C_drew ?_)) HS.out HCH.out HD.out HC.out).mono ?_; rintro x w2 ⟨rfl, hb⟩))
                have HB2 := Aside0.mk (below_into (w := w') hb (below_drew HB1.out))
                clear hb
                cases hlb : lineB l0 dims curs (rd_T112 e.f3 i) with
                | false =>
                  have HN := Aside0.mk (entryB_not (fun q => by have := lineB_true.2 (all_at (z := z112) (p := lineP l0 dims curs) hi0 hlt q.2.2.2.2.2.1); rw [show lineB l0 dims curs (e.f3.getD i.toNat z112) = false from hlb] at this; cases this) : false = entryB l0 dims curs e)
                  have HBF := Aside0.mk (below_into HB2.out HB.out)
                  clear hlb HB2
                  go_wp2_with fail
                  go_ret
                  exact ⟨ret_bool (and_l HF.out HN.out), HBF.out⟩
                | true =>
                  have HO2 := Aside0.mk (all_step (z := z112) (p := lineP l0 dims curs) hi0 hlt HO.out (lineB_true.1 hlb))
                  clear hlb
                  go_wp2_with fail
                  go_roundw
                  case rel => exact ⟨i + 1, by omega, by omega, rfl, HB2, HO2⟩
                  case measure => simp [intOf]; omega
              · have HOK := Aside0.mk (all_end (by omega) HO.out : ∀ x ∈ e.f3, lineP l0 dims curs x)
                have HSB := Aside0.mk (fun n c d => sums_bounds (l := e.f3) (fun x hx => ⟨(HOK.out x hx).2.2.2.1, (HOK.out x hx).2.2.2.2.1⟩) (by omega) n c d)
                have HAM := Aside0.mk (fun (k : Int) (h0 : 0 ≤ k) (h1 : k < (e.f3.length : Int)) => (all_at (z := z112) (p := fun x => (-100000000000 ≤ x.f3 ∧ x.f3 ≤ 100000000000) ∧ (-100000000000 ≤ x.f4 ∧ x.f4 ≤ 100000000000)) h0 h1 (fun x hx => ⟨(HOK.out x hx).2.2.2.1, (HOK.out x hx).2.2.2.2.1⟩)))
                clear HO
                go_wp2_with fail
                clear f0 f1 f2 y3
                go_loopw [6] (fun v wr => ∃ i : Int, 0 ≤ i ∧ i ≤ (e.f3.length : Int) ∧ v = .int .i64 i ∧ Aside0 (Below w'.heap.size w' wr) ∧ Aside0 (∀ x ∈ e.f3.take i.toNat, curSum e.f3 x.f2 = 0 ∧ dimSum e.f3 x.f1 = 0)) (fun v _ => (e.f3.length - (intOf v).toNat))
                case atStart => exact ⟨0, by omega, by omega, rfl, HB1, ⟨fun x hx => by cases hx⟩⟩
                case round =>
                  clear HB1 HBW
                  obtain ⟨j, hj0, hj1, rfl, HB1, HZ⟩ := hrel
                  have y3 := pw_cell_below HB1.out Y3.out
                  by_cases hlt2 : j < (e.f3.length : Int)
                  · go_wp2_with fail
                    clear y3
                    go_loopw [7, 8, 9] (fun vc vd vk wr => ∃ k : Int, 0 ≤ k ∧ k ≤ (e.f3.length : Int) ∧ vk = .int .i64 k ∧ vc = .int .i64 (curSum (e.f3.take k.toNat) (rd_T112 e.f3 j).f2) ∧ vd = .int .i64 (dimSum (e.f3.take k.toNat) (rd_T112 e.f3 j).f1) ∧ Aside0 (Below w'.heap.size w' wr)) (fun _ _ vk _ => (e.f3.length - (intOf vk).toNat))
                    case atStart => exact ⟨0, by omega, by omega, rfl, rfl, rfl, HB1⟩
                    case round =>
                      clear HB1
                      obtain ⟨k, hk0, hk1, rfl, rfl, rfl, HB1⟩ := hrel
                      have y3 := pw_cell_below HB1.out Y3.out
                      have HBW := Aside0.mk (below_into HB1.out HB.out)
                      by_cases hlt3 : k < (e.f3.length : Int)
                      · obtain ⟨ad, e0, x0, x1, x2, x3, x4⟩ := at_T112 (Kd.C_below H3.out HBW.out) k hk0 hlt3
                        obtain ⟨bd, e1, z0, z1, z2, z3, z4⟩ := at_T112 (Kd.C_below H3.out HBW.out) j hj0 hlt2
                        cases e0
                        obtain rfl : ad = bd := by injection e1
                        have HC1 := Aside0.mk (curSum_step (l := e.f3) (rd_T112 e.f3 j).f2 hk0 hlt3)
                        have HD1 := Aside0.mk (dimSum_step (l := e.f3) (rd_T112 e.f3 j).f1 hk0 hlt3)
                        obtain ⟨⟨b0, b1⟩, b2, b3⟩ := HSB.out k.toNat (rd_T112 e.f3 j).f2 (rd_T112 e.f3 j).f1
                        obtain ⟨⟨m0, m1⟩, m2, m3⟩ := show (-100000000000 ≤ (rd_T112 e.f3 k).f3 ∧ (rd_T112 e.f3 k).f3 ≤ 100000000000) ∧ (-100000000000 ≤ (rd_T112 e.f3 k).f4 ∧ (rd_T112 e.f3 k).f4 ≤ 100000000000) from HAM.out k hk0 hlt3
                        generalize curSum (e.f3.take k.toNat) (rd_T112 e.f3 j).f2 = cs at *
                        generalize dimSum (e.f3.take k.toNat) (rd_T112 e.f3 j).f1 = ds at *
                        cases hq : ((rd_T112 e.f3 k).f2 == (rd_T112 e.f3 j).f2) with
                        | true =>
                          cases hr : ((rd_T112 e.f3 k).f1 == (rd_T112 e.f3 j).f1) with
                          | true =>
                            go_wp2_with fail
                            go_quiet (fail)
                            go_wp2_with fail
                            go_quiet (fail)
                            go_wp2_with fail
                            go_roundw
                            case rel => exact ⟨k + 1, by omega, by omega, rfl, by rw [HC1.out, if_pos (beq_iff_eq.1 hq)], by rw [HD1.out, if_pos (beq_iff_eq.1 hr)], ⟨pw_below_drewN HB1.out _⟩⟩
                            case measure => simp [intOf]; omega
                          | false =>
                            go_wp2_with fail
                            go_quiet (fail)
                            go_wp2_with fail
                            go_quiet (fail)
                            go_wp2_with fail
                            go_roundw
                            case rel => exact ⟨k + 1, by omega, by omega, rfl, by rw [HC1.out, if_pos (beq_iff_eq.1 hq)], by rw [HD1.out, if_neg (beq_eq_false_iff_ne.1 hr), Int.add_zero], ⟨pw_below_drewN HB1.out _⟩⟩
                            case measure => simp [intOf]; omega
                        | false =>
                          cases hr : ((rd_T112 e.f3 k).f1 == (rd_T112 e.f3 j).f1) with
                          | true =>
                            go_wp2_with fail
                            go_quiet (fail)
                            go_wp2_with fail
                            go_quiet (fail)
                            go_wp2_with fail
                            go_roundw
                            case rel => exact ⟨k + 1, by omega, by omega, rfl, by rw [HC1.out, if_neg (beq_eq_false_iff_ne.1 hq), Int.add_zero], by rw [HD1.out, if_pos (beq_iff_eq.1 hr)], ⟨pw_below_drewN HB1.out _⟩⟩
                            case measure => simp [intOf]; omega
                          | false =>
                            go_wp2_with fail
                            go_quiet (fail)
                            go_wp2_with fail
                            go_quiet (fail)
                            go_wp2_with fail
                            go_roundw
                            case rel => exact ⟨k + 1, by omega, by omega, rfl, by rw [HC1.out, if_neg (beq_eq_false_iff_ne.1 hq), Int.add_zero], by rw [HD1.out, if_neg (beq_eq_false_iff_ne.1 hr), Int.add_zero], ⟨pw_below_drewN HB1.out _⟩⟩
                            case measure => simp [intOf]; omega
                      · have HKE : k = (e.f3.length : Int) := by omega
                        subst HKE
                        have hcd := Aside0.mk (show curSum (e.f3.take (e.f3.length : Int).toNat) (rd_T112 e.f3 j).f2 = curSum e.f3 (rd_T112 e.f3 j).f2 ∧ dimSum (e.f3.take (e.f3.length : Int).toNat) (rd_T112 e.f3 j).f1 = dimSum e.f3 (rd_T112 e.f3 j).f1 by rw [List.take_of_length_le (by omega)]; exact ⟨rfl, rfl⟩)
                        generalize curSum (e.f3.take (e.f3.length : Int).toNat) (rd_T112 e.f3 j).f2 = cs at *
                        generalize dimSum (e.f3.take (e.f3.length : Int).toNat) (rd_T112 e.f3 j).f1 = ds at *
                        by_cases z1 : cs = 0
                        · have z1b : (cs != 0) = false := by rw [z1]; rfl
                          by_cases z2 : ds = 0
                          · have z2b : (ds != 0) = false := by rw [z2]; rfl
                            have HZ2 := Aside0.mk (all_step (z := z112) (p := fun x => curSum e.f3 x.f2 = 0 ∧ dimSum e.f3 x.f1 = 0) hj0 hlt2 HZ.out ⟨hcd.out.1 ▸ z1, hcd.out.2 ▸ z2⟩)
                            clear hcd
                            go_wp2_with fail
                            go_roundw
                            case rel => exact ⟨j + 1, by omega, by omega, rfl, HB1, HZ2⟩
                            case measure => simp [intOf]; omega
                          · have z2b : (ds != 0) = true := bne_iff_ne.2 z2
                            have HN := Aside0.mk (entryB_not (fun q => z2 (hcd.out.2.trans (all_at (z := z112) (p := fun x => curSum e.f3 x.f2 = 0 ∧ dimSum e.f3 x.f1 = 0) hj0 hlt2 q.2.2.2.2.2.2).2)) : false = entryB l0 dims curs e)
                            clear hcd
                            go_wp2_with fail
                            go_ret
                            exact ⟨ret_bool (and_l HF.out HN.out), HBW.out⟩
                        · have z1b : (cs != 0) = true := bne_iff_ne.2 z1
                          have HN := Aside0.mk (entryB_not (fun q => z1 (hcd.out.1.trans (all_at (z := z112) (p := fun x => curSum e.f3 x.f2 = 0 ∧ dimSum e.f3 x.f1 = 0) hj0 hlt2 q.2.2.2.2.2.2).1)) : false = entryB l0 dims curs e)
                          clear hcd
                          go_wp2_with fail
                          go_ret
                          exact ⟨ret_bool (and_l HF.out HN.out), HBW.out⟩
                  · have HBW := Aside0.mk (below_into HB1.out HB.out)
                    have HE := Aside0.mk (show entryP l0 dims curs e from ⟨P1.out, P2.out, P3.out.2, ⟨by omega, by omega⟩, P3.out.1, HOK.out, all_end (by omega) HZ.out⟩)
                    go_wp2_with fail
                    go_ret
                    exact ⟨ret_bool (and_l HF.out (entryB_true.2 HE.out).symm), HBW.out⟩
-- CALLS spec_EntryOk
open Classical in
noncomputable def spec_EntryOk.f (l0 : List Acc) (dims curs : Int) (a0 a1 : Int) (a2 : ByteArray) (l3 : List Lin) : Option Bool := if (∀ x ∈ l0, x.f0.size ≤ maxLen) ∧ a2.size ≤ maxLen then some (frameB l0 dims curs && entryB l0 dims curs ⟨a0, a1, a2, l3⟩) else none
theorem spec_EntryOk.calls (A0 : Option Addr) (c0 : Nat) (l0 : List Acc) (dims curs : Int) (a0 a1 : Int) (a2 : ByteArray) (A3 : Option Addr) (c3 : Nat) (l3 : List Lin) (r : Bool) (w : World) (hr0 : Kd.C k131 w A0 l0.length l0) (hc0 : l0.length ≤ c0) (hr3 : Kd.C k112 w A3 l3.length l3) (hc3 : l3.length ≤ c3) (hf : spec_EntryOk.f l0 dims curs a0 a1 a2 l3 = some r) :
    Calls Try.prog 91 #[.agg #[.slice A0 l0.length c0, .int .i64 dims, .int .i64 curs], .agg #[.int .i64 a0, .int .i64 a1, .string a2, .slice A3 l3.length c3]] w fun x w' => x = .returned (.bool r) ∧ Below w.heap.size w w' := by
  unfold spec_EntryOk.f at hf
  split at hf
  · rename_i q
    cases hf
    exact spec_EntryOk.to A0 c0 l0 dims curs ⟨a0, a1, a2, l3⟩ A3 c3 w hr0 q.1 hr3 q.2
  · cases hf


end Go.Proofs.Ytphmnkcfjgallaa.Q
namespace Go.Proofs.Ytphmnkcfjgallaa.Q
open Go.RowKit Go.Proofs.YtphmnkcfjgallaaW.PrintWords Go.Proofs.YtphmnkcfjgallaaW.PrintLast Go.Proofs.YtphmnkcfjgallaaW.PrintMore
attribute [local go_sem] max2_int min2_int max_two min_two max_three min_three max_four min_four   -- for this text's walks alone
set_option linter.unusedVariables false
set_option linter.unusedSimpArgs false

/-! ### hand text b2_chartok.lean -/
noncomputable def impl_ChartOk.f (l0 : List Acc) : Option Bool := some (chartOk l0)
set_option maxRecDepth 100000 in
theorem impl_ChartOk.to (A0 : Option Addr) (c0 : Nat) (l0 : List Acc) (w : World) (hr0 : Kd.C k131 w A0 l0.length l0) (hs : ∀ x ∈ l0, x.f0.size ≤ maxLen) :
    Calls Try.prog 138 #[.slice A0 l0.length c0] w fun e w' => e = .returned (.bool (chartOk l0)) ∧ Below w.heap.size w w' := by
  go_enter Try.func138, Try.ntmps138
  go_wp2_with fail
  refine (impl_depths.to A0 c0 l0 _ hr0 hs).mono ?_
  rintro e w1 ⟨v, rfl, hb⟩
  go_wp2_with fail
  go_ret
  exact ⟨rfl, hb⟩


end Go.Proofs.Ytphmnkcfjgallaa.Q
namespace Go.Proofs.Ytphmnkcfjgallaa.Q
open Go.RowKit Go.Proofs.YtphmnkcfjgallaaW.PrintWords Go.Proofs.YtphmnkcfjgallaaW.PrintLast Go.Proofs.YtphmnkcfjgallaaW.PrintMore
attribute [local go_sem] max2_int min2_int max_two min_two max_three min_three max_four min_four   -- for this text's walks alone
set_option linter.unusedVariables false
set_option linter.unusedSimpArgs false

/-! ### hand text c3_implframe.lean -/
set_option maxHeartbeats 4000000 in
set_option maxRecDepth 100000 in
theorem impl_FrameOk.to (A0 : Option Addr) (c0 : Nat) (l0 : List Acc) (dims curs : Int) (w : World) (hr0 : Kd.C k131 w A0 l0.length l0) (hs : ∀ x ∈ l0, x.f0.size ≤ maxLen) :
    Calls Try.prog 93 #[.agg #[.slice A0 l0.length c0, .int .i64 dims, .int .i64 curs]] w fun e w' => e = .returned (.bool (frameB l0 dims curs)) ∧ Below w.heap.size w w' := by
  have H0 := Aside0.mk hr0
  clear hr0
  unfold frameB
  go_enter Try.func93, Try.ntmps93
  go_wp2_with fail
  refine (impl_between.to dims _ _ _).mono ?_
  rintro e w5 ⟨rfl, rfl⟩
  cases hinB : inB dims 1 20 with
  | false =>
    go_wp2_with fail
    go_ret
    exact ⟨ret_bool (by simp [hinB]), below_alloc (Below.refl _ _) _⟩
  | true =>
    go_wp2_with fail
    refine (impl_between.to curs _ _ _).mono ?_
    rintro e w6 ⟨rfl, rfl⟩
    cases hinC : inB curs 1 20 with
    | false =>
      go_wp2_with fail
      go_ret
      exact ⟨ret_bool (by simp [hinB, hinC]), below_alloc (Below.refl _ _) _⟩
    | true =>
      go_wp2_with fail
      refine (impl_ChartOk.to A0 c0 l0 _ (Kd.C_below H0.out (below_alloc (Below.refl _ _) _)) hs).mono ?_
      rintro e w1 ⟨rfl, hb⟩
      have HB := Aside0.mk (below_into (w := w) hb (below_alloc (Below.refl _ _) _))
      have s0 : w1.cell? ⟨w.heap.size, 0, none⟩ = some (.slice A0 l0.length c0) := pw_cell_below hb (by go_simp)
      have s1 : w1.cell? ⟨w.heap.size, 1, none⟩ = some (.int .i64 dims) := pw_cell_below hb (by go_simp)
      have s2 : w1.cell? ⟨w.heap.size, 2, none⟩ = some (.int .i64 curs) := pw_cell_below hb (by go_simp)
      clear hb
      cases hch : chartOk l0 with
      | false =>
        go_wp2_with fail
        go_ret
        exact ⟨ret_bool (by simp [hinB, hinC, hch]), HB.out⟩
      | true =>
        go_wp2_with fail
        go_ret
        exact ⟨ret_bool (by simp [hinB, hinC, hch]), HB.out⟩
-- CALLS impl_FrameOk
open Classical in
noncomputable def impl_FrameOk.f (l0 : List Acc) (dims curs : Int) : Option Bool := if (∀ x ∈ l0, x.f0.size ≤ maxLen) then some (frameB l0 dims curs) else none
theorem impl_FrameOk.calls (A0 : Option Addr) (c0 : Nat) (l0 : List Acc) (dims curs : Int) (r : Bool) (w : World) (hr0 : Kd.C k131 w A0 l0.length l0) (hc0 : l0.length ≤ c0) (hf : impl_FrameOk.f l0 dims curs = some r) :
    Calls Try.prog 93 #[.agg #[.slice A0 l0.length c0, .int .i64 dims, .int .i64 curs]] w fun e w' => e = .returned (.bool r) ∧ Below w.heap.size w w' := by
  unfold impl_FrameOk.f at hf
  split at hf
  · rename_i q
    cases hf
    exact impl_FrameOk.to A0 c0 l0 dims curs w hr0 q
  · cases hf


end Go.Proofs.Ytphmnkcfjgallaa.Q
namespace Go.Proofs.Ytphmnkcfjgallaa.Q
open Go.RowKit Go.Proofs.YtphmnkcfjgallaaW.PrintWords Go.Proofs.YtphmnkcfjgallaaW.PrintLast Go.Proofs.YtphmnkcfjgallaaW.PrintMore
attribute [local go_sem] max2_int min2_int max_two min_two max_three min_three max_four min_four   -- for this text's walks alone
set_option linter.unusedVariables false
set_option linter.unusedSimpArgs false

/-! ### hand text d2_head.lean -/
/-- One number is linked. -/
def linkStep (s : Int × Bool) (x : Int) : Int × Bool := if -549755813888 ≤ x ∧ x ≤ 549755813887 then ((s.1 * 1000003 + x + 549755813888) % 1099511627791, s.2) else (s.1, true)
def linkAll (s : Int × Bool) (xs : List Int) : Int × Bool := xs.foldl linkStep s
def HeadIn (s : Int × Bool) : Prop := 0 ≤ s.1 ∧ s.1 < 1099511627791
theorem linkStep_in {s : Int × Bool} (h : HeadIn s) (x : Int) : HeadIn (linkStep s x) := by
  unfold linkStep HeadIn at *
  split
  · exact ⟨Int.emod_nonneg _ (by omega), Int.emod_lt_of_pos _ (by omega)⟩
  · exact h
theorem linkAll_in {s : Int × Bool} (h : HeadIn s) (xs : List Int) : HeadIn (linkAll s xs) := by
  induction xs generalizing s with
  | nil => exact h
  | cons x xs ih => exact ih (linkStep_in h x)
theorem linkAll_append (s : Int × Bool) (xs ys : List Int) : linkAll s (xs ++ ys) = linkAll (linkAll s xs) ys := List.foldl_append
theorem linkAll_cons (s : Int × Bool) (x : Int) (xs : List Int) : linkAll s (x :: xs) = linkAll (linkStep s x) xs := rfl
theorem linkAll_nil (s : Int × Bool) : linkAll s [] = s := rfl
def ChainAt (w : World) (g : Nat) (s : Int × Bool) : Prop := w.heap[g]? = some (.cells #[.int .i64 s.1, .bool s.2] 118 (0, 0))
/-- What a call that links leaves: the chain as told, what was there ahead of the call as it was. -/
structure LinkPost (w0 w : World) (g : Nat) (s : Int × Bool) (w' : World) : Prop where
  at_ : ChainAt w' g s
  bel : Below w0.heap.size w0 w'
  keep : KeepBut w w' g none
theorem LinkPost.refl {w0 w : World} {g : Nat} {s : Int × Bool} (h : ChainAt w g s) (hB : Below w0.heap.size w0 w) : LinkPost w0 w g s w := ⟨h, hB, KeepBut.refl w g none⟩
theorem LinkPost.trans {w0 w w1 w2 : World} {g : Nat} {s t : Int × Bool} (h : LinkPost w0 w g s w1) (h2 : LinkPost w0 w1 g t w2) : LinkPost w0 w g t w2 := ⟨h2.at_, h2.bel, KeepBut.trans h.keep h2.keep (.inl rfl)⟩

set_option maxHeartbeats 8000000 in
set_option maxRecDepth 100000 in
theorem chain_link_calls (g : Nat) (s : Int × Bool) (x : Int) (w0 w : World) (hc : ChainAt w g s) (hs : HeadIn s) (hge : w0.heap.size ≤ g) (hB : Below w0.heap.size w0 w) :
    Calls Try.prog 86 #[.pointer (some ⟨g, 0, none⟩), .int .i64 x] w fun e w' => e = .returned (.tuple #[]) ∧ LinkPost w0 w g (linkStep s x) w' := by
  obtain ⟨h0, h1⟩ := hs
  have HC := Aside0.mk hc
  have HB := Aside0.mk hB
  unfold ChainAt at hc
  have c0 : w.cell? ⟨g, 0, none⟩ = some (.int .i64 s.1) := blk_cell hc 0
  have c1 : w.cell? ⟨g, 1, none⟩ = some (.bool s.2) := blk_cell hc 1
  have f0 := blk_frozen hc 0
  have f1 := blk_frozen hc 1
  clear hc hB
  by_cases hx : -549755813888 ≤ x ∧ x ≤ 549755813887
  · have hb := inB_of hx
    have hst : linkStep s x = ((s.1 * 1000003 + x + 549755813888) % 1099511627791, s.2) := if_pos hx
    have htm : (s.1 * 1000003 + x + 549755813888).tmod 1099511627791 = (s.1 * 1000003 + x + 549755813888) % 1099511627791 := Int.tmod_eq_emod_of_nonneg (by omega)
    have HST := Aside0.mk hst
    have HTM := Aside0.mk htm
    clear hst htm
    obtain ⟨hx0, hx1⟩ := hx
    go_enter Try.func86, Try.ntmps86
    go_wp2_with fail
    refine (impl_between.to _ _ _ _).mono ?_
    rintro e w' ⟨rfl, rfl⟩
    rw [hb]
    go_wp2_with fail
    go_end0
    refine ⟨rfl, ?_⟩
    rw [HST.out]
    exact ⟨blk_set HC.out 0 _, below_set HB.out hge, KeepBut.set_ (KeepBut.refl _ _ _) _ _⟩
  · have hb := inB_not hx
    have hst : linkStep s x = (s.1, true) := if_neg hx
    have HST := Aside0.mk hst
    clear hst
    go_enter Try.func86, Try.ntmps86
    go_wp2_with fail
    refine (impl_between.to _ _ _ _).mono ?_
    rintro e w' ⟨rfl, rfl⟩
    rw [hb]
    go_wp2_with fail
    (try simp only [Exit.inBlock, Exit.then])
    refine bodyPost_ret (results_none rfl _ _ _) rfl ?_
    refine ⟨rfl, ?_⟩
    rw [HST.out]
    exact ⟨blk_set HC.out 1 _, below_set HB.out hge, KeepBut.set_ (KeepBut.refl _ _ _) _ _⟩
def lineNums (x : Lin) : List Int := [x.f0, x.f1, x.f2, x.f3, x.f4]
def bytesN (s : ByteArray) : Nat → List Int
  | 0 => []
  | n + 1 => bytesN s n ++ [bt s n]
def numsOf (e : Ent) : List Int := [e.f0, e.f1, (e.f2.size : Int)] ++ bytesN e.f2 e.f2.size ++ [(e.f3.length : Int)] ++ e.f3.flatMap lineNums
theorem link_bytes (s : Int × Bool) (xs : List Int) (t : ByteArray) {i : Int} (h0 : 0 ≤ i) : linkStep (linkAll s (xs ++ bytesN t i.toNat)) (bt t i) = linkAll s (xs ++ bytesN t (i + 1).toNat) := by
  rw [show (i + 1).toNat = i.toNat + 1 by omega]
  show _ = linkAll s (xs ++ (bytesN t i.toNat ++ [bt t (i.toNat : Int)]))
  rw [← List.append_assoc, linkAll_append s (xs ++ _), show ((i.toNat : Nat) : Int) = i by omega]
  rfl
theorem link_lines (s : Int × Bool) (xs : List Int) {l : List Lin} {i : Int} (h0 : 0 ≤ i) (h1 : i < (l.length : Int)) : linkStep (linkStep (linkStep (linkStep (linkStep (linkAll s (xs ++ (l.take i.toNat).flatMap lineNums)) (rd_T112 l i).f0) (rd_T112 l i).f1) (rd_T112 l i).f2) (rd_T112 l i).f3) (rd_T112 l i).f4 = linkAll s (xs ++ (l.take (i + 1).toNat).flatMap lineNums) := by
  rw [take_snoc h0 h1, List.flatMap_append, ← List.append_assoc, linkAll_append s (xs ++ _)]
  rfl
def entO (e : Ent) (A3 : Option Addr) (c3 : Nat) : Obj := .cells #[.int .i64 e.f0, .int .i64 e.f1, .string e.f2, .slice A3 e.f3.length c3] 34 (0, 0)
theorem LinkPost.box {w0 w w' : World} {g : Nat} {s : Int × Bool} {e : Ent} {A3 : Option Addr} {c3 : Nat} (h : LinkPost w0 (w.alloc (entO e A3 c3)) g s w') (hg : g < w.heap.size) : w'.heap[w.heap.size]? = some (.cells #[.int .i64 e.f0, .int .i64 e.f1, .string e.f2, .slice A3 e.f3.length c3] 34 (0, 0)) := h.keep.blk (blk_new _ _) (by omega) (by simp)
theorem LinkPost.alloc {w0 w w1 : World} {g : Nat} {s : Int × Bool} (h : LinkPost w0 w g s w1) (o : Obj) : LinkPost w0 w g s (w1.alloc o) := ⟨blk_alloc h.at_ _, below_alloc h.bel _, keep_alloc h.keep _⟩
set_option maxHeartbeats 8000000 in
set_option maxRecDepth 100000 in
theorem impl_numbersOf.to (g : Nat) (s : Int × Bool) (e : Ent) (A3 : Option Addr) (c3 : Nat) (w0 w : World) (hc : ChainAt w g s) (hs : HeadIn s) (hge : w0.heap.size ≤ g) (hB : Below w0.heap.size w0 w) (hr3 : Kd.C k112 w0 A3 e.f3.length e.f3) (hm : e.f2.size ≤ 40) :
    Calls Try.prog 85 #[.agg #[.int .i64 e.f0, .int .i64 e.f1, .string e.f2, .slice A3 e.f3.length c3], .func (.func 86) #[.pointer (some ⟨g, 0, none⟩)] #[]] w fun x w' => x = .returned (.tuple #[]) ∧ LinkPost w0 w g (linkAll s (numsOf e)) w' := by
  have hgw : g < w.heap.size := blk_lt hc
  have HP := Aside0.mk (show LinkPost w0 (w.alloc (entO e A3 c3)) g s (w.alloc (entO e A3 c3)) from LinkPost.refl (blk_alloc hc _) (by exact hB.alloc (by have := hB.size; omega) _))
  have H3 := Aside0.mk hr3
  have HS := Aside0.mk hs
  have HS0 := Aside0.mk hs
  have hlen := hr3.2.1
  clear hc hB hr3 hs
  go_enter Try.func85, Try.ntmps85
  go_wp2_with fail
  refine (chain_link_calls g _ _ w0 _ HP.out.at_ HS.out hge HP.out.bel).mono ?_
  rintro x w1 ⟨rfl, P1⟩
  have P1 := Aside0.mk (HP.out.trans P1)
  have HS1 := Aside0.mk (linkStep_in HS.out e.f0)
  have y1 := blk_cell (P1.out.box hgw) 1
  have HS1 := Aside0.mk (linkStep_in HS.out e.f0)
  clear HP HS
  go_wp2_with fail
  refine (chain_link_calls g _ _ w0 _ P1.out.at_ HS1.out hge P1.out.bel).mono ?_
  rintro x w2 ⟨rfl, P2⟩
  have P2 := Aside0.mk (P1.out.trans P2)
  have HS2 := Aside0.mk (linkStep_in HS1.out e.f1)
  have y2 := blk_cell (P2.out.box hgw) 2
  clear P1 HS1 y1
  go_wp2_with fail
  refine (chain_link_calls g _ _ w0 _ P2.out.at_ HS2.out hge P2.out.bel).mono ?_
  rintro x w3 ⟨rfl, P3⟩
  have P3 := Aside0.mk (show LinkPost w0 (w.alloc (entO e A3 c3)) g (linkAll s ([e.f0, e.f1, (e.f2.size : Int)] ++ bytesN e.f2 (0 : Int).toNat)) w3 from P2.out.trans P3)
  clear P2 HS2 y2
  go_wp2_with fail
  go_loopw [4] (fun v wr => ∃ i : Int, 0 ≤ i ∧ i ≤ (e.f2.size : Int) ∧ v = .int .i64 i ∧ Aside0 (LinkPost w0 (w.alloc (entO e A3 c3)) g (linkAll s ([e.f0, e.f1, (e.f2.size : Int)] ++ bytesN e.f2 i.toNat)) wr)) (fun v _ => (e.f2.size - (intOf v).toNat))
  case atStart => exact ⟨0, by omega, by omega, rfl, P3⟩
  case round =>
    clear P3
    obtain ⟨i, hi0, hi1, rfl, HP⟩ := hrel
    have z2 := blk_cell (HP.out.box hgw) 2
    have z3 := blk_cell (HP.out.box hgw) 3
    by_cases hlt : i < (e.f2.size : Int)
    · have hx := bt_at e.f2 i
      obtain ⟨hb0, hb1⟩ := bt_range e.f2 i
      go_wp2_with fail
      refine (chain_link_calls g _ _ w0 _ HP.out.at_ (linkAll_in HS0.out _) hge HP.out.bel).mono ?_
      rintro x w4 ⟨rfl, P4⟩
      have P4 := Aside0.mk (HP.out.trans P4)
      go_wp2_with fail
      go_roundw
      case rel => exact ⟨i + 1, by omega, by omega, rfl, ⟨by have := P4.out; rw [link_bytes _ _ _ hi0] at this; exact this⟩⟩
      case measure => simp [intOf]; omega
    · obtain rfl : i = (e.f2.size : Int) := by omega
      go_wp2_with fail
      refine (chain_link_calls g _ _ w0 _ HP.out.at_ (linkAll_in HS0.out _) hge HP.out.bel).mono ?_
      rintro x w5 ⟨rfl, P5⟩
      have P5 := Aside0.mk (show LinkPost w0 (w.alloc (entO e A3 c3)) g (linkAll s ([e.f0, e.f1, (e.f2.size : Int)] ++ bytesN e.f2 e.f2.size ++ [(e.f3.length : Int)] ++ (e.f3.take (0 : Int).toNat).flatMap lineNums)) w5 from by
        have := HP.out.trans P5
        rw [show e.f3.take (0 : Int).toNat = [] from rfl, List.flatMap_nil, List.append_nil, linkAll_append s (_ ++ _)]
        exact this)
      have y3 := blk_cell (P5.out.box hgw) 3
      clear HP z2 z3
      go_wp2_with fail
      go_loopw [42] (fun v wr => ∃ i : Int, 0 ≤ i ∧ i ≤ (e.f3.length : Int) ∧ v = .int .i64 i ∧ Aside0 (LinkPost w0 (w.alloc (entO e A3 c3)) g (linkAll s ([e.f0, e.f1, (e.f2.size : Int)] ++ bytesN e.f2 e.f2.size ++ [(e.f3.length : Int)] ++ (e.f3.take i.toNat).flatMap lineNums)) wr)) (fun v _ => (e.f3.length - (intOf v).toNat))
      case atStart => exact ⟨0, by omega, by omega, rfl, P5⟩
      case round =>
        clear P5 y3
        obtain ⟨j, hj0, hj1, rfl, HP⟩ := hrel
        by_cases hlt : j < (e.f3.length : Int)
        · obtain ⟨ad, e0, x0, x1, x2, x3, x4⟩ := at_T112 (Kd.C_below H3.out HP.out.bel) j hj0 hlt
          cases e0
          have hgr : g < wr.heap.size := blk_lt HP.out.at_
          have Q := Aside0.mk (HP.out.alloc (lineO (rd_T112 e.f3 j)))
          have T0 := Aside0.mk (linkAll_in HS0.out ([e.f0, e.f1, (e.f2.size : Int)] ++ bytesN e.f2 e.f2.size ++ [(e.f3.length : Int)] ++ (e.f3.take j.toNat).flatMap lineNums))
          clear HP
          go_wp2_with fail
          refine (chain_link_calls g _ _ w0 _ Q.out.at_ T0.out hge Q.out.bel).mono ?_
          rintro x w6 ⟨rfl, R0⟩
          have N0 := Aside0.mk (R0.keep.blk (blk_new wr (lineO (rd_T112 e.f3 j))) (by omega) (by simp))
          have Q0 := Aside0.mk (Q.out.trans R0)
          have T1 := Aside0.mk (linkStep_in T0.out (rd_T112 e.f3 j).f0)
          have u1 := blk_cell N0.out 1
          clear Q T0 R0
          go_wp2_with fail
          refine (chain_link_calls g _ _ w0 _ Q0.out.at_ T1.out hge Q0.out.bel).mono ?_
          rintro x w7 ⟨rfl, R1⟩
          have N1 := Aside0.mk (R1.keep.blk (N0.out) (by omega) (by simp))
          have Q1 := Aside0.mk (Q0.out.trans R1)
          have T2 := Aside0.mk (linkStep_in T1.out (rd_T112 e.f3 j).f1)
          have u2 := blk_cell N1.out 2
          clear Q0 T1 R1 u1
          go_wp2_with fail
          refine (chain_link_calls g _ _ w0 _ Q1.out.at_ T2.out hge Q1.out.bel).mono ?_
          rintro x w8 ⟨rfl, R2⟩
          have N2 := Aside0.mk (R2.keep.blk (N1.out) (by omega) (by simp))
          have Q2 := Aside0.mk (Q1.out.trans R2)
          have T3 := Aside0.mk (linkStep_in T2.out (rd_T112 e.f3 j).f2)
          have u3 := blk_cell N2.out 3
          clear Q1 T2 R2 u2
          go_wp2_with fail
          refine (chain_link_calls g _ _ w0 _ Q2.out.at_ T3.out hge Q2.out.bel).mono ?_
          rintro x w9 ⟨rfl, R3⟩
          have N3 := Aside0.mk (R3.keep.blk (N2.out) (by omega) (by simp))
          have Q3 := Aside0.mk (Q2.out.trans R3)
          have T4 := Aside0.mk (linkStep_in T3.out (rd_T112 e.f3 j).f3)
          have u4 := blk_cell N3.out 4
          clear Q2 T3 R3 u3
          go_wp2_with fail
          refine (chain_link_calls g _ _ w0 _ Q3.out.at_ T4.out hge Q3.out.bel).mono ?_
          rintro x w10 ⟨rfl, R4⟩
          have N4 := Aside0.mk (R4.keep.blk (N3.out) (by omega) (by simp))
          have Q4 := Aside0.mk (Q3.out.trans R4)
          go_wp2_with fail
          go_roundw
          case rel => exact ⟨j + 1, by omega, by omega, rfl, ⟨by have := Q4.out; rw [link_lines _ _ hj0 hlt] at this; exact this⟩⟩
          case measure => simp [intOf]; omega
        · obtain rfl : j = (e.f3.length : Int) := by omega
          have HE := Aside0.mk (show LinkPost w0 w g (linkAll s (numsOf e)) wr from by
            have h := HP.out
            rw [List.take_of_length_le (by omega)] at h
            exact ⟨h.at_, h.bel, KeepBut.trans (keep_alloc (KeepBut.refl _ _ _) _) h.keep (.inl rfl)⟩)
          go_wp2_with fail
          go_end0
          exact ⟨rfl, HE.out⟩
def tooLong (e : Ent) : Prop := 60 < e.f3.length ∨ 40 < e.f2.size
open Classical in
noncomputable def headV (l : List Ent) : Int :=
  if 1000 < l.length ∨ ∃ e ∈ l, tooLong e then 0 else if (linkAll (1, false) (l.flatMap numsOf)).2 = true then 0 else (linkAll (1, false) (l.flatMap numsOf)).1
theorem headV_long {l : List Ent} (h : 1000 < l.length ∨ ∃ e ∈ l, tooLong e) : headV l = 0 := if_pos h
theorem headV_bad {l : List Ent} (h : ¬ (1000 < l.length ∨ ∃ e ∈ l, tooLong e)) (hb : (linkAll (1, false) (l.flatMap numsOf)).2 = true) : headV l = 0 := by unfold headV; rw [if_neg h, if_pos hb]
theorem headV_good {l : List Ent} (h : ¬ (1000 < l.length ∨ ∃ e ∈ l, tooLong e)) (hb : (linkAll (1, false) (l.flatMap numsOf)).2 = false) : headV l = (linkAll (1, false) (l.flatMap numsOf)).1 := by unfold headV; rw [if_neg h, if_neg (by rw [hb]; simp)]
theorem head_step (s : Int × Bool) {l : List Ent} {i : Int} (h0 : 0 ≤ i) (h1 : i < (l.length : Int)) : linkAll (linkAll s ((l.take i.toNat).flatMap numsOf)) (numsOf (rd_T34 l i)) = linkAll s ((l.take (i + 1).toNat).flatMap numsOf) := by
  have ht : l.take (i + 1).toNat = l.take i.toNat ++ [rd_T34 l i] := by
    rw [show (i + 1).toNat = i.toNat + 1 by omega, List.take_add_one]
    unfold rd_T34
    rw [List.getD_eq_getElem?_getD, List.getElem?_eq_getElem (by omega)]
    rfl
  rw [ht, List.flatMap_append, linkAll_append s]
  rw [show [rd_T34 l i].flatMap numsOf = numsOf (rd_T34 l i) by simp]
theorem headIn_one : HeadIn (1, false) := by unfold HeadIn; decide
set_option maxHeartbeats 8000000 in
set_option maxRecDepth 100000 in
theorem impl_HeadOf.to (A0 : Option Addr) (c0 : Nat) (l0 : List Ent) (w : World) (hr0 : Kd.C k34 w A0 l0.length l0) :
    Calls Try.prog 94 #[.slice A0 l0.length c0] w fun x w' => x = .returned (.int .i64 (headV l0)) ∧ Below w.heap.size w w' := by
  have hl := hr0.2.1
  have H0 := Aside0.mk hr0
  clear hr0
  by_cases h1 : 1000 < l0.length
  case pos =>
    have HV := Aside0.mk (headV_long (l := l0) (Or.inl h1))
    go_enter Try.func94, Try.ntmps94
    go_wp2_with fail
    go_ret
    exact ⟨ret_i HV.out.symm, Below.refl _ _⟩
  have HP := Aside0.mk (show LinkPost w (w.alloc (.cells #[.int .i64 1, .bool false] 118)) w.heap.size (linkAll (1, false) ((l0.take (0 : Int).toNat).flatMap numsOf)) (w.alloc (.cells #[.int .i64 1, .bool false] 118)) from LinkPost.refl (blk_new _ _) (below_alloc (Below.refl _ _) _))
  go_enter Try.func94, Try.ntmps94
  go_wp2_with fail
  go_loopw [16] (fun v wr => ∃ i : Int, 0 ≤ i ∧ i ≤ (l0.length : Int) ∧ v = .int .i64 i ∧ Aside0 (LinkPost w (w.alloc (.cells #[.int .i64 1, .bool false] 118)) w.heap.size (linkAll (1, false) ((l0.take i.toNat).flatMap numsOf)) wr) ∧ Aside0 (∀ x ∈ l0.take i.toNat, ¬ tooLong x)) (fun v _ => (l0.length - (intOf v).toNat))
  case atStart => exact ⟨0, by omega, by omega, rfl, HP, ⟨fun x hx => by cases hx⟩⟩
  case round =>
    clear HP
    obtain ⟨i, hi0, hi1, rfl, HP, HT⟩ := hrel
    have hgw : w.heap.size < wr.heap.size := blk_lt HP.out.at_
    by_cases hlt : i < (l0.length : Int)
    · obtain ⟨ad, A3, c3, e0, x0, x1, x2, x3, x4, x5⟩ := at_T34 H0.out i hi0 hlt
      cases e0
      have y0 := pw_cell_below HP.out.bel x0
      have y1 := pw_cell_below HP.out.bel x1
      have y2 := pw_cell_below HP.out.bel x2
      have y3 := pw_cell_below HP.out.bel x3
      have X5 := Aside0.mk x5
      have Q := Aside0.mk (HP.out.alloc (entO (rd_T34 l0 i) A3 c3))
      have HLN := Aside0.mk (fun (q : tooLong (rd_T34 l0 i)) => headV_long (l := l0) (Or.inr ⟨rd_T34 l0 i, by unfold rd_T34; rw [List.getD_eq_getElem?_getD, List.getElem?_eq_getElem (by omega)]; exact List.getElem_mem _, q⟩))
      clear x0 x1 x2 x3 x5 HP
      by_cases h2 : 60 < (rd_T34 l0 i).f3.length
      · have HV := Aside0.mk (HLN.out (Or.inl h2))
        go_wp2_with fail
        go_ret
        exact ⟨ret_i HV.out.symm, Q.out.bel⟩
      · by_cases h3 : 40 < (rd_T34 l0 i).f2.size
        · have HV := Aside0.mk (HLN.out (Or.inr h3))
          go_wp2_with fail
          go_ret
          exact ⟨ret_i HV.out.symm, Q.out.bel⟩
        · have HT1 := Aside0.mk (all_step (z := z34) (p := fun x => ¬ tooLong x) hi0 hlt HT.out (fun q => q.elim h2 h3))
          clear HT HLN
          go_wp2_with fail
          refine (impl_numbersOf.to _ _ (rd_T34 l0 i) A3 c3 w _ Q.out.at_ (linkAll_in headIn_one _) (Nat.le_refl _) Q.out.bel X5.out (by omega)).mono ?_
          rintro x w1 ⟨rfl, P1⟩
          have P1 := Aside0.mk (Q.out.trans P1)
          clear Q X5
          go_wp2_with fail
          go_roundw
          case rel => exact ⟨i + 1, by omega, by omega, rfl, ⟨by have := P1.out; rw [head_step _ hi0 hlt] at this; exact this⟩, HT1⟩
          case measure => simp [intOf]; omega
    · have hno : ¬ (1000 < l0.length ∨ ∃ e ∈ l0, tooLong e) := fun q => q.elim h1 (fun ⟨e, he, q⟩ => all_end (by omega) HT.out e he q)
      have hat := HP.out.at_
      have HB := Aside0.mk HP.out.bel
      rw [List.take_of_length_le (by omega)] at hat
      cases hb : (linkAll (1, false) (l0.flatMap numsOf)).2 with
      | true =>
        have HV := Aside0.mk (headV_bad hno hb)
        have c1 := blk_cell hat 1
        rw [hb] at c1
        clear hat HT HP hno hb
        go_wp2_with fail
        go_ret
        exact ⟨ret_i HV.out.symm, HB.out⟩
      | false =>
        have HV := Aside0.mk (headV_good hno hb)
        have c0 := blk_cell hat 0
        have c1 := blk_cell hat 1
        rw [hb] at c1
        clear hat HT HP hno hb
        go_wp2_with fail
        go_ret
        exact ⟨ret_i HV.out.symm, HB.out⟩


end Go.Proofs.Ytphmnkcfjgallaa.Q
namespace Go.Proofs.Ytphmnkcfjgallaa.Q
open Go.RowKit Go.Proofs.YtphmnkcfjgallaaW.PrintWords Go.Proofs.YtphmnkcfjgallaaW.PrintLast Go.Proofs.YtphmnkcfjgallaaW.PrintMore
attribute [local go_sem] max2_int min2_int max_two min_two max_three min_three max_four min_four   -- for this text's walks alone
set_option linter.unusedVariables false
set_option linter.unusedSimpArgs false

/-! ### hand text d6_implledger.lean -/
def ledgerP (chart : List Acc) (dims curs : Int) (l : List Ent) (h : Int) : Prop := frameB chart dims curs = true ∧ l.length ≤ 1000 ∧ (∀ e ∈ l, entryP chart dims curs e) ∧ h = headV l
open Classical in
noncomputable def ledgerB (chart : List Acc) (dims curs : Int) (l : List Ent) (h : Int) : Bool := decide (ledgerP chart dims curs l h)
open Classical in
theorem ledgerB_true {chart : List Acc} {dims curs : Int} {l : List Ent} {h : Int} : ledgerB chart dims curs l h = true ↔ ledgerP chart dims curs l h := by unfold ledgerB; rw [decide_eq_true_eq]
theorem ledgerB_not {chart : List Acc} {dims curs : Int} {l : List Ent} {h : Int} (k : ¬ ledgerP chart dims curs l h) : false = ledgerB chart dims curs l h := by
  cases hb : ledgerB chart dims curs l h with
  | false => rfl
  | true => exact absurd (ledgerB_true.1 hb) k
set_option maxHeartbeats 8000000 in
set_option maxRecDepth 100000 in
theorem impl_LedgerOk.to (A0 : Option Addr) (c0 : Nat) (l0 : List Acc) (dims curs : Int) (A1 : Option Addr) (c1 : Nat) (l1 : List Ent) (h : Int) (w : World) (hr0 : Kd.C k131 w A0 l0.length l0) (hs : ∀ x ∈ l0, x.f0.size ≤ maxLen) (hr1 : Kd.C k34 w A1 l1.length l1) (hm : ∀ e ∈ l1, e.f2.size ≤ maxLen) :
    Calls Try.prog 22 #[.agg #[.slice A0 l0.length c0, .int .i64 dims, .int .i64 curs], .agg #[.slice A1 l1.length c1, .int .i64 h]] w fun x w' => x = .returned (.bool (ledgerB l0 dims curs l1 h)) ∧ Below w.heap.size w w' := by
  have hl0 := hr0.2.1
  have hl1 := hr1.2.1
  have H0 := Aside0.mk hr0
  have H1 := Aside0.mk hr1
  have HS := Aside0.mk hs
  have HM := Aside0.mk hm
  have H00 := Aside0.mk (Kd.C_below hr0 (below_two w (.cells #[.slice A0 l0.length c0, .int .i64 dims, .int .i64 curs] 26) (.cells #[.slice A1 l1.length c1, .int .i64 h] 29)))
  clear hr0 hr1 hs hm
  go_enter Try.func22, Try.ntmps22
  go_wp2_with fail
  refine (impl_FrameOk.to A0 c0 l0 dims curs _ H00.out HS.out).mono ?_
  rintro x w1 ⟨rfl, hb⟩
  have HB := Aside0.mk (below_into (w := w) hb (below_two _ _ _))
  have f0 : w1.cell? ⟨w.heap.size, 0, none⟩ = some (.slice A0 l0.length c0) := pw_cell_below hb (by go_simp)
  have f1 : w1.cell? ⟨w.heap.size, 1, none⟩ = some (.int .i64 dims) := pw_cell_below hb (by go_simp)
  have f2 : w1.cell? ⟨w.heap.size, 2, none⟩ = some (.int .i64 curs) := pw_cell_below hb (by go_simp)
  have y0 : w1.cell? ⟨w.heap.size + 1, 0, none⟩ = some (.slice A1 l1.length c1) := pw_cell_below hb (by go_simp)
  have y1 : w1.cell? ⟨w.heap.size + 1, 1, none⟩ = some (.int .i64 h) := pw_cell_below hb (by go_simp)
  clear hb H00
  cases hfr : frameB l0 dims curs with
  | false =>
    have HN := Aside0.mk (ledgerB_not (fun q => by have := q.1; rw [hfr] at this; cases this) : false = ledgerB l0 dims curs l1 h)
    clear hfr
    go_wp2_with fail
    go_ret
    exact ⟨ret_bool HN.out, HB.out⟩
  | true =>
    have HF := Aside0.mk hfr
    obtain ⟨_, hd, hc⟩ := frame_parts hfr
    have HD := Aside0.mk hd
    have HC := Aside0.mk hc
    clear hfr hd hc
    by_cases hlen : 1000 < l1.length
    · have HN := Aside0.mk (ledgerB_not (fun q => by have := q.2.1; omega) : false = ledgerB l0 dims curs l1 h)
      go_wp2_with fail
      go_ret
      exact ⟨ret_bool HN.out, HB.out⟩
    · have HB1 := Aside0.mk (Below.refl w1.heap.size w1)
      have F0 := Aside0.mk f0
      have F1 := Aside0.mk f1
      have F2 := Aside0.mk f2
      have Y0 := Aside0.mk y0
      have Y1 := Aside0.mk y1
      go_wp2_with fail
      clear f0 f1 f2 y0 y1
      go_loopw [19] (fun v wr => ∃ i : Int, 0 ≤ i ∧ i ≤ (l1.length : Int) ∧ v = .int .i64 i ∧ Aside0 (Below w1.heap.size w1 wr) ∧ Aside0 (∀ e ∈ l1.take i.toNat, entryP l0 dims curs e)) (fun v _ => (l1.length - (intOf v).toNat))
      case atStart => exact ⟨0, by omega, by omega, rfl, HB1, ⟨fun x hx => by cases hx⟩⟩
      case round =>
        clear HB1
        obtain ⟨i, hi0, hi1, rfl, HB1, HO⟩ := hrel
        have f0 := pw_cell_below HB1.out F0.out
        have f1 := pw_cell_below HB1.out F1.out
        have f2 := pw_cell_below HB1.out F2.out
        have y0 := pw_cell_below HB1.out Y0.out
        have y1 := pw_cell_below HB1.out Y1.out
        have HBW := Aside0.mk (below_into HB1.out HB.out)
        have hz0 := World.block_lt_of_cell? _ _ f0
        have hz1 := World.block_lt_of_cell? _ _ y0
        by_cases hlt : i < (l1.length : Int)
        · obtain ⟨ad, A3, c3, e0, x0, x1, x2, x3, x4, x5⟩ := at_T34 (Kd.C_below H1.out HBW.out) i hi0 hlt
          cases e0
          have X5 := Aside0.mk (Kd.C_below x5 (below_alloc (Below.refl wr.heap.size wr) (entO (rd_T34 l1 i) A3 c3)))
          have HC0 := Aside0.mk (Kd.C_below H0.out (below_alloc HBW.out (entO (rd_T34 l1 i) A3 c3)))
          have HMI := Aside0.mk (all_at (z := z34) (p := fun e => e.f2.size ≤ maxLen) hi0 hlt HM.out)
          clear x5
          go_wp2_with fail
          refine (impl_entryIn.to A0 c0 l0 dims curs (rd_T34 l1 i) A3 c3 _ HC0.out X5.out HD.out HC.out HMI.out).mono ?_
          rintro x w2 ⟨rfl, hb⟩
          have HB2 := Aside0.mk (below_into (w := w1) hb (below_alloc HB1.out _))
          clear hb
          cases hen : entryB l0 dims curs (rd_T34 l1 i) with
          | false =>
            have HN := Aside0.mk (ledgerB_not (fun q => by have := entryB_true.2 (all_at (z := z34) (p := entryP l0 dims curs) hi0 hlt q.2.2.1); rw [show entryB l0 dims curs (l1.getD i.toNat z34) = false from hen] at this; cases this) : false = ledgerB l0 dims curs l1 h)
            have HBF := Aside0.mk (below_into HB2.out HB.out)
            clear hen HB2
            go_wp2_with fail
            go_ret
            exact ⟨ret_bool HN.out, HBF.out⟩
          | true =>
            have HO2 := Aside0.mk (all_step (z := z34) (p := entryP l0 dims curs) hi0 hlt HO.out (entryB_true.1 hen))
            clear hen
            go_wp2_with fail
            go_roundw
            case rel => exact ⟨i + 1, by omega, by omega, rfl, HB2, HO2⟩
            case measure => simp [intOf]; omega
        · have HOK := Aside0.mk (all_end (by omega) HO.out : ∀ e ∈ l1, entryP l0 dims curs e)
          have HC1 := Aside0.mk (Kd.C_below H1.out HBW.out)
          clear HO f0 f1 f2
          go_wp2_with fail
          go_region_held3 (fun w' => w'.cell? ⟨w.heap.size + 1, 0, none⟩ = some (.slice A1 l1.length c1) ∧ w'.cell? ⟨w.heap.size + 1, 1, none⟩ = some (.int .i64 h)) ((first | go_keep | exact ⟨pw_cell_below hb (by assumption), pw_cell_below hb (by assumption)⟩))
            ((go_at_call 94; refine (impl_HeadOf.to A1 c1 l1 _ (by repeat (first | exact HC1.out | refine Kd.C_drew ?_))).mono ?_; rintro x w2 ⟨rfl, hb⟩))
          have HBF := Aside0.mk (below_into (w := w) hb (below_drew HBW.out))
          clear hb
          by_cases hh : h = headV l1
          · have hhb : (h == headV l1) = true := beq_iff_eq.2 hh
            have HY := Aside0.mk (ledgerB_true.2 (show ledgerP l0 dims curs l1 h from ⟨HF.out, by omega, HOK.out, hh⟩))
            clear hh
            go_wp2_with fail
            go_ret
            exact ⟨ret_bool (by rw [HY.out]; exact hhb), HBF.out⟩
          · have hhb : (h == headV l1) = false := beq_eq_false_iff_ne.2 hh
            have HN := Aside0.mk (ledgerB_not (fun q => hh q.2.2.2) : false = ledgerB l0 dims curs l1 h)
            clear hh
            go_wp2_with fail
            go_ret
            exact ⟨ret_bool (by rw [← HN.out]; exact hhb), HBF.out⟩
-- CALLS impl_LedgerOk
open Classical in
noncomputable def impl_LedgerOk.f (l0 : List Acc) (dims curs : Int) (l1 : List Ent) (h : Int) : Option Bool := if (∀ x ∈ l0, x.f0.size ≤ maxLen) ∧ (∀ e ∈ l1, e.f2.size ≤ maxLen) then some (ledgerB l0 dims curs l1 h) else none
theorem impl_LedgerOk.calls (A0 : Option Addr) (c0 : Nat) (l0 : List Acc) (dims curs : Int) (A1 : Option Addr) (c1 : Nat) (l1 : List Ent) (h : Int) (r : Bool) (w : World) (hr0 : Kd.C k131 w A0 l0.length l0) (hc0 : l0.length ≤ c0) (hr1 : Kd.C k34 w A1 l1.length l1) (hc1 : l1.length ≤ c1) (hf : impl_LedgerOk.f l0 dims curs l1 h = some r) :
    Calls Try.prog 22 #[.agg #[.slice A0 l0.length c0, .int .i64 dims, .int .i64 curs], .agg #[.slice A1 l1.length c1, .int .i64 h]] w fun x w' => x = .returned (.bool r) ∧ Below w.heap.size w w' := by
  unfold impl_LedgerOk.f at hf
  split at hf
  · rename_i q
    cases hf
    exact impl_LedgerOk.to A0 c0 l0 dims curs A1 c1 l1 h w hr0 q.1 hr1 q.2
  · cases hf


end Go.Proofs.Ytphmnkcfjgallaa.Q
namespace Go.Proofs.Ytphmnkcfjgallaa.Q
open Go.RowKit Go.Proofs.YtphmnkcfjgallaaW.PrintWords Go.Proofs.YtphmnkcfjgallaaW.PrintLast Go.Proofs.YtphmnkcfjgallaaW.PrintMore
attribute [local go_sem] max2_int min2_int max_two min_two max_three min_three max_four min_four   -- for this text's walks alone
set_option linter.unusedVariables false
set_option linter.unusedSimpArgs false

/-! ### spec_l5Numbers: function 137 -/
mutual
noncomputable def spec_l5Numbers.l0 : Nat → List Int → Int → Int → Int → ByteArray → List (S112) → Option (List Int)
  | 0, _, _, _, _, _, _ => none
  | k + 1, x3, x4, x102000, x102001, x102002, x102003 => if x4 < (x102002.size : Int) then (if 0 ≤ x4 then (if x3.length < 17592186044416 then (spec_l5Numbers.l0 k (x3 ++ [wrap64 (bt x102002 x4)]) (wrap64 (x4 + 1)) x102000 x102001 x102002 x102003) else (none)) else (none)) else (if x3.length < 17592186044416 then (spec_l5Numbers.l1 k (x3 ++ [(x102003.length : Int)]) 0 x102000 x102001 x102002 x102003) else (none))
noncomputable def spec_l5Numbers.l1 : Nat → List Int → Int → Int → Int → ByteArray → List (S112) → Option (List Int)
  | 0, _, _, _, _, _, _ => none
  | k + 1, x3, x5, x102000, x102001, x102002, x102003 => if x5 < (x102003.length : Int) then (if 0 ≤ x5 then ((some (([(rd_T112 x102003 x5).f0, (rd_T112 x102003 x5).f1, (rd_T112 x102003 x5).f2, (rd_T112 x102003 x5).f3, (rd_T112 x102003 x5).f4] : List Int) : List Int)).bind fun y113 => (if x3.length + y113.length < 17592186044416 then (spec_l5Numbers.l1 k (x3 ++ y113) (wrap64 (x5 + 1)) x102000 x102001 x102002 x102003) else (none))) else (none)) else (some x3)
end
noncomputable def spec_l5Numbers.f (k : Nat) (a0_0 : Int) (a0_1 : Int) (a0_2 : ByteArray) (l0_3 : List (S112)) : Option (List Int) := spec_l5Numbers.l0 k (([a0_0, a0_1, (a0_2.size : Int)] : List Int)) 0 a0_0 a0_1 a0_2 l0_3
theorem spec_l5Numbers.mono_l : ∀ k, (∀ y0 y1 y2 y3 y4 y5, LeO (spec_l5Numbers.l0 k y0 y1 y2 y3 y4 y5) (spec_l5Numbers.l0 (k + 1) y0 y1 y2 y3 y4 y5)) ∧ (∀ y0 y1 y2 y3 y4 y5, LeO (spec_l5Numbers.l1 k y0 y1 y2 y3 y4 y5) (spec_l5Numbers.l1 (k + 1) y0 y1 y2 y3 y4 y5))
  | 0 => ⟨fun _ _ _ _ _ _ r h => by simp [spec_l5Numbers.l0] at h, fun _ _ _ _ _ _ r h => by simp [spec_l5Numbers.l1] at h⟩
  | k + 1 => by
    obtain ⟨ih0, ih1⟩ := spec_l5Numbers.mono_l k
    refine ⟨?_, ?_⟩
    · intro y0 y1 y2 y3 y4 y5
      unfold spec_l5Numbers.l0
      repeat' first
      | (with_reducible exact ih0 _ _ _ _ _ _)
      | (with_reducible exact ih1 _ _ _ _ _ _)
      | (with_reducible exact LeO.refl _)
      | (with_reducible exact LeO.none _)
      | (with_reducible refine LeO.ite ?_ ?_)
      | (with_reducible refine LeO.bind ?_ (fun _ => ?_))
      | exact ih0 _ _ _ _ _ _
      | exact ih1 _ _ _ _ _ _
      | exact LeO.none _
      | refine LeO.ite ?_ ?_
      | refine LeO.bind ?_ (fun _ => ?_)
    · intro y0 y1 y2 y3 y4 y5
      unfold spec_l5Numbers.l1
      repeat' first
      | (with_reducible exact ih0 _ _ _ _ _ _)
      | (with_reducible exact ih1 _ _ _ _ _ _)
      | (with_reducible exact LeO.refl _)
      | (with_reducible exact LeO.none _)
      | (with_reducible refine LeO.ite ?_ ?_)
      | (with_reducible refine LeO.bind ?_ (fun _ => ?_))
      | exact ih0 _ _ _ _ _ _
      | exact ih1 _ _ _ _ _ _
      | exact LeO.none _
      | refine LeO.ite ?_ ?_
      | refine LeO.bind ?_ (fun _ => ?_)
theorem spec_l5Numbers.mono : ∀ a0 a1 a2 a3 k, LeO (spec_l5Numbers.f k a0 a1 a2 a3) (spec_l5Numbers.f (k + 1) a0 a1 a2 a3) := by
  intro a0 a1 a2 a3 k
  obtain ⟨ih0, ih1⟩ := spec_l5Numbers.mono_l k
  unfold spec_l5Numbers.f
  repeat' first
      | (with_reducible exact ih0 _ _ _ _ _ _)
      | (with_reducible exact ih1 _ _ _ _ _ _)
      | (with_reducible exact LeO.refl _)
      | (with_reducible exact LeO.none _)
      | (with_reducible refine LeO.ite ?_ ?_)
      | (with_reducible refine LeO.bind ?_ (fun _ => ?_))
      | exact ih0 _ _ _ _ _ _
      | exact ih1 _ _ _ _ _ _
      | exact LeO.none _
      | refine LeO.ite ?_ ?_
      | refine LeO.bind ?_ (fun _ => ?_)
set_option maxHeartbeats 8000000 in
set_option maxRecDepth 100000 in
theorem spec_l5Numbers.calls (k : Nat) (a0_0 : Int) (a0_1 : Int) (a0_2 : ByteArray) (A0_3 : Option Addr) (c0_3 : Nat) (l0_3 : List (S112)) (r : List Int) (w : World) (hr0_3 : Kd.C k112 w A0_3 l0_3.length l0_3) (hc0_3 : l0_3.length ≤ c0_3) (h : spec_l5Numbers.f k a0_0 a0_1 a0_2 l0_3 = some r) :
    Calls Try.prog 137 #[.agg #[.int .i64 a0_0, .int .i64 a0_1, .string a0_2, .slice A0_3 l0_3.length c0_3]] w fun e w' => ∃ v0_ : Value, e = .returned (v0_) ∧ Kd.R (Kd.int .i64) 3 w' w.heap.size (fun _ => True) v0_ r ∧ Below w.heap.size w w' := by
  have hu34 := Try.underlying34
  have hu112 := Try.underlying112
  have HR0_3 := Aside0.mk hr0_3
  have HC0_3 := Aside0.mk hc0_3
  clear hr0_3 hc0_3
  have HB := Aside0.mk (Below.refl w.heap.size w)
  have H : (spec_l5Numbers.l0 k (([a0_0, a0_1, (a0_2.size : Int)] : List Int)) 0 a0_0 a0_1 a0_2 l0_3) = some r := h
  clear h
  obtain ⟨y102, hy102⟩ : ∃ y_ : List Int, y_ = (([a0_0, a0_1, (a0_2.size : Int)] : List Int)) := ⟨_, rfl⟩
  replace H : (spec_l5Numbers.l0 k y102 0 a0_0 a0_1 a0_2 l0_3) = some r := by first | (rw [hy102]; with_reducible exact H) | (have H2_ := (Option.bind_some _ _).symm.trans H; rw [hy102]; with_reducible exact H2_) | (have H2_ := (Option.bind_some _ _).symm.trans H; with_reducible exact H2_) | with_reducible exact H | (rw [hy102]; exact H) | exact H
  have Ny102 := Aside0.mk hy102
  clear hy102
  have H' := Aside0.mk H
  clear H
  go_enter Try.func137, Try.ntmps137
  go_wp2_with (first | ((with_reducible refine gate_dst (N := 1) rfl ?_); refine box_event ?hg (N := 1) ?hd (cs := #[.int .i64 a0_0, .int .i64 a0_1, .string a0_2, .slice A0_3 l0_3.length c0_3]) (t := 34) ?hr ?_; (case hd => rfl); (case hg => rfl); (case hr => first | (go_simp; done) | (go_simp; rfl)); intro gb101 hg w2 hbox hb; have n0_ := Aside0.mk (below_step (by repeat (first | (with_reducible first | exact HB.out | apply below_alloc | apply pw_below_drewN | apply below_drew1) | exact HB.out)) hb); have n1_ := Aside0.mk (hbox); have n2_ := Aside0.mk ((by rw [hg]; exact (below_size (by repeat (first | (with_reducible first | exact HB.out | apply below_alloc | apply pw_below_drewN | apply below_drew1) | exact HB.out))) : w.heap.size ≤ gb101)); have n3_ := Aside0.mk ((by rw [hg]; exact (below_size (by repeat (first | (with_reducible first | exact HB.out | apply below_alloc | apply pw_below_drewN | apply below_drew1) | exact HB.out))) : w.heap.size ≤ gb101)); clear HB; have HB := n0_; have BK101 := n1_; have GW101 := n2_; have GE101 := n3_; clear n0_ n1_ n2_ n3_; clear hb hbox hg; have hcz3_0 : w2.cell? ⟨gb101, 0, none⟩ = some (.int .i64 a0_0) := (blk_cell BK101.out 0).trans rfl; have hcz3_1 : w2.cell? ⟨gb101, 1, none⟩ = some (.int .i64 a0_1) := (blk_cell BK101.out 1).trans rfl; have hcz3_2 : w2.cell? ⟨gb101, 2, none⟩ = some (.string a0_2) := (blk_cell BK101.out 2).trans rfl; have hcz3_3 : w2.cell? ⟨gb101, 3, none⟩ = some (.slice A0_3 l0_3.length c0_3) := (blk_cell BK101.out 3).trans rfl; have hfz3_0 := blk_frozen BK101.out 0; have hfz3_1 := blk_frozen BK101.out 1; have hfz3_2 := blk_frozen BK101.out 2; have hfz3_3 := blk_frozen BK101.out 3) | ((with_reducible refine gate_dst (N := 14) rfl ?_); refine Kd.R_lit (Kd.int .i64) _ 3 ?hg (N := 14) ?hd (xs := ([a0_0, a0_1, (a0_2.size : Int)] : List Int)) (inner := [.int .i64 a0_0, .int .i64 a0_1, .int .i64 (a0_2.size : Int)]) (ok := fun _ => True) (okp := fun _ => True) ?hr ?hp (fun _ hk => hk) trivial (Below.refl _ _) (Nat.le_refl _) (by simp) ?_; (case hd => rfl); (case hg => rfl); (case hr => first | (go_simp; done) | (go_simp; rfl)); (case hp => exact (Reps.one (show Kd.M (Kd.int .i64) _ _ _ a0_0 [.int .i64 a0_0] from rfl) (Reps.one (show Kd.M (Kd.int .i64) _ _ _ a0_1 [.int .i64 a0_1] from rfl) (Reps.one (show Kd.M (Kd.int .i64) _ _ _ (a0_2.size : Int) [.int .i64 (a0_2.size : Int)] from rfl) (Reps.none _ _))))); intro v103 w4 ho5 hb hg_ hnew_; clear hg_ hnew_; (first | rw [← Ny102.out] at ho5 | (simp only [Int.reduceToNat] at ho5; rw [← Ny102.out] at ho5)); have n0_ := Aside0.mk (Kd.R_lower ho5 (below_size (by repeat (first | (with_reducible first | exact HB.out | apply below_alloc | apply pw_below_drewN | apply below_drew1 | refine below_set ?_ GE101.out) | exact HB.out)))); have n1_ := Aside0.mk (blk_below (g := gb101) (o := .cells #[.int .i64 a0_0, .int .i64 a0_1, .string a0_2, .slice A0_3 l0_3.length c0_3] 34 (0, 0)) (by (with_reducible repeat (first | refine blk_drewN ?_ _ | refine blk_drew ?_ | refine blk_alloc ?_ _)); exact BK101.out) hb); have n2_ := Aside0.mk (below_step (by repeat (first | (with_reducible first | exact HB.out | apply below_alloc | apply pw_below_drewN | apply below_drew1 | refine below_set ?_ GE101.out) | exact HB.out)) hb); clear BK101; clear HB; have HO104 := n0_; have BK101 := n1_; have HB := n2_; clear n0_ n1_ n2_; clear hb ho5))
  go_loopg [3, 4] k (fun kq v3 v4 w' => ∃ (x3_1 : List Int) (x4_1 : Int), v4 = .int .i64 x4_1 ∧ Aside0 (spec_l5Numbers.l0 kq x3_1 x4_1 a0_0 a0_1 a0_2 l0_3 = some r) ∧ Aside0 (kq ≤ k) ∧ Aside0 (Kd.R (Kd.int .i64) 3 w' w.heap.size (fun _ => True) v3 x3_1) ∧ Aside0 (w'.heap[gb101]? = some (.cells #[.int .i64 a0_0, .int .i64 a0_1, .string a0_2, (.slice A0_3 l0_3.length c0_3)] 34 (0, 0))) ∧ Aside0 (Below w.heap.size w w'))
  case atStart => exact ⟨(y102), (0), (by first | rfl | (simp; done) | (simp [*]; done)), H', ⟨Nat.le_refl _⟩, ⟨by (with_reducible repeat (first | apply Kd.R_alloc | apply Kd.R_drewN | apply Kd.R_drew)); exact HO104.out⟩, ⟨by (with_reducible repeat (first | refine blk_drewN ?_ _ | refine blk_drew ?_ | refine blk_alloc ?_ _)); exact BK101.out⟩, ⟨by repeat (first | (with_reducible first | exact HB.out | apply below_alloc | apply pw_below_drewN | apply below_drew1 | refine below_set ?_ GE101.out) | exact HB.out)⟩⟩
  case round =>
    clear H'
    try clear c1
    try clear p2
    try clear hcz3_0
    try clear hcz3_1
    try clear hcz3_2
    try clear hcz3_3
    try clear hfz3_0
    try clear hfz3_1
    try clear hfz3_2
    try clear hfz3_3
    obtain ⟨x3_1, x4_1, rfl, HA, HK1, HO_3, BK101, HB⟩ := hrel
    cases gk with
    | zero => exact absurd HA.out (by simp [spec_l5Numbers.l0])
    | succ k1 =>
      have H := HA.out
      clear HA
      simp only [spec_l5Numbers.l0] at H
      by_cases c6 : x4_1 < (a0_2.size : Int)
      · rw [if_pos c6] at H
        have c6b0 : decide (x4_1 < (a0_2.size : Int)) = true := decide_eq_true c6
        clear c6
        by_cases c7 : 0 ≤ x4_1
        · rw [if_pos c7] at H
          have c7b0 : decide (0 ≤ x4_1) = true := decide_eq_true c7
          clear c7
          by_cases c9 : x3_1.length < 17592186044416
          · rw [if_pos c9] at H
            have LMc9 := Aside0.mk c9
            clear c9
            obtain ⟨y105, hy105⟩ : ∃ y_ : List Int, y_ = (x3_1 ++ [wrap64 (bt a0_2 x4_1)]) := ⟨_, rfl⟩
            replace H : (spec_l5Numbers.l0 k1 y105 (wrap64 (x4_1 + 1)) a0_0 a0_1 a0_2 l0_3) = some r := by first | (rw [hy105]; with_reducible exact H) | (have H2_ := (Option.bind_some _ _).symm.trans H; rw [hy105]; with_reducible exact H2_) | (have H2_ := (Option.bind_some _ _).symm.trans H; with_reducible exact H2_) | with_reducible exact H | (rw [hy105]; exact H) | exact H
            have Ny105 := Aside0.mk hy105
            clear hy105
            have H' := Aside0.mk H
            clear H
            have hcz10_0 : wr.cell? ⟨gb101, 0, none⟩ = some (.int .i64 a0_0) := (blk_cell BK101.out 0).trans rfl
            have hcz10_1 : wr.cell? ⟨gb101, 1, none⟩ = some (.int .i64 a0_1) := (blk_cell BK101.out 1).trans rfl
            have hcz10_2 : wr.cell? ⟨gb101, 2, none⟩ = some (.string a0_2) := (blk_cell BK101.out 2).trans rfl
            have hcz10_3 : wr.cell? ⟨gb101, 3, none⟩ = some (.slice A0_3 l0_3.length c0_3) := (blk_cell BK101.out 3).trans rfl
            have hfz10_0 := blk_frozen BK101.out 0
            have hfz10_1 := blk_frozen BK101.out 1
            have hfz10_2 := blk_frozen BK101.out 2
            have hfz10_3 := blk_frozen BK101.out 3
            have p8 : 0 ≤ (x4_1 : Int) := of_decide_eq_true (by first | (with_reducible assumption) | assumption)
            have q8 : x4_1 < (a0_2.size : Int) := of_decide_eq_true (by first | (with_reducible assumption) | assumption)
            have hx8 := bt_at a0_2 x4_1
            replace p8 := eq_true p8
            replace q8 := eq_true q8
            go_wp2_with (first | ((with_reducible refine gate_builtin (b := .append) (xs := #[.tmp 22, .tmp 28]) rfl ?_); at_builtin; refine Kd.R_append (Kd.int .i64) (w0 := w) w.heap.size rfl (.tmp 22) (.tmp 28) 46 3 (.int .i64 0) 8 rfl Try.underlying46 info3 rfl (by decide) (by omega) u3 x3_1 (wrap64 (bt a0_2 x4_1)) [.int .i64 (wrap64 (bt a0_2 x4_1))] (fun _ => True) (fun _ => False) rfl rfl ?aP (fun _ hk => hk.elim) ?aF ?aO ?aB ?aS ?aL ?_; (case aP => exact rfl); (case aB => exact (by repeat (first | (with_reducible first | exact HB.out | apply below_alloc | apply pw_below_drewN | apply below_drew1 | refine below_set ?_ GE101.out) | exact HB.out))); (case aF => exact (fun _ _ => trivial)); (case aO => exact (by (with_reducible repeat (first | apply Kd.R_alloc | apply Kd.R_drewN | apply Kd.R_drew)); exact HO_3.out)); (case aS => exact (below_size (by repeat (first | (with_reducible first | exact HB.out | apply below_alloc | apply pw_below_drewN | apply below_drew1 | refine below_set ?_ GE101.out) | exact HB.out)))); (case aL => have := LMc9.out; omega); intro v106 w11 ho hb hg hat; rw [← Ny105.out] at ho; have n0_ := Aside0.mk (blk_grown (g := gb101) (o := .cells #[.int .i64 a0_0, .int .i64 a0_1, .string a0_2, .slice A0_3 l0_3.length c0_3] 34 (0, 0)) (by (with_reducible repeat (first | refine blk_drewN ?_ _ | refine blk_drew ?_ | refine blk_alloc ?_ _)); exact BK101.out) hg (Kd.R_ne HO_3.out BK101.out (by decide))); have n1_ := Aside0.mk (hb); have n2_ := Aside0.mk (ho); clear BK101; clear HB; clear HO_3; have BK101 := n0_; have HB := n1_; have HO107 := n2_; clear n0_ n1_ n2_; clear ho hb hg hat))
            go_roundg k1
            case measure => have := HK1.out; omega
            case rel => exact ⟨(y105), (wrap64 (x4_1 + 1)), (by first | rfl | (simp; done) | (simp [*]; done)), H', ⟨by have := HK1.out; omega⟩, ⟨by (with_reducible repeat (first | apply Kd.R_alloc | apply Kd.R_drewN | apply Kd.R_drew)); exact HO107.out⟩, ⟨by (with_reducible repeat (first | refine blk_drewN ?_ _ | refine blk_drew ?_ | refine blk_alloc ?_ _)); exact BK101.out⟩, ⟨by repeat (first | (with_reducible first | exact HB.out | apply below_alloc | apply pw_below_drewN | apply below_drew1 | refine below_set ?_ GE101.out) | exact HB.out)⟩⟩
          · rw [if_neg c9] at H
            exact absurd H (by simp)
        · rw [if_neg c7] at H
          exact absurd H (by simp)
      · rw [if_neg c6] at H
        have c6b0 : decide (x4_1 < (a0_2.size : Int)) = false := decide_eq_false c6
        clear c6
        by_cases c12 : x3_1.length < 17592186044416
        · rw [if_pos c12] at H
          have LMc12 := Aside0.mk c12
          clear c12
          obtain ⟨y108, hy108⟩ : ∃ y_ : List Int, y_ = (x3_1 ++ [(l0_3.length : Int)]) := ⟨_, rfl⟩
          replace H : (spec_l5Numbers.l1 k1 y108 0 a0_0 a0_1 a0_2 l0_3) = some r := by first | (rw [hy108]; with_reducible exact H) | (have H2_ := (Option.bind_some _ _).symm.trans H; rw [hy108]; with_reducible exact H2_) | (have H2_ := (Option.bind_some _ _).symm.trans H; with_reducible exact H2_) | with_reducible exact H | (rw [hy108]; exact H) | exact H
          have Ny108 := Aside0.mk hy108
          clear hy108
          have H' := Aside0.mk H
          clear H
          have hcz13_0 : wr.cell? ⟨gb101, 0, none⟩ = some (.int .i64 a0_0) := (blk_cell BK101.out 0).trans rfl
          have hcz13_1 : wr.cell? ⟨gb101, 1, none⟩ = some (.int .i64 a0_1) := (blk_cell BK101.out 1).trans rfl
          have hcz13_2 : wr.cell? ⟨gb101, 2, none⟩ = some (.string a0_2) := (blk_cell BK101.out 2).trans rfl
          have hcz13_3 : wr.cell? ⟨gb101, 3, none⟩ = some (.slice A0_3 l0_3.length c0_3) := (blk_cell BK101.out 3).trans rfl
          have hfz13_0 := blk_frozen BK101.out 0
          have hfz13_1 := blk_frozen BK101.out 1
          have hfz13_2 := blk_frozen BK101.out 2
          have hfz13_3 := blk_frozen BK101.out 3
          go_wp2_with (first | ((with_reducible refine gate_builtin (b := .append) (xs := #[.tmp 30, .tmp 34]) rfl ?_); at_builtin; refine Kd.R_append (Kd.int .i64) (w0 := w) w.heap.size rfl (.tmp 30) (.tmp 34) 46 3 (.int .i64 0) 8 rfl Try.underlying46 info3 rfl (by decide) (by omega) u3 x3_1 (l0_3.length : Int) [.int .i64 (l0_3.length : Int)] (fun _ => True) (fun _ => False) rfl rfl ?aP (fun _ hk => hk.elim) ?aF ?aO ?aB ?aS ?aL ?_; (case aP => exact rfl); (case aB => exact (by repeat (first | (with_reducible first | exact HB.out | apply below_alloc | apply pw_below_drewN | apply below_drew1 | refine below_set ?_ GE101.out) | exact HB.out))); (case aF => exact (fun _ _ => trivial)); (case aO => exact (by (with_reducible repeat (first | apply Kd.R_alloc | apply Kd.R_drewN | apply Kd.R_drew)); exact HO_3.out)); (case aS => exact (below_size (by repeat (first | (with_reducible first | exact HB.out | apply below_alloc | apply pw_below_drewN | apply below_drew1 | refine below_set ?_ GE101.out) | exact HB.out)))); (case aL => have := LMc12.out; omega); intro v109 w14 ho hb hg hat; rw [← Ny108.out] at ho; have n0_ := Aside0.mk (blk_grown (g := gb101) (o := .cells #[.int .i64 a0_0, .int .i64 a0_1, .string a0_2, .slice A0_3 l0_3.length c0_3] 34 (0, 0)) (by (with_reducible repeat (first | refine blk_drewN ?_ _ | refine blk_drew ?_ | refine blk_alloc ?_ _)); exact BK101.out) hg (Kd.R_ne HO_3.out BK101.out (by decide))); have n1_ := Aside0.mk (hb); have n2_ := Aside0.mk (ho); clear BK101; clear HB; clear HO_3; have BK101 := n0_; have HB := n1_; have HO110 := n2_; clear n0_ n1_ n2_; clear ho hb hg hat))
          go_loopg [3, 5] k1 (fun kq v3 v5 w' => ∃ (x3_2 : List Int) (x5_2 : Int), v5 = .int .i64 x5_2 ∧ Aside0 (spec_l5Numbers.l1 kq x3_2 x5_2 a0_0 a0_1 a0_2 l0_3 = some r) ∧ Aside0 (kq ≤ k1) ∧ Aside0 (Kd.R (Kd.int .i64) 3 w' w.heap.size (fun _ => True) v3 x3_2) ∧ Aside0 (w'.heap[gb101]? = some (.cells #[.int .i64 a0_0, .int .i64 a0_1, .string a0_2, (.slice A0_3 l0_3.length c0_3)] 34 (0, 0))) ∧ Aside0 (Below w.heap.size w w'))
          case atStart => exact ⟨(y108), (0), (by first | rfl | (simp; done) | (simp [*]; done)), H', ⟨Nat.le_refl _⟩, ⟨by (with_reducible repeat (first | apply Kd.R_alloc | apply Kd.R_drewN | apply Kd.R_drew)); exact HO110.out⟩, ⟨by (with_reducible repeat (first | refine blk_drewN ?_ _ | refine blk_drew ?_ | refine blk_alloc ?_ _)); exact BK101.out⟩, ⟨by repeat (first | (with_reducible first | exact HB.out | apply below_alloc | apply pw_below_drewN | apply below_drew1 | refine below_set ?_ GE101.out) | exact HB.out)⟩⟩
          case round =>
            clear H'
            try clear c1
            try clear p2
            try clear c6
            try clear c6b0
            try clear p6
            try clear c7
            try clear c7b0
            try clear p8
            try clear q8
            try clear hx8
            try clear c9
            try clear c12
            try clear c13
            try clear hcz10_0
            try clear hcz10_1
            try clear hcz10_2
            try clear hcz10_3
            try clear hcz13_0
            try clear hcz13_1
            try clear hcz13_2
            try clear hcz13_3
            try clear hcz3_0
            try clear hcz3_1
            try clear hcz3_2
            try clear hcz3_3
            try clear hfz10_0
            try clear hfz10_1
            try clear hfz10_2
            try clear hfz10_3
            try clear hfz13_0
            try clear hfz13_1
            try clear hfz13_2
            try clear hfz13_3
            try clear hfz3_0
            try clear hfz3_1
            try clear hfz3_2
            try clear hfz3_3
            try clear p2
            try clear p8
            try clear q8
            obtain ⟨x3_2, x5_2, rfl, HA, HK2, HO_3, BK101, HB⟩ := hrel
            cases gk with
            | zero => exact absurd HA.out (by simp [spec_l5Numbers.l1])
            | succ k2 =>
              have H := HA.out
              clear HA
              simp only [spec_l5Numbers.l1] at H
              by_cases c15 : x5_2 < (l0_3.length : Int)
              · rw [if_pos c15] at H
                have c15b0 : decide (x5_2 < (l0_3.length : Int)) = true := decide_eq_true c15
                clear c15
                by_cases c16 : 0 ≤ x5_2
                · rw [if_pos c16] at H
                  have c16b0 : decide (0 ≤ x5_2) = true := decide_eq_true c16
                  clear c16
                  obtain ⟨y113, hy113⟩ : ∃ y_ : List Int, y_ = (([(rd_T112 l0_3 x5_2).f0, (rd_T112 l0_3 x5_2).f1, (rd_T112 l0_3 x5_2).f2, (rd_T112 l0_3 x5_2).f3, (rd_T112 l0_3 x5_2).f4] : List Int)) := ⟨_, rfl⟩
                  replace H : (if x3_2.length + y113.length < 17592186044416 then (spec_l5Numbers.l1 k2 (x3_2 ++ y113) (wrap64 (x5_2 + 1)) a0_0 a0_1 a0_2 l0_3) else (none)) = some r := by first | (rw [hy113]; with_reducible exact H) | (have H2_ := (Option.bind_some _ _).symm.trans H; rw [hy113]; with_reducible exact H2_) | (have H2_ := (Option.bind_some _ _).symm.trans H; with_reducible exact H2_) | with_reducible exact H | (rw [hy113]; exact H) | exact H
                  have Ny113 := Aside0.mk hy113
                  clear hy113
                  by_cases c17 : x3_2.length + y113.length < 17592186044416
                  · rw [if_pos c17] at H
                    have LMc17 := Aside0.mk c17
                    clear c17
                    obtain ⟨y116, hy116⟩ : ∃ y_ : List Int, y_ = (x3_2 ++ y113) := ⟨_, rfl⟩
                    replace H : (spec_l5Numbers.l1 k2 y116 (wrap64 (x5_2 + 1)) a0_0 a0_1 a0_2 l0_3) = some r := by first | (rw [hy116]; with_reducible exact H) | (have H2_ := (Option.bind_some _ _).symm.trans H; rw [hy116]; with_reducible exact H2_) | (have H2_ := (Option.bind_some _ _).symm.trans H; with_reducible exact H2_) | with_reducible exact H | (rw [hy116]; exact H) | exact H
                    have Ny116 := Aside0.mk hy116
                    clear hy116
                    have H' := Aside0.mk H
                    clear H
                    have hcz18_0 : wr.cell? ⟨gb101, 0, none⟩ = some (.int .i64 a0_0) := (blk_cell BK101.out 0).trans rfl
                    have hcz18_1 : wr.cell? ⟨gb101, 1, none⟩ = some (.int .i64 a0_1) := (blk_cell BK101.out 1).trans rfl
                    have hcz18_2 : wr.cell? ⟨gb101, 2, none⟩ = some (.string a0_2) := (blk_cell BK101.out 2).trans rfl
                    have hcz18_3 : wr.cell? ⟨gb101, 3, none⟩ = some (.slice A0_3 l0_3.length c0_3) := (blk_cell BK101.out 3).trans rfl
                    have hfz18_0 := blk_frozen BK101.out 0
                    have hfz18_1 := blk_frozen BK101.out 1
                    have hfz18_2 := blk_frozen BK101.out 2
                    have hfz18_3 := blk_frozen BK101.out 3
                    have p111 : 0 ≤ (x5_2 : Int) := of_decide_eq_true (by first | (with_reducible assumption) | assumption)
                    have q111 : x5_2 < (l0_3.length : Int) := of_decide_eq_true (by first | (with_reducible assumption) | assumption)
                    obtain ⟨ad111, e111, hx111_0, hx111_1, hx111_2, hx111_3, hx111_4⟩ := at_T112 HR0_3.out x5_2 p111 q111
                    cases e111
                    replace hx111_0 := (HB.out.cell (World.block_lt_of_cell? w _ hx111_0)).trans hx111_0
                    replace hx111_1 := (HB.out.cell (World.block_lt_of_cell? w _ hx111_1)).trans hx111_1
                    replace hx111_2 := (HB.out.cell (World.block_lt_of_cell? w _ hx111_2)).trans hx111_2
                    replace hx111_3 := (HB.out.cell (World.block_lt_of_cell? w _ hx111_3)).trans hx111_3
                    replace hx111_4 := (HB.out.cell (World.block_lt_of_cell? w _ hx111_4)).trans hx111_4
                    replace p111 := eq_true p111
                    replace q111 := eq_true q111
                    go_wp2_with (first | ((with_reducible refine gate_dst (N := 6) rfl ?_); refine box_event ?hg (N := 6) ?hd (cs := #[.int .i64 0, .int .i64 0, .int .i64 0, .int .i64 0, .int .i64 0]) (t := 112) ?hr ?_; (case hd => rfl); (case hg => rfl); (case hr => first | (go_simp; done) | (go_simp; rfl)); intro gb112 hg w19 hbox hb; have n0_ := Aside0.mk (Kd.R_below (by (with_reducible repeat (first | apply Kd.R_alloc | apply Kd.R_drewN | apply Kd.R_drew)); exact HO_3.out) hb); have n1_ := Aside0.mk (blk_below (g := gb101) (o := .cells #[.int .i64 a0_0, .int .i64 a0_1, .string a0_2, .slice (some ad111) l0_3.length c0_3] 34 (0, 0)) (by (with_reducible repeat (first | refine blk_drewN ?_ _ | refine blk_drew ?_ | refine blk_alloc ?_ _)); exact BK101.out) hb); have n2_ := Aside0.mk (below_step (by repeat (first | (with_reducible first | exact HB.out | apply below_alloc | apply pw_below_drewN | apply below_drew1 | refine below_set ?_ GE101.out) | exact HB.out)) hb); have n3_ := Aside0.mk (hbox); have n4_ := Aside0.mk ((by rw [hg]; exact (below_size (by repeat (first | (with_reducible first | exact HB.out | apply below_alloc | apply pw_below_drewN | apply below_drew1 | refine below_set ?_ GE101.out) | exact HB.out))) : w.heap.size ≤ gb112)); have n5_ := Aside0.mk ((by rw [hg]; exact (below_size (by repeat (first | (with_reducible first | exact HB.out | apply below_alloc | apply pw_below_drewN | apply below_drew1 | refine below_set ?_ GE101.out) | exact HB.out))) : w.heap.size ≤ gb112)); have n6_ := Aside0.mk ((by rw [hg]; exact Nat.ne_of_lt (blk_lt (g := gb101) (o := .cells #[.int .i64 a0_0, .int .i64 a0_1, .string a0_2, .slice (some ad111) l0_3.length c0_3] 34 (0, 0)) (by (with_reducible repeat (first | refine blk_drewN ?_ _ | refine blk_drew ?_ | refine blk_alloc ?_ _)); exact BK101.out)) : gb101 ≠ gb112)); have n7_ := Aside0.mk ((by rw [hg]; exact Nat.ne_of_gt (blk_lt (g := gb101) (o := .cells #[.int .i64 a0_0, .int .i64 a0_1, .string a0_2, .slice (some ad111) l0_3.length c0_3] 34 (0, 0)) (by (with_reducible repeat (first | refine blk_drewN ?_ _ | refine blk_drew ?_ | refine blk_alloc ?_ _)); exact BK101.out)) : gb112 ≠ gb101)); clear HO_3; clear BK101; clear HB; have HO_3 := n0_; have BK101 := n1_; have HB := n2_; have BK112 := n3_; have GW112 := n4_; have GE112 := n5_; have NB101_112 := n6_; have NB112_101 := n7_; clear n0_ n1_ n2_ n3_ n4_ n5_ n6_ n7_; clear hb hbox hg; have hnb20 := NB112_101.out; have hnc20 := NB101_112.out; have hcz21_0 : w19.cell? ⟨gb112, 0, none⟩ = some (.int .i64 0) := (blk_cell BK112.out 0).trans rfl; have hcz21_1 : w19.cell? ⟨gb112, 1, none⟩ = some (.int .i64 0) := (blk_cell BK112.out 1).trans rfl; have hcz21_2 : w19.cell? ⟨gb112, 2, none⟩ = some (.int .i64 0) := (blk_cell BK112.out 2).trans rfl; have hcz21_3 : w19.cell? ⟨gb112, 3, none⟩ = some (.int .i64 0) := (blk_cell BK112.out 3).trans rfl; have hcz21_4 : w19.cell? ⟨gb112, 4, none⟩ = some (.int .i64 0) := (blk_cell BK112.out 4).trans rfl; have hfz21_0 := blk_frozen BK112.out 0; have hfz21_1 := blk_frozen BK112.out 1; have hfz21_2 := blk_frozen BK112.out 2; have hfz21_3 := blk_frozen BK112.out 3; have hfz21_4 := blk_frozen BK112.out 4) | ((with_reducible refine gate_dst (N := 59) rfl ?_); refine Kd.R_lit (Kd.int .i64) _ 3 ?hg (N := 59) ?hd (xs := ([(rd_T112 l0_3 x5_2).f0, (rd_T112 l0_3 x5_2).f1, (rd_T112 l0_3 x5_2).f2, (rd_T112 l0_3 x5_2).f3, (rd_T112 l0_3 x5_2).f4] : List Int)) (inner := [.int .i64 ((rd_T112 l0_3 x5_2).f0), .int .i64 ((rd_T112 l0_3 x5_2).f1), .int .i64 ((rd_T112 l0_3 x5_2).f2), .int .i64 ((rd_T112 l0_3 x5_2).f3), .int .i64 ((rd_T112 l0_3 x5_2).f4)]) (ok := fun _ => True) (okp := fun _ => True) ?hr ?hp (fun _ hk => hk) trivial (Below.refl _ _) (Nat.le_refl _) (by simp) ?_; (case hd => rfl); (case hg => rfl); (case hr => first | (go_simp; done) | (go_simp; rfl)); (case hp => exact (Reps.one (show Kd.M (Kd.int .i64) _ _ _ ((rd_T112 l0_3 x5_2).f0) [.int .i64 ((rd_T112 l0_3 x5_2).f0)] from rfl) (Reps.one (show Kd.M (Kd.int .i64) _ _ _ ((rd_T112 l0_3 x5_2).f1) [.int .i64 ((rd_T112 l0_3 x5_2).f1)] from rfl) (Reps.one (show Kd.M (Kd.int .i64) _ _ _ ((rd_T112 l0_3 x5_2).f2) [.int .i64 ((rd_T112 l0_3 x5_2).f2)] from rfl) (Reps.one (show Kd.M (Kd.int .i64) _ _ _ ((rd_T112 l0_3 x5_2).f3) [.int .i64 ((rd_T112 l0_3 x5_2).f3)] from rfl) (Reps.one (show Kd.M (Kd.int .i64) _ _ _ ((rd_T112 l0_3 x5_2).f4) [.int .i64 ((rd_T112 l0_3 x5_2).f4)] from rfl) (Reps.none _ _))))))); intro v114 w22 ho23 hb hg_ hnew_; clear hg_ hnew_; (first | rw [← Ny113.out] at ho23 | (simp only [Int.reduceToNat] at ho23; rw [← Ny113.out] at ho23)); have n0_ := Aside0.mk (Kd.R_elder' (by (with_reducible repeat (first | apply Kd.R_alloc | apply Kd.R_drewN | apply Kd.R_drew)); exact (Kd.R_mono (Kd.R_far (p := ⟨gb112, 4, none⟩) (Kd.R_far (p := ⟨gb112, 3, none⟩) (Kd.R_far (p := ⟨gb112, 2, none⟩) (Kd.R_far (p := ⟨gb112, 1, none⟩) (Kd.R_far (p := ⟨gb112, 0, none⟩) (Kd.R_types HO_3.out BK112.out (by decide)) (fun _ hk => hk.2) (.int .i64 ((rd_T112 l0_3 x5_2).f0))) (fun _ hk => hk.2) (.int .i64 ((rd_T112 l0_3 x5_2).f1))) (fun _ hk => hk.2) (.int .i64 ((rd_T112 l0_3 x5_2).f2))) (fun _ hk => hk.2) (.int .i64 ((rd_T112 l0_3 x5_2).f3))) (fun _ hk => hk.2) (.int .i64 ((rd_T112 l0_3 x5_2).f4))) (fun _ h_ => h_.1))) (Kd.R_base ho23) hb); have n1_ := Aside0.mk (Kd.R_lower (Kd.R_new' ho23 (Kd.R_lt (by (with_reducible repeat (first | apply Kd.R_alloc | apply Kd.R_drewN | apply Kd.R_drew)); exact (Kd.R_mono (Kd.R_far (p := ⟨gb112, 4, none⟩) (Kd.R_far (p := ⟨gb112, 3, none⟩) (Kd.R_far (p := ⟨gb112, 2, none⟩) (Kd.R_far (p := ⟨gb112, 1, none⟩) (Kd.R_far (p := ⟨gb112, 0, none⟩) (Kd.R_types HO_3.out BK112.out (by decide)) (fun _ hk => hk.2) (.int .i64 ((rd_T112 l0_3 x5_2).f0))) (fun _ hk => hk.2) (.int .i64 ((rd_T112 l0_3 x5_2).f1))) (fun _ hk => hk.2) (.int .i64 ((rd_T112 l0_3 x5_2).f2))) (fun _ hk => hk.2) (.int .i64 ((rd_T112 l0_3 x5_2).f3))) (fun _ hk => hk.2) (.int .i64 ((rd_T112 l0_3 x5_2).f4))) (fun _ h_ => h_.1))))) (below_size (by repeat (first | (with_reducible first | exact HB.out | apply below_alloc | apply pw_below_drewN | apply below_drew1 | refine below_set ?_ GE101.out | refine below_set ?_ GE112.out) | exact HB.out)))); have n2_ := Aside0.mk (blk_below (g := gb101) (o := .cells #[.int .i64 a0_0, .int .i64 a0_1, .string a0_2, .slice (some ad111) l0_3.length c0_3] 34 (0, 0)) (by (with_reducible repeat (first | refine blk_drewN ?_ _ | refine blk_drew ?_ | refine blk_alloc ?_ _)); refine blk_far ?_ NB101_112.out _; (with_reducible repeat (first | refine blk_drewN ?_ _ | refine blk_drew ?_ | refine blk_alloc ?_ _)); refine blk_far ?_ NB101_112.out _; (with_reducible repeat (first | refine blk_drewN ?_ _ | refine blk_drew ?_ | refine blk_alloc ?_ _)); refine blk_far ?_ NB101_112.out _; (with_reducible repeat (first | refine blk_drewN ?_ _ | refine blk_drew ?_ | refine blk_alloc ?_ _)); refine blk_far ?_ NB101_112.out _; (with_reducible repeat (first | refine blk_drewN ?_ _ | refine blk_drew ?_ | refine blk_alloc ?_ _)); refine blk_far ?_ NB101_112.out _; (with_reducible repeat (first | refine blk_drewN ?_ _ | refine blk_drew ?_ | refine blk_alloc ?_ _)); exact BK101.out) hb); have n3_ := Aside0.mk (blk_below (g := gb112) (o := .cells #[.int .i64 ((rd_T112 l0_3 x5_2).f0), .int .i64 ((rd_T112 l0_3 x5_2).f1), .int .i64 ((rd_T112 l0_3 x5_2).f2), .int .i64 ((rd_T112 l0_3 x5_2).f3), .int .i64 ((rd_T112 l0_3 x5_2).f4)] 112 (0, 0)) (by (with_reducible repeat (first | refine blk_drewN ?_ _ | refine blk_drew ?_ | refine blk_alloc ?_ _)); refine blk_put (cs := #[.int .i64 ((rd_T112 l0_3 x5_2).f0), .int .i64 ((rd_T112 l0_3 x5_2).f1), .int .i64 ((rd_T112 l0_3 x5_2).f2), .int .i64 ((rd_T112 l0_3 x5_2).f3), .int .i64 0]) ?_ 4 _ rfl; (with_reducible repeat (first | refine blk_drewN ?_ _ | refine blk_drew ?_ | refine blk_alloc ?_ _)); refine blk_put (cs := #[.int .i64 ((rd_T112 l0_3 x5_2).f0), .int .i64 ((rd_T112 l0_3 x5_2).f1), .int .i64 ((rd_T112 l0_3 x5_2).f2), .int .i64 0, .int .i64 0]) ?_ 3 _ rfl; (with_reducible repeat (first | refine blk_drewN ?_ _ | refine blk_drew ?_ | refine blk_alloc ?_ _)); refine blk_put (cs := #[.int .i64 ((rd_T112 l0_3 x5_2).f0), .int .i64 ((rd_T112 l0_3 x5_2).f1), .int .i64 0, .int .i64 0, .int .i64 0]) ?_ 2 _ rfl; (with_reducible repeat (first | refine blk_drewN ?_ _ | refine blk_drew ?_ | refine blk_alloc ?_ _)); refine blk_put (cs := #[.int .i64 ((rd_T112 l0_3 x5_2).f0), .int .i64 0, .int .i64 0, .int .i64 0, .int .i64 0]) ?_ 1 _ rfl; (with_reducible repeat (first | refine blk_drewN ?_ _ | refine blk_drew ?_ | refine blk_alloc ?_ _)); refine blk_put (cs := #[.int .i64 0, .int .i64 0, .int .i64 0, .int .i64 0, .int .i64 0]) ?_ 0 _ rfl; (with_reducible repeat (first | refine blk_drewN ?_ _ | refine blk_drew ?_ | refine blk_alloc ?_ _)); exact BK112.out) hb); have n4_ := Aside0.mk (below_step (by repeat (first | (with_reducible first | exact HB.out | apply below_alloc | apply pw_below_drewN | apply below_drew1 | refine below_set ?_ GE101.out | refine below_set ?_ GE112.out) | exact HB.out)) hb); clear HO_3; clear BK101; clear BK112; clear HB; have HO_3 := n0_; have HO115 := n1_; have BK101 := n2_; have BK112 := n3_; have HB := n4_; clear n0_ n1_ n2_ n3_ n4_; clear hb ho23; obtain ⟨Ao25, co25, eo25⟩ := Kd.R_slice HO115.out; subst eo25) | ((with_reducible refine gate_builtin (b := .append) (xs := #[.tmp 48, .tmp 59]) rfl ?_); at_builtin; refine Kd.R_append_rows (Kd.int .i64) (w0 := w) w.heap.size rfl (.tmp 48) (.tmp 59) 46 3 (.int .i64 0) 8 rfl Try.underlying46 info3 rfl (by decide) (by omega) u3 x3_2 y113 _ _ _ (fun k_ => some k_ ≠ (.slice Ao25 y113.length co25 : Value).ownBlock) (fun _ => False) rfl rfl ?aO ?aR (fun _ _ h => h) (fun _ h => h.elim) ?aF ?aB ?aS ?aL ?_; (case aR => repeat (first | exact (Kd.R_reads' HO115.out).2.2 | (with_reducible refine Kd.C_alloc ?_ _) | (with_reducible refine Kd.C_drewN ?_ _) | (with_reducible refine Kd.C_drew ?_))); (case aB => exact (by repeat (first | (with_reducible first | exact HB.out | apply below_alloc | apply pw_below_drewN | apply below_drew1 | refine below_set ?_ GE101.out | refine below_set ?_ GE112.out) | exact HB.out))); (case aF => exact (fun k_ hk => Kd.fresh' (Kd.R_lt (by (with_reducible repeat (first | apply Kd.R_alloc | apply Kd.R_drewN | apply Kd.R_drew)); exact HO115.out)) k_ hk)); (case aO => exact (by (with_reducible repeat (first | apply Kd.R_alloc | apply Kd.R_drewN | apply Kd.R_drew)); exact Kd.R_mono HO_3.out (fun _ hk => hk.2))); (case aS => exact (below_size (by repeat (first | (with_reducible first | exact HB.out | apply below_alloc | apply pw_below_drewN | apply below_drew1 | refine below_set ?_ GE101.out | refine below_set ?_ GE112.out) | exact HB.out)))); (case aL => have := LMc17.out; omega); intro v117 w24 ho hb hg hat; rw [← Ny116.out] at ho; have n0_ := Aside0.mk (blk_grown (g := gb101) (o := .cells #[.int .i64 a0_0, .int .i64 a0_1, .string a0_2, .slice (some ad111) l0_3.length c0_3] 34 (0, 0)) (by (with_reducible repeat (first | refine blk_drewN ?_ _ | refine blk_drew ?_ | refine blk_alloc ?_ _)); exact BK101.out) hg (Kd.R_ne HO_3.out BK101.out (by decide))); have n1_ := Aside0.mk (blk_grown (g := gb112) (o := .cells #[.int .i64 ((rd_T112 l0_3 x5_2).f0), .int .i64 ((rd_T112 l0_3 x5_2).f1), .int .i64 ((rd_T112 l0_3 x5_2).f2), .int .i64 ((rd_T112 l0_3 x5_2).f3), .int .i64 ((rd_T112 l0_3 x5_2).f4)] 112 (0, 0)) (by (with_reducible repeat (first | refine blk_drewN ?_ _ | refine blk_drew ?_ | refine blk_alloc ?_ _)); exact BK112.out) hg (Kd.R_ne HO_3.out BK112.out (by decide))); have n2_ := Aside0.mk (Kd.R_after (ok := (fun _ => True)) (by (with_reducible repeat (first | apply Kd.R_alloc | apply Kd.R_drewN | apply Kd.R_drew)); exact HO115.out) hg hat); have n3_ := Aside0.mk (hb); have n4_ := Aside0.mk (ho); clear BK101; clear BK112; clear HO115; clear HB; clear HO_3; have BK101 := n0_; have BK112 := n1_; have HO115 := n2_; have HB := n3_; have HO118 := n4_; clear n0_ n1_ n2_ n3_ n4_; clear ho hb hg hat))
                    go_roundg k2
                    case measure => have := HK1.out; have := HK2.out; omega
                    case rel => exact ⟨(y116), (wrap64 (x5_2 + 1)), (by first | rfl | (simp; done) | (simp [*]; done)), H', ⟨by have := HK1.out; have := HK2.out; omega⟩, ⟨by (with_reducible repeat (first | apply Kd.R_alloc | apply Kd.R_drewN | apply Kd.R_drew)); exact Kd.R_mono HO118.out (fun _ hk => trivial)⟩, ⟨by (with_reducible repeat (first | refine blk_drewN ?_ _ | refine blk_drew ?_ | refine blk_alloc ?_ _)); exact BK101.out⟩, ⟨by repeat (first | (with_reducible first | exact HB.out | apply below_alloc | apply pw_below_drewN | apply below_drew1 | refine below_set ?_ GE101.out | refine below_set ?_ GE112.out) | exact HB.out)⟩⟩
                  · rw [if_neg c17] at H
                    exact absurd H (by simp)
                · rw [if_neg c16] at H
                  exact absurd H (by simp)
              · rw [if_neg c15] at H
                have c15b0 : decide (x5_2 < (l0_3.length : Int)) = false := decide_eq_false c15
                clear c15
                obtain rfl := Option.some.inj H
                have hcz26_0 : wr.cell? ⟨gb101, 0, none⟩ = some (.int .i64 a0_0) := (blk_cell BK101.out 0).trans rfl
                have hcz26_1 : wr.cell? ⟨gb101, 1, none⟩ = some (.int .i64 a0_1) := (blk_cell BK101.out 1).trans rfl
                have hcz26_2 : wr.cell? ⟨gb101, 2, none⟩ = some (.string a0_2) := (blk_cell BK101.out 2).trans rfl
                have hcz26_3 : wr.cell? ⟨gb101, 3, none⟩ = some (.slice A0_3 l0_3.length c0_3) := (blk_cell BK101.out 3).trans rfl
                have hfz26_0 := blk_frozen BK101.out 0
                have hfz26_1 := blk_frozen BK101.out 1
                have hfz26_2 := blk_frozen BK101.out 2
                have hfz26_3 := blk_frozen BK101.out 3
                go_wp2
                go_ret
                exact ⟨_, by first | rfl | (simp [errW_none, errW_some] <;> rfl) | (simp [*, errW_none, errW_some] <;> rfl), by (with_reducible repeat (first | apply Kd.R_alloc | apply Kd.R_drewN | apply Kd.R_drew)); exact HO_3.out, by repeat (first | (with_reducible first | exact HB.out | apply below_alloc | apply pw_below_drewN | apply below_drew1 | refine below_set ?_ GE101.out) | exact HB.out)⟩
        · rw [if_neg c12] at H
          exact absurd H (by simp)

end Go.Proofs.Ytphmnkcfjgallaa.Q
