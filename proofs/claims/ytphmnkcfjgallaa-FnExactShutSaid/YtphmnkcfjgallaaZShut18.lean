/- Parts of the proof: what functions of the program and of the reference answer.
   No condition. -/
import Derived.Test.YtphmnkcfjgallaaZShut1
import Derived.Test.YtphmnkcfjgallaaZShut17
import Derived.Test.YtphmnkcfjgallaaZShut16
namespace Go.Proofs.Ytphmnkcfjgallaa.Q
open Go.RowKit Go.Proofs.YtphmnkcfjgallaaW.PrintWords Go.Proofs.YtphmnkcfjgallaaW.PrintLast Go.Proofs.YtphmnkcfjgallaaW.PrintMore
attribute [local go_sem] max2_int min2_int max_two min_two max_three min_three max_four min_four   -- for this text's walks alone
set_option linter.unusedVariables false
set_option linter.unusedSimpArgs false
theorem curSum_step {l : List Lin} {i : Int} (c : Int) (h0 : 0 ≤ i) (h1 : i < (l.length : Int)) : curSum (l.take (i + 1).toNat) c = curSum (l.take i.toNat) c + if (rd_T112 l i).f2 = c then (rd_T112 l i).f3 else 0 := by rw [take_snoc h0 h1, curSum_snoc]
theorem dimSum_step {l : List Lin} {i : Int} (c : Int) (h0 : 0 ≤ i) (h1 : i < (l.length : Int)) : dimSum (l.take (i + 1).toNat) c = dimSum (l.take i.toNat) c + if (rd_T112 l i).f1 = c then (rd_T112 l i).f4 else 0 := by rw [take_snoc h0 h1, dimSum_snoc]
theorem sums_bounds {l : List Lin} (h : ∀ x ∈ l, (-100000000000 ≤ x.f3 ∧ x.f3 ≤ 100000000000) ∧ (-100000000000 ≤ x.f4 ∧ x.f4 ≤ 100000000000)) (hl : l.length ≤ 60) (n : Nat) (c d : Int) : (-6000000000000 ≤ curSum (l.take n) c ∧ curSum (l.take n) c ≤ 6000000000000) ∧ (-6000000000000 ≤ dimSum (l.take n) d ∧ dimSum (l.take n) d ≤ 6000000000000) := by
  have hs : smallLines (l.take n) := fun y hy => h y (List.mem_of_mem_take hy)
  have h1 := curSum_small hs c
  have h2 := dimSum_small hs d
  have h3 : ((l.take n).length : Int) ≤ 60 := by rw [List.length_take]; omega
  omega
theorem frame_parts {chart : List Acc} {dims curs : Int} (h : frameB chart dims curs = true) : chartOk chart = true ∧ (1 ≤ dims ∧ dims ≤ 20) ∧ (1 ≤ curs ∧ curs ≤ 20) := by
  unfold frameB at h
  rw [Bool.and_eq_true, Bool.and_eq_true] at h
  exact ⟨h.1, inB_true.1 h.2.1, inB_true.1 h.2.2⟩
theorem and_l {a b c : Bool} (h : a = true) (k : c = b) : c = (a && b) := by rw [h, Bool.true_and]; exact k
theorem and_r {a b : Bool} (h : a = false) : false = (a && b) := by rw [h]; rfl
set_option maxHeartbeats 16000000 in
set_option maxRecDepth 100000 in
theorem spec_EntryOk.to (A0 : Option Addr) (c0 : Nat) (l0 : List Acc) (dims curs : Int) (e : Ent) (A3 : Option Addr) (c3 : Nat) (w : World) (hr0 : Kd.C k131 w A0 l0.length l0) (hs : ∀ x ∈ l0, x.f0.size ≤ maxLen) (hr3 : Kd.C k112 w A3 e.f3.length e.f3) (hm : e.f2.size ≤ maxLen) :
    Calls Try.prog 91 #[.agg #[.slice A0 l0.length c0, .int .i64 dims, .int .i64 curs], .agg #[.int .i64 e.f0, .int .i64 e.f1, .string e.f2, .slice A3 e.f3.length c3]] w fun x w' => x = .returned (.bool (frameB l0 dims curs && entryB l0 dims curs e)) ∧ Below w.heap.size w w' := by
  have hl0 := hr0.2.1
  have hlen := hr3.2.1
  have H0 := Aside0.mk hr0
  have H3 := Aside0.mk hr3
  have HS := Aside0.mk hs
  have HM := Aside0.mk hm
  have H00 := Aside0.mk (Kd.C_below hr0 (below_two w (.cells #[.slice A0 l0.length c0, .int .i64 dims, .int .i64 curs] 26) (.cells #[.int .i64 e.f0, .int .i64 e.f1, .string e.f2, .slice A3 e.f3.length c3] 34)))
  clear hr0 hr3 hs hm
  go_enter Try.func91, Try.ntmps91
  go_wp2_with fail
  refine (spec_FrameOk.to A0 c0 l0 dims curs _ H00.out HS.out).mono ?_
  rintro x w1 ⟨rfl, hb⟩
  have HB := Aside0.mk (below_into (w := w) hb (below_two _ _ _))
  have f0 : w1.cell? ⟨w.heap.size, 0, none⟩ = some (.slice A0 l0.length c0) := pw_cell_below hb (by go_simp)
  have f1 : w1.cell? ⟨w.heap.size, 1, none⟩ = some (.int .i64 dims) := pw_cell_below hb (by go_simp)
  have f2 : w1.cell? ⟨w.heap.size, 2, none⟩ = some (.int .i64 curs) := pw_cell_below hb (by go_simp)
  have y0 : w1.cell? ⟨w.heap.size + 1, 0, none⟩ = some (.int .i64 e.f0) := pw_cell_below hb (by go_simp)
  have y1 : w1.cell? ⟨w.heap.size + 1, 1, none⟩ = some (.int .i64 e.f1) := pw_cell_below hb (by go_simp)
  have y2 : w1.cell? ⟨w.heap.size + 1, 2, none⟩ = some (.string e.f2) := pw_cell_below hb (by go_simp)
  have y3 : w1.cell? ⟨w.heap.size + 1, 3, none⟩ = some (.slice A3 e.f3.length c3) := pw_cell_below hb (by go_simp)
  clear hb H00
  cases hfr : frameB l0 dims curs with
  | false =>
    have HF := Aside0.mk hfr
    clear hfr
    go_wp2_with fail
    go_ret
    exact ⟨ret_bool (and_r HF.out), HB.out⟩
  | true =>
    obtain ⟨hch, hd, hc⟩ := frame_parts hfr
    have HCH := Aside0.mk hch
    have HD := Aside0.mk hd
    have HC := Aside0.mk hc
    have HF := Aside0.mk hfr
    clear hfr hch hd hc
    go_wp2_with fail
    refine (spec_l2Day.to _ _).mono ?_
    rintro x w' ⟨rfl, rfl⟩
    cases h1 : inB e.f0 0 40000 with
    | false =>
      have HN := Aside0.mk (entryB_not (fun q => inB_false.1 h1 q.1) : false = entryB l0 dims curs e)
      clear h1
      go_wp2_with fail
      go_ret
      exact ⟨ret_bool (and_l HF.out HN.out), HB.out⟩
    | true =>
      have P1 := Aside0.mk (inB_true.1 h1)
      clear h1
      go_wp2_with fail
      refine (spec_l1In.to _ _ _ _).mono ?_
      rintro x w' ⟨rfl, rfl⟩
      cases h2 : inB e.f1 0 1000 with
      | false =>
        have HN := Aside0.mk (entryB_not (fun q => inB_false.1 h2 q.2.1) : false = entryB l0 dims curs e)
        clear h2
        go_wp2_with fail
        go_ret
        exact ⟨ret_bool (and_l HF.out HN.out), HB.out⟩
      | true =>
        have P2 := Aside0.mk (inB_true.1 h2)
        clear h2
        go_wp2_with fail
        refine (spec_l5TextOk.to _ _ HM.out).mono ?_
        rintro x w' ⟨rfl, rfl⟩
        cases h3 : textB e.f2 with
        | false =>
          have HN := Aside0.mk (entryB_not (fun q => by have := textB_iff.2 ⟨q.2.2.2.2.1, q.2.2.1⟩; rw [h3] at this; cases this) : false = entryB l0 dims curs e)
          clear h3
          go_wp2_with fail
          go_ret
          exact ⟨ret_bool (and_l HF.out HN.out), HB.out⟩
        | true =>
          have P3 := Aside0.mk (textB_iff.1 h3)
          clear h3
          go_wp2_with fail
          refine (spec_l1In.to _ _ _ _).mono ?_
          rintro x w' ⟨rfl, rfl⟩
          cases h4 : inB (e.f3.length : Int) 2 60 with
          | false =>
            have HN := Aside0.mk (entryB_not (fun q => inB_false.1 h4 (by have := q.2.2.2.1; omega)) : false = entryB l0 dims curs e)
            clear h4
            go_wp2_with fail
            go_ret
            exact ⟨ret_bool (and_l HF.out HN.out), HB.out⟩
          | true =>
            obtain ⟨hn0, hn1⟩ := inB_true.1 h4
            clear h4
            have HB1 := Aside0.mk (Below.refl w'.heap.size w')
            have F0 := Aside0.mk f0
            have F1 := Aside0.mk f1
            have F2 := Aside0.mk f2
            have Y3 := Aside0.mk y3
            go_wp2_with fail
            clear f0 f1 f2 y0 y1 y2 y3
            go_loopw [5] (fun v wr => ∃ i : Int, 0 ≤ i ∧ i ≤ (e.f3.length : Int) ∧ v = .int .i64 i ∧ Aside0 (Below w'.heap.size w' wr) ∧ Aside0 (∀ x ∈ e.f3.take i.toNat, lineP l0 dims curs x)) (fun v _ => (e.f3.length - (intOf v).toNat))
            case atStart => exact ⟨0, by omega, by omega, rfl, HB1, ⟨fun x hx => by cases hx⟩⟩
            case round =>
              clear HB1
              obtain ⟨i, hi0, hi1, rfl, HB1, HO⟩ := hrel
              have f0 := pw_cell_below HB1.out F0.out
              have f1 := pw_cell_below HB1.out F1.out
              have f2 := pw_cell_below HB1.out F2.out
              have y3 := pw_cell_below HB1.out Y3.out
              have HBW := Aside0.mk (below_into HB1.out HB.out)
              by_cases hlt : i < (e.f3.length : Int)
              · obtain ⟨ad, e0, x0, x1, x2, x3, x4⟩ := at_T112 (Kd.C_below H3.out HBW.out) i hi0 hlt
                cases e0
                have HC0 := Aside0.mk (Kd.C_below H0.out HBW.out)
                go_wp2_with fail
                go_region_held3 (fun w' => w'.cell? ⟨w.heap.size, 0, none⟩ = some (.slice A0 l0.length c0) ∧ w'.cell? ⟨w.heap.size, 1, none⟩ = some (.int .i64 dims) ∧ w'.cell? ⟨w.heap.size, 2, none⟩ = some (.int .i64 curs) ∧ w'.cell? ⟨w.heap.size + 1, 3, none⟩ = some (.slice (some ad) e.f3.length c3) ∧ w'.cell? (ad.add (i.toNat * 5)) = some (.int .i64 (rd_T112 e.f3 i).f0) ∧ w'.cell? ⟨(ad.add (i.toNat * 5)).block, (ad.add (i.toNat * 5)).off + 1, none⟩ = some (.int .i64 (rd_T112 e.f3 i).f1) ∧ w'.cell? ⟨(ad.add (i.toNat * 5)).block, (ad.add (i.toNat * 5)).off + 2, none⟩ = some (.int .i64 (rd_T112 e.f3 i).f2) ∧ w'.cell? ⟨(ad.add (i.toNat * 5)).block, (ad.add (i.toNat * 5)).off + 3, none⟩ = some (.int .i64 (rd_T112 e.f3 i).f3) ∧ w'.cell? ⟨(ad.add (i.toNat * 5)).block, (ad.add (i.toNat * 5)).off + 4, none⟩ = some (.int .i64 (rd_T112 e.f3 i).f4)) ((first | go_keep | exact ⟨pw_cell_below hb (by assumption), pw_cell_below hb (by assumption), pw_cell_below hb (by assumption), pw_cell_below hb (by assumption), pw_cell_below hb (by assumption), pw_cell_below hb (by assumption), pw_cell_below hb (by assumption), pw_cell_below hb (by assumption), pw_cell_below hb (by assumption)⟩))
                  ((go_at_call 136; refine (spec_l5LineOk.to A0 c0 l0 dims curs (rd_T112 e.f3 i) _ (by repeat (first | exact HC0.out | refine Kd.C_drew ?_)) HS.out HCH.out HD.out HC.out).mono ?_; rintro x w2 ⟨rfl, hb⟩))
                have HB2 := Aside0.mk (below_into (w := w') hb (below_drew HB1.out))
                clear hb
                cases hlb : lineB l0 dims curs (rd_T112 e.f3 i) with
                | false =>
                  have HN := Aside0.mk (entryB_not (fun q => by have := lineB_true.2 (all_at (z := z112) (p := lineP l0 dims curs) hi0 hlt q.2.2.2.2.2.1); rw [show lineB l0 dims curs (e.f3.getD i.toNat z112) = false from hlb] at this; cases this) : false = entryB l0 dims curs e)
                  have HBF := Aside0.mk (below_into HB2.out HB.out)
                  clear hlb HB2
                  go_wp2_with fail
                  go_ret
                  exact ⟨ret_bool (and_l HF.out HN.out), HBF.out⟩
                | true =>
                  have HO2 := Aside0.mk (all_step (z := z112) (p := lineP l0 dims curs) hi0 hlt HO.out (lineB_true.1 hlb))
                  clear hlb
                  go_wp2_with fail
                  go_roundw
                  case rel => exact ⟨i + 1, by omega, by omega, rfl, HB2, HO2⟩
                  case measure => simp [intOf]; omega
              · have HOK := Aside0.mk (all_end (by omega) HO.out : ∀ x ∈ e.f3, lineP l0 dims curs x)
                have HSB := Aside0.mk (fun n c d => sums_bounds (l := e.f3) (fun x hx => ⟨(HOK.out x hx).2.2.2.1, (HOK.out x hx).2.2.2.2.1⟩) (by omega) n c d)
                have HAM := Aside0.mk (fun (k : Int) (h0 : 0 ≤ k) (h1 : k < (e.f3.length : Int)) => (all_at (z := z112) (p := fun x => (-100000000000 ≤ x.f3 ∧ x.f3 ≤ 100000000000) ∧ (-100000000000 ≤ x.f4 ∧ x.f4 ≤ 100000000000)) h0 h1 (fun x hx => ⟨(HOK.out x hx).2.2.2.1, (HOK.out x hx).2.2.2.2.1⟩)))
                clear HO
                go_wp2_with fail
                clear f0 f1 f2 y3
                go_loopw [6] (fun v wr => ∃ i : Int, 0 ≤ i ∧ i ≤ (e.f3.length : Int) ∧ v = .int .i64 i ∧ Aside0 (Below w'.heap.size w' wr) ∧ Aside0 (∀ x ∈ e.f3.take i.toNat, curSum e.f3 x.f2 = 0 ∧ dimSum e.f3 x.f1 = 0)) (fun v _ => (e.f3.length - (intOf v).toNat))
                case atStart => exact ⟨0, by omega, by omega, rfl, HB1, ⟨fun x hx => by cases hx⟩⟩
                case round =>
                  clear HB1 HBW
                  obtain ⟨j, hj0, hj1, rfl, HB1, HZ⟩ := hrel
                  have y3 := pw_cell_below HB1.out Y3.out
                  by_cases hlt2 : j < (e.f3.length : Int)
                  · go_wp2_with fail
                    clear y3
                    go_loopw [7, 8, 9] (fun vc vd vk wr => ∃ k : Int, 0 ≤ k ∧ k ≤ (e.f3.length : Int) ∧ vk = .int .i64 k ∧ vc = .int .i64 (curSum (e.f3.take k.toNat) (rd_T112 e.f3 j).f2) ∧ vd = .int .i64 (dimSum (e.f3.take k.toNat) (rd_T112 e.f3 j).f1) ∧ Aside0 (Below w'.heap.size w' wr)) (fun _ _ vk _ => (e.f3.length - (intOf vk).toNat))
                    case atStart => exact ⟨0, by omega, by omega, rfl, rfl, rfl, HB1⟩
                    case round =>
                      clear HB1
                      obtain ⟨k, hk0, hk1, rfl, rfl, rfl, HB1⟩ := hrel
                      have y3 := pw_cell_below HB1.out Y3.out
                      have HBW := Aside0.mk (below_into HB1.out HB.out)
                      by_cases hlt3 : k < (e.f3.length : Int)
                      · obtain ⟨ad, e0, x0, x1, x2, x3, x4⟩ := at_T112 (Kd.C_below H3.out HBW.out) k hk0 hlt3
                        obtain ⟨bd, e1, z0, z1, z2, z3, z4⟩ := at_T112 (Kd.C_below H3.out HBW.out) j hj0 hlt2
                        cases e0
                        obtain rfl : ad = bd := by injection e1
                        have HC1 := Aside0.mk (curSum_step (l := e.f3) (rd_T112 e.f3 j).f2 hk0 hlt3)
                        have HD1 := Aside0.mk (dimSum_step (l := e.f3) (rd_T112 e.f3 j).f1 hk0 hlt3)
                        obtain ⟨⟨b0, b1⟩, b2, b3⟩ := HSB.out k.toNat (rd_T112 e.f3 j).f2 (rd_T112 e.f3 j).f1
                        obtain ⟨⟨m0, m1⟩, m2, m3⟩ := show (-100000000000 ≤ (rd_T112 e.f3 k).f3 ∧ (rd_T112 e.f3 k).f3 ≤ 100000000000) ∧ (-100000000000 ≤ (rd_T112 e.f3 k).f4 ∧ (rd_T112 e.f3 k).f4 ≤ 100000000000) from HAM.out k hk0 hlt3
                        generalize curSum (e.f3.take k.toNat) (rd_T112 e.f3 j).f2 = cs at *
                        generalize dimSum (e.f3.take k.toNat) (rd_T112 e.f3 j).f1 = ds at *
                        cases hq : ((rd_T112 e.f3 k).f2 == (rd_T112 e.f3 j).f2) with
                        | true =>
                          cases hr : ((rd_T112 e.f3 k).f1 == (rd_T112 e.f3 j).f1) with
                          | true =>
                            go_wp2_with fail
                            go_quiet (fail)
                            go_wp2_with fail
                            go_quiet (fail)
                            go_wp2_with fail
                            go_roundw
                            case rel => exact ⟨k + 1, by omega, by omega, rfl, by rw [HC1.out, if_pos (beq_iff_eq.1 hq)], by rw [HD1.out, if_pos (beq_iff_eq.1 hr)], ⟨pw_below_drewN HB1.out _⟩⟩
                            case measure => simp [intOf]; omega
                          | false =>
                            go_wp2_with fail
                            go_quiet (fail)
                            go_wp2_with fail
                            go_quiet (fail)
                            go_wp2_with fail
                            go_roundw
                            case rel => exact ⟨k + 1, by omega, by omega, rfl, by rw [HC1.out, if_pos (beq_iff_eq.1 hq)], by rw [HD1.out, if_neg (beq_eq_false_iff_ne.1 hr), Int.add_zero], ⟨pw_below_drewN HB1.out _⟩⟩
                            case measure => simp [intOf]; omega
                        | false =>
                          cases hr : ((rd_T112 e.f3 k).f1 == (rd_T112 e.f3 j).f1) with
                          | true =>
                            go_wp2_with fail
                            go_quiet (fail)
                            go_wp2_with fail
                            go_quiet (fail)
                            go_wp2_with fail
                            go_roundw
                            case rel => exact ⟨k + 1, by omega, by omega, rfl, by rw [HC1.out, if_neg (beq_eq_false_iff_ne.1 hq), Int.add_zero], by rw [HD1.out, if_pos (beq_iff_eq.1 hr)], ⟨pw_below_drewN HB1.out _⟩⟩
                            case measure => simp [intOf]; omega
                          | false =>
                            go_wp2_with fail
                            go_quiet (fail)
                            go_wp2_with fail
                            go_quiet (fail)
                            go_wp2_with fail
                            go_roundw
                            case rel => exact ⟨k + 1, by omega, by omega, rfl, by rw [HC1.out, if_neg (beq_eq_false_iff_ne.1 hq), Int.add_zero], by rw [HD1.out, if_neg (beq_eq_false_iff_ne.1 hr), Int.add_zero], ⟨pw_below_drewN HB1.out _⟩⟩
                            case measure => simp [intOf]; omega
                      · have HKE : k = (e.f3.length : Int) := by omega
                        subst HKE
                        have hcd := Aside0.mk (show curSum (e.f3.take (e.f3.length : Int).toNat) (rd_T112 e.f3 j).f2 = curSum e.f3 (rd_T112 e.f3 j).f2 ∧ dimSum (e.f3.take (e.f3.length : Int).toNat) (rd_T112 e.f3 j).f1 = dimSum e.f3 (rd_T112 e.f3 j).f1 by rw [List.take_of_length_le (by omega)]; exact ⟨rfl, rfl⟩)
                        generalize curSum (e.f3.take (e.f3.length : Int).toNat) (rd_T112 e.f3 j).f2 = cs at *
                        generalize dimSum (e.f3.take (e.f3.length : Int).toNat) (rd_T112 e.f3 j).f1 = ds at *
                        by_cases z1 : cs = 0
                        · have z1b : (cs != 0) = false := by rw [z1]; rfl
                          by_cases z2 : ds = 0
                          · have z2b : (ds != 0) = false := by rw [z2]; rfl
                            have HZ2 := Aside0.mk (all_step (z := z112) (p := fun x => curSum e.f3 x.f2 = 0 ∧ dimSum e.f3 x.f1 = 0) hj0 hlt2 HZ.out ⟨hcd.out.1 ▸ z1, hcd.out.2 ▸ z2⟩)
                            clear hcd
                            go_wp2_with fail
                            go_roundw
                            case rel => exact ⟨j + 1, by omega, by omega, rfl, HB1, HZ2⟩
                            case measure => simp [intOf]; omega
                          · have z2b : (ds != 0) = true := bne_iff_ne.2 z2
                            have HN := Aside0.mk (entryB_not (fun q => z2 (hcd.out.2.trans (all_at (z := z112) (p := fun x => curSum e.f3 x.f2 = 0 ∧ dimSum e.f3 x.f1 = 0) hj0 hlt2 q.2.2.2.2.2.2).2)) : false = entryB l0 dims curs e)
                            clear hcd
                            go_wp2_with fail
                            go_ret
                            exact ⟨ret_bool (and_l HF.out HN.out), HBW.out⟩
                        · have z1b : (cs != 0) = true := bne_iff_ne.2 z1
                          have HN := Aside0.mk (entryB_not (fun q => z1 (hcd.out.1.trans (all_at (z := z112) (p := fun x => curSum e.f3 x.f2 = 0 ∧ dimSum e.f3 x.f1 = 0) hj0 hlt2 q.2.2.2.2.2.2).1)) : false = entryB l0 dims curs e)
                          clear hcd
                          go_wp2_with fail
                          go_ret
                          exact ⟨ret_bool (and_l HF.out HN.out), HBW.out⟩
                  · have HBW := Aside0.mk (below_into HB1.out HB.out)
                    have HE := Aside0.mk (show entryP l0 dims curs e from ⟨P1.out, P2.out, P3.out.2, ⟨by omega, by omega⟩, P3.out.1, HOK.out, all_end (by omega) HZ.out⟩)
                    go_wp2_with fail
                    go_ret
                    exact ⟨ret_bool (and_l HF.out (entryB_true.2 HE.out).symm), HBW.out⟩
end Go.Proofs.Ytphmnkcfjgallaa.Q
namespace Go.Proofs.Ytphmnkcfjgallaa.Q
open Go.RowKit Go.Proofs.YtphmnkcfjgallaaW.PrintWords Go.Proofs.YtphmnkcfjgallaaW.PrintLast Go.Proofs.YtphmnkcfjgallaaW.PrintMore
attribute [local go_sem] max2_int min2_int max_two min_two max_three min_three max_four min_four   -- for this text's walks alone
set_option linter.unusedVariables false
set_option linter.unusedSimpArgs false
set_option maxRecDepth 100000 in
theorem impl_ChartOk.to (A0 : Option Addr) (c0 : Nat) (l0 : List Acc) (w : World) (hr0 : Kd.C k131 w A0 l0.length l0) (hs : ∀ x ∈ l0, x.f0.size ≤ maxLen) :
    Calls Try.prog 138 #[.slice A0 l0.length c0] w fun e w' => e = .returned (.bool (chartOk l0)) ∧ Below w.heap.size w w' := by
  go_enter Try.func138, Try.ntmps138
  go_wp2_with fail
  refine (impl_depths.to A0 c0 l0 _ hr0 hs).mono ?_
  rintro e w1 ⟨v, rfl, hb⟩
  go_wp2_with fail
  go_ret
  exact ⟨rfl, hb⟩
end Go.Proofs.Ytphmnkcfjgallaa.Q
namespace Go.Proofs.Ytphmnkcfjgallaa.Q
open Go.RowKit Go.Proofs.YtphmnkcfjgallaaW.PrintWords Go.Proofs.YtphmnkcfjgallaaW.PrintLast Go.Proofs.YtphmnkcfjgallaaW.PrintMore
attribute [local go_sem] max2_int min2_int max_two min_two max_three min_three max_four min_four   -- for this text's walks alone
set_option linter.unusedVariables false
set_option linter.unusedSimpArgs false
set_option maxHeartbeats 4000000 in
set_option maxRecDepth 100000 in
theorem impl_FrameOk.to (A0 : Option Addr) (c0 : Nat) (l0 : List Acc) (dims curs : Int) (w : World) (hr0 : Kd.C k131 w A0 l0.length l0) (hs : ∀ x ∈ l0, x.f0.size ≤ maxLen) :
    Calls Try.prog 93 #[.agg #[.slice A0 l0.length c0, .int .i64 dims, .int .i64 curs]] w fun e w' => e = .returned (.bool (frameB l0 dims curs)) ∧ Below w.heap.size w w' := by
  have H0 := Aside0.mk hr0
  clear hr0
  unfold frameB
  go_enter Try.func93, Try.ntmps93
  go_wp2_with fail
  refine (impl_between.to dims _ _ _).mono ?_
  rintro e w5 ⟨rfl, rfl⟩
  cases hinB : inB dims 1 20 with
  | false =>
    go_wp2_with fail
    go_ret
    exact ⟨ret_bool (by simp [hinB]), below_alloc (Below.refl _ _) _⟩
  | true =>
    go_wp2_with fail
    refine (impl_between.to curs _ _ _).mono ?_
    rintro e w6 ⟨rfl, rfl⟩
    cases hinC : inB curs 1 20 with
    | false =>
      go_wp2_with fail
      go_ret
      exact ⟨ret_bool (by simp [hinB, hinC]), below_alloc (Below.refl _ _) _⟩
    | true =>
      go_wp2_with fail
      refine (impl_ChartOk.to A0 c0 l0 _ (Kd.C_below H0.out (below_alloc (Below.refl _ _) _)) hs).mono ?_
      rintro e w1 ⟨rfl, hb⟩
      have HB := Aside0.mk (below_into (w := w) hb (below_alloc (Below.refl _ _) _))
      have s0 : w1.cell? ⟨w.heap.size, 0, none⟩ = some (.slice A0 l0.length c0) := pw_cell_below hb (by go_simp)
      have s1 : w1.cell? ⟨w.heap.size, 1, none⟩ = some (.int .i64 dims) := pw_cell_below hb (by go_simp)
      have s2 : w1.cell? ⟨w.heap.size, 2, none⟩ = some (.int .i64 curs) := pw_cell_below hb (by go_simp)
      clear hb
      cases hch : chartOk l0 with
      | false =>
        go_wp2_with fail
        go_ret
        exact ⟨ret_bool (by simp [hinB, hinC, hch]), HB.out⟩
      | true =>
        go_wp2_with fail
        go_ret
        exact ⟨ret_bool (by simp [hinB, hinC, hch]), HB.out⟩
end Go.Proofs.Ytphmnkcfjgallaa.Q
namespace Go.Proofs.Ytphmnkcfjgallaa.Q
open Go.RowKit Go.Proofs.YtphmnkcfjgallaaW.PrintWords Go.Proofs.YtphmnkcfjgallaaW.PrintLast Go.Proofs.YtphmnkcfjgallaaW.PrintMore
attribute [local go_sem] max2_int min2_int max_two min_two max_three min_three max_four min_four   -- for this text's walks alone
set_option linter.unusedVariables false
set_option linter.unusedSimpArgs false
def linkStep (s : Int × Bool) (x : Int) : Int × Bool := if -549755813888 ≤ x ∧ x ≤ 549755813887 then ((s.1 * 1000003 + x + 549755813888) % 1099511627791, s.2) else (s.1, true)
def linkAll (s : Int × Bool) (xs : List Int) : Int × Bool := xs.foldl linkStep s
def HeadIn (s : Int × Bool) : Prop := 0 ≤ s.1 ∧ s.1 < 1099511627791
theorem linkStep_in {s : Int × Bool} (h : HeadIn s) (x : Int) : HeadIn (linkStep s x) := by
  unfold linkStep HeadIn at *
  split
  · exact ⟨Int.emod_nonneg _ (by omega), Int.emod_lt_of_pos _ (by omega)⟩
  · exact h
theorem linkAll_in {s : Int × Bool} (h : HeadIn s) (xs : List Int) : HeadIn (linkAll s xs) := by
  induction xs generalizing s with
  | nil => exact h
  | cons x xs ih => exact ih (linkStep_in h x)
theorem linkAll_append (s : Int × Bool) (xs ys : List Int) : linkAll s (xs ++ ys) = linkAll (linkAll s xs) ys := List.foldl_append
theorem linkAll_cons (s : Int × Bool) (x : Int) (xs : List Int) : linkAll s (x :: xs) = linkAll (linkStep s x) xs := rfl
def ChainAt (w : World) (g : Nat) (s : Int × Bool) : Prop := w.heap[g]? = some (.cells #[.int .i64 s.1, .bool s.2] 118 (0, 0))
structure LinkPost (w0 w : World) (g : Nat) (s : Int × Bool) (w' : World) : Prop where
  at_ : ChainAt w' g s
  bel : Below w0.heap.size w0 w'
  keep : KeepBut w w' g none
theorem LinkPost.refl {w0 w : World} {g : Nat} {s : Int × Bool} (h : ChainAt w g s) (hB : Below w0.heap.size w0 w) : LinkPost w0 w g s w := ⟨h, hB, KeepBut.refl w g none⟩
theorem LinkPost.trans {w0 w w1 w2 : World} {g : Nat} {s t : Int × Bool} (h : LinkPost w0 w g s w1) (h2 : LinkPost w0 w1 g t w2) : LinkPost w0 w g t w2 := ⟨h2.at_, h2.bel, KeepBut.trans h.keep h2.keep (.inl rfl)⟩
set_option maxHeartbeats 8000000 in
set_option maxRecDepth 100000 in
theorem chain_link_calls (g : Nat) (s : Int × Bool) (x : Int) (w0 w : World) (hc : ChainAt w g s) (hs : HeadIn s) (hge : w0.heap.size ≤ g) (hB : Below w0.heap.size w0 w) :
    Calls Try.prog 86 #[.pointer (some ⟨g, 0, none⟩), .int .i64 x] w fun e w' => e = .returned (.tuple #[]) ∧ LinkPost w0 w g (linkStep s x) w' := by
  obtain ⟨h0, h1⟩ := hs
  have HC := Aside0.mk hc
  have HB := Aside0.mk hB
  unfold ChainAt at hc
  have c0 : w.cell? ⟨g, 0, none⟩ = some (.int .i64 s.1) := blk_cell hc 0
  have c1 : w.cell? ⟨g, 1, none⟩ = some (.bool s.2) := blk_cell hc 1
  have f0 := blk_frozen hc 0
  have f1 := blk_frozen hc 1
  clear hc hB
  by_cases hx : -549755813888 ≤ x ∧ x ≤ 549755813887
  · have hb := inB_of hx
    have hst : linkStep s x = ((s.1 * 1000003 + x + 549755813888) % 1099511627791, s.2) := if_pos hx
    have htm : (s.1 * 1000003 + x + 549755813888).tmod 1099511627791 = (s.1 * 1000003 + x + 549755813888) % 1099511627791 := Int.tmod_eq_emod_of_nonneg (by omega)
    have HST := Aside0.mk hst
    have HTM := Aside0.mk htm
    clear hst htm
    obtain ⟨hx0, hx1⟩ := hx
    go_enter Try.func86, Try.ntmps86
    go_wp2_with fail
    refine (impl_between.to _ _ _ _).mono ?_
    rintro e w' ⟨rfl, rfl⟩
    rw [hb]
    go_wp2_with fail
    go_end0
    refine ⟨rfl, ?_⟩
    rw [HST.out]
    exact ⟨blk_set HC.out 0 _, below_set HB.out hge, KeepBut.set_ (KeepBut.refl _ _ _) _ _⟩
  · have hb := inB_not hx
    have hst : linkStep s x = (s.1, true) := if_neg hx
    have HST := Aside0.mk hst
    clear hst
    go_enter Try.func86, Try.ntmps86
    go_wp2_with fail
    refine (impl_between.to _ _ _ _).mono ?_
    rintro e w' ⟨rfl, rfl⟩
    rw [hb]
    go_wp2_with fail
    (try simp only [Exit.inBlock, Exit.then])
    refine bodyPost_ret (results_none rfl _ _ _) rfl ?_
    refine ⟨rfl, ?_⟩
    rw [HST.out]
    exact ⟨blk_set HC.out 1 _, below_set HB.out hge, KeepBut.set_ (KeepBut.refl _ _ _) _ _⟩
def lineNums (x : Lin) : List Int := [x.f0, x.f1, x.f2, x.f3, x.f4]
def bytesN (s : ByteArray) : Nat → List Int
  | 0 => []
  | n + 1 => bytesN s n ++ [bt s n]
def numsOf (e : Ent) : List Int := [e.f0, e.f1, (e.f2.size : Int)] ++ bytesN e.f2 e.f2.size ++ [(e.f3.length : Int)] ++ e.f3.flatMap lineNums
theorem link_bytes (s : Int × Bool) (xs : List Int) (t : ByteArray) {i : Int} (h0 : 0 ≤ i) : linkStep (linkAll s (xs ++ bytesN t i.toNat)) (bt t i) = linkAll s (xs ++ bytesN t (i + 1).toNat) := by
  rw [show (i + 1).toNat = i.toNat + 1 by omega]
  show _ = linkAll s (xs ++ (bytesN t i.toNat ++ [bt t (i.toNat : Int)]))
  rw [← List.append_assoc, linkAll_append s (xs ++ _), show ((i.toNat : Nat) : Int) = i by omega]
  rfl
theorem link_lines (s : Int × Bool) (xs : List Int) {l : List Lin} {i : Int} (h0 : 0 ≤ i) (h1 : i < (l.length : Int)) : linkStep (linkStep (linkStep (linkStep (linkStep (linkAll s (xs ++ (l.take i.toNat).flatMap lineNums)) (rd_T112 l i).f0) (rd_T112 l i).f1) (rd_T112 l i).f2) (rd_T112 l i).f3) (rd_T112 l i).f4 = linkAll s (xs ++ (l.take (i + 1).toNat).flatMap lineNums) := by
  rw [take_snoc h0 h1, List.flatMap_append, ← List.append_assoc, linkAll_append s (xs ++ _)]
  rfl
def entO (e : Ent) (A3 : Option Addr) (c3 : Nat) : Obj := .cells #[.int .i64 e.f0, .int .i64 e.f1, .string e.f2, .slice A3 e.f3.length c3] 34 (0, 0)
theorem LinkPost.box {w0 w w' : World} {g : Nat} {s : Int × Bool} {e : Ent} {A3 : Option Addr} {c3 : Nat} (h : LinkPost w0 (w.alloc (entO e A3 c3)) g s w') (hg : g < w.heap.size) : w'.heap[w.heap.size]? = some (.cells #[.int .i64 e.f0, .int .i64 e.f1, .string e.f2, .slice A3 e.f3.length c3] 34 (0, 0)) := h.keep.blk (blk_new _ _) (by omega) (by simp)
theorem LinkPost.alloc {w0 w w1 : World} {g : Nat} {s : Int × Bool} (h : LinkPost w0 w g s w1) (o : Obj) : LinkPost w0 w g s (w1.alloc o) := ⟨blk_alloc h.at_ _, below_alloc h.bel _, keep_alloc h.keep _⟩
set_option maxHeartbeats 8000000 in
set_option maxRecDepth 100000 in
theorem impl_numbersOf.to (g : Nat) (s : Int × Bool) (e : Ent) (A3 : Option Addr) (c3 : Nat) (w0 w : World) (hc : ChainAt w g s) (hs : HeadIn s) (hge : w0.heap.size ≤ g) (hB : Below w0.heap.size w0 w) (hr3 : Kd.C k112 w0 A3 e.f3.length e.f3) (hm : e.f2.size ≤ 40) :
    Calls Try.prog 85 #[.agg #[.int .i64 e.f0, .int .i64 e.f1, .string e.f2, .slice A3 e.f3.length c3], .func (.func 86) #[.pointer (some ⟨g, 0, none⟩)] #[]] w fun x w' => x = .returned (.tuple #[]) ∧ LinkPost w0 w g (linkAll s (numsOf e)) w' := by
  have hgw : g < w.heap.size := blk_lt hc
  have HP := Aside0.mk (show LinkPost w0 (w.alloc (entO e A3 c3)) g s (w.alloc (entO e A3 c3)) from LinkPost.refl (blk_alloc hc _) (by exact hB.alloc (by have := hB.size; omega) _))
  have H3 := Aside0.mk hr3
  have HS := Aside0.mk hs
  have HS0 := Aside0.mk hs
  have hlen := hr3.2.1
  clear hc hB hr3 hs
  go_enter Try.func85, Try.ntmps85
  go_wp2_with fail
  refine (chain_link_calls g _ _ w0 _ HP.out.at_ HS.out hge HP.out.bel).mono ?_
  rintro x w1 ⟨rfl, P1⟩
  have P1 := Aside0.mk (HP.out.trans P1)
  have HS1 := Aside0.mk (linkStep_in HS.out e.f0)
  have y1 := blk_cell (P1.out.box hgw) 1
  have HS1 := Aside0.mk (linkStep_in HS.out e.f0)
  clear HP HS
  go_wp2_with fail
  refine (chain_link_calls g _ _ w0 _ P1.out.at_ HS1.out hge P1.out.bel).mono ?_
  rintro x w2 ⟨rfl, P2⟩
  have P2 := Aside0.mk (P1.out.trans P2)
  have HS2 := Aside0.mk (linkStep_in HS1.out e.f1)
  have y2 := blk_cell (P2.out.box hgw) 2
  clear P1 HS1 y1
  go_wp2_with fail
  refine (chain_link_calls g _ _ w0 _ P2.out.at_ HS2.out hge P2.out.bel).mono ?_
  rintro x w3 ⟨rfl, P3⟩
  have P3 := Aside0.mk (show LinkPost w0 (w.alloc (entO e A3 c3)) g (linkAll s ([e.f0, e.f1, (e.f2.size : Int)] ++ bytesN e.f2 (0 : Int).toNat)) w3 from P2.out.trans P3)
  clear P2 HS2 y2
  go_wp2_with fail
  go_loopw [4] (fun v wr => ∃ i : Int, 0 ≤ i ∧ i ≤ (e.f2.size : Int) ∧ v = .int .i64 i ∧ Aside0 (LinkPost w0 (w.alloc (entO e A3 c3)) g (linkAll s ([e.f0, e.f1, (e.f2.size : Int)] ++ bytesN e.f2 i.toNat)) wr)) (fun v _ => (e.f2.size - (intOf v).toNat))
  case atStart => exact ⟨0, by omega, by omega, rfl, P3⟩
  case round =>
    clear P3
    obtain ⟨i, hi0, hi1, rfl, HP⟩ := hrel
    have z2 := blk_cell (HP.out.box hgw) 2
    have z3 := blk_cell (HP.out.box hgw) 3
    by_cases hlt : i < (e.f2.size : Int)
    · have hx := bt_at e.f2 i
      obtain ⟨hb0, hb1⟩ := bt_range e.f2 i
      go_wp2_with fail
      refine (chain_link_calls g _ _ w0 _ HP.out.at_ (linkAll_in HS0.out _) hge HP.out.bel).mono ?_
      rintro x w4 ⟨rfl, P4⟩
      have P4 := Aside0.mk (HP.out.trans P4)
      go_wp2_with fail
      go_roundw
      case rel => exact ⟨i + 1, by omega, by omega, rfl, ⟨by have := P4.out; rw [link_bytes _ _ _ hi0] at this; exact this⟩⟩
      case measure => simp [intOf]; omega
    · obtain rfl : i = (e.f2.size : Int) := by omega
      go_wp2_with fail
      refine (chain_link_calls g _ _ w0 _ HP.out.at_ (linkAll_in HS0.out _) hge HP.out.bel).mono ?_
      rintro x w5 ⟨rfl, P5⟩
      have P5 := Aside0.mk (show LinkPost w0 (w.alloc (entO e A3 c3)) g (linkAll s ([e.f0, e.f1, (e.f2.size : Int)] ++ bytesN e.f2 e.f2.size ++ [(e.f3.length : Int)] ++ (e.f3.take (0 : Int).toNat).flatMap lineNums)) w5 from by
        have := HP.out.trans P5
        rw [show e.f3.take (0 : Int).toNat = [] from rfl, List.flatMap_nil, List.append_nil, linkAll_append s (_ ++ _)]
        exact this)
      have y3 := blk_cell (P5.out.box hgw) 3
      clear HP z2 z3
      go_wp2_with fail
      go_loopw [42] (fun v wr => ∃ i : Int, 0 ≤ i ∧ i ≤ (e.f3.length : Int) ∧ v = .int .i64 i ∧ Aside0 (LinkPost w0 (w.alloc (entO e A3 c3)) g (linkAll s ([e.f0, e.f1, (e.f2.size : Int)] ++ bytesN e.f2 e.f2.size ++ [(e.f3.length : Int)] ++ (e.f3.take i.toNat).flatMap lineNums)) wr)) (fun v _ => (e.f3.length - (intOf v).toNat))
      case atStart => exact ⟨0, by omega, by omega, rfl, P5⟩
      case round =>
        clear P5 y3
        obtain ⟨j, hj0, hj1, rfl, HP⟩ := hrel
        by_cases hlt : j < (e.f3.length : Int)
        · obtain ⟨ad, e0, x0, x1, x2, x3, x4⟩ := at_T112 (Kd.C_below H3.out HP.out.bel) j hj0 hlt
          cases e0
          have hgr : g < wr.heap.size := blk_lt HP.out.at_
          have Q := Aside0.mk (HP.out.alloc (lineO (rd_T112 e.f3 j)))
          have T0 := Aside0.mk (linkAll_in HS0.out ([e.f0, e.f1, (e.f2.size : Int)] ++ bytesN e.f2 e.f2.size ++ [(e.f3.length : Int)] ++ (e.f3.take j.toNat).flatMap lineNums))
          clear HP
          go_wp2_with fail
          refine (chain_link_calls g _ _ w0 _ Q.out.at_ T0.out hge Q.out.bel).mono ?_
          rintro x w6 ⟨rfl, R0⟩
          have N0 := Aside0.mk (R0.keep.blk (blk_new wr (lineO (rd_T112 e.f3 j))) (by omega) (by simp))
          have Q0 := Aside0.mk (Q.out.trans R0)
          have T1 := Aside0.mk (linkStep_in T0.out (rd_T112 e.f3 j).f0)
          have u1 := blk_cell N0.out 1
          clear Q T0 R0
          go_wp2_with fail
          refine (chain_link_calls g _ _ w0 _ Q0.out.at_ T1.out hge Q0.out.bel).mono ?_
          rintro x w7 ⟨rfl, R1⟩
          have N1 := Aside0.mk (R1.keep.blk (N0.out) (by omega) (by simp))
          have Q1 := Aside0.mk (Q0.out.trans R1)
          have T2 := Aside0.mk (linkStep_in T1.out (rd_T112 e.f3 j).f1)
          have u2 := blk_cell N1.out 2
          clear Q0 T1 R1 u1
          go_wp2_with fail
          refine (chain_link_calls g _ _ w0 _ Q1.out.at_ T2.out hge Q1.out.bel).mono ?_
          rintro x w8 ⟨rfl, R2⟩
          have N2 := Aside0.mk (R2.keep.blk (N1.out) (by omega) (by simp))
          have Q2 := Aside0.mk (Q1.out.trans R2)
          have T3 := Aside0.mk (linkStep_in T2.out (rd_T112 e.f3 j).f2)
          have u3 := blk_cell N2.out 3
          clear Q1 T2 R2 u2
          go_wp2_with fail
          refine (chain_link_calls g _ _ w0 _ Q2.out.at_ T3.out hge Q2.out.bel).mono ?_
          rintro x w9 ⟨rfl, R3⟩
          have N3 := Aside0.mk (R3.keep.blk (N2.out) (by omega) (by simp))
          have Q3 := Aside0.mk (Q2.out.trans R3)
          have T4 := Aside0.mk (linkStep_in T3.out (rd_T112 e.f3 j).f3)
          have u4 := blk_cell N3.out 4
          clear Q2 T3 R3 u3
          go_wp2_with fail
          refine (chain_link_calls g _ _ w0 _ Q3.out.at_ T4.out hge Q3.out.bel).mono ?_
          rintro x w10 ⟨rfl, R4⟩
          have N4 := Aside0.mk (R4.keep.blk (N3.out) (by omega) (by simp))
          have Q4 := Aside0.mk (Q3.out.trans R4)
          go_wp2_with fail
          go_roundw
          case rel => exact ⟨j + 1, by omega, by omega, rfl, ⟨by have := Q4.out; rw [link_lines _ _ hj0 hlt] at this; exact this⟩⟩
          case measure => simp [intOf]; omega
        · obtain rfl : j = (e.f3.length : Int) := by omega
          have HE := Aside0.mk (show LinkPost w0 w g (linkAll s (numsOf e)) wr from by
            have h := HP.out
            rw [List.take_of_length_le (by omega)] at h
            exact ⟨h.at_, h.bel, KeepBut.trans (keep_alloc (KeepBut.refl _ _ _) _) h.keep (.inl rfl)⟩)
          go_wp2_with fail
          go_end0
          exact ⟨rfl, HE.out⟩
def tooLong (e : Ent) : Prop := 60 < e.f3.length ∨ 40 < e.f2.size
open Classical in
noncomputable def headV (l : List Ent) : Int :=
  if 1000 < l.length ∨ ∃ e ∈ l, tooLong e then 0 else if (linkAll (1, false) (l.flatMap numsOf)).2 = true then 0 else (linkAll (1, false) (l.flatMap numsOf)).1
theorem headV_long {l : List Ent} (h : 1000 < l.length ∨ ∃ e ∈ l, tooLong e) : headV l = 0 := if_pos h
theorem headV_bad {l : List Ent} (h : ¬ (1000 < l.length ∨ ∃ e ∈ l, tooLong e)) (hb : (linkAll (1, false) (l.flatMap numsOf)).2 = true) : headV l = 0 := by unfold headV; rw [if_neg h, if_pos hb]
theorem headV_good {l : List Ent} (h : ¬ (1000 < l.length ∨ ∃ e ∈ l, tooLong e)) (hb : (linkAll (1, false) (l.flatMap numsOf)).2 = false) : headV l = (linkAll (1, false) (l.flatMap numsOf)).1 := by unfold headV; rw [if_neg h, if_neg (by rw [hb]; simp)]
theorem head_step (s : Int × Bool) {l : List Ent} {i : Int} (h0 : 0 ≤ i) (h1 : i < (l.length : Int)) : linkAll (linkAll s ((l.take i.toNat).flatMap numsOf)) (numsOf (rd_T34 l i)) = linkAll s ((l.take (i + 1).toNat).flatMap numsOf) := by
  have ht : l.take (i + 1).toNat = l.take i.toNat ++ [rd_T34 l i] := by
    rw [show (i + 1).toNat = i.toNat + 1 by omega, List.take_add_one]
    unfold rd_T34
    rw [List.getD_eq_getElem?_getD, List.getElem?_eq_getElem (by omega)]
    rfl
  rw [ht, List.flatMap_append, linkAll_append s]
  rw [show [rd_T34 l i].flatMap numsOf = numsOf (rd_T34 l i) by simp]
theorem headIn_one : HeadIn (1, false) := by unfold HeadIn; decide
set_option maxHeartbeats 8000000 in
set_option maxRecDepth 100000 in
theorem impl_HeadOf.to (A0 : Option Addr) (c0 : Nat) (l0 : List Ent) (w : World) (hr0 : Kd.C k34 w A0 l0.length l0) :
    Calls Try.prog 94 #[.slice A0 l0.length c0] w fun x w' => x = .returned (.int .i64 (headV l0)) ∧ Below w.heap.size w w' := by
  have hl := hr0.2.1
  have H0 := Aside0.mk hr0
  clear hr0
  by_cases h1 : 1000 < l0.length
  case pos =>
    have HV := Aside0.mk (headV_long (l := l0) (Or.inl h1))
    go_enter Try.func94, Try.ntmps94
    go_wp2_with fail
    go_ret
    exact ⟨ret_i HV.out.symm, Below.refl _ _⟩
  have HP := Aside0.mk (show LinkPost w (w.alloc (.cells #[.int .i64 1, .bool false] 118)) w.heap.size (linkAll (1, false) ((l0.take (0 : Int).toNat).flatMap numsOf)) (w.alloc (.cells #[.int .i64 1, .bool false] 118)) from LinkPost.refl (blk_new _ _) (below_alloc (Below.refl _ _) _))
  go_enter Try.func94, Try.ntmps94
  go_wp2_with fail
  go_loopw [16] (fun v wr => ∃ i : Int, 0 ≤ i ∧ i ≤ (l0.length : Int) ∧ v = .int .i64 i ∧ Aside0 (LinkPost w (w.alloc (.cells #[.int .i64 1, .bool false] 118)) w.heap.size (linkAll (1, false) ((l0.take i.toNat).flatMap numsOf)) wr) ∧ Aside0 (∀ x ∈ l0.take i.toNat, ¬ tooLong x)) (fun v _ => (l0.length - (intOf v).toNat))
  case atStart => exact ⟨0, by omega, by omega, rfl, HP, ⟨fun x hx => by cases hx⟩⟩
  case round =>
    clear HP
    obtain ⟨i, hi0, hi1, rfl, HP, HT⟩ := hrel
    have hgw : w.heap.size < wr.heap.size := blk_lt HP.out.at_
    by_cases hlt : i < (l0.length : Int)
    · obtain ⟨ad, A3, c3, e0, x0, x1, x2, x3, x4, x5⟩ := at_T34 H0.out i hi0 hlt
      cases e0
      have y0 := pw_cell_below HP.out.bel x0
      have y1 := pw_cell_below HP.out.bel x1
      have y2 := pw_cell_below HP.out.bel x2
      have y3 := pw_cell_below HP.out.bel x3
      have X5 := Aside0.mk x5
      have Q := Aside0.mk (HP.out.alloc (entO (rd_T34 l0 i) A3 c3))
      have HLN := Aside0.mk (fun (q : tooLong (rd_T34 l0 i)) => headV_long (l := l0) (Or.inr ⟨rd_T34 l0 i, by unfold rd_T34; rw [List.getD_eq_getElem?_getD, List.getElem?_eq_getElem (by omega)]; exact List.getElem_mem _, q⟩))
      clear x0 x1 x2 x3 x5 HP
      by_cases h2 : 60 < (rd_T34 l0 i).f3.length
      · have HV := Aside0.mk (HLN.out (Or.inl h2))
        go_wp2_with fail
        go_ret
        exact ⟨ret_i HV.out.symm, Q.out.bel⟩
      · by_cases h3 : 40 < (rd_T34 l0 i).f2.size
        · have HV := Aside0.mk (HLN.out (Or.inr h3))
          go_wp2_with fail
          go_ret
          exact ⟨ret_i HV.out.symm, Q.out.bel⟩
        · have HT1 := Aside0.mk (all_step (z := z34) (p := fun x => ¬ tooLong x) hi0 hlt HT.out (fun q => q.elim h2 h3))
          clear HT HLN
          go_wp2_with fail
          refine (impl_numbersOf.to _ _ (rd_T34 l0 i) A3 c3 w _ Q.out.at_ (linkAll_in headIn_one _) (Nat.le_refl _) Q.out.bel X5.out (by omega)).mono ?_
          rintro x w1 ⟨rfl, P1⟩
          have P1 := Aside0.mk (Q.out.trans P1)
          clear Q X5
          go_wp2_with fail
          go_roundw
          case rel => exact ⟨i + 1, by omega, by omega, rfl, ⟨by have := P1.out; rw [head_step _ hi0 hlt] at this; exact this⟩, HT1⟩
          case measure => simp [intOf]; omega
    · have hno : ¬ (1000 < l0.length ∨ ∃ e ∈ l0, tooLong e) := fun q => q.elim h1 (fun ⟨e, he, q⟩ => all_end (by omega) HT.out e he q)
      have hat := HP.out.at_
      have HB := Aside0.mk HP.out.bel
      rw [List.take_of_length_le (by omega)] at hat
      cases hb : (linkAll (1, false) (l0.flatMap numsOf)).2 with
      | true =>
        have HV := Aside0.mk (headV_bad hno hb)
        have c1 := blk_cell hat 1
        rw [hb] at c1
        clear hat HT HP hno hb
        go_wp2_with fail
        go_ret
        exact ⟨ret_i HV.out.symm, HB.out⟩
      | false =>
        have HV := Aside0.mk (headV_good hno hb)
        have c0 := blk_cell hat 0
        have c1 := blk_cell hat 1
        rw [hb] at c1
        clear hat HT HP hno hb
        go_wp2_with fail
        go_ret
        exact ⟨ret_i HV.out.symm, HB.out⟩
end Go.Proofs.Ytphmnkcfjgallaa.Q
