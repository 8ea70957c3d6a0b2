/- Parts of the proof: what functions of the program and of the reference answer.
   No condition. -/
import Derived.Test.YtphmnkcfjgallaaZSpread1
import Derived.Test.YtphmnkcfjgallaaZSpread12
import Derived.Test.YtphmnkcfjgallaaZSpread4
import Derived.Test.YtphmnkcfjgallaaZSpread13
import Derived.Test.YtphmnkcfjgallaaZSpread3
import Derived.Test.YtphmnkcfjgallaaZSpread7
import Derived.Test.YtphmnkcfjgallaaZSpread8
import Derived.Test.YtphmnkcfjgallaaZSpread14
import Derived.Test.YtphmnkcfjgallaaZSpread6
namespace Go.Proofs.Ytphmnkcfjgallaa.Q
open Go.RowKit Go.Proofs.YtphmnkcfjgallaaW.PrintWords Go.Proofs.YtphmnkcfjgallaaW.PrintLast Go.Proofs.YtphmnkcfjgallaaW.PrintMore
attribute [local go_sem] max2_int min2_int max_two min_two max_three min_three max_four min_four   -- for this text's walks alone
set_option linter.unusedVariables false
set_option linter.unusedSimpArgs false
theorem curSum_step {l : List Lin} {i : Int} (c : Int) (h0 : 0 ≤ i) (h1 : i < (l.length : Int)) : curSum (l.take (i + 1).toNat) c = curSum (l.take i.toNat) c + if (rd_T112 l i).f2 = c then (rd_T112 l i).f3 else 0 := by rw [take_snoc h0 h1, curSum_snoc]
theorem dimSum_step {l : List Lin} {i : Int} (c : Int) (h0 : 0 ≤ i) (h1 : i < (l.length : Int)) : dimSum (l.take (i + 1).toNat) c = dimSum (l.take i.toNat) c + if (rd_T112 l i).f1 = c then (rd_T112 l i).f4 else 0 := by rw [take_snoc h0 h1, dimSum_snoc]
theorem sums_bounds {l : List Lin} (h : ∀ x ∈ l, (-100000000000 ≤ x.f3 ∧ x.f3 ≤ 100000000000) ∧ (-100000000000 ≤ x.f4 ∧ x.f4 ≤ 100000000000)) (hl : l.length ≤ 60) (n : Nat) (c d : Int) : (-6000000000000 ≤ curSum (l.take n) c ∧ curSum (l.take n) c ≤ 6000000000000) ∧ (-6000000000000 ≤ dimSum (l.take n) d ∧ dimSum (l.take n) d ≤ 6000000000000) := by
  have hs : smallLines (l.take n) := fun y hy => h y (List.mem_of_mem_take hy)
  have h1 := curSum_small hs c
  have h2 := dimSum_small hs d
  have h3 : ((l.take n).length : Int) ≤ 60 := by rw [List.length_take]; omega
  omega
theorem frame_parts {chart : List Acc} {dims curs : Int} (h : frameB chart dims curs = true) : chartOk chart = true ∧ (1 ≤ dims ∧ dims ≤ 20) ∧ (1 ≤ curs ∧ curs ≤ 20) := by
  unfold frameB at h
  rw [Bool.and_eq_true, Bool.and_eq_true] at h
  exact ⟨h.1, inB_true.1 h.2.1, inB_true.1 h.2.2⟩
theorem and_l {a b c : Bool} (h : a = true) (k : c = b) : c = (a && b) := by rw [h, Bool.true_and]; exact k
theorem and_r {a b : Bool} (h : a = false) : false = (a && b) := by rw [h]; rfl
set_option maxHeartbeats 16000000 in
set_option maxRecDepth 100000 in
theorem spec_EntryOk.to (A0 : Option Addr) (c0 : Nat) (l0 : List Acc) (dims curs : Int) (e : Ent) (A3 : Option Addr) (c3 : Nat) (w : World) (hr0 : Kd.C k131 w A0 l0.length l0) (hs : ∀ x ∈ l0, x.f0.size ≤ maxLen) (hr3 : Kd.C k112 w A3 e.f3.length e.f3) (hm : e.f2.size ≤ maxLen) :
    Calls Try.prog 91 #[.agg #[.slice A0 l0.length c0, .int .i64 dims, .int .i64 curs], .agg #[.int .i64 e.f0, .int .i64 e.f1, .string e.f2, .slice A3 e.f3.length c3]] w fun x w' => x = .returned (.bool (frameB l0 dims curs && entryB l0 dims curs e)) ∧ Below w.heap.size w w' := by
  have hl0 := hr0.2.1
  have hlen := hr3.2.1
  have H0 := Aside0.mk hr0
  have H3 := Aside0.mk hr3
  have HS := Aside0.mk hs
  have HM := Aside0.mk hm
  have H00 := Aside0.mk (Kd.C_below hr0 (below_two w (.cells #[.slice A0 l0.length c0, .int .i64 dims, .int .i64 curs] 26) (.cells #[.int .i64 e.f0, .int .i64 e.f1, .string e.f2, .slice A3 e.f3.length c3] 34)))
  clear hr0 hr3 hs hm
  go_enter Try.func91, Try.ntmps91
  go_wp2_with fail
  refine (spec_FrameOk.to A0 c0 l0 dims curs _ H00.out HS.out).mono ?_
  rintro x w1 ⟨rfl, hb⟩
  have HB := Aside0.mk (below_into (w := w) hb (below_two _ _ _))
  have f0 : w1.cell? ⟨w.heap.size, 0, none⟩ = some (.slice A0 l0.length c0) := pw_cell_below hb (by go_simp)
  have f1 : w1.cell? ⟨w.heap.size, 1, none⟩ = some (.int .i64 dims) := pw_cell_below hb (by go_simp)
  have f2 : w1.cell? ⟨w.heap.size, 2, none⟩ = some (.int .i64 curs) := pw_cell_below hb (by go_simp)
  have y0 : w1.cell? ⟨w.heap.size + 1, 0, none⟩ = some (.int .i64 e.f0) := pw_cell_below hb (by go_simp)
  have y1 : w1.cell? ⟨w.heap.size + 1, 1, none⟩ = some (.int .i64 e.f1) := pw_cell_below hb (by go_simp)
  have y2 : w1.cell? ⟨w.heap.size + 1, 2, none⟩ = some (.string e.f2) := pw_cell_below hb (by go_simp)
  have y3 : w1.cell? ⟨w.heap.size + 1, 3, none⟩ = some (.slice A3 e.f3.length c3) := pw_cell_below hb (by go_simp)
  clear hb H00
  cases hfr : frameB l0 dims curs with
  | false =>
    have HF := Aside0.mk hfr
    clear hfr
    go_wp2_with fail
    go_ret
    exact ⟨ret_bool (and_r HF.out), HB.out⟩
  | true =>
    obtain ⟨hch, hd, hc⟩ := frame_parts hfr
    have HCH := Aside0.mk hch
    have HD := Aside0.mk hd
    have HC := Aside0.mk hc
    have HF := Aside0.mk hfr
    clear hfr hch hd hc
    go_wp2_with fail
    refine (spec_l2Day.to _ _).mono ?_
    rintro x w' ⟨rfl, rfl⟩
    cases h1 : inB e.f0 0 40000 with
    | false =>
      have HN := Aside0.mk (entryB_not (fun q => inB_false.1 h1 q.1) : false = entryB l0 dims curs e)
      clear h1
      go_wp2_with fail
      go_ret
      exact ⟨ret_bool (and_l HF.out HN.out), HB.out⟩
    | true =>
      have P1 := Aside0.mk (inB_true.1 h1)
      clear h1
      go_wp2_with fail
      refine (spec_l1In.to _ _ _ _).mono ?_
      rintro x w' ⟨rfl, rfl⟩
      cases h2 : inB e.f1 0 1000 with
      | false =>
        have HN := Aside0.mk (entryB_not (fun q => inB_false.1 h2 q.2.1) : false = entryB l0 dims curs e)
        clear h2
        go_wp2_with fail
        go_ret
        exact ⟨ret_bool (and_l HF.out HN.out), HB.out⟩
      | true =>
        have P2 := Aside0.mk (inB_true.1 h2)
        clear h2
        go_wp2_with fail
        refine (spec_l5TextOk.to _ _ HM.out).mono ?_
        rintro x w' ⟨rfl, rfl⟩
        cases h3 : textB e.f2 with
        | false =>
          have HN := Aside0.mk (entryB_not (fun q => by have := textB_iff.2 ⟨q.2.2.2.2.1, q.2.2.1⟩; rw [h3] at this; cases this) : false = entryB l0 dims curs e)
          clear h3
          go_wp2_with fail
          go_ret
          exact ⟨ret_bool (and_l HF.out HN.out), HB.out⟩
        | true =>
          have P3 := Aside0.mk (textB_iff.1 h3)
          clear h3
          go_wp2_with fail
          refine (spec_l1In.to _ _ _ _).mono ?_
          rintro x w' ⟨rfl, rfl⟩
          cases h4 : inB (e.f3.length : Int) 2 60 with
          | false =>
            have HN := Aside0.mk (entryB_not (fun q => inB_false.1 h4 (by have := q.2.2.2.1; omega)) : false = entryB l0 dims curs e)
            clear h4
            go_wp2_with fail
            go_ret
            exact ⟨ret_bool (and_l HF.out HN.out), HB.out⟩
          | true =>
            obtain ⟨hn0, hn1⟩ := inB_true.1 h4
            clear h4
            have HB1 := Aside0.mk (Below.refl w'.heap.size w')
            have F0 := Aside0.mk f0
            have F1 := Aside0.mk f1
            have F2 := Aside0.mk f2
            have Y3 := Aside0.mk y3
            go_wp2_with fail
            clear f0 f1 f2 y0 y1 y2 y3
            go_loopw [5] (fun v wr => ∃ i : Int, 0 ≤ i ∧ i ≤ (e.f3.length : Int) ∧ v = .int .i64 i ∧ Aside0 (Below w'.heap.size w' wr) ∧ Aside0 (∀ x ∈ e.f3.take i.toNat, lineP l0 dims curs x)) (fun v _ => (e.f3.length - (intOf v).toNat))
            case atStart => exact ⟨0, by omega, by omega, rfl, HB1, ⟨fun x hx => by cases hx⟩⟩
            case round =>
              clear HB1
              obtain ⟨i, hi0, hi1, rfl, HB1, HO⟩ := hrel
              have f0 := pw_cell_below HB1.out F0.out
              have f1 := pw_cell_below HB1.out F1.out
              have f2 := pw_cell_below HB1.out F2.out
              have y3 := pw_cell_below HB1.out Y3.out
              have HBW := Aside0.mk (below_into HB1.out HB.out)
              by_cases hlt : i < (e.f3.length : Int)
              · obtain ⟨ad, e0, x0, x1, x2, x3, x4⟩ := at_T112 (Kd.C_below H3.out HBW.out) i hi0 hlt
                cases e0
                have HC0 := Aside0.mk (Kd.C_below H0.out HBW.out)
                go_wp2_with fail
                go_region_held3 (fun w' => w'.cell? ⟨w.heap.size, 0, none⟩ = some (.slice A0 l0.length c0) ∧ w'.cell? ⟨w.heap.size, 1, none⟩ = some (.int .i64 dims) ∧ w'.cell? ⟨w.heap.size, 2, none⟩ = some (.int .i64 curs) ∧ w'.cell? ⟨w.heap.size + 1, 3, none⟩ = some (.slice (some ad) e.f3.length c3) ∧ w'.cell? (ad.add (i.toNat * 5)) = some (.int .i64 (rd_T112 e.f3 i).f0) ∧ w'.cell? ⟨(ad.add (i.toNat * 5)).block, (ad.add (i.toNat * 5)).off + 1, none⟩ = some (.int .i64 (rd_T112 e.f3 i).f1) ∧ w'.cell? ⟨(ad.add (i.toNat * 5)).block, (ad.add (i.toNat * 5)).off + 2, none⟩ = some (.int .i64 (rd_T112 e.f3 i).f2) ∧ w'.cell? ⟨(ad.add (i.toNat * 5)).block, (ad.add (i.toNat * 5)).off + 3, none⟩ = some (.int .i64 (rd_T112 e.f3 i).f3) ∧ w'.cell? ⟨(ad.add (i.toNat * 5)).block, (ad.add (i.toNat * 5)).off + 4, none⟩ = some (.int .i64 (rd_T112 e.f3 i).f4)) ((first | go_keep | exact ⟨pw_cell_below hb (by assumption), pw_cell_below hb (by assumption), pw_cell_below hb (by assumption), pw_cell_below hb (by assumption), pw_cell_below hb (by assumption), pw_cell_below hb (by assumption), pw_cell_below hb (by assumption), pw_cell_below hb (by assumption), pw_cell_below hb (by assumption)⟩))
                  ((go_at_call 136; refine (spec_l5LineOk.to A0 c0 l0 dims curs (rd_T112 e.f3 i) _ (by repeat (first | exact HC0.out | refine Kd.C_drew ?_)) HS.out HCH.out HD.out HC.out).mono ?_; rintro x w2 ⟨rfl, hb⟩))
                have HB2 := Aside0.mk (below_into (w := w') hb (below_drew HB1.out))
                clear hb
                cases hlb : lineB l0 dims curs (rd_T112 e.f3 i) with
                | false =>
                  have HN := Aside0.mk (entryB_not (fun q => by have := lineB_true.2 (all_at (z := z112) (p := lineP l0 dims curs) hi0 hlt q.2.2.2.2.2.1); rw [show lineB l0 dims curs (e.f3.getD i.toNat z112) = false from hlb] at this; cases this) : false = entryB l0 dims curs e)
                  have HBF := Aside0.mk (below_into HB2.out HB.out)
                  clear hlb HB2
                  go_wp2_with fail
                  go_ret
                  exact ⟨ret_bool (and_l HF.out HN.out), HBF.out⟩
                | true =>
                  have HO2 := Aside0.mk (all_step (z := z112) (p := lineP l0 dims curs) hi0 hlt HO.out (lineB_true.1 hlb))
                  clear hlb
                  go_wp2_with fail
                  go_roundw
                  case rel => exact ⟨i + 1, by omega, by omega, rfl, HB2, HO2⟩
                  case measure => simp [intOf]; omega
              · have HOK := Aside0.mk (all_end (by omega) HO.out : ∀ x ∈ e.f3, lineP l0 dims curs x)
                have HSB := Aside0.mk (fun n c d => sums_bounds (l := e.f3) (fun x hx => ⟨(HOK.out x hx).2.2.2.1, (HOK.out x hx).2.2.2.2.1⟩) (by omega) n c d)
                have HAM := Aside0.mk (fun (k : Int) (h0 : 0 ≤ k) (h1 : k < (e.f3.length : Int)) => (all_at (z := z112) (p := fun x => (-100000000000 ≤ x.f3 ∧ x.f3 ≤ 100000000000) ∧ (-100000000000 ≤ x.f4 ∧ x.f4 ≤ 100000000000)) h0 h1 (fun x hx => ⟨(HOK.out x hx).2.2.2.1, (HOK.out x hx).2.2.2.2.1⟩)))
                clear HO
                go_wp2_with fail
                clear f0 f1 f2 y3
                go_loopw [6] (fun v wr => ∃ i : Int, 0 ≤ i ∧ i ≤ (e.f3.length : Int) ∧ v = .int .i64 i ∧ Aside0 (Below w'.heap.size w' wr) ∧ Aside0 (∀ x ∈ e.f3.take i.toNat, curSum e.f3 x.f2 = 0 ∧ dimSum e.f3 x.f1 = 0)) (fun v _ => (e.f3.length - (intOf v).toNat))
                case atStart => exact ⟨0, by omega, by omega, rfl, HB1, ⟨fun x hx => by cases hx⟩⟩
                case round =>
                  clear HB1 HBW
                  obtain ⟨j, hj0, hj1, rfl, HB1, HZ⟩ := hrel
                  have y3 := pw_cell_below HB1.out Y3.out
                  by_cases hlt2 : j < (e.f3.length : Int)
                  · go_wp2_with fail
                    clear y3
                    go_loopw [7, 8, 9] (fun vc vd vk wr => ∃ k : Int, 0 ≤ k ∧ k ≤ (e.f3.length : Int) ∧ vk = .int .i64 k ∧ vc = .int .i64 (curSum (e.f3.take k.toNat) (rd_T112 e.f3 j).f2) ∧ vd = .int .i64 (dimSum (e.f3.take k.toNat) (rd_T112 e.f3 j).f1) ∧ Aside0 (Below w'.heap.size w' wr)) (fun _ _ vk _ => (e.f3.length - (intOf vk).toNat))
                    case atStart => exact ⟨0, by omega, by omega, rfl, rfl, rfl, HB1⟩
                    case round =>
                      clear HB1
                      obtain ⟨k, hk0, hk1, rfl, rfl, rfl, HB1⟩ := hrel
                      have y3 := pw_cell_below HB1.out Y3.out
                      have HBW := Aside0.mk (below_into HB1.out HB.out)
                      by_cases hlt3 : k < (e.f3.length : Int)
                      · obtain ⟨ad, e0, x0, x1, x2, x3, x4⟩ := at_T112 (Kd.C_below H3.out HBW.out) k hk0 hlt3
                        obtain ⟨bd, e1, z0, z1, z2, z3, z4⟩ := at_T112 (Kd.C_below H3.out HBW.out) j hj0 hlt2
                        cases e0
                        obtain rfl : ad = bd := by injection e1
                        have HC1 := Aside0.mk (curSum_step (l := e.f3) (rd_T112 e.f3 j).f2 hk0 hlt3)
                        have HD1 := Aside0.mk (dimSum_step (l := e.f3) (rd_T112 e.f3 j).f1 hk0 hlt3)
                        obtain ⟨⟨b0, b1⟩, b2, b3⟩ := HSB.out k.toNat (rd_T112 e.f3 j).f2 (rd_T112 e.f3 j).f1
                        obtain ⟨⟨m0, m1⟩, m2, m3⟩ := show (-100000000000 ≤ (rd_T112 e.f3 k).f3 ∧ (rd_T112 e.f3 k).f3 ≤ 100000000000) ∧ (-100000000000 ≤ (rd_T112 e.f3 k).f4 ∧ (rd_T112 e.f3 k).f4 ≤ 100000000000) from HAM.out k hk0 hlt3
                        generalize curSum (e.f3.take k.toNat) (rd_T112 e.f3 j).f2 = cs at *
                        generalize dimSum (e.f3.take k.toNat) (rd_T112 e.f3 j).f1 = ds at *
                        cases hq : ((rd_T112 e.f3 k).f2 == (rd_T112 e.f3 j).f2) with
                        | true =>
                          cases hr : ((rd_T112 e.f3 k).f1 == (rd_T112 e.f3 j).f1) with
                          | true =>
                            go_wp2_with fail
                            go_quiet (fail)
                            go_wp2_with fail
                            go_quiet (fail)
                            go_wp2_with fail
                            go_roundw
                            case rel => exact ⟨k + 1, by omega, by omega, rfl, by rw [HC1.out, if_pos (beq_iff_eq.1 hq)], by rw [HD1.out, if_pos (beq_iff_eq.1 hr)], ⟨pw_below_drewN HB1.out _⟩⟩
                            case measure => simp [intOf]; omega
                          | false =>
                            go_wp2_with fail
                            go_quiet (fail)
                            go_wp2_with fail
                            go_quiet (fail)
                            go_wp2_with fail
                            go_roundw
                            case rel => exact ⟨k + 1, by omega, by omega, rfl, by rw [HC1.out, if_pos (beq_iff_eq.1 hq)], by rw [HD1.out, if_neg (beq_eq_false_iff_ne.1 hr), Int.add_zero], ⟨pw_below_drewN HB1.out _⟩⟩
                            case measure => simp [intOf]; omega
                        | false =>
                          cases hr : ((rd_T112 e.f3 k).f1 == (rd_T112 e.f3 j).f1) with
                          | true =>
                            go_wp2_with fail
                            go_quiet (fail)
                            go_wp2_with fail
                            go_quiet (fail)
                            go_wp2_with fail
                            go_roundw
                            case rel => exact ⟨k + 1, by omega, by omega, rfl, by rw [HC1.out, if_neg (beq_eq_false_iff_ne.1 hq), Int.add_zero], by rw [HD1.out, if_pos (beq_iff_eq.1 hr)], ⟨pw_below_drewN HB1.out _⟩⟩
                            case measure => simp [intOf]; omega
                          | false =>
                            go_wp2_with fail
                            go_quiet (fail)
                            go_wp2_with fail
                            go_quiet (fail)
                            go_wp2_with fail
                            go_roundw
                            case rel => exact ⟨k + 1, by omega, by omega, rfl, by rw [HC1.out, if_neg (beq_eq_false_iff_ne.1 hq), Int.add_zero], by rw [HD1.out, if_neg (beq_eq_false_iff_ne.1 hr), Int.add_zero], ⟨pw_below_drewN HB1.out _⟩⟩
                            case measure => simp [intOf]; omega
                      · have HKE : k = (e.f3.length : Int) := by omega
                        subst HKE
                        have hcd := Aside0.mk (show curSum (e.f3.take (e.f3.length : Int).toNat) (rd_T112 e.f3 j).f2 = curSum e.f3 (rd_T112 e.f3 j).f2 ∧ dimSum (e.f3.take (e.f3.length : Int).toNat) (rd_T112 e.f3 j).f1 = dimSum e.f3 (rd_T112 e.f3 j).f1 by rw [List.take_of_length_le (by omega)]; exact ⟨rfl, rfl⟩)
                        generalize curSum (e.f3.take (e.f3.length : Int).toNat) (rd_T112 e.f3 j).f2 = cs at *
                        generalize dimSum (e.f3.take (e.f3.length : Int).toNat) (rd_T112 e.f3 j).f1 = ds at *
                        by_cases z1 : cs = 0
                        · have z1b : (cs != 0) = false := by rw [z1]; rfl
                          by_cases z2 : ds = 0
                          · have z2b : (ds != 0) = false := by rw [z2]; rfl
                            have HZ2 := Aside0.mk (all_step (z := z112) (p := fun x => curSum e.f3 x.f2 = 0 ∧ dimSum e.f3 x.f1 = 0) hj0 hlt2 HZ.out ⟨hcd.out.1 ▸ z1, hcd.out.2 ▸ z2⟩)
                            clear hcd
                            go_wp2_with fail
                            go_roundw
                            case rel => exact ⟨j + 1, by omega, by omega, rfl, HB1, HZ2⟩
                            case measure => simp [intOf]; omega
                          · have z2b : (ds != 0) = true := bne_iff_ne.2 z2
                            have HN := Aside0.mk (entryB_not (fun q => z2 (hcd.out.2.trans (all_at (z := z112) (p := fun x => curSum e.f3 x.f2 = 0 ∧ dimSum e.f3 x.f1 = 0) hj0 hlt2 q.2.2.2.2.2.2).2)) : false = entryB l0 dims curs e)
                            clear hcd
                            go_wp2_with fail
                            go_ret
                            exact ⟨ret_bool (and_l HF.out HN.out), HBW.out⟩
                        · have z1b : (cs != 0) = true := bne_iff_ne.2 z1
                          have HN := Aside0.mk (entryB_not (fun q => z1 (hcd.out.1.trans (all_at (z := z112) (p := fun x => curSum e.f3 x.f2 = 0 ∧ dimSum e.f3 x.f1 = 0) hj0 hlt2 q.2.2.2.2.2.2).1)) : false = entryB l0 dims curs e)
                          clear hcd
                          go_wp2_with fail
                          go_ret
                          exact ⟨ret_bool (and_l HF.out HN.out), HBW.out⟩
                  · have HBW := Aside0.mk (below_into HB1.out HB.out)
                    have HE := Aside0.mk (show entryP l0 dims curs e from ⟨P1.out, P2.out, P3.out.2, ⟨by omega, by omega⟩, P3.out.1, HOK.out, all_end (by omega) HZ.out⟩)
                    go_wp2_with fail
                    go_ret
                    exact ⟨ret_bool (and_l HF.out (entryB_true.2 HE.out).symm), HBW.out⟩
open Classical in
noncomputable def spec_EntryOk.f (l0 : List Acc) (dims curs : Int) (a0 a1 : Int) (a2 : ByteArray) (l3 : List Lin) : Option Bool := if (∀ x ∈ l0, x.f0.size ≤ maxLen) ∧ a2.size ≤ maxLen then some (frameB l0 dims curs && entryB l0 dims curs ⟨a0, a1, a2, l3⟩) else none
theorem spec_EntryOk.calls (A0 : Option Addr) (c0 : Nat) (l0 : List Acc) (dims curs : Int) (a0 a1 : Int) (a2 : ByteArray) (A3 : Option Addr) (c3 : Nat) (l3 : List Lin) (r : Bool) (w : World) (hr0 : Kd.C k131 w A0 l0.length l0) (hc0 : l0.length ≤ c0) (hr3 : Kd.C k112 w A3 l3.length l3) (hc3 : l3.length ≤ c3) (hf : spec_EntryOk.f l0 dims curs a0 a1 a2 l3 = some r) :
    Calls Try.prog 91 #[.agg #[.slice A0 l0.length c0, .int .i64 dims, .int .i64 curs], .agg #[.int .i64 a0, .int .i64 a1, .string a2, .slice A3 l3.length c3]] w fun x w' => x = .returned (.bool r) ∧ Below w.heap.size w w' := by
  unfold spec_EntryOk.f at hf
  split at hf
  · rename_i q
    cases hf
    exact spec_EntryOk.to A0 c0 l0 dims curs ⟨a0, a1, a2, l3⟩ A3 c3 w hr0 q.1 hr3 q.2
  · cases hf
end Go.Proofs.Ytphmnkcfjgallaa.Q
namespace Go.Proofs.Ytphmnkcfjgallaa.Q
open Go.RowKit Go.Proofs.YtphmnkcfjgallaaW.PrintWords Go.Proofs.YtphmnkcfjgallaaW.PrintLast Go.Proofs.YtphmnkcfjgallaaW.PrintMore
set_option linter.unusedVariables false
set_option linter.unusedSimpArgs false
theorem laws_markFrame_is (l : List Acc) (d c : Int) (k : Nat) (a : Int) (hk : l.length + 100 < k) (hl : l.length ≤ 1048576) (h0 : 0 ≤ a) (h1 : a ≤ 1000000000000000) : laws_markFrame.f k l d c a = some (nAll nAcc a l, mAll mAcc nAcc a l) := by
  unfold laws_markFrame.f
  rw [laws_markAccountS_is l k a hk hl h0 h1]
  rfl
end Go.Proofs.Ytphmnkcfjgallaa.Q
namespace Go.Proofs.Ytphmnkcfjgallaa.Q
open Go.RowKit Go.Proofs.YtphmnkcfjgallaaW.PrintWords Go.Proofs.YtphmnkcfjgallaaW.PrintLast Go.Proofs.YtphmnkcfjgallaaW.PrintMore
attribute [local go_sem] max2_int min2_int max_two min_two max_three min_three max_four min_four   -- for this text's walks alone
set_option linter.unusedVariables false
set_option linter.unusedSimpArgs false
end Go.Proofs.Ytphmnkcfjgallaa.Q
