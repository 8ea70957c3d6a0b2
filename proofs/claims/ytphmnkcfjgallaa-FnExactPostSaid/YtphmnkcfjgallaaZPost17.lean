/- Parts of the proof: what functions of the program and of the reference answer.
   No condition. -/
import Derived.Test.YtphmnkcfjgallaaZPost1
import Derived.Test.YtphmnkcfjgallaaZPost13
import Derived.Test.YtphmnkcfjgallaaZPost4
import Derived.Test.YtphmnkcfjgallaaZPost8
import Derived.Test.YtphmnkcfjgallaaZPost15
import Derived.Test.YtphmnkcfjgallaaZPost6
import Derived.Test.YtphmnkcfjgallaaZPost10
import Derived.Test.YtphmnkcfjgallaaZPost14
import Derived.Test.YtphmnkcfjgallaaZPost16
import Derived.Test.YtphmnkcfjgallaaZPost7
import Derived.Test.YtphmnkcfjgallaaZPost11
import Derived.Test.YtphmnkcfjgallaaZPost12
import Derived.Test.YtphmnkcfjgallaaZPost2
namespace Go.Proofs.Ytphmnkcfjgallaa.Q
open Go.RowKit Go.Proofs.YtphmnkcfjgallaaW.PrintWords Go.Proofs.YtphmnkcfjgallaaW.PrintLast Go.Proofs.YtphmnkcfjgallaaW.PrintMore
attribute [local go_sem] max2_int min2_int max_two min_two max_three min_three max_four min_four   -- for this text's walks alone
set_option linter.unusedVariables false
set_option linter.unusedSimpArgs false
theorem curSum_step {l : List Lin} {i : Int} (c : Int) (h0 : 0 ≤ i) (h1 : i < (l.length : Int)) : curSum (l.take (i + 1).toNat) c = curSum (l.take i.toNat) c + if (rd_T112 l i).f2 = c then (rd_T112 l i).f3 else 0 := by rw [take_snoc h0 h1, curSum_snoc]
theorem dimSum_step {l : List Lin} {i : Int} (c : Int) (h0 : 0 ≤ i) (h1 : i < (l.length : Int)) : dimSum (l.take (i + 1).toNat) c = dimSum (l.take i.toNat) c + if (rd_T112 l i).f1 = c then (rd_T112 l i).f4 else 0 := by rw [take_snoc h0 h1, dimSum_snoc]
theorem sums_bounds {l : List Lin} (h : ∀ x ∈ l, (-100000000000 ≤ x.f3 ∧ x.f3 ≤ 100000000000) ∧ (-100000000000 ≤ x.f4 ∧ x.f4 ≤ 100000000000)) (hl : l.length ≤ 60) (n : Nat) (c d : Int) : (-6000000000000 ≤ curSum (l.take n) c ∧ curSum (l.take n) c ≤ 6000000000000) ∧ (-6000000000000 ≤ dimSum (l.take n) d ∧ dimSum (l.take n) d ≤ 6000000000000) := by
  have hs : smallLines (l.take n) := fun y hy => h y (List.mem_of_mem_take hy)
  have h1 := curSum_small hs c
  have h2 := dimSum_small hs d
  have h3 : ((l.take n).length : Int) ≤ 60 := by rw [List.length_take]; omega
  omega
theorem frame_parts {chart : List Acc} {dims curs : Int} (h : frameB chart dims curs = true) : chartOk chart = true ∧ (1 ≤ dims ∧ dims ≤ 20) ∧ (1 ≤ curs ∧ curs ≤ 20) := by
  unfold frameB at h
  rw [Bool.and_eq_true, Bool.and_eq_true] at h
  exact ⟨h.1, inB_true.1 h.2.1, inB_true.1 h.2.2⟩
theorem and_l {a b c : Bool} (h : a = true) (k : c = b) : c = (a && b) := by rw [h, Bool.true_and]; exact k
theorem and_r {a b : Bool} (h : a = false) : false = (a && b) := by rw [h]; rfl
set_option maxHeartbeats 16000000 in
set_option maxRecDepth 100000 in
theorem spec_EntryOk.to (A0 : Option Addr) (c0 : Nat) (l0 : List Acc) (dims curs : Int) (e : Ent) (A3 : Option Addr) (c3 : Nat) (w : World) (hr0 : Kd.C k131 w A0 l0.length l0) (hs : ∀ x ∈ l0, x.f0.size ≤ maxLen) (hr3 : Kd.C k112 w A3 e.f3.length e.f3) (hm : e.f2.size ≤ maxLen) :
    Calls Try.prog 91 #[.agg #[.slice A0 l0.length c0, .int .i64 dims, .int .i64 curs], .agg #[.int .i64 e.f0, .int .i64 e.f1, .string e.f2, .slice A3 e.f3.length c3]] w fun x w' => x = .returned (.bool (frameB l0 dims curs && entryB l0 dims curs e)) ∧ Below w.heap.size w w' := by
  have hl0 := hr0.2.1
  have hlen := hr3.2.1
  have H0 := Aside0.mk hr0
  have H3 := Aside0.mk hr3
  have HS := Aside0.mk hs
  have HM := Aside0.mk hm
  have H00 := Aside0.mk (Kd.C_below hr0 (below_two w (.cells #[.slice A0 l0.length c0, .int .i64 dims, .int .i64 curs] 26) (.cells #[.int .i64 e.f0, .int .i64 e.f1, .string e.f2, .slice A3 e.f3.length c3] 34)))
  clear hr0 hr3 hs hm
  go_enter Try.func91, Try.ntmps91
  go_wp2_with fail
  refine (spec_FrameOk.to A0 c0 l0 dims curs _ H00.out HS.out).mono ?_
  rintro x w1 ⟨rfl, hb⟩
  have HB := Aside0.mk (below_into (w := w) hb (below_two _ _ _))
  have f0 : w1.cell? ⟨w.heap.size, 0, none⟩ = some (.slice A0 l0.length c0) := pw_cell_below hb (by go_simp)
  have f1 : w1.cell? ⟨w.heap.size, 1, none⟩ = some (.int .i64 dims) := pw_cell_below hb (by go_simp)
  have f2 : w1.cell? ⟨w.heap.size, 2, none⟩ = some (.int .i64 curs) := pw_cell_below hb (by go_simp)
  have y0 : w1.cell? ⟨w.heap.size + 1, 0, none⟩ = some (.int .i64 e.f0) := pw_cell_below hb (by go_simp)
  have y1 : w1.cell? ⟨w.heap.size + 1, 1, none⟩ = some (.int .i64 e.f1) := pw_cell_below hb (by go_simp)
  have y2 : w1.cell? ⟨w.heap.size + 1, 2, none⟩ = some (.string e.f2) := pw_cell_below hb (by go_simp)
  have y3 : w1.cell? ⟨w.heap.size + 1, 3, none⟩ = some (.slice A3 e.f3.length c3) := pw_cell_below hb (by go_simp)
  clear hb H00
  cases hfr : frameB l0 dims curs with
  | false =>
    have HF := Aside0.mk hfr
    clear hfr
    go_wp2_with fail
    go_ret
    exact ⟨ret_bool (and_r HF.out), HB.out⟩
  | true =>
    obtain ⟨hch, hd, hc⟩ := frame_parts hfr
    have HCH := Aside0.mk hch
    have HD := Aside0.mk hd
    have HC := Aside0.mk hc
    have HF := Aside0.mk hfr
    clear hfr hch hd hc
    go_wp2_with fail
    refine (spec_l2Day.to _ _).mono ?_
    rintro x w' ⟨rfl, rfl⟩
    cases h1 : inB e.f0 0 40000 with
    | false =>
      have HN := Aside0.mk (entryB_not (fun q => inB_false.1 h1 q.1) : false = entryB l0 dims curs e)
      clear h1
      go_wp2_with fail
      go_ret
      exact ⟨ret_bool (and_l HF.out HN.out), HB.out⟩
    | true =>
      have P1 := Aside0.mk (inB_true.1 h1)
      clear h1
      go_wp2_with fail
      refine (spec_l1In.to _ _ _ _).mono ?_
      rintro x w' ⟨rfl, rfl⟩
      cases h2 : inB e.f1 0 1000 with
      | false =>
        have HN := Aside0.mk (entryB_not (fun q => inB_false.1 h2 q.2.1) : false = entryB l0 dims curs e)
        clear h2
        go_wp2_with fail
        go_ret
        exact ⟨ret_bool (and_l HF.out HN.out), HB.out⟩
      | true =>
        have P2 := Aside0.mk (inB_true.1 h2)
        clear h2
        go_wp2_with fail
        refine (spec_l5TextOk.to _ _ HM.out).mono ?_
        rintro x w' ⟨rfl, rfl⟩
        cases h3 : textB e.f2 with
        | false =>
          have HN := Aside0.mk (entryB_not (fun q => by have := textB_iff.2 ⟨q.2.2.2.2.1, q.2.2.1⟩; rw [h3] at this; cases this) : false = entryB l0 dims curs e)
          clear h3
          go_wp2_with fail
          go_ret
          exact ⟨ret_bool (and_l HF.out HN.out), HB.out⟩
        | true =>
          have P3 := Aside0.mk (textB_iff.1 h3)
          clear h3
          go_wp2_with fail
          refine (spec_l1In.to _ _ _ _).mono ?_
          rintro x w' ⟨rfl, rfl⟩
          cases h4 : inB (e.f3.length : Int) 2 60 with
          | false =>
            have HN := Aside0.mk (entryB_not (fun q => inB_false.1 h4 (by have := q.2.2.2.1; omega)) : false = entryB l0 dims curs e)
            clear h4
            go_wp2_with fail
            go_ret
            exact ⟨ret_bool (and_l HF.out HN.out), HB.out⟩
          | true =>
            obtain ⟨hn0, hn1⟩ := inB_true.1 h4
            clear h4
            have HB1 := Aside0.mk (Below.refl w'.heap.size w')
            have F0 := Aside0.mk f0
            have F1 := Aside0.mk f1
            have F2 := Aside0.mk f2
            have Y3 := Aside0.mk y3
            go_wp2_with fail
            clear f0 f1 f2 y0 y1 y2 y3
            go_loopw [5] (fun v wr => ∃ i : Int, 0 ≤ i ∧ i ≤ (e.f3.length : Int) ∧ v = .int .i64 i ∧ Aside0 (Below w'.heap.size w' wr) ∧ Aside0 (∀ x ∈ e.f3.take i.toNat, lineP l0 dims curs x)) (fun v _ => (e.f3.length - (intOf v).toNat))
            case atStart => exact ⟨0, by omega, by omega, rfl, HB1, ⟨fun x hx => by cases hx⟩⟩
            case round =>
              clear HB1
              obtain ⟨i, hi0, hi1, rfl, HB1, HO⟩ := hrel
              have f0 := pw_cell_below HB1.out F0.out
              have f1 := pw_cell_below HB1.out F1.out
              have f2 := pw_cell_below HB1.out F2.out
              have y3 := pw_cell_below HB1.out Y3.out
              have HBW := Aside0.mk (below_into HB1.out HB.out)
              by_cases hlt : i < (e.f3.length : Int)
              · obtain ⟨ad, e0, x0, x1, x2, x3, x4⟩ := at_T112 (Kd.C_below H3.out HBW.out) i hi0 hlt
                cases e0
                have HC0 := Aside0.mk (Kd.C_below H0.out HBW.out)
                go_wp2_with fail
                go_region_held3 (fun w' => w'.cell? ⟨w.heap.size, 0, none⟩ = some (.slice A0 l0.length c0) ∧ w'.cell? ⟨w.heap.size, 1, none⟩ = some (.int .i64 dims) ∧ w'.cell? ⟨w.heap.size, 2, none⟩ = some (.int .i64 curs) ∧ w'.cell? ⟨w.heap.size + 1, 3, none⟩ = some (.slice (some ad) e.f3.length c3) ∧ w'.cell? (ad.add (i.toNat * 5)) = some (.int .i64 (rd_T112 e.f3 i).f0) ∧ w'.cell? ⟨(ad.add (i.toNat * 5)).block, (ad.add (i.toNat * 5)).off + 1, none⟩ = some (.int .i64 (rd_T112 e.f3 i).f1) ∧ w'.cell? ⟨(ad.add (i.toNat * 5)).block, (ad.add (i.toNat * 5)).off + 2, none⟩ = some (.int .i64 (rd_T112 e.f3 i).f2) ∧ w'.cell? ⟨(ad.add (i.toNat * 5)).block, (ad.add (i.toNat * 5)).off + 3, none⟩ = some (.int .i64 (rd_T112 e.f3 i).f3) ∧ w'.cell? ⟨(ad.add (i.toNat * 5)).block, (ad.add (i.toNat * 5)).off + 4, none⟩ = some (.int .i64 (rd_T112 e.f3 i).f4)) ((first | go_keep | exact ⟨pw_cell_below hb (by assumption), pw_cell_below hb (by assumption), pw_cell_below hb (by assumption), pw_cell_below hb (by assumption), pw_cell_below hb (by assumption), pw_cell_below hb (by assumption), pw_cell_below hb (by assumption), pw_cell_below hb (by assumption), pw_cell_below hb (by assumption)⟩))
                  ((go_at_call 136; refine (spec_l5LineOk.to A0 c0 l0 dims curs (rd_T112 e.f3 i) _ (by repeat (first | exact HC0.out | refine Kd.C_drew ?_)) HS.out HCH.out HD.out HC.out).mono ?_; rintro x w2 ⟨rfl, hb⟩))
                have HB2 := Aside0.mk (below_into (w := w') hb (below_drew HB1.out))
                clear hb
                cases hlb : lineB l0 dims curs (rd_T112 e.f3 i) with
                | false =>
                  have HN := Aside0.mk (entryB_not (fun q => by have := lineB_true.2 (all_at (z := z112) (p := lineP l0 dims curs) hi0 hlt q.2.2.2.2.2.1); rw [show lineB l0 dims curs (e.f3.getD i.toNat z112) = false from hlb] at this; cases this) : false = entryB l0 dims curs e)
                  have HBF := Aside0.mk (below_into HB2.out HB.out)
                  clear hlb HB2
                  go_wp2_with fail
                  go_ret
                  exact ⟨ret_bool (and_l HF.out HN.out), HBF.out⟩
                | true =>
                  have HO2 := Aside0.mk (all_step (z := z112) (p := lineP l0 dims curs) hi0 hlt HO.out (lineB_true.1 hlb))
                  clear hlb
                  go_wp2_with fail
                  go_roundw
                  case rel => exact ⟨i + 1, by omega, by omega, rfl, HB2, HO2⟩
                  case measure => simp [intOf]; omega
              · have HOK := Aside0.mk (all_end (by omega) HO.out : ∀ x ∈ e.f3, lineP l0 dims curs x)
                have HSB := Aside0.mk (fun n c d => sums_bounds (l := e.f3) (fun x hx => ⟨(HOK.out x hx).2.2.2.1, (HOK.out x hx).2.2.2.2.1⟩) (by omega) n c d)
                have HAM := Aside0.mk (fun (k : Int) (h0 : 0 ≤ k) (h1 : k < (e.f3.length : Int)) => (all_at (z := z112) (p := fun x => (-100000000000 ≤ x.f3 ∧ x.f3 ≤ 100000000000) ∧ (-100000000000 ≤ x.f4 ∧ x.f4 ≤ 100000000000)) h0 h1 (fun x hx => ⟨(HOK.out x hx).2.2.2.1, (HOK.out x hx).2.2.2.2.1⟩)))
                clear HO
                go_wp2_with fail
                clear f0 f1 f2 y3
                go_loopw [6] (fun v wr => ∃ i : Int, 0 ≤ i ∧ i ≤ (e.f3.length : Int) ∧ v = .int .i64 i ∧ Aside0 (Below w'.heap.size w' wr) ∧ Aside0 (∀ x ∈ e.f3.take i.toNat, curSum e.f3 x.f2 = 0 ∧ dimSum e.f3 x.f1 = 0)) (fun v _ => (e.f3.length - (intOf v).toNat))
                case atStart => exact ⟨0, by omega, by omega, rfl, HB1, ⟨fun x hx => by cases hx⟩⟩
                case round =>
                  clear HB1 HBW
                  obtain ⟨j, hj0, hj1, rfl, HB1, HZ⟩ := hrel
                  have y3 := pw_cell_below HB1.out Y3.out
                  by_cases hlt2 : j < (e.f3.length : Int)
                  · go_wp2_with fail
                    clear y3
                    go_loopw [7, 8, 9] (fun vc vd vk wr => ∃ k : Int, 0 ≤ k ∧ k ≤ (e.f3.length : Int) ∧ vk = .int .i64 k ∧ vc = .int .i64 (curSum (e.f3.take k.toNat) (rd_T112 e.f3 j).f2) ∧ vd = .int .i64 (dimSum (e.f3.take k.toNat) (rd_T112 e.f3 j).f1) ∧ Aside0 (Below w'.heap.size w' wr)) (fun _ _ vk _ => (e.f3.length - (intOf vk).toNat))
                    case atStart => exact ⟨0, by omega, by omega, rfl, rfl, rfl, HB1⟩
                    case round =>
                      clear HB1
                      obtain ⟨k, hk0, hk1, rfl, rfl, rfl, HB1⟩ := hrel
                      have y3 := pw_cell_below HB1.out Y3.out
                      have HBW := Aside0.mk (below_into HB1.out HB.out)
                      by_cases hlt3 : k < (e.f3.length : Int)
                      · obtain ⟨ad, e0, x0, x1, x2, x3, x4⟩ := at_T112 (Kd.C_below H3.out HBW.out) k hk0 hlt3
                        obtain ⟨bd, e1, z0, z1, z2, z3, z4⟩ := at_T112 (Kd.C_below H3.out HBW.out) j hj0 hlt2
                        cases e0
                        obtain rfl : ad = bd := by injection e1
                        have HC1 := Aside0.mk (curSum_step (l := e.f3) (rd_T112 e.f3 j).f2 hk0 hlt3)
                        have HD1 := Aside0.mk (dimSum_step (l := e.f3) (rd_T112 e.f3 j).f1 hk0 hlt3)
                        obtain ⟨⟨b0, b1⟩, b2, b3⟩ := HSB.out k.toNat (rd_T112 e.f3 j).f2 (rd_T112 e.f3 j).f1
                        obtain ⟨⟨m0, m1⟩, m2, m3⟩ := show (-100000000000 ≤ (rd_T112 e.f3 k).f3 ∧ (rd_T112 e.f3 k).f3 ≤ 100000000000) ∧ (-100000000000 ≤ (rd_T112 e.f3 k).f4 ∧ (rd_T112 e.f3 k).f4 ≤ 100000000000) from HAM.out k hk0 hlt3
                        generalize curSum (e.f3.take k.toNat) (rd_T112 e.f3 j).f2 = cs at *
                        generalize dimSum (e.f3.take k.toNat) (rd_T112 e.f3 j).f1 = ds at *
                        cases hq : ((rd_T112 e.f3 k).f2 == (rd_T112 e.f3 j).f2) with
                        | true =>
                          cases hr : ((rd_T112 e.f3 k).f1 == (rd_T112 e.f3 j).f1) with
                          | true =>
                            go_wp2_with fail
                            go_quiet (fail)
                            go_wp2_with fail
                            go_quiet (fail)
                            go_wp2_with fail
                            go_roundw
                            case rel => exact ⟨k + 1, by omega, by omega, rfl, by rw [HC1.out, if_pos (beq_iff_eq.1 hq)], by rw [HD1.out, if_pos (beq_iff_eq.1 hr)], ⟨pw_below_drewN HB1.out _⟩⟩
                            case measure => simp [intOf]; omega
                          | false =>
                            go_wp2_with fail
                            go_quiet (fail)
                            go_wp2_with fail
                            go_quiet (fail)
                            go_wp2_with fail
                            go_roundw
                            case rel => exact ⟨k + 1, by omega, by omega, rfl, by rw [HC1.out, if_pos (beq_iff_eq.1 hq)], by rw [HD1.out, if_neg (beq_eq_false_iff_ne.1 hr), Int.add_zero], ⟨pw_below_drewN HB1.out _⟩⟩
                            case measure => simp [intOf]; omega
                        | false =>
                          cases hr : ((rd_T112 e.f3 k).f1 == (rd_T112 e.f3 j).f1) with
                          | true =>
                            go_wp2_with fail
                            go_quiet (fail)
                            go_wp2_with fail
                            go_quiet (fail)
                            go_wp2_with fail
                            go_roundw
                            case rel => exact ⟨k + 1, by omega, by omega, rfl, by rw [HC1.out, if_neg (beq_eq_false_iff_ne.1 hq), Int.add_zero], by rw [HD1.out, if_pos (beq_iff_eq.1 hr)], ⟨pw_below_drewN HB1.out _⟩⟩
                            case measure => simp [intOf]; omega
                          | false =>
                            go_wp2_with fail
                            go_quiet (fail)
                            go_wp2_with fail
                            go_quiet (fail)
                            go_wp2_with fail
                            go_roundw
                            case rel => exact ⟨k + 1, by omega, by omega, rfl, by rw [HC1.out, if_neg (beq_eq_false_iff_ne.1 hq), Int.add_zero], by rw [HD1.out, if_neg (beq_eq_false_iff_ne.1 hr), Int.add_zero], ⟨pw_below_drewN HB1.out _⟩⟩
                            case measure => simp [intOf]; omega
                      · have HKE : k = (e.f3.length : Int) := by omega
                        subst HKE
                        have hcd := Aside0.mk (show curSum (e.f3.take (e.f3.length : Int).toNat) (rd_T112 e.f3 j).f2 = curSum e.f3 (rd_T112 e.f3 j).f2 ∧ dimSum (e.f3.take (e.f3.length : Int).toNat) (rd_T112 e.f3 j).f1 = dimSum e.f3 (rd_T112 e.f3 j).f1 by rw [List.take_of_length_le (by omega)]; exact ⟨rfl, rfl⟩)
                        generalize curSum (e.f3.take (e.f3.length : Int).toNat) (rd_T112 e.f3 j).f2 = cs at *
                        generalize dimSum (e.f3.take (e.f3.length : Int).toNat) (rd_T112 e.f3 j).f1 = ds at *
                        by_cases z1 : cs = 0
                        · have z1b : (cs != 0) = false := by rw [z1]; rfl
                          by_cases z2 : ds = 0
                          · have z2b : (ds != 0) = false := by rw [z2]; rfl
                            have HZ2 := Aside0.mk (all_step (z := z112) (p := fun x => curSum e.f3 x.f2 = 0 ∧ dimSum e.f3 x.f1 = 0) hj0 hlt2 HZ.out ⟨hcd.out.1 ▸ z1, hcd.out.2 ▸ z2⟩)
                            clear hcd
                            go_wp2_with fail
                            go_roundw
                            case rel => exact ⟨j + 1, by omega, by omega, rfl, HB1, HZ2⟩
                            case measure => simp [intOf]; omega
                          · have z2b : (ds != 0) = true := bne_iff_ne.2 z2
                            have HN := Aside0.mk (entryB_not (fun q => z2 (hcd.out.2.trans (all_at (z := z112) (p := fun x => curSum e.f3 x.f2 = 0 ∧ dimSum e.f3 x.f1 = 0) hj0 hlt2 q.2.2.2.2.2.2).2)) : false = entryB l0 dims curs e)
                            clear hcd
                            go_wp2_with fail
                            go_ret
                            exact ⟨ret_bool (and_l HF.out HN.out), HBW.out⟩
                        · have z1b : (cs != 0) = true := bne_iff_ne.2 z1
                          have HN := Aside0.mk (entryB_not (fun q => z1 (hcd.out.1.trans (all_at (z := z112) (p := fun x => curSum e.f3 x.f2 = 0 ∧ dimSum e.f3 x.f1 = 0) hj0 hlt2 q.2.2.2.2.2.2).1)) : false = entryB l0 dims curs e)
                          clear hcd
                          go_wp2_with fail
                          go_ret
                          exact ⟨ret_bool (and_l HF.out HN.out), HBW.out⟩
                  · have HBW := Aside0.mk (below_into HB1.out HB.out)
                    have HE := Aside0.mk (show entryP l0 dims curs e from ⟨P1.out, P2.out, P3.out.2, ⟨by omega, by omega⟩, P3.out.1, HOK.out, all_end (by omega) HZ.out⟩)
                    go_wp2_with fail
                    go_ret
                    exact ⟨ret_bool (and_l HF.out (entryB_true.2 HE.out).symm), HBW.out⟩
open Classical in
noncomputable def spec_EntryOk.f (l0 : List Acc) (dims curs : Int) (a0 a1 : Int) (a2 : ByteArray) (l3 : List Lin) : Option Bool := if (∀ x ∈ l0, x.f0.size ≤ maxLen) ∧ a2.size ≤ maxLen then some (frameB l0 dims curs && entryB l0 dims curs ⟨a0, a1, a2, l3⟩) else none
theorem spec_EntryOk.calls (A0 : Option Addr) (c0 : Nat) (l0 : List Acc) (dims curs : Int) (a0 a1 : Int) (a2 : ByteArray) (A3 : Option Addr) (c3 : Nat) (l3 : List Lin) (r : Bool) (w : World) (hr0 : Kd.C k131 w A0 l0.length l0) (hc0 : l0.length ≤ c0) (hr3 : Kd.C k112 w A3 l3.length l3) (hc3 : l3.length ≤ c3) (hf : spec_EntryOk.f l0 dims curs a0 a1 a2 l3 = some r) :
    Calls Try.prog 91 #[.agg #[.slice A0 l0.length c0, .int .i64 dims, .int .i64 curs], .agg #[.int .i64 a0, .int .i64 a1, .string a2, .slice A3 l3.length c3]] w fun x w' => x = .returned (.bool r) ∧ Below w.heap.size w w' := by
  unfold spec_EntryOk.f at hf
  split at hf
  · rename_i q
    cases hf
    exact spec_EntryOk.to A0 c0 l0 dims curs ⟨a0, a1, a2, l3⟩ A3 c3 w hr0 q.1 hr3 q.2
  · cases hf
end Go.Proofs.Ytphmnkcfjgallaa.Q
namespace Go.Proofs.Ytphmnkcfjgallaa.Q
open Go.RowKit Go.Proofs.YtphmnkcfjgallaaW.PrintWords Go.Proofs.YtphmnkcfjgallaaW.PrintLast Go.Proofs.YtphmnkcfjgallaaW.PrintMore
set_option linter.unusedVariables false
set_option linter.unusedSimpArgs false
theorem laws_markFrame_is (l : List Acc) (d c : Int) (k : Nat) (a : Int) (hk : l.length + 100 < k) (hl : l.length ≤ 1048576) (h0 : 0 ≤ a) (h1 : a ≤ 1000000000000000) : laws_markFrame.f k l d c a = some (nAll nAcc a l, mAll mAcc nAcc a l) := by
  unfold laws_markFrame.f
  rw [laws_markAccountS_is l k a hk hl h0 h1]
  rfl
set_option maxHeartbeats 16000000 in
set_option maxRecDepth 100000 in
theorem laws_markLedger.to (P0_ : Nat → Prop) (A : Option Addr) (c : Nat) (l0 : List Ent) (h a1 : Int) (w0 w : World) (hB : Below w0.heap.size w0 w) (hS : Kd.S k34 34 w w0.heap.size P0_ (.slice A l0.length c) l0) (h0 : 0 ≤ a1) (h1 : a1 ≤ 100000000000000) (hl : l0.length ≤ 1048576) (hs : ∀ x ∈ l0, x.f3.length ≤ 1048576) :
    Calls Try.prog 52 #[.agg #[.slice A l0.length c, .int .i64 h], .int .i64 a1] w fun e w' => e = .returned (.int .i64 (nAll nEnt a1 l0)) ∧ Kd.S k34 34 w' w0.heap.size P0_ (.slice A l0.length c) (mAll mEnt nEnt a1 l0) ∧ Below w0.heap.size w0 w' ∧ Kept w w' P0_ := by
  have HB := Aside0.mk (below_alloc hB (.cells #[.slice A l0.length c, .int .i64 h] 29))
  have HS := Aside0.mk (Kd.S_alloc hS (.cells #[.slice A l0.length c, .int .i64 h] 29))
  have HK := Aside0.mk (Kept.alloc (Kept.refl w P0_) (.cells #[.slice A l0.length c, .int .i64 h] 29))
  clear hB hS
  go_enter Try.func52, Try.ntmps52
  go_wp2_with fail
  refine (laws_markEntryS.to P0_ A c l0 a1 w0 _ HB.out HS.out h0 h1 hl hs).mono ?_
  rintro e w2 ⟨rfl, hS2, hB2, hK2⟩
  have HS2 := Aside0.mk hS2
  have HB2 := Aside0.mk hB2
  have HK2 := Aside0.mk (HK.out.then_ hK2 (fun k hk => .inl hk))
  clear hS2 hB2 hK2
  go_wp2_with fail
  go_ret
  exact ⟨rfl, HS2.out, HB2.out, HK2.out⟩
end Go.Proofs.Ytphmnkcfjgallaa.Q
namespace Go.Proofs.Ytphmnkcfjgallaa.Q
open Go.RowKit Go.Proofs.YtphmnkcfjgallaaW.PrintWords Go.Proofs.YtphmnkcfjgallaaW.PrintLast Go.Proofs.YtphmnkcfjgallaaW.PrintMore
set_option linter.unusedVariables false
set_option linter.unusedSimpArgs false
theorem laws_markEntry_is (a0 a1 : Int) (a2 : ByteArray) (l : List Lin) (k : Nat) (a : Int) (hk : l.length < k) (hl : l.length ≤ 1048576) (h0 : 0 ≤ a) (h1 : a ≤ 1000000000000000) : laws_markEntry.f k a0 a1 a2 l a = some (nAll nLine a l, mAll mLine nLine a l) := by
  unfold laws_markEntry.f
  rw [laws_markLineS_is l k a hk hl h0 h1]
  rfl
end Go.Proofs.Ytphmnkcfjgallaa.Q
namespace Go.Proofs.Ytphmnkcfjgallaa.Q
open Go.RowKit Go.Proofs.YtphmnkcfjgallaaW.PrintWords Go.Proofs.YtphmnkcfjgallaaW.PrintLast Go.Proofs.YtphmnkcfjgallaaW.PrintMore
attribute [local go_sem] max2_int min2_int max_two min_two max_three min_three max_four min_four   -- for this text's walks alone
set_option linter.unusedVariables false
set_option linter.unusedSimpArgs false
end Go.Proofs.Ytphmnkcfjgallaa.Q
namespace Go.Proofs.Ytphmnkcfjgallaa.Q
open Go.RowKit Go.Proofs.YtphmnkcfjgallaaW.PrintWords Go.Proofs.YtphmnkcfjgallaaW.PrintLast Go.Proofs.YtphmnkcfjgallaaW.PrintMore
attribute [local go_sem] max2_int min2_int max_two min_two max_three min_three max_four min_four   -- for this text's walks alone
set_option linter.unusedVariables false
set_option linter.unusedSimpArgs false
end Go.Proofs.Ytphmnkcfjgallaa.Q
namespace Go.Proofs.Ytphmnkcfjgallaa.Q
open Go.RowKit Go.Proofs.YtphmnkcfjgallaaW.PrintWords Go.Proofs.YtphmnkcfjgallaaW.PrintLast Go.Proofs.YtphmnkcfjgallaaW.PrintMore
attribute [local go_sem] max2_int min2_int max_two min_two max_three min_three max_four min_four   -- for this text's walks alone
set_option linter.unusedVariables false
set_option linter.unusedSimpArgs false
def ledgerP (chart : List Acc) (dims curs : Int) (l : List Ent) (h : Int) : Prop := frameB chart dims curs = true ∧ l.length ≤ 1000 ∧ (∀ e ∈ l, entryP chart dims curs e) ∧ h = headV l
open Classical in
noncomputable def ledgerB (chart : List Acc) (dims curs : Int) (l : List Ent) (h : Int) : Bool := decide (ledgerP chart dims curs l h)
open Classical in
theorem ledgerB_true {chart : List Acc} {dims curs : Int} {l : List Ent} {h : Int} : ledgerB chart dims curs l h = true ↔ ledgerP chart dims curs l h := by unfold ledgerB; rw [decide_eq_true_eq]
theorem ledgerB_not {chart : List Acc} {dims curs : Int} {l : List Ent} {h : Int} (k : ¬ ledgerP chart dims curs l h) : false = ledgerB chart dims curs l h := by
  cases hb : ledgerB chart dims curs l h with
  | false => rfl
  | true => exact absurd (ledgerB_true.1 hb) k
set_option maxHeartbeats 8000000 in
set_option maxRecDepth 100000 in
theorem impl_LedgerOk.to (A0 : Option Addr) (c0 : Nat) (l0 : List Acc) (dims curs : Int) (A1 : Option Addr) (c1 : Nat) (l1 : List Ent) (h : Int) (w : World) (hr0 : Kd.C k131 w A0 l0.length l0) (hs : ∀ x ∈ l0, x.f0.size ≤ maxLen) (hr1 : Kd.C k34 w A1 l1.length l1) (hm : ∀ e ∈ l1, e.f2.size ≤ maxLen) :
    Calls Try.prog 22 #[.agg #[.slice A0 l0.length c0, .int .i64 dims, .int .i64 curs], .agg #[.slice A1 l1.length c1, .int .i64 h]] w fun x w' => x = .returned (.bool (ledgerB l0 dims curs l1 h)) ∧ Below w.heap.size w w' := by
  have hl0 := hr0.2.1
  have hl1 := hr1.2.1
  have H0 := Aside0.mk hr0
  have H1 := Aside0.mk hr1
  have HS := Aside0.mk hs
  have HM := Aside0.mk hm
  have H00 := Aside0.mk (Kd.C_below hr0 (below_two w (.cells #[.slice A0 l0.length c0, .int .i64 dims, .int .i64 curs] 26) (.cells #[.slice A1 l1.length c1, .int .i64 h] 29)))
  clear hr0 hr1 hs hm
  go_enter Try.func22, Try.ntmps22
  go_wp2_with fail
  refine (impl_FrameOk.to A0 c0 l0 dims curs _ H00.out HS.out).mono ?_
  rintro x w1 ⟨rfl, hb⟩
  have HB := Aside0.mk (below_into (w := w) hb (below_two _ _ _))
  have f0 : w1.cell? ⟨w.heap.size, 0, none⟩ = some (.slice A0 l0.length c0) := pw_cell_below hb (by go_simp)
  have f1 : w1.cell? ⟨w.heap.size, 1, none⟩ = some (.int .i64 dims) := pw_cell_below hb (by go_simp)
  have f2 : w1.cell? ⟨w.heap.size, 2, none⟩ = some (.int .i64 curs) := pw_cell_below hb (by go_simp)
  have y0 : w1.cell? ⟨w.heap.size + 1, 0, none⟩ = some (.slice A1 l1.length c1) := pw_cell_below hb (by go_simp)
  have y1 : w1.cell? ⟨w.heap.size + 1, 1, none⟩ = some (.int .i64 h) := pw_cell_below hb (by go_simp)
  clear hb H00
  cases hfr : frameB l0 dims curs with
  | false =>
    have HN := Aside0.mk (ledgerB_not (fun q => by have := q.1; rw [hfr] at this; cases this) : false = ledgerB l0 dims curs l1 h)
    clear hfr
    go_wp2_with fail
    go_ret
    exact ⟨ret_bool HN.out, HB.out⟩
  | true =>
    have HF := Aside0.mk hfr
    obtain ⟨_, hd, hc⟩ := frame_parts hfr
    have HD := Aside0.mk hd
    have HC := Aside0.mk hc
    clear hfr hd hc
    by_cases hlen : 1000 < l1.length
    · have HN := Aside0.mk (ledgerB_not (fun q => by have := q.2.1; omega) : false = ledgerB l0 dims curs l1 h)
      go_wp2_with fail
      go_ret
      exact ⟨ret_bool HN.out, HB.out⟩
    · have HB1 := Aside0.mk (Below.refl w1.heap.size w1)
      have F0 := Aside0.mk f0
      have F1 := Aside0.mk f1
      have F2 := Aside0.mk f2
      have Y0 := Aside0.mk y0
      have Y1 := Aside0.mk y1
      go_wp2_with fail
      clear f0 f1 f2 y0 y1
      go_loopw [19] (fun v wr => ∃ i : Int, 0 ≤ i ∧ i ≤ (l1.length : Int) ∧ v = .int .i64 i ∧ Aside0 (Below w1.heap.size w1 wr) ∧ Aside0 (∀ e ∈ l1.take i.toNat, entryP l0 dims curs e)) (fun v _ => (l1.length - (intOf v).toNat))
      case atStart => exact ⟨0, by omega, by omega, rfl, HB1, ⟨fun x hx => by cases hx⟩⟩
      case round =>
        clear HB1
        obtain ⟨i, hi0, hi1, rfl, HB1, HO⟩ := hrel
        have f0 := pw_cell_below HB1.out F0.out
        have f1 := pw_cell_below HB1.out F1.out
        have f2 := pw_cell_below HB1.out F2.out
        have y0 := pw_cell_below HB1.out Y0.out
        have y1 := pw_cell_below HB1.out Y1.out
        have HBW := Aside0.mk (below_into HB1.out HB.out)
        have hz0 := World.block_lt_of_cell? _ _ f0
        have hz1 := World.block_lt_of_cell? _ _ y0
        by_cases hlt : i < (l1.length : Int)
        · obtain ⟨ad, A3, c3, e0, x0, x1, x2, x3, x4, x5⟩ := at_T34 (Kd.C_below H1.out HBW.out) i hi0 hlt
          cases e0
          have X5 := Aside0.mk (Kd.C_below x5 (below_alloc (Below.refl wr.heap.size wr) (entO (rd_T34 l1 i) A3 c3)))
          have HC0 := Aside0.mk (Kd.C_below H0.out (below_alloc HBW.out (entO (rd_T34 l1 i) A3 c3)))
          have HMI := Aside0.mk (all_at (z := z34) (p := fun e => e.f2.size ≤ maxLen) hi0 hlt HM.out)
          clear x5
          go_wp2_with fail
          refine (impl_entryIn.to A0 c0 l0 dims curs (rd_T34 l1 i) A3 c3 _ HC0.out X5.out HD.out HC.out HMI.out).mono ?_
          rintro x w2 ⟨rfl, hb⟩
          have HB2 := Aside0.mk (below_into (w := w1) hb (below_alloc HB1.out _))
          clear hb
          cases hen : entryB l0 dims curs (rd_T34 l1 i) with
          | false =>
            have HN := Aside0.mk (ledgerB_not (fun q => by have := entryB_true.2 (all_at (z := z34) (p := entryP l0 dims curs) hi0 hlt q.2.2.1); rw [show entryB l0 dims curs (l1.getD i.toNat z34) = false from hen] at this; cases this) : false = ledgerB l0 dims curs l1 h)
            have HBF := Aside0.mk (below_into HB2.out HB.out)
            clear hen HB2
            go_wp2_with fail
            go_ret
            exact ⟨ret_bool HN.out, HBF.out⟩
          | true =>
            have HO2 := Aside0.mk (all_step (z := z34) (p := entryP l0 dims curs) hi0 hlt HO.out (entryB_true.1 hen))
            clear hen
            go_wp2_with fail
            go_roundw
            case rel => exact ⟨i + 1, by omega, by omega, rfl, HB2, HO2⟩
            case measure => simp [intOf]; omega
        · have HOK := Aside0.mk (all_end (by omega) HO.out : ∀ e ∈ l1, entryP l0 dims curs e)
          have HC1 := Aside0.mk (Kd.C_below H1.out HBW.out)
          clear HO f0 f1 f2
          go_wp2_with fail
          go_region_held3 (fun w' => w'.cell? ⟨w.heap.size + 1, 0, none⟩ = some (.slice A1 l1.length c1) ∧ w'.cell? ⟨w.heap.size + 1, 1, none⟩ = some (.int .i64 h)) ((first | go_keep | exact ⟨pw_cell_below hb (by assumption), pw_cell_below hb (by assumption)⟩))
            ((go_at_call 94; refine (impl_HeadOf.to A1 c1 l1 _ (by repeat (first | exact HC1.out | refine Kd.C_drew ?_))).mono ?_; rintro x w2 ⟨rfl, hb⟩))
          have HBF := Aside0.mk (below_into (w := w) hb (below_drew HBW.out))
          clear hb
          by_cases hh : h = headV l1
          · have hhb : (h == headV l1) = true := beq_iff_eq.2 hh
            have HY := Aside0.mk (ledgerB_true.2 (show ledgerP l0 dims curs l1 h from ⟨HF.out, by omega, HOK.out, hh⟩))
            clear hh
            go_wp2_with fail
            go_ret
            exact ⟨ret_bool (by rw [HY.out]; exact hhb), HBF.out⟩
          · have hhb : (h == headV l1) = false := beq_eq_false_iff_ne.2 hh
            have HN := Aside0.mk (ledgerB_not (fun q => hh q.2.2.2) : false = ledgerB l0 dims curs l1 h)
            clear hh
            go_wp2_with fail
            go_ret
            exact ⟨ret_bool (by rw [← HN.out]; exact hhb), HBF.out⟩
end Go.Proofs.Ytphmnkcfjgallaa.Q
namespace Go.Proofs.Ytphmnkcfjgallaa.Q
open Go.RowKit Go.Proofs.YtphmnkcfjgallaaW.PrintWords Go.Proofs.YtphmnkcfjgallaaW.PrintLast Go.Proofs.YtphmnkcfjgallaaW.PrintMore
set_option linter.unusedVariables false
set_option linter.unusedSimpArgs false
set_option maxHeartbeats 16000000 in
set_option maxRecDepth 100000 in
theorem laws_heldLedger.to (A : Option Addr) (c : Nat) (l : List Ent) (h a1 : Int) (w : World) (hr : Kd.C k34 w A l.length (mAll mEnt nEnt a1 l)) (h0 : 0 ≤ a1) (h1 : a1 ≤ 100000000000000) (hl : l.length ≤ 1048576) (hs : ∀ x ∈ l, x.f3.length ≤ 1048576) :
    Calls Try.prog 60 #[.agg #[.slice A l.length c, .int .i64 h], .int .i64 a1] w fun e w' => e = .returned (.int .i64 (nAll nEnt a1 l)) ∧ Below w.heap.size w w' := by
  have HB := Aside0.mk (below_alloc (Below.refl w.heap.size w) (.cells #[.slice A l.length c, .int .i64 h] 29))
  have HR := Aside0.mk hr
  have hn := nEnt_b l hs a1
  have HE := Aside0.mk (fun (W : World) (hC : Kd.C k34 W A l.length (mAll mEnt nEnt a1 l)) => laws_heldEntryS.to A c l a1 W hC h0 h1 hl hs)
  clear hr
  generalize mAll mEnt nEnt a1 l = M at *
  generalize nAll nEnt a1 l = K at *
  go_enter Try.func60, Try.ntmps60
  go_wp2_with fail
  refine (HE.out _ (Kd.C_below HR.out HB.out)).mono ?_
  rintro e w2 ⟨rfl, hb⟩
  have HB2 := Aside0.mk (below_into (w := w) hb HB.out)
  clear hb
  have hq : ¬ K < 0 := by omega
  have hq2 : decide (K < 0) = false := decide_eq_false hq
  go_wp2_with fail
  go_ret
  exact ⟨rfl, HB2.out⟩
end Go.Proofs.Ytphmnkcfjgallaa.Q
namespace Go.Proofs.Ytphmnkcfjgallaa.Q
open Go.RowKit Go.Proofs.YtphmnkcfjgallaaW.PrintWords Go.Proofs.YtphmnkcfjgallaaW.PrintLast Go.Proofs.YtphmnkcfjgallaaW.PrintMore
set_option linter.unusedVariables false
set_option linter.unusedSimpArgs false
theorem fill_loop {α β : Type} (F : Nat → List α → List β → Int → Option (List β)) (cv : α → β) (z : α) (l : List α) (D : Nat)
    (hstep : ∀ k x i, D ≤ k → 0 ≤ i → i < (l.length : Int) → x.length = l.length → F (k + 1) l x i = F k l (x.set i.toNat (cv (l.getD i.toNat z))) (i + 1))
    (hend : ∀ k x i, (l.length : Int) ≤ i → F (k + 1) l x i = some x) :
    ∀ (n k : Nat) (x : List β) (i : Nat), i + n = l.length → n + D < k → x.length = l.length → x.take i = (l.map cv).take i → F k l x i = some (l.map cv)
  | 0, k, x, i, hi, hk, hx, ht => by
    obtain ⟨m, rfl⟩ : ∃ m, k = m + 1 := ⟨k - 1, by omega⟩
    rw [hend m x i (by omega)]
    rw [List.take_of_length_le (by omega), List.take_of_length_le (by simp; omega)] at ht
    rw [ht]
  | n + 1, k, x, i, hi, hk, hx, ht => by
    obtain ⟨m, rfl⟩ : ∃ m, k = m + 1 := ⟨k - 1, by omega⟩
    rw [hstep m x i (by omega) (by omega) (by omega) hx]
    refine fill_loop F cv z l D hstep hend n m _ (i + 1) (by omega) (by omega) (by simpa using hx) ?_
    have hxi : i < x.length := by omega
    have hli : i < l.length := by omega
    simp only [Int.toNat_natCast]
    rw [List.take_add_one, List.take_add_one, List.take_set, ht, List.getElem?_set_self (by omega), List.getElem?_map, List.getElem?_eq_getElem hli, List.getD_eq_getElem?_getD, List.getElem?_eq_getElem hli]
    rw [List.set_eq_of_length_le (by simp; omega)]
    simp
def cvAccount (x : S176) : S131 := ⟨x.f0, x.f1, x.f2⟩
def cvLine (x : S188) : S112 := ⟨x.f0, x.f1, x.f2, x.f3, x.f4⟩
def cvEntry (x : S93) : S34 := ⟨x.f0, x.f1, x.f2, x.f3.map cvLine⟩
theorem laws_toAccountS_is (l : List S176) (k : Nat) (hl : l.length ≤ 1048576) (hk : l.length < k) : laws_toAccountS.f k l = some (l.map cvAccount) := by
  unfold laws_toAccountS.f
  rw [if_pos (by omega), if_pos (by omega)]
  exact fill_loop laws_toAccountS.l0 cvAccount z176 l 0 (fun k x i _ h0 h1 hx => by
    simp only [laws_toAccountS.l0]
    rw [if_pos h1, if_pos h0]
    simp only [laws_toAccount.f, Option.bind_some]
    rw [if_pos (by omega), show wrap64 (i + 1) = i + 1 by unfold wrap64; omega]
    rfl) (fun k x i h => by simp only [laws_toAccountS.l0]; rw [if_neg (by omega)]) l.length k _ 0 (by omega) (by omega) (by simp) (by simp)
theorem laws_toLineS_is (l : List S188) (k : Nat) (hl : l.length ≤ 1048576) (hk : l.length < k) : laws_toLineS.f k l = some (l.map cvLine) := by
  unfold laws_toLineS.f
  rw [if_pos (by omega), if_pos (by omega)]
  exact fill_loop laws_toLineS.l0 cvLine z188 l 0 (fun k x i _ h0 h1 hx => by
    simp only [laws_toLineS.l0]
    rw [if_pos h1, if_pos h0]
    simp only [laws_toLine.f, Option.bind_some]
    rw [if_pos (by omega), show wrap64 (i + 1) = i + 1 by unfold wrap64; omega]
    rfl) (fun k x i h => by simp only [laws_toLineS.l0]; rw [if_neg (by omega)]) l.length k _ 0 (by omega) (by omega) (by simp) (by simp)
theorem laws_toEntry_is (x : S93) (k : Nat) (hs : small93 x) (hk : 1048576 < k) : laws_toEntry.f k x.f0 x.f1 x.f2 x.f3 = some ((cvEntry x).f0, (cvEntry x).f1, (cvEntry x).f2, (cvEntry x).f3) := by
  unfold small93 at hs
  unfold laws_toEntry.f
  rw [laws_toLineS_is x.f3 k hs (by omega)]
  rfl
theorem laws_toEntryS_is (l : List S93) (k : Nat) (hl : l.length ≤ 1048576) (hs : ∀ y ∈ l, small93 y) (hk : l.length + 1048577 < k) : laws_toEntryS.f k l = some (l.map cvEntry) := by
  unfold laws_toEntryS.f
  rw [if_pos (by omega), if_pos (by omega)]
  exact fill_loop laws_toEntryS.l0 cvEntry z93 l 1048577 (fun k x i hD h0 h1 hx => by
    simp only [laws_toEntryS.l0]
    rw [if_pos h1, if_pos h0, laws_toEntry_is (rd_T93 l i) k (all_at (z := z93) h0 h1 hs) (by omega)]
    simp only [Option.bind_some]
    rw [if_pos (by omega), show wrap64 (i + 1) = i + 1 by unfold wrap64; omega]
    rfl) (fun k x i h => by simp only [laws_toEntryS.l0]; rw [if_neg (by omega)]) l.length k _ 0 (by omega) (by omega) (by simp) (by simp)
theorem laws_toFrame_is (l : List S176) (d c : Int) (k : Nat) (hl : l.length ≤ 1048576) (hk : 3000000 ≤ k) : laws_toFrame.f k l d c = some (l.map cvAccount, d, c) := by
  unfold laws_toFrame.f
  rw [laws_toAccountS_is l k hl (by omega)]
  rfl
theorem laws_toLedger_is (l : List S93) (h : Int) (k : Nat) (hl : l.length ≤ 1048576 ∧ ∀ y ∈ l, small93 y) (hk : 3000000 ≤ k) : laws_toLedger.f k l h = some (l.map cvEntry, h) := by
  unfold laws_toLedger.f
  rw [laws_toEntryS_is l k hl.1 hl.2 (by omega)]
  rfl
theorem text_cvAccount {l : List S176} (h : ∀ y ∈ l, wf176 y) : ∀ x ∈ l.map cvAccount, x.f0.size ≤ maxLen := by
  intro x hx
  obtain ⟨y, hy, rfl⟩ := List.mem_map.1 hx
  exact (h y hy).1
theorem text_cvEntry {l : List S93} (h : ∀ y ∈ l, wf93 y) : ∀ x ∈ l.map cvEntry, x.f2.size ≤ maxLen := by
  intro x hx
  obtain ⟨y, hy, rfl⟩ := List.mem_map.1 hx
  exact (h y hy).2.2.1
end Go.Proofs.Ytphmnkcfjgallaa.Q
