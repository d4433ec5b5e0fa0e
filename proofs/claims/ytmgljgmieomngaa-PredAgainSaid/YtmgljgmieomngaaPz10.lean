/- An ANY, walked: two loops, one in the other. -/
import Derived.Test.YtmgljgmieomngaaPz8
namespace Go.Proofs.Ytmgljgmieomngaa.Pz
open Go Go.RowKit Go.Proofs.YtmgljgmieomngaaW.PrintWords Go.Proofs.YtmgljgmieomngaaW.PrintLast Go.Proofs.YtmgljgmieomngaaW.PrintMore Go.Proofs.Ytmgljgmieomngaa.Q
attribute [local go_sem] run_store_complex run_store_float isSome_setCell
set_option linter.unusedVariables false
set_option linter.unusedSimpArgs false
set_option maxHeartbeats 16000000 in
set_option maxRecDepth 100000 in
theorem sum_step (K : Nat) (IU : ∀ j, j ≤ K → UnitC j) : SumC (K + 1) := by
  intro B w g s v t xs o hg hR ge hi hx hs h
  have hu61 := Try.underlying61
  have hu59 := Try.underlying59
  have hu54 := Try.underlying54
  have hu43 := Try.underlying43
  have HH := Aside0.mk (Hs.start hg hR ge)
  have HI := Aside0.mk hi
  have HX := Aside0.mk hx
  clear hg hR hi hx
  have IU := Aside0.mk IU
  have HKU := Aside0.mk (pr_sum h)
  clear h
  go_enter Try.func18, Try.ntmps18
  go_wp2
  go_loopg [2] (K + 1) (fun kq v2 w' => ∃ (n : Int) (t1 : St) (v1 : Value) (acc : List S54), v2 = .int .i64 n ∧ Aside0 (Hs B w w' g s v v1 t1 (xs ++ acc)) ∧ Aside0 (Iw s t1) ∧ Aside0 (((xs ++ acc).length : Int) ≤ t1.w.pl) ∧ Aside0 (0 ≤ n ∧ n ≤ t1.w.pl) ∧ Aside0 ((n = 0 ∧ kq = K + 1 ∧ KU s K K K [] acc o t1) ∨ (0 < n ∧ kq ≤ K ∧ KS s kq [] acc o t1)))
  case atStart => exact ⟨0, t, v, [], rfl, ⟨by rw [List.append_nil]; exact HH.out⟩, HI, ⟨by rw [List.append_nil]; exact HX.out⟩, ⟨Int.le_refl _, HI.out.2.1⟩, ⟨.inl ⟨rfl, rfl, HKU.out⟩⟩⟩
  clear HH HI HX HKU
  obtain ⟨n, t1, v1, acc, rfl, HH, HI, HLn, hn, HC⟩ := hrel
  obtain ⟨hn0, hn1⟩ := hn.out
  have hp1 : t1.w.pl ≤ 400 := by have := HI.out.1.2; have := HI.out.2.2.1; omega
  clear hn
  obtain ⟨wo, rfl⟩ : ∃ wo : World, wo = wr := ⟨_, rfl⟩
  rcases HC.out with ⟨rfl, hgk, hku⟩ | ⟨hn2, hgk, hks⟩
  · have HKU := Aside0.mk hku
    have hgk := Aside0.mk hgk
    have HNp := Aside0.mk hn1
    have hjK : K ≤ K := Nat.le_refl _
    clear HC hku
    go_upto_block 2 with (fail)
    go_cut [] (fun wc => ∃ (t3 : St) (v3 : Value) (acc3 : List S54), Aside0 (Hs B w wc g s v v3 t3 (xs ++ acc3)) ∧ Aside0 (Iw s t3) ∧ Aside0 (((xs ++ acc3).length : Int) + 0 ≤ t3.w.pl) ∧ Aside0 ((0 : Int) + 1 ≤ t3.w.pl) ∧ Aside0 (KS s K [] acc3 o t3))
    case first =>
      go_wp2
      go_loopg [3] (K + 1) (fun kq v3 w' => ∃ (m : Int) (t3 : St) (v4 : Value) (acc3 : List S54), v3 = .int .i64 m ∧ Aside0 (Hs B w w' g s v v4 t3 (xs ++ acc3)) ∧ Aside0 (Iw s t3) ∧ Aside0 (((xs ++ acc3).length : Int) + 0 ≤ t3.w.pl) ∧ Aside0 (0 ≤ m ∧ m ≤ t3.w.pl) ∧ Aside0 ((m = 0 ∧ kq = K + 1 ∧ (0 : Int) ≤ t3.w.pl ∧ KU s K K K [] acc3 o t3) ∨ (0 < m ∧ kq ≤ K ∧ (0 : Int) + 1 ≤ t3.w.pl ∧ KA s kq K [] acc3 o t3)))
      case atStart => exact ⟨0, _, _, acc, rfl, HH, HI, ⟨by have := HLn.out; omega⟩, ⟨Int.le_refl _, HI.out.2.1⟩, ⟨.inl ⟨rfl, rfl, HNp.out, HKU.out⟩⟩⟩
      clear HH HI HLn HNp HKU
      obtain ⟨m, t3, v4, acc3, rfl, HH, HI, HLn, hm, HC⟩ := hrel
      obtain ⟨hm0, hm1⟩ := hm.out
      have hp3 : t3.w.pl ≤ 400 := by have := HI.out.1.2; have := HI.out.2.2.1; omega
      clear hm
      rcases HC.out with ⟨rfl, hgk, hnp, hku⟩ | ⟨hm2, hgk, hnp, hka⟩
      · obtain ⟨o1, u1, u2, u3⟩ := hku
        have CU := Aside0.mk (fun W (hg : At W g (RC s t3 v4) 61) (hR : Kd.R k54 54 W B (fun k => k ≠ g) v4 (xs ++ acc3)) => IU.out K hjK B W g s v4 t3 (xs ++ acc3) o1 hg hR ge HI.out (by have := HLn.out; omega) hs u1)
        have hup := pr_up s K .unit t3 o1 HI.out u1
        clear HC u1
        cases o1 with
        | bad pp er =>
          have ho := u2 pp er rfl
          subst ho
          clear u2 u3 hup hgk
          go_wp2_with fail
          go_at_call 40
          refine (CU.out _ HH.out.at' HH.out.own).mono ?_
          rintro e w8 ⟨rfl, hk2, hl2⟩
          unfold flt
          exact ⟨rfl, rfl, HH.out.apd_bad hk2 hl2⟩
        | ok r =>
          obtain ⟨l, t4⟩ := r
          obtain ⟨j1, j2, j3⟩ := hup l t4 rfl
          have hka := Aside0.mk (u3 l t4 rfl)
          have hgk := Aside0.mk hgk
          clear u2 u3 hup
          go_wp2_with fail
          go_at_call 40
          refine (CU.out _ HH.out.at' HH.out.own).mono ?_
          rintro e w8 ⟨rfl, v8, b1, b2, b3, b4, b5⟩
          have HN := Aside0.mk (HH.out.apd b1 b2 b3 b4 b5)
          clear HH b1 b2 b3 b4 b5 CU
          have HH := HN
          clear HN
          go_wp2
          go_roundg K
          case measure => have := hgk.out; omega
          case rel => exact ⟨1, t4, v8, acc3 ++ l, rfl, ⟨by rw [← List.append_assoc]; exact HH.out⟩, ⟨j1⟩, ⟨by have := HLn.out; simp only [List.length_append] at *; omega⟩, ⟨by omega, by have := HI.out.2.1; omega⟩, ⟨.inr ⟨by omega, hjK, by omega, hka.out⟩⟩⟩
      · have hm0' : (m == 0) = false := by
          have : m ≠ 0 := by omega
          simpa using this
        have hm2' : decide (0 < m) = true := decide_eq_true hm2
        cases gk with
        | zero => exact absurd hka (fun h => KA_zero h)
        | succ I =>
        clear HC
        rcases KA_step hka with ⟨pp, er, a1, rfl⟩ | ⟨t4, a1, o1, u1, u2, u3⟩ | ⟨a1, hks⟩
        · have CI := Aside0.mk (is_all g s v4 t3 38 HI.out.1 hs a1)
          clear a1 hka
          go_wp2_with fail
          go_at_call 39
          refine (CI.out _ HH.out.at').mono ?_
          rintro e w7 ⟨rfl, hk2, hl2⟩
          unfold flt
          exact ⟨rfl, rfl, HH.out.turn_bad hk2 hl2⟩
        · have CI := Aside0.mk (is_all g s v4 t3 38 HI.out.1 hs a1)
          have up1 := isF_up HI.out (by decide) a1
          have hlu := up1.2
          have CU := Aside0.mk (fun W (hg : At W g (RC s t4 v4) 61) (hR : Kd.R k54 54 W B (fun k => k ≠ g) v4 (xs ++ acc3)) => IU.out I (by omega) B W g s v4 t4 (xs ++ acc3) o1 hg hR ge up1.1 (by have := HLn.out; omega) hs u1)
          have hup := pr_up s I .unit t4 o1 up1.1 u1
          clear a1 u1 hka
          cases o1 with
          | bad pp er =>
            have ho := u2 pp er rfl
            subst ho
            clear u2 u3 hup
            go_wp2_with fail
            go_at_call 39
            refine (CI.out _ HH.out.at').mono ?_
            rintro e w7 ⟨rfl, hg2, hk2, hl2⟩
            have HN := Aside0.mk (HH.out.turn hg2 hk2 hl2)
            clear HH hg2 hk2 hl2 CI
            have HH := HN
            clear HN
            go_wp2_with fail
            go_at_call 40
            refine (CU.out _ HH.out.at' HH.out.own).mono ?_
            rintro e w8 ⟨rfl, hk2, hl2⟩
            unfold flt
            exact ⟨rfl, rfl, HH.out.apd_bad hk2 hl2⟩
          | ok r =>
            obtain ⟨l, t5⟩ := r
            obtain ⟨j1, j2, j3⟩ := hup l t5 rfl
            have hka := Aside0.mk (u3 l t5 rfl)
            clear u2 u3 hup
            have hp5 : t5.w.pl ≤ 400 := by have := j1.1.2; have := j1.2.2.1; omega
            go_wp2_with fail
            go_at_call 39
            refine (CI.out _ HH.out.at').mono ?_
            rintro e w7 ⟨rfl, hg2, hk2, hl2⟩
            have HN := Aside0.mk (HH.out.turn hg2 hk2 hl2)
            clear HH hg2 hk2 hl2 CI
            have HH := HN
            clear HN
            go_wp2_with fail
            go_at_call 40
            refine (CU.out _ HH.out.at' HH.out.own).mono ?_
            rintro e w8 ⟨rfl, v8, b1, b2, b3, b4, b5⟩
            have HN := Aside0.mk (HH.out.apd b1 b2 b3 b4 b5)
            clear HH b1 b2 b3 b4 b5 CU
            have HH := HN
            clear HN
            obtain ⟨ys, hys⟩ : ∃ ys, xs ++ acc3 ++ l = ys := ⟨_, rfl⟩
            rw [hys] at HH
            have hyl : ys.length < 100000 := by have := HLn.out; rw [← hys]; simp only [List.length_append] at *; omega
            have HYS := Aside0.mk hys
            clear hys
            have hl7 := HH.out.at'.lt
            have hge7 := HH.out.ge
            have c7 : w8.cell? ⟨g, 7, none⟩ = some v8 := (blk_cell HH.out.at' 7).trans rfl
            have hne7 := World.new_ne w8 ⟨g, 7, none⟩ c7
            go_wp2_with ((with_reducible refine gate_builtin (b := .append) (xs := #[.tmp 28, .tmp 30]) rfl ?_); at_builtin; refine Kd.R_append k54 (w0 := w8) (W := w8) B rfl (.tmp 28) (.tmp 30) 23 54 _ 96 (by rfl) Try.underlying23 info54 rfl (by decide) (by decide) v8 ys (op54 5) (tc (op54 5)) (fun k => k ≠ g) (fun _ => False) (by rfl) (by rfl) (tc_M _ _ _ _) (fun _ h => h.elim) (fun k (hk : w8.heap.size ≤ k) e => by omega) HH.out.own (Below.refl _ _) (by omega) (by omega) ?_; intro v9 w9 ho hb1 hg1 hat1; obtain ⟨e1, e2⟩ := HH.out.cell7 hg1; have HN := Aside0.mk (HH.out.put (t := t5) (r := v9) ho hb1 hg1 hat1); obtain ⟨A9, n9, e9⟩ := Kd.R_slice ho; rw [show (ys ++ [(op54 5)]).length = ys.length + 1 from by simp] at e9; subst e9; clear ho hb1 hg1 hat1 HH c7)
            go_roundg I
            case measure => omega
            case rel => exact ⟨m + 1, t5, _, acc3 ++ l ++ [op54 5], rfl, ⟨by have h := HN.out; rw [← HYS.out] at h; simp only [← HYS.out] at h ⊢; simpa [List.append_assoc] using h⟩, ⟨j1⟩, ⟨by have := HLn.out; simp only [List.length_append, List.length_cons, List.length_nil] at *; omega⟩, ⟨by omega, by omega⟩, ⟨.inr ⟨by omega, by omega, by omega, hka.out⟩⟩⟩
        · have CI := Aside0.mk (is_all g s v4 t3 38 HI.out.1 hs a1)
          have HKS := Aside0.mk hks
          clear a1 hka hks
          go_wp2_with fail
          go_at_call 39
          refine (CI.out _ HH.out.at').mono ?_
          rintro e w7 ⟨rfl, hg2, hk2, hl2⟩
          have HN := Aside0.mk (HH.out.turn hg2 hk2 hl2)
          clear HH hg2 hk2 hl2 CI
          have HH := HN
          clear HN
          go_wp2
          go_meet
          case rel => exact ⟨t3, v4, acc3, HH, HI, HLn, ⟨hnp⟩, HKS⟩
    case rest =>
      clear HH HI HLn HNp HKU
      obtain ⟨t3, v3, acc3, HH, HI, HLn, HNp, HKS⟩ := hcut
      have hnp := HNp.out
      have hp3 : t3.w.pl ≤ 400 := by have := HI.out.1.2; have := HI.out.2.2.1; omega
      go_wp2
      go_roundg K
      case measure => have := hgk.out; omega
      case rel => exact ⟨1, t3, v3, acc3, rfl, HH, HI, ⟨by have := HLn.out; omega⟩, ⟨by omega, by omega⟩, ⟨.inr ⟨by omega, Nat.le_refl _, by have h := KS_pre HKS.out; rwa [List.append_nil] at h⟩⟩⟩
  · have hn0' : (n == 0) = false := by
      have : n ≠ 0 := by omega
      simpa using this
    have hn2' : decide (0 < n) = true := decide_eq_true hn2
    clear HC
    cases gk with
    | zero => exact absurd hks (fun h => KS_zero h)
    | succ J =>
    rcases KS_step hks with ⟨pp, er, a1, rfl⟩ | ⟨t2, a1, hku⟩ | ⟨a1, rfl⟩
    · have CI := Aside0.mk (is_all g s v1 t1 124 HI.out.1 hs a1)
      clear a1 hks
      go_wp2_with fail
      go_at_call 39
      refine (CI.out _ HH.out.at').mono ?_
      rintro e w7 ⟨rfl, hk2, hl2⟩
      unfold flt
      exact ⟨rfl, rfl, HH.out.turn_bad hk2 hl2⟩
    · have CI := Aside0.mk (is_all g s v1 t1 124 HI.out.1 hs a1)
      have up1 := isF_up HI.out (by decide) a1
      have hlu := up1.2
      have HKU := Aside0.mk hku
      have hjK : J ≤ K := by omega
      clear a1 hks hku
      go_wp2_with fail
      go_at_call 39
      refine (CI.out _ HH.out.at').mono ?_
      rintro e w7 ⟨rfl, hg2, hk2, hl2⟩
      have HN := Aside0.mk (HH.out.turn hg2 hk2 hl2)
      clear HH hg2 hk2 hl2 CI
      have HH := HN
      clear HN
      have HLn0 := HLn.out
      have HI0 := up1.1
      clear HI HLn
      have HI := Aside0.mk HI0
      have HLn : Aside0 (((xs ++ acc).length : Int) + 1 ≤ t2.w.pl) := ⟨by omega⟩
      have HNp : Aside0 (n ≤ t2.w.pl) := ⟨by omega⟩
      clear HI0 HLn0
      go_upto_block 2 with (fail)
      go_cut [] (fun wc => ∃ (t3 : St) (v3 : Value) (acc3 : List S54), Aside0 (Hs B w wc g s v v3 t3 (xs ++ acc3)) ∧ Aside0 (Iw s t3) ∧ Aside0 (((xs ++ acc3).length : Int) + 1 ≤ t3.w.pl) ∧ Aside0 (n + 1 ≤ t3.w.pl) ∧ Aside0 (KS s J [op54 6] acc3 o t3))
      case first =>
        go_wp2
        go_loopg [3] (K + 1) (fun kq v3 w' => ∃ (m : Int) (t3 : St) (v4 : Value) (acc3 : List S54), v3 = .int .i64 m ∧ Aside0 (Hs B w w' g s v v4 t3 (xs ++ acc3)) ∧ Aside0 (Iw s t3) ∧ Aside0 (((xs ++ acc3).length : Int) + 1 ≤ t3.w.pl) ∧ Aside0 (0 ≤ m ∧ m ≤ t3.w.pl) ∧ Aside0 ((m = 0 ∧ kq = K + 1 ∧ n ≤ t3.w.pl ∧ KU s J J J [op54 6] acc3 o t3) ∨ (0 < m ∧ kq ≤ K ∧ n + 1 ≤ t3.w.pl ∧ KA s kq J [op54 6] acc3 o t3)))
        case atStart => exact ⟨0, _, _, acc, rfl, HH, HI, ⟨by have := HLn.out; omega⟩, ⟨Int.le_refl _, HI.out.2.1⟩, ⟨.inl ⟨rfl, rfl, HNp.out, HKU.out⟩⟩⟩
        clear HH HI HLn HNp HKU
        obtain ⟨m, t3, v4, acc3, rfl, HH, HI, HLn, hm, HC⟩ := hrel
        obtain ⟨hm0, hm1⟩ := hm.out
        have hp3 : t3.w.pl ≤ 400 := by have := HI.out.1.2; have := HI.out.2.2.1; omega
        clear hm
        rcases HC.out with ⟨rfl, hgk, hnp, hku⟩ | ⟨hm2, hgk, hnp, hka⟩
        · obtain ⟨o1, u1, u2, u3⟩ := hku
          have CU := Aside0.mk (fun W (hg : At W g (RC s t3 v4) 61) (hR : Kd.R k54 54 W B (fun k => k ≠ g) v4 (xs ++ acc3)) => IU.out J hjK B W g s v4 t3 (xs ++ acc3) o1 hg hR ge HI.out (by have := HLn.out; omega) hs u1)
          have hup := pr_up s J .unit t3 o1 HI.out u1
          clear HC u1
          cases o1 with
          | bad pp er =>
            have ho := u2 pp er rfl
            subst ho
            clear u2 u3 hup hgk
            go_wp2_with fail
            go_at_call 40
            refine (CU.out _ HH.out.at' HH.out.own).mono ?_
            rintro e w8 ⟨rfl, hk2, hl2⟩
            unfold flt
            exact ⟨rfl, rfl, HH.out.apd_bad hk2 hl2⟩
          | ok r =>
            obtain ⟨l, t4⟩ := r
            obtain ⟨j1, j2, j3⟩ := hup l t4 rfl
            have hka := Aside0.mk (u3 l t4 rfl)
            have hgk := Aside0.mk hgk
            clear u2 u3 hup
            go_wp2_with fail
            go_at_call 40
            refine (CU.out _ HH.out.at' HH.out.own).mono ?_
            rintro e w8 ⟨rfl, v8, b1, b2, b3, b4, b5⟩
            have HN := Aside0.mk (HH.out.apd b1 b2 b3 b4 b5)
            clear HH b1 b2 b3 b4 b5 CU
            have HH := HN
            clear HN
            go_wp2
            go_roundg J
            case measure => have := hgk.out; omega
            case rel => exact ⟨1, t4, v8, acc3 ++ l, rfl, ⟨by rw [← List.append_assoc]; exact HH.out⟩, ⟨j1⟩, ⟨by have := HLn.out; simp only [List.length_append] at *; omega⟩, ⟨by omega, by have := HI.out.2.1; omega⟩, ⟨.inr ⟨by omega, hjK, by omega, hka.out⟩⟩⟩
        · have hm0' : (m == 0) = false := by
            have : m ≠ 0 := by omega
            simpa using this
          have hm2' : decide (0 < m) = true := decide_eq_true hm2
          cases gk with
          | zero => exact absurd hka (fun h => KA_zero h)
          | succ I =>
          clear HC
          rcases KA_step hka with ⟨pp, er, a1, rfl⟩ | ⟨t4, a1, o1, u1, u2, u3⟩ | ⟨a1, hks⟩
          · have CI := Aside0.mk (is_all g s v4 t3 38 HI.out.1 hs a1)
            clear a1 hka
            go_wp2_with fail
            go_at_call 39
            refine (CI.out _ HH.out.at').mono ?_
            rintro e w7 ⟨rfl, hk2, hl2⟩
            unfold flt
            exact ⟨rfl, rfl, HH.out.turn_bad hk2 hl2⟩
          · have CI := Aside0.mk (is_all g s v4 t3 38 HI.out.1 hs a1)
            have up1 := isF_up HI.out (by decide) a1
            have hlu := up1.2
            have CU := Aside0.mk (fun W (hg : At W g (RC s t4 v4) 61) (hR : Kd.R k54 54 W B (fun k => k ≠ g) v4 (xs ++ acc3)) => IU.out I (by omega) B W g s v4 t4 (xs ++ acc3) o1 hg hR ge up1.1 (by have := HLn.out; omega) hs u1)
            have hup := pr_up s I .unit t4 o1 up1.1 u1
            clear a1 u1 hka
            cases o1 with
            | bad pp er =>
              have ho := u2 pp er rfl
              subst ho
              clear u2 u3 hup
              go_wp2_with fail
              go_at_call 39
              refine (CI.out _ HH.out.at').mono ?_
              rintro e w7 ⟨rfl, hg2, hk2, hl2⟩
              have HN := Aside0.mk (HH.out.turn hg2 hk2 hl2)
              clear HH hg2 hk2 hl2 CI
              have HH := HN
              clear HN
              go_wp2_with fail
              go_at_call 40
              refine (CU.out _ HH.out.at' HH.out.own).mono ?_
              rintro e w8 ⟨rfl, hk2, hl2⟩
              unfold flt
              exact ⟨rfl, rfl, HH.out.apd_bad hk2 hl2⟩
            | ok r =>
              obtain ⟨l, t5⟩ := r
              obtain ⟨j1, j2, j3⟩ := hup l t5 rfl
              have hka := Aside0.mk (u3 l t5 rfl)
              clear u2 u3 hup
              have hp5 : t5.w.pl ≤ 400 := by have := j1.1.2; have := j1.2.2.1; omega
              go_wp2_with fail
              go_at_call 39
              refine (CI.out _ HH.out.at').mono ?_
              rintro e w7 ⟨rfl, hg2, hk2, hl2⟩
              have HN := Aside0.mk (HH.out.turn hg2 hk2 hl2)
              clear HH hg2 hk2 hl2 CI
              have HH := HN
              clear HN
              go_wp2_with fail
              go_at_call 40
              refine (CU.out _ HH.out.at' HH.out.own).mono ?_
              rintro e w8 ⟨rfl, v8, b1, b2, b3, b4, b5⟩
              have HN := Aside0.mk (HH.out.apd b1 b2 b3 b4 b5)
              clear HH b1 b2 b3 b4 b5 CU
              have HH := HN
              clear HN
              obtain ⟨ys, hys⟩ : ∃ ys, xs ++ acc3 ++ l = ys := ⟨_, rfl⟩
              rw [hys] at HH
              have hyl : ys.length < 100000 := by have := HLn.out; rw [← hys]; simp only [List.length_append] at *; omega
              have HYS := Aside0.mk hys
              clear hys
              have hl7 := HH.out.at'.lt
              have hge7 := HH.out.ge
              have c7 : w8.cell? ⟨g, 7, none⟩ = some v8 := (blk_cell HH.out.at' 7).trans rfl
              have hne7 := World.new_ne w8 ⟨g, 7, none⟩ c7
              go_wp2_with ((with_reducible refine gate_builtin (b := .append) (xs := #[.tmp 28, .tmp 30]) rfl ?_); at_builtin; refine Kd.R_append k54 (w0 := w8) (W := w8) B rfl (.tmp 28) (.tmp 30) 23 54 _ 96 (by rfl) Try.underlying23 info54 rfl (by decide) (by decide) v8 ys (op54 5) (tc (op54 5)) (fun k => k ≠ g) (fun _ => False) (by rfl) (by rfl) (tc_M _ _ _ _) (fun _ h => h.elim) (fun k (hk : w8.heap.size ≤ k) e => by omega) HH.out.own (Below.refl _ _) (by omega) (by omega) ?_; intro v9 w9 ho hb1 hg1 hat1; obtain ⟨e1, e2⟩ := HH.out.cell7 hg1; have HN := Aside0.mk (HH.out.put (t := t5) (r := v9) ho hb1 hg1 hat1); obtain ⟨A9, n9, e9⟩ := Kd.R_slice ho; rw [show (ys ++ [(op54 5)]).length = ys.length + 1 from by simp] at e9; subst e9; clear ho hb1 hg1 hat1 HH c7)
              go_roundg I
              case measure => omega
              case rel => exact ⟨m + 1, t5, _, acc3 ++ l ++ [op54 5], rfl, ⟨by have h := HN.out; rw [← HYS.out] at h; simp only [← HYS.out] at h ⊢; simpa [List.append_assoc] using h⟩, ⟨j1⟩, ⟨by have := HLn.out; simp only [List.length_append, List.length_cons, List.length_nil] at *; omega⟩, ⟨by omega, by omega⟩, ⟨.inr ⟨by omega, by omega, by omega, hka.out⟩⟩⟩
          · have CI := Aside0.mk (is_all g s v4 t3 38 HI.out.1 hs a1)
            have HKS := Aside0.mk hks
            clear a1 hka hks
            go_wp2_with fail
            go_at_call 39
            refine (CI.out _ HH.out.at').mono ?_
            rintro e w7 ⟨rfl, hg2, hk2, hl2⟩
            have HN := Aside0.mk (HH.out.turn hg2 hk2 hl2)
            clear HH hg2 hk2 hl2 CI
            have HH := HN
            clear HN
            go_wp2
            go_meet
            case rel => exact ⟨t3, v4, acc3, HH, HI, HLn, ⟨hnp⟩, HKS⟩
      case rest =>
        clear HH HI HLn HNp HKU
        obtain ⟨t3, v3, acc3, HH, HI, HLn, HNp, HKS⟩ := hcut
        have hnp := HNp.out
        have hp3 : t3.w.pl ≤ 400 := by have := HI.out.1.2; have := HI.out.2.2.1; omega
        obtain ⟨ys, hys⟩ : ∃ ys, xs ++ acc3 = ys := ⟨_, rfl⟩
        rw [hys] at HH
        have hyl : ys.length < 100000 := by have := HLn.out; rw [← hys]; omega
        have HYS := Aside0.mk hys
        clear hys
        have hl7 := HH.out.at'.lt
        have hge7 := HH.out.ge
        have c7 : wc.cell? ⟨g, 7, none⟩ = some v3 := (blk_cell HH.out.at' 7).trans rfl
        have hne7 := World.new_ne wc ⟨g, 7, none⟩ c7
        go_wp2_with ((with_reducible refine gate_builtin (b := .append) (xs := #[.tmp 40, .tmp 42]) rfl ?_); at_builtin; refine Kd.R_append k54 (w0 := wc) (W := wc) B rfl (.tmp 40) (.tmp 42) 23 54 _ 96 (by rfl) Try.underlying23 info54 rfl (by decide) (by decide) v3 ys (op54 6) (tc (op54 6)) (fun k => k ≠ g) (fun _ => False) (by rfl) (by rfl) (tc_M _ _ _ _) (fun _ h => h.elim) (fun k (hk : wc.heap.size ≤ k) e => by omega) HH.out.own (Below.refl _ _) (by omega) (by omega) ?_; intro v9 w9 ho hb1 hg1 hat1; obtain ⟨e1, e2⟩ := HH.out.cell7 hg1; have HN := Aside0.mk (HH.out.put (t := t3) (r := v9) ho hb1 hg1 hat1); obtain ⟨A9, n9, e9⟩ := Kd.R_slice ho; rw [show (ys ++ [(op54 6)]).length = ys.length + 1 from by simp] at e9; subst e9; clear ho hb1 hg1 hat1 HH c7)
        go_roundg J
        case measure => omega
        case rel => exact ⟨n + 1, t3, _, acc3 ++ [op54 6], rfl, ⟨by have h := HN.out; rw [← HYS.out] at h; simp only [← HYS.out] at h ⊢; simpa [List.append_assoc] using h⟩, HI, ⟨by have := HLn.out; simp only [List.length_append, List.length_cons, List.length_nil] at *; omega⟩, ⟨by omega, by omega⟩, ⟨.inr ⟨by omega, by omega, KS_pre HKS.out⟩⟩⟩
    · have CI := Aside0.mk (is_all g s v1 t1 124 HI.out.1 hs a1)
      clear a1 hks
      go_wp2_with fail
      go_at_call 39
      refine (CI.out _ HH.out.at').mono ?_
      rintro e w7 ⟨rfl, hg2, hk2, hl2⟩
      have HN := Aside0.mk (HH.out.turn hg2 hk2 hl2)
      clear HH hg2 hk2 hl2 CI
      have HH := HN
      clear HN
      go_wp2
      (try simp only [Exit.then, Exit.jump])
      go_end0
      exact HH.out.done
end Go.Proofs.Ytmgljgmieomngaa.Pz
