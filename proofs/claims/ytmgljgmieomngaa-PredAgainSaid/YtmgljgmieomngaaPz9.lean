/- A UNIT, walked. -/
import Derived.Test.YtmgljgmieomngaaPz8
namespace Go.Proofs.Ytmgljgmieomngaa.Pz
open Go Go.RowKit Go.Proofs.YtmgljgmieomngaaW.PrintWords Go.Proofs.YtmgljgmieomngaaW.PrintLast Go.Proofs.YtmgljgmieomngaaW.PrintMore Go.Proofs.Ytmgljgmieomngaa.Q
attribute [local go_sem] run_store_complex run_store_float isSome_setCell
set_option linter.unusedVariables false
set_option linter.unusedSimpArgs false
set_option maxHeartbeats 16000000 in
set_option maxRecDepth 100000 in
theorem unit_step (k : Nat) (IU : UnitC k) (IS : SumC k) : UnitC (k + 1) := by
  intro B w g s v t xs o hg hR ge hi hx hs h
  have hu61 := Try.underlying61
  have hu59 := Try.underlying59
  have hu54 := Try.underlying54
  have hu43 := Try.underlying43
  have HH := Aside0.mk (Hs.start hg hR ge)
  have hp : t.w.pl ≤ 400 := by have := hi.1.2; have := hi.2.2.1; omega
  clear hg hR
  have IU := Aside0.mk IU
  have IS := Aside0.mk IS
  have hu := pr_unit h
  clear h
  rcases hu with ⟨pp, er, a1, rfl⟩ | ⟨t1, o1, a1, a2, a3⟩ | ⟨a1, hu⟩
  · have C1 := Aside0.mk (is_all g s v t 33 hi.1 hs a1)
    clear a1
    go_enter Try.func40, Try.ntmps40
    go_wp2_with fail
    go_at_call 39
    refine (C1.out _ HH.out.at').mono ?_
    rintro e w1 ⟨rfl, hk2, hl2⟩
    unfold flt
    exact ⟨rfl, rfl, HH.out.turn_bad hk2 hl2⟩
  · have C1 := Aside0.mk (is_all g s v t 33 hi.1 hs a1)
    have u1 := isF_up hi (by decide) a1
    have hpl := u1.2
    have hp1 : t1.w.pl ≤ 400 := by have := u1.1.1.2; have := u1.1.2.2.1; omega
    clear a1
    have C9 := Aside0.mk (fun W (hg : At W g (RC s t1 v) 61) (hR : Kd.R k54 54 W B (fun k => k ≠ g) v xs) => IU.out B W g s v t1 xs o1 hg hR ge u1.1 (by omega) hs a2)
    have hup := pr_up s k .unit t1 o1 u1.1 a2
    cases o1 with
    | bad pp er =>
      subst a3
      simp only [Out.bind]
      go_enter Try.func40, Try.ntmps40
      go_wp2_with fail
      go_at_call 39
      refine (C1.out _ HH.out.at').mono ?_
      rintro e w1 ⟨rfl, hg2, hk2, hl2⟩
      have HN := Aside0.mk (HH.out.turn hg2 hk2 hl2)
      clear HH hg2 hk2 hl2 C1
      have HH := HN
      clear HN
      go_wp2_with fail
      go_at_call 40
      refine (C9.out _ HH.out.at' HH.out.own).mono ?_
      rintro e w9 ⟨rfl, hk2, hl2⟩
      unfold flt
      exact ⟨rfl, rfl, HH.out.apd_bad hk2 hl2⟩
    | ok r =>
      obtain ⟨l, t2⟩ := r
      obtain ⟨j1, j2, j3⟩ := hup l t2 rfl
      have hll : xs.length + l.length < 100000 := by have := j1.1.2; have := j1.2.2.1; omega
      subst a3
      simp only [Out.bind]
      clear hup
      go_enter Try.func40, Try.ntmps40
      go_wp2_with fail
      go_at_call 39
      refine (C1.out _ HH.out.at').mono ?_
      rintro e w1 ⟨rfl, hg2, hk2, hl2⟩
      have HN := Aside0.mk (HH.out.turn hg2 hk2 hl2)
      clear HH hg2 hk2 hl2 C1
      have HH := HN
      clear HN
      go_wp2_with fail
      go_at_call 40
      refine (C9.out _ HH.out.at' HH.out.own).mono ?_
      rintro e w8 ⟨rfl, v8, b1, b2, b3, b4, b5⟩
      have HN := Aside0.mk (HH.out.apd b1 b2 b3 b4 b5)
      clear HH b1 b2 b3 b4 b5 C9
      have HH := HN
      clear HN
      obtain ⟨ys, hys⟩ : ∃ ys, xs ++ l = ys := ⟨_, rfl⟩
      rw [hys] at HH
      have hyl : ys.length < 100000 := by rw [← hys]; simp; omega
      have HYS := Aside0.mk hys
      clear hys
      have hl7 := HH.out.at'.lt
      have hge7 := HH.out.ge
      have c7 : w8.cell? ⟨g, 7, none⟩ = some v8 := (blk_cell HH.out.at' 7).trans rfl
      have hne7 := World.new_ne w8 ⟨g, 7, none⟩ c7
      go_wp2_with ((with_reducible refine gate_builtin (b := .append) (xs := #[.tmp 16, .tmp 18]) rfl ?_); at_builtin; refine Kd.R_append k54 (w0 := w8) (W := w8) B rfl (.tmp 16) (.tmp 18) 23 54 _ 96 (by rfl) Try.underlying23 info54 rfl (by decide) (by decide) v8 ys (op54 4) (tc (op54 4)) (fun k => k ≠ g) (fun _ => False) (by rfl) (by rfl) (tc_M _ _ _ _) (fun _ h => h.elim) (fun k (hk : w8.heap.size ≤ k) e => by omega) HH.out.own (Below.refl _ _) (by omega) (by omega) ?_; intro v9 w9 ho hb1 hg1 hat1; obtain ⟨e1, e2⟩ := HH.out.cell7 hg1; have HN := Aside0.mk (HH.out.put (t := t2) (r := v9) ho hb1 hg1 hat1); obtain ⟨A9, n9, e9⟩ := Kd.R_slice ho; rw [show (ys ++ [(op54 4)]).length = ys.length + 1 from by simp] at e9; subst e9; clear ho hb1 hg1 hat1 HH c7)
      (try simp only [Exit.then, Exit.jump])
      go_end0
      have h := HN.out
      rw [← HYS.out, List.append_assoc] at h
      simp only [← HYS.out] at h ⊢
      exact h.done
  have C1 := Aside0.mk (is_all g s v t 33 hi.1 hs a1)
  clear a1
  rcases hu with ⟨pp, er, a1, rfl⟩ | ⟨t1, o1, a1, a2, a3⟩ | ⟨a1, hu⟩
  · have C2 := Aside0.mk (is_all g s v t 40 hi.1 hs a1)
    clear a1
    go_enter Try.func40, Try.ntmps40
    go_wp2_with fail
    go_at_call 39
    refine (C1.out _ HH.out.at').mono ?_
    rintro e w1 ⟨rfl, hg2, hk2, hl2⟩
    have HN := Aside0.mk (HH.out.turn hg2 hk2 hl2)
    clear HH hg2 hk2 hl2 C1
    have HH := HN
    clear HN
    go_wp2_with fail
    go_at_call 39
    refine (C2.out _ HH.out.at').mono ?_
    rintro e w2 ⟨rfl, hk2, hl2⟩
    unfold flt
    exact ⟨rfl, rfl, HH.out.turn_bad hk2 hl2⟩
  · have C2 := Aside0.mk (is_all g s v t 40 hi.1 hs a1)
    have u1 := isF_up hi (by decide) a1
    have hpl := u1.2
    have hp1 : t1.w.pl ≤ 400 := by have := u1.1.1.2; have := u1.1.2.2.1; omega
    clear a1
    have C9 := Aside0.mk (fun W (hg : At W g (RC s t1 v) 61) (hR : Kd.R k54 54 W B (fun k => k ≠ g) v xs) => IS.out B W g s v t1 xs o1 hg hR ge u1.1 (by omega) hs a2)
    have hup := pr_up s k .sum t1 o1 u1.1 a2
    cases o1 with
    | bad pp er =>
      subst a3
      simp only [Out.bind]
      go_enter Try.func40, Try.ntmps40
      go_wp2_with fail
      go_at_call 39
      refine (C1.out _ HH.out.at').mono ?_
      rintro e w1 ⟨rfl, hg2, hk2, hl2⟩
      have HN := Aside0.mk (HH.out.turn hg2 hk2 hl2)
      clear HH hg2 hk2 hl2 C1
      have HH := HN
      clear HN
      go_wp2_with fail
      go_at_call 39
      refine (C2.out _ HH.out.at').mono ?_
      rintro e w2 ⟨rfl, hg2, hk2, hl2⟩
      have HN := Aside0.mk (HH.out.turn hg2 hk2 hl2)
      clear HH hg2 hk2 hl2 C2
      have HH := HN
      clear HN
      go_wp2_with fail
      go_at_call 18
      refine (C9.out _ HH.out.at' HH.out.own).mono ?_
      rintro e w9 ⟨rfl, hk2, hl2⟩
      unfold flt
      exact ⟨rfl, rfl, HH.out.apd_bad hk2 hl2⟩
    | ok r =>
      obtain ⟨l, t2⟩ := r
      obtain ⟨j1, j2, j3⟩ := hup l t2 rfl
      simp only [Out.bind] at a3
      clear hup
      cases hW : wantF s 41 t2 with
      | bad pp er =>
        rw [hW] at a3
        subst a3
        have C8 := Aside0.mk (fun v => want_all g s v t2 41 j1.1 hs hW)
        clear hW
        go_enter Try.func40, Try.ntmps40
        go_wp2_with fail
        go_at_call 39
        refine (C1.out _ HH.out.at').mono ?_
        rintro e w1 ⟨rfl, hg2, hk2, hl2⟩
        have HN := Aside0.mk (HH.out.turn hg2 hk2 hl2)
        clear HH hg2 hk2 hl2 C1
        have HH := HN
        clear HN
        go_wp2_with fail
        go_at_call 39
        refine (C2.out _ HH.out.at').mono ?_
        rintro e w2 ⟨rfl, hg2, hk2, hl2⟩
        have HN := Aside0.mk (HH.out.turn hg2 hk2 hl2)
        clear HH hg2 hk2 hl2 C2
        have HH := HN
        clear HN
        go_wp2_with fail
        go_at_call 18
        refine (C9.out _ HH.out.at' HH.out.own).mono ?_
        rintro e w8 ⟨rfl, v8, b1, b2, b3, b4, b5⟩
        have HN := Aside0.mk (HH.out.apd b1 b2 b3 b4 b5)
        clear HH b1 b2 b3 b4 b5 C9
        have HH := HN
        clear HN
        go_wp2_with fail
        go_at_call 19
        refine (C8.out _ _ HH.out.at').mono ?_
        rintro e w9 ⟨rfl, hk2, hl2⟩
        unfold flt
        exact ⟨rfl, rfl, HH.out.turn_bad hk2 hl2⟩
      | ok r =>
        obtain ⟨a, t3⟩ := r
        rw [hW] at a3
        subst a3
        have C8 := Aside0.mk (fun v => want_all g s v t2 41 j1.1 hs hW)
        clear hW
        go_enter Try.func40, Try.ntmps40
        go_wp2_with fail
        go_at_call 39
        refine (C1.out _ HH.out.at').mono ?_
        rintro e w1 ⟨rfl, hg2, hk2, hl2⟩
        have HN := Aside0.mk (HH.out.turn hg2 hk2 hl2)
        clear HH hg2 hk2 hl2 C1
        have HH := HN
        clear HN
        go_wp2_with fail
        go_at_call 39
        refine (C2.out _ HH.out.at').mono ?_
        rintro e w2 ⟨rfl, hg2, hk2, hl2⟩
        have HN := Aside0.mk (HH.out.turn hg2 hk2 hl2)
        clear HH hg2 hk2 hl2 C2
        have HH := HN
        clear HN
        go_wp2_with fail
        go_at_call 18
        refine (C9.out _ HH.out.at' HH.out.own).mono ?_
        rintro e w8 ⟨rfl, v8, b1, b2, b3, b4, b5⟩
        have HN := Aside0.mk (HH.out.apd b1 b2 b3 b4 b5)
        clear HH b1 b2 b3 b4 b5 C9
        have HH := HN
        clear HN
        go_wp2_with fail
        go_at_call 19
        refine (C8.out _ _ HH.out.at').mono ?_
        rintro e w9 ⟨rfl, hg2, hk2, hl2⟩
        have HN := Aside0.mk (HH.out.turn hg2 hk2 hl2)
        clear HH hg2 hk2 hl2 C8
        go_wp2
        (try simp only [Exit.then, Exit.jump])
        go_end0
        exact HN.out.done
  have C2 := Aside0.mk (is_all g s v t 40 hi.1 hs a1)
  clear a1
  rcases hu with ⟨pp, er, a1, rfl⟩ | ⟨t1, a1, a3⟩ | ⟨a1, hu⟩
  · have C3 := Aside0.mk (is_all g s v t 42 hi.1 hs a1)
    clear a1
    go_enter Try.func40, Try.ntmps40
    go_wp2_with fail
    go_at_call 39
    refine (C1.out _ HH.out.at').mono ?_
    rintro e w1 ⟨rfl, hg2, hk2, hl2⟩
    have HN := Aside0.mk (HH.out.turn hg2 hk2 hl2)
    clear HH hg2 hk2 hl2 C1
    have HH := HN
    clear HN
    go_wp2_with fail
    go_at_call 39
    refine (C2.out _ HH.out.at').mono ?_
    rintro e w2 ⟨rfl, hg2, hk2, hl2⟩
    have HN := Aside0.mk (HH.out.turn hg2 hk2 hl2)
    clear HH hg2 hk2 hl2 C2
    have HH := HN
    clear HN
    go_wp2_with fail
    go_at_call 39
    refine (C3.out _ HH.out.at').mono ?_
    rintro e w3 ⟨rfl, hk2, hl2⟩
    unfold flt
    exact ⟨rfl, rfl, HH.out.turn_bad hk2 hl2⟩
  · have C3 := Aside0.mk (is_all g s v t 42 hi.1 hs a1)
    have u1 := isF_up hi (by decide) a1
    have hpl := u1.2
    have hp1 : t1.w.pl ≤ 400 := by have := u1.1.1.2; have := u1.1.2.2.1; omega
    clear a1
    subst a3
    have hyl : xs.length < 100000 := by omega
    go_enter Try.func40, Try.ntmps40
    go_wp2_with fail
    go_at_call 39
    refine (C1.out _ HH.out.at').mono ?_
    rintro e w1 ⟨rfl, hg2, hk2, hl2⟩
    have HN := Aside0.mk (HH.out.turn hg2 hk2 hl2)
    clear HH hg2 hk2 hl2 C1
    have HH := HN
    clear HN
    go_wp2_with fail
    go_at_call 39
    refine (C2.out _ HH.out.at').mono ?_
    rintro e w2 ⟨rfl, hg2, hk2, hl2⟩
    have HN := Aside0.mk (HH.out.turn hg2 hk2 hl2)
    clear HH hg2 hk2 hl2 C2
    have HH := HN
    clear HN
    go_wp2_with fail
    go_at_call 39
    refine (C3.out _ HH.out.at').mono ?_
    rintro e w3 ⟨rfl, hg2, hk2, hl2⟩
    have HN := Aside0.mk (HH.out.turn hg2 hk2 hl2)
    clear HH hg2 hk2 hl2 C3
    have HH := HN
    clear HN
    have hl7 := HH.out.at'.lt
    have hge7 := HH.out.ge
    have c7 : w3.cell? ⟨g, 7, none⟩ = some v := (blk_cell HH.out.at' 7).trans rfl
    have hne7 := World.new_ne w3 ⟨g, 7, none⟩ c7
    go_wp2_with ((with_reducible refine gate_builtin (b := .append) (xs := #[.tmp 36, .tmp 38]) rfl ?_); at_builtin; refine Kd.R_append k54 (w0 := w3) (W := w3) B rfl (.tmp 36) (.tmp 38) 23 54 _ 96 (by rfl) Try.underlying23 info54 rfl (by decide) (by decide) v xs (op54 1) (tc (op54 1)) (fun k => k ≠ g) (fun _ => False) (by rfl) (by rfl) (tc_M _ _ _ _) (fun _ h => h.elim) (fun k (hk : w3.heap.size ≤ k) e => by omega) HH.out.own (Below.refl _ _) (by omega) (by omega) ?_; intro v9 w9 ho hb1 hg1 hat1; obtain ⟨e1, e2⟩ := HH.out.cell7 hg1; have HN := Aside0.mk (HH.out.put (t := t1) (r := v9) ho hb1 hg1 hat1); obtain ⟨A9, n9, e9⟩ := Kd.R_slice ho; rw [show (xs ++ [(op54 1)]).length = xs.length + 1 from by simp] at e9; subst e9; clear ho hb1 hg1 hat1 HH c7)
    (try simp only [Exit.then, Exit.jump])
    go_end0
    exact HN.out.done
  have C3 := Aside0.mk (is_all g s v t 42 hi.1 hs a1)
  clear a1
  rcases hu with ⟨pp, er, a1, rfl⟩ | ⟨t1, a1, a3⟩ | ⟨a1, hu⟩
  · have C4 := Aside0.mk (is_all g s v t 35 hi.1 hs a1)
    clear a1
    go_enter Try.func40, Try.ntmps40
    go_wp2_with fail
    go_at_call 39
    refine (C1.out _ HH.out.at').mono ?_
    rintro e w1 ⟨rfl, hg2, hk2, hl2⟩
    have HN := Aside0.mk (HH.out.turn hg2 hk2 hl2)
    clear HH hg2 hk2 hl2 C1
    have HH := HN
    clear HN
    go_wp2_with fail
    go_at_call 39
    refine (C2.out _ HH.out.at').mono ?_
    rintro e w2 ⟨rfl, hg2, hk2, hl2⟩
    have HN := Aside0.mk (HH.out.turn hg2 hk2 hl2)
    clear HH hg2 hk2 hl2 C2
    have HH := HN
    clear HN
    go_wp2_with fail
    go_at_call 39
    refine (C3.out _ HH.out.at').mono ?_
    rintro e w3 ⟨rfl, hg2, hk2, hl2⟩
    have HN := Aside0.mk (HH.out.turn hg2 hk2 hl2)
    clear HH hg2 hk2 hl2 C3
    have HH := HN
    clear HN
    go_wp2_with fail
    go_at_call 39
    refine (C4.out _ HH.out.at').mono ?_
    rintro e w4 ⟨rfl, hk2, hl2⟩
    unfold flt
    exact ⟨rfl, rfl, HH.out.turn_bad hk2 hl2⟩
  · have C4 := Aside0.mk (is_all g s v t 35 hi.1 hs a1)
    have u1 := isF_up hi (by decide) a1
    have hpl := u1.2
    have hp1 : t1.w.pl ≤ 400 := by have := u1.1.1.2; have := u1.1.2.2.1; omega
    clear a1
    subst a3
    have hyl : xs.length < 100000 := by omega
    go_enter Try.func40, Try.ntmps40
    go_wp2_with fail
    go_at_call 39
    refine (C1.out _ HH.out.at').mono ?_
    rintro e w1 ⟨rfl, hg2, hk2, hl2⟩
    have HN := Aside0.mk (HH.out.turn hg2 hk2 hl2)
    clear HH hg2 hk2 hl2 C1
    have HH := HN
    clear HN
    go_wp2_with fail
    go_at_call 39
    refine (C2.out _ HH.out.at').mono ?_
    rintro e w2 ⟨rfl, hg2, hk2, hl2⟩
    have HN := Aside0.mk (HH.out.turn hg2 hk2 hl2)
    clear HH hg2 hk2 hl2 C2
    have HH := HN
    clear HN
    go_wp2_with fail
    go_at_call 39
    refine (C3.out _ HH.out.at').mono ?_
    rintro e w3 ⟨rfl, hg2, hk2, hl2⟩
    have HN := Aside0.mk (HH.out.turn hg2 hk2 hl2)
    clear HH hg2 hk2 hl2 C3
    have HH := HN
    clear HN
    go_wp2_with fail
    go_at_call 39
    refine (C4.out _ HH.out.at').mono ?_
    rintro e w4 ⟨rfl, hg2, hk2, hl2⟩
    have HN := Aside0.mk (HH.out.turn hg2 hk2 hl2)
    clear HH hg2 hk2 hl2 C4
    have HH := HN
    clear HN
    have hl7 := HH.out.at'.lt
    have hge7 := HH.out.ge
    have c7 : w4.cell? ⟨g, 7, none⟩ = some v := (blk_cell HH.out.at' 7).trans rfl
    have hne7 := World.new_ne w4 ⟨g, 7, none⟩ c7
    go_wp2_with ((with_reducible refine gate_builtin (b := .append) (xs := #[.tmp 49, .tmp 51]) rfl ?_); at_builtin; refine Kd.R_append k54 (w0 := w4) (W := w4) B rfl (.tmp 49) (.tmp 51) 23 54 _ 96 (by rfl) Try.underlying23 info54 rfl (by decide) (by decide) v xs (op54 2) (tc (op54 2)) (fun k => k ≠ g) (fun _ => False) (by rfl) (by rfl) (tc_M _ _ _ _) (fun _ h => h.elim) (fun k (hk : w4.heap.size ≤ k) e => by omega) HH.out.own (Below.refl _ _) (by omega) (by omega) ?_; intro v9 w9 ho hb1 hg1 hat1; obtain ⟨e1, e2⟩ := HH.out.cell7 hg1; have HN := Aside0.mk (HH.out.put (t := t1) (r := v9) ho hb1 hg1 hat1); obtain ⟨A9, n9, e9⟩ := Kd.R_slice ho; rw [show (xs ++ [(op54 2)]).length = xs.length + 1 from by simp] at e9; subst e9; clear ho hb1 hg1 hat1 HH c7)
    (try simp only [Exit.then, Exit.jump])
    go_end0
    exact HN.out.done
  have C4 := Aside0.mk (is_all g s v t 35 hi.1 hs a1)
  clear a1
  rcases hu with ⟨pp, er, a1, rfl⟩ | ⟨t1, a1, a3⟩ | ⟨a1, hu⟩
  · have C5 := Aside0.mk (is_all g s v t 63 hi.1 hs a1)
    clear a1
    go_enter Try.func40, Try.ntmps40
    go_wp2_with fail
    go_at_call 39
    refine (C1.out _ HH.out.at').mono ?_
    rintro e w1 ⟨rfl, hg2, hk2, hl2⟩
    have HN := Aside0.mk (HH.out.turn hg2 hk2 hl2)
    clear HH hg2 hk2 hl2 C1
    have HH := HN
    clear HN
    go_wp2_with fail
    go_at_call 39
    refine (C2.out _ HH.out.at').mono ?_
    rintro e w2 ⟨rfl, hg2, hk2, hl2⟩
    have HN := Aside0.mk (HH.out.turn hg2 hk2 hl2)
    clear HH hg2 hk2 hl2 C2
    have HH := HN
    clear HN
    go_wp2_with fail
    go_at_call 39
    refine (C3.out _ HH.out.at').mono ?_
    rintro e w3 ⟨rfl, hg2, hk2, hl2⟩
    have HN := Aside0.mk (HH.out.turn hg2 hk2 hl2)
    clear HH hg2 hk2 hl2 C3
    have HH := HN
    clear HN
    go_wp2_with fail
    go_at_call 39
    refine (C4.out _ HH.out.at').mono ?_
    rintro e w4 ⟨rfl, hg2, hk2, hl2⟩
    have HN := Aside0.mk (HH.out.turn hg2 hk2 hl2)
    clear HH hg2 hk2 hl2 C4
    have HH := HN
    clear HN
    go_wp2_with fail
    go_at_call 39
    refine (C5.out _ HH.out.at').mono ?_
    rintro e w5 ⟨rfl, hk2, hl2⟩
    unfold flt
    exact ⟨rfl, rfl, HH.out.turn_bad hk2 hl2⟩
  · have C5 := Aside0.mk (is_all g s v t 63 hi.1 hs a1)
    have u1 := isF_up hi (by decide) a1
    have hpl := u1.2
    have hp1 : t1.w.pl ≤ 400 := by have := u1.1.1.2; have := u1.1.2.2.1; omega
    clear a1
    cases hW : wantF s 110 t1 with
    | bad pp er =>
      rw [hW] at a3
      simp only [Out.bind] at a3
      subst a3
      have C9 := Aside0.mk (want_all g s v t1 110 u1.1.1 hs hW)
      clear hW
      go_enter Try.func40, Try.ntmps40
      go_wp2_with fail
      go_at_call 39
      refine (C1.out _ HH.out.at').mono ?_
      rintro e w1 ⟨rfl, hg2, hk2, hl2⟩
      have HN := Aside0.mk (HH.out.turn hg2 hk2 hl2)
      clear HH hg2 hk2 hl2 C1
      have HH := HN
      clear HN
      go_wp2_with fail
      go_at_call 39
      refine (C2.out _ HH.out.at').mono ?_
      rintro e w2 ⟨rfl, hg2, hk2, hl2⟩
      have HN := Aside0.mk (HH.out.turn hg2 hk2 hl2)
      clear HH hg2 hk2 hl2 C2
      have HH := HN
      clear HN
      go_wp2_with fail
      go_at_call 39
      refine (C3.out _ HH.out.at').mono ?_
      rintro e w3 ⟨rfl, hg2, hk2, hl2⟩
      have HN := Aside0.mk (HH.out.turn hg2 hk2 hl2)
      clear HH hg2 hk2 hl2 C3
      have HH := HN
      clear HN
      go_wp2_with fail
      go_at_call 39
      refine (C4.out _ HH.out.at').mono ?_
      rintro e w4 ⟨rfl, hg2, hk2, hl2⟩
      have HN := Aside0.mk (HH.out.turn hg2 hk2 hl2)
      clear HH hg2 hk2 hl2 C4
      have HH := HN
      clear HN
      go_wp2_with fail
      go_at_call 39
      refine (C5.out _ HH.out.at').mono ?_
      rintro e w5 ⟨rfl, hg2, hk2, hl2⟩
      have HN := Aside0.mk (HH.out.turn hg2 hk2 hl2)
      clear HH hg2 hk2 hl2 C5
      have HH := HN
      clear HN
      go_upto_region 12 with (fail)
      have c7 : w5.cell? ⟨g, 7, none⟩ = some v := (blk_cell HH.out.at' 7).trans rfl
      have C9' := Aside0.mk (C9.out w5.drew (At.drew HH.out.at'))
      refine wp_region_any (by kernel_rfl) ?_
      try (change wpAny _ _ _ _ _ _ _ (World.drew _))
      (refine wpAny_take (i := 0) (v := ?_) rfl (by kernel_rfl) (by kernel_rfl) (by kernel_rfl) (fun _ _ _ h => h) (Or.inl ⟨by rfl, ?_⟩) ?_; rotate_left; (focus ((intro w; go_simp); try with_reducible rfl)))
      (refine wpAny_take (i := 1) (v := ?_) rfl (by kernel_rfl) (by kernel_rfl) (by kernel_rfl) (fun _ _ _ h => h) (Or.inl ⟨by rfl, ?_⟩) ?_; rotate_left; (focus ((intro w; go_simp); try with_reducible rfl)))
      (refine wpAny_take (i := 2) (v := ?_) rfl (by kernel_rfl) (by kernel_rfl) (by kernel_rfl) (fun _ _ _ h => h) (Or.inl ⟨by rfl, ?_⟩) ?_; rotate_left; (focus ((intro w; go_simp); try with_reducible rfl)))
      (refine wpAny_take (i := 3) (v := ?_) rfl (by kernel_rfl) (by kernel_rfl) (by kernel_rfl) (fun _ _ _ h => h) (Or.inl ⟨by rfl, ?_⟩) ?_; rotate_left; (focus ((intro w; go_simp); try with_reducible rfl)))
      (refine wpAny_take (i := 5) (v := ?_) rfl (by kernel_rfl) (by kernel_rfl) (by kernel_rfl) (fun _ _ _ h => h) (Or.inl ⟨by rfl, ?_⟩) ?_; rotate_left; (focus ((intro w; go_simp); try with_reducible rfl)))
      refine wpAny_ready (rs := [4, 6]) (by kernel_rfl) (by simp) ?_
      refine AllReady.cons rfl (fun K hK => ?_) ?_
      · go_simp
        refine hK _ _ ?_
        clear hK K
        refine wpAny_ready (rs := [6]) (by kernel_rfl) (by simp) ?_
        refine AllReady.cons rfl (fun K hK => ?_) AllReady.nil
        go_simp
        go_at_call 19
        refine C9'.out.mono ?_
        rintro e w9 ⟨rfl, hk2, hl2⟩
        exact ⟨rfl, rfl, HH.out.turn_bad (kb_then (kb_drew (KeepBut.refl _ _ _)) hk2) ((below_drew1 (Below.refl _ _)).trans hl2)⟩
      · refine AllReady.cons rfl (fun K hK => ?_) AllReady.nil
        go_simp
        go_at_call 19
        refine C9'.out.mono ?_
        rintro e w9 ⟨rfl, hk2, hl2⟩
        exact ⟨rfl, rfl, HH.out.turn_bad (kb_then (kb_drew (KeepBut.refl _ _ _)) hk2) ((below_drew1 (Below.refl _ _)).trans hl2)⟩
    | ok r =>
      obtain ⟨a, t2⟩ := r
      rw [hW] at a3
      simp only [Out.bind] at a3
      subst a3
      have C9 := Aside0.mk (want_all g s v t1 110 u1.1.1 hs hW)
      clear hW
      have hf : ∀ W : World, (Instr.field 59 (wenc a) 3).run Try.prog W = .ok (.string a.tx) W := fun _ => by kernel_rfl
      have hyl : xs.length < 100000 := by omega
      go_enter Try.func40, Try.ntmps40
      go_wp2_with fail
      go_at_call 39
      refine (C1.out _ HH.out.at').mono ?_
      rintro e w1 ⟨rfl, hg2, hk2, hl2⟩
      have HN := Aside0.mk (HH.out.turn hg2 hk2 hl2)
      clear HH hg2 hk2 hl2 C1
      have HH := HN
      clear HN
      go_wp2_with fail
      go_at_call 39
      refine (C2.out _ HH.out.at').mono ?_
      rintro e w2 ⟨rfl, hg2, hk2, hl2⟩
      have HN := Aside0.mk (HH.out.turn hg2 hk2 hl2)
      clear HH hg2 hk2 hl2 C2
      have HH := HN
      clear HN
      go_wp2_with fail
      go_at_call 39
      refine (C3.out _ HH.out.at').mono ?_
      rintro e w3 ⟨rfl, hg2, hk2, hl2⟩
      have HN := Aside0.mk (HH.out.turn hg2 hk2 hl2)
      clear HH hg2 hk2 hl2 C3
      have HH := HN
      clear HN
      go_wp2_with fail
      go_at_call 39
      refine (C4.out _ HH.out.at').mono ?_
      rintro e w4 ⟨rfl, hg2, hk2, hl2⟩
      have HN := Aside0.mk (HH.out.turn hg2 hk2 hl2)
      clear HH hg2 hk2 hl2 C4
      have HH := HN
      clear HN
      go_wp2_with fail
      go_at_call 39
      refine (C5.out _ HH.out.at').mono ?_
      rintro e w5 ⟨rfl, hg2, hk2, hl2⟩
      have HN := Aside0.mk (HH.out.turn hg2 hk2 hl2)
      clear HH hg2 hk2 hl2 C5
      have HH := HN
      clear HN
      go_upto_region 12 with (fail)
      have hg := HH.out.at'
      have O := HH.out.own
      have lt := hg.lt
      have ge5 := HH.out.ge
      have c7 : w5.cell? ⟨g, 7, none⟩ = some v := (blk_cell hg 7).trans rfl
      have hne2 := World.new_ne w5 ⟨g, 7, none⟩ c7
      go_region_law (first
        | (refine Kd.R_append_step k54 (w0 := w6) (W := w6) B (by rfl) (.tmp 62) (.tmp 67) 23 54 _ 96 (by rfl) Try.underlying23 info54 rfl (by decide) (by decide) v xs ⟨3, a.tx, 1, z43, 0⟩ (tc ⟨3, a.tx, 1, z43, 0⟩) (fun k => k ≠ g) (fun _ => False) (by rfl) (by rfl) (tc_M _ _ _ _) (fun _ h => h.elim) (fun k (hk : w6.heap.size ≤ k) e => by omega) O2 (Below.refl _ _) (by show B ≤ w6.heap.size; omega) (by omega) ?_; intro v1 w1 ho hb1 hg1 hat1; obtain ⟨e1, e2⟩ := HT2.out.cell7 hg1; have HN := Aside0.mk (HT2.out.put (r := v1) ho hb1 hg1 hat1); obtain ⟨A1, n1, e1v⟩ := Kd.R_slice ho; rw [show (xs ++ [(⟨3, a.tx, 1, z43, 0⟩ : S54)]).length = xs.length + 1 from by simp] at e1v; subst e1v; clear ho hb1 hg1 hat1)
        | (refine goes_ Try.func19 (by kernel_rfl) rfl #[.pointer (some ⟨g, 0, none⟩), .int .u8 110] (by rfl) rfl rfl (by (try simp only [List.map_toArray, List.map_cons, List.map_nil]); first | done | rfl) ?_; refine (C9.out w5.drew (At.drew hg)).mono ?_; rintro e w6 ⟨rfl, hg2, hk2, hl2⟩; refine ⟨_, rfl, ?_⟩; have HT2 := Aside0.mk (HH.out.turn (w2 := w6) hg2 (kb_then (kb_drew (KeepBut.refl _ _ _)) hk2) ((below_drew1 (Below.refl _ _)).trans hl2)); have d7 : w6.cell? ⟨g, 7, none⟩ = some v := (blk_cell hg2 7).trans rfl; have O2 := HT2.out.own; have lt2 := hg2.lt; have hne3 := World.new_ne w6 ⟨g, 7, none⟩ d7; clear hg2 hk2 hl2))
      all_goals (try go_wp2)
      all_goals (try simp only [Exit.then, Exit.jump])
      all_goals go_end0
      all_goals exact HN.out.done
  have C5 := Aside0.mk (is_all g s v t 63 hi.1 hs a1)
  clear a1
  cases hW : wantF s 110 t with
  | bad pp er =>
    rw [hW] at hu
    simp only [Out.bind] at hu
    subst hu
    have C9 := Aside0.mk (want_all g s v t 110 hi.1 hs hW)
    clear hW
    go_enter Try.func40, Try.ntmps40
    go_wp2_with fail
    go_at_call 39
    refine (C1.out _ HH.out.at').mono ?_
    rintro e w1 ⟨rfl, hg2, hk2, hl2⟩
    have HN := Aside0.mk (HH.out.turn hg2 hk2 hl2)
    clear HH hg2 hk2 hl2 C1
    have HH := HN
    clear HN
    go_wp2_with fail
    go_at_call 39
    refine (C2.out _ HH.out.at').mono ?_
    rintro e w2 ⟨rfl, hg2, hk2, hl2⟩
    have HN := Aside0.mk (HH.out.turn hg2 hk2 hl2)
    clear HH hg2 hk2 hl2 C2
    have HH := HN
    clear HN
    go_wp2_with fail
    go_at_call 39
    refine (C3.out _ HH.out.at').mono ?_
    rintro e w3 ⟨rfl, hg2, hk2, hl2⟩
    have HN := Aside0.mk (HH.out.turn hg2 hk2 hl2)
    clear HH hg2 hk2 hl2 C3
    have HH := HN
    clear HN
    go_wp2_with fail
    go_at_call 39
    refine (C4.out _ HH.out.at').mono ?_
    rintro e w4 ⟨rfl, hg2, hk2, hl2⟩
    have HN := Aside0.mk (HH.out.turn hg2 hk2 hl2)
    clear HH hg2 hk2 hl2 C4
    have HH := HN
    clear HN
    go_wp2_with fail
    go_at_call 39
    refine (C5.out _ HH.out.at').mono ?_
    rintro e w5 ⟨rfl, hg2, hk2, hl2⟩
    have HN := Aside0.mk (HH.out.turn hg2 hk2 hl2)
    clear HH hg2 hk2 hl2 C5
    have HH := HN
    clear HN
    go_wp2_with fail
    go_at_call 19
    refine (C9.out _ HH.out.at').mono ?_
    rintro e w9 ⟨rfl, hk2, hl2⟩
    unfold flt
    exact ⟨rfl, rfl, HH.out.turn_bad hk2 hl2⟩
  | ok r =>
    obtain ⟨a, t2⟩ := r
    rw [hW] at hu
    simp only [Out.bind] at hu
    have C9 := Aside0.mk (want_all g s v t 110 hi.1 hs hW)
    have u2 := wantF_up hi (by decide) hW
    clear hW
    have hf : ∀ W : World, (Instr.field 59 (wenc a) 3).run Try.prog W = .ok (.string a.tx) W := fun _ => by kernel_rfl
    have hyl : xs.length ≤ 1000 := by omega
    cases hA : atomF s a.tx t2 with
    | bad pp er =>
      rw [hA] at hu
      simp only [Out.bind] at hu
      subst hu
      have CA := Aside0.mk (fun W (hg : At W g (RC s t2 v) 61) (hR : Kd.R k54 54 W B (fun k => k ≠ g) v xs) => atom_ B W g s v t2 a.tx xs hg hR ge u2.1 hyl hs)
      simp only [hA, Out.bind] at CA
      clear hA
      go_enter Try.func40, Try.ntmps40
      go_wp2_with fail
      go_at_call 39
      refine (C1.out _ HH.out.at').mono ?_
      rintro e w1 ⟨rfl, hg2, hk2, hl2⟩
      have HN := Aside0.mk (HH.out.turn hg2 hk2 hl2)
      clear HH hg2 hk2 hl2 C1
      have HH := HN
      clear HN
      go_wp2_with fail
      go_at_call 39
      refine (C2.out _ HH.out.at').mono ?_
      rintro e w2 ⟨rfl, hg2, hk2, hl2⟩
      have HN := Aside0.mk (HH.out.turn hg2 hk2 hl2)
      clear HH hg2 hk2 hl2 C2
      have HH := HN
      clear HN
      go_wp2_with fail
      go_at_call 39
      refine (C3.out _ HH.out.at').mono ?_
      rintro e w3 ⟨rfl, hg2, hk2, hl2⟩
      have HN := Aside0.mk (HH.out.turn hg2 hk2 hl2)
      clear HH hg2 hk2 hl2 C3
      have HH := HN
      clear HN
      go_wp2_with fail
      go_at_call 39
      refine (C4.out _ HH.out.at').mono ?_
      rintro e w4 ⟨rfl, hg2, hk2, hl2⟩
      have HN := Aside0.mk (HH.out.turn hg2 hk2 hl2)
      clear HH hg2 hk2 hl2 C4
      have HH := HN
      clear HN
      go_wp2_with fail
      go_at_call 39
      refine (C5.out _ HH.out.at').mono ?_
      rintro e w5 ⟨rfl, hg2, hk2, hl2⟩
      have HN := Aside0.mk (HH.out.turn hg2 hk2 hl2)
      clear HH hg2 hk2 hl2 C5
      have HH := HN
      clear HN
      go_wp2_with fail
      go_at_call 19
      refine (C9.out _ HH.out.at').mono ?_
      rintro e w9 ⟨rfl, hg2, hk2, hl2⟩
      have HN := Aside0.mk (HH.out.turn hg2 hk2 hl2)
      clear HH hg2 hk2 hl2 C9
      have HH := HN
      clear HN
      go_wp2_with fail
      go_at_call 64
      refine (CA.out _ HH.out.at' HH.out.own).mono ?_
      rintro e w8 ⟨rfl, hk2, hl2⟩
      unfold flt
      exact ⟨rfl, rfl, HH.out.apd_bad hk2 hl2⟩
    | ok r =>
      obtain ⟨x, t3⟩ := r
      rw [hA] at hu
      simp only [Out.bind] at hu
      subst hu
      have CA := Aside0.mk (fun W (hg : At W g (RC s t2 v) 61) (hR : Kd.R k54 54 W B (fun k => k ≠ g) v xs) => atom_ B W g s v t2 a.tx xs hg hR ge u2.1 hyl hs)
      simp only [hA, Out.bind] at CA
      clear hA
      go_enter Try.func40, Try.ntmps40
      go_wp2_with fail
      go_at_call 39
      refine (C1.out _ HH.out.at').mono ?_
      rintro e w1 ⟨rfl, hg2, hk2, hl2⟩
      have HN := Aside0.mk (HH.out.turn hg2 hk2 hl2)
      clear HH hg2 hk2 hl2 C1
      have HH := HN
      clear HN
      go_wp2_with fail
      go_at_call 39
      refine (C2.out _ HH.out.at').mono ?_
      rintro e w2 ⟨rfl, hg2, hk2, hl2⟩
      have HN := Aside0.mk (HH.out.turn hg2 hk2 hl2)
      clear HH hg2 hk2 hl2 C2
      have HH := HN
      clear HN
      go_wp2_with fail
      go_at_call 39
      refine (C3.out _ HH.out.at').mono ?_
      rintro e w3 ⟨rfl, hg2, hk2, hl2⟩
      have HN := Aside0.mk (HH.out.turn hg2 hk2 hl2)
      clear HH hg2 hk2 hl2 C3
      have HH := HN
      clear HN
      go_wp2_with fail
      go_at_call 39
      refine (C4.out _ HH.out.at').mono ?_
      rintro e w4 ⟨rfl, hg2, hk2, hl2⟩
      have HN := Aside0.mk (HH.out.turn hg2 hk2 hl2)
      clear HH hg2 hk2 hl2 C4
      have HH := HN
      clear HN
      go_wp2_with fail
      go_at_call 39
      refine (C5.out _ HH.out.at').mono ?_
      rintro e w5 ⟨rfl, hg2, hk2, hl2⟩
      have HN := Aside0.mk (HH.out.turn hg2 hk2 hl2)
      clear HH hg2 hk2 hl2 C5
      have HH := HN
      clear HN
      go_wp2_with fail
      go_at_call 19
      refine (C9.out _ HH.out.at').mono ?_
      rintro e w9 ⟨rfl, hg2, hk2, hl2⟩
      have HN := Aside0.mk (HH.out.turn hg2 hk2 hl2)
      clear HH hg2 hk2 hl2 C9
      have HH := HN
      clear HN
      go_wp2_with fail
      go_at_call 64
      refine (CA.out _ HH.out.at' HH.out.own).mono ?_
      rintro e w8 ⟨rfl, v8, b1, b2, b3, b4, b5⟩
      have HN := Aside0.mk (HH.out.apd b1 b2 b3 b4 b5)
      clear HH b1 b2 b3 b4 b5 CA
      go_wp2
      (try simp only [Exit.then, Exit.jump])
      go_end0
      exact HN.out.done
end Go.Proofs.Ytmgljgmieomngaa.Pz
