/- Parse, at any text. -/
import Derived.Test.YtmgljgmieomngaaPz11
import Derived.Test.YtmgljgmieomngaaPy5
namespace Go.Proofs.Ytmgljgmieomngaa.Pz
open Go Go.RowKit Go.Proofs.YtmgljgmieomngaaW.PrintWords Go.Proofs.YtmgljgmieomngaaW.PrintLast Go.Proofs.YtmgljgmieomngaaW.PrintMore Go.Proofs.Ytmgljgmieomngaa.Q
attribute [local go_sem] run_store_complex run_store_float isSome_setCell
set_option linter.unusedVariables false
set_option linter.unusedSimpArgs false
theorem At.new3 (W : World) (o o' : Obj) (cs : Array Value) (t : TypeId) : At (((W.alloc o).alloc o').alloc (.cells cs t (0, 0))) (W.heap.size + 1 + 1) cs t := by
  have h := At.new2 (W.alloc o) o' cs t
  rwa [World.size_alloc] at h
theorem At.new4 (W : World) (o o' o'' : Obj) (cs : Array Value) (t : TypeId) : At ((((W.alloc o).alloc o').alloc o'').alloc (.cells cs t (0, 0))) (W.heap.size + 1 + 1 + 1) cs t := by
  have h := At.new3 (W.alloc o) o' o'' cs t
  rwa [World.size_alloc] at h
/-- the state at the begin -/
def st0 : St := ⟨0, ⟨0, false, 0, ⟨#[]⟩, 0⟩⟩
theorem st0_in (s : ByteArray) : In s st0 := ⟨Int.le_refl _, by show (0 : Int) ≤ _; omega⟩
set_option maxHeartbeats 16000000 in
set_option maxRecDepth 100000 in
theorem parse_ (s : ByteArray) (w : World) (r : List S54 × Int × Int) (h : parseF s = some r) :
    Calls Try.prog 8 #[.string s] w fun e w' => ∃ v, e = .returned (.tuple #[v, .int .i64 r.2.1, .int .i64 r.2.2]) ∧ Kd.R k54 54 w' w.heap.size (fun _ => True) v r.1 ∧ Below w.heap.size w w' := by
  have hmf : ∀ (fn : Fn) (first cap : Array Value) (w : World), (Instr.makeFunc fn first cap).run Try.prog w = .ok (.func fn first cap) w := fun _ _ _ _ => rfl
  have hu61 := Try.underlying61
  have hu59 := Try.underlying59
  have hu54 := Try.underlying54
  have hu43 := Try.underlying43
  unfold parseF at h
  by_cases hl : 300 < s.size
  · rw [if_pos hl] at h
    obtain rfl := Option.some.inj h
    clear h
    have b1 : decide (300 < s.size) = true := decide_eq_true hl
    have b2 : decide ((300 : Int) < (s.size : Int)) = true := decide_eq_true (by omega)
    go_enter_defers Try.func8, Try.ntmps8
    go_wp2
    simp [bodyPostD, Leaves, settle, results, Try.results8, go_sem]
    exact ⟨Kd.R_nil _ _ _ _ _, (((Below.refl _ w).alloc (Nat.le_refl _) _).alloc (by simp) _).alloc (by simp; omega) _⟩
  rw [if_neg hl] at h
  have b1 : decide (300 < s.size) = false := decide_eq_false hl
  have b2 : decide ((300 : Int) < (s.size : Int)) = false := decide_eq_false (by omega)
  have hs : s.size ≤ 400 := by omega
  have H0 : Aside0 (At ((((w.alloc (.cells #[.slice none 0 0] 23)).alloc (.cells #[.int .i64 0] 3)).alloc (.cells #[.int .i64 0] 24)).alloc (.cells (RC s st0 (.slice none 0 0)) 61)) (w.heap.size + 1 + 1 + 1) (RC s st0 (.slice none 0 0)) 61) := ⟨At.new4 w _ _ _ _ _⟩
  have P0 : Aside0 (At ((((w.alloc (.cells #[.slice none 0 0] 23)).alloc (.cells #[.int .i64 0] 3)).alloc (.cells #[.int .i64 0] 24)).alloc (.cells (RC s st0 (.slice none 0 0)) 61)) w.heap.size #[.slice none 0 0] 23) := ⟨(((At.new w _ _).alloc _).alloc _).alloc _⟩
  have Q0 : Aside0 (At ((((w.alloc (.cells #[.slice none 0 0] 23)).alloc (.cells #[.int .i64 0] 3)).alloc (.cells #[.int .i64 0] 24)).alloc (.cells (RC s st0 (.slice none 0 0)) 61)) (w.heap.size + 1) #[.int .i64 0] 3) := ⟨((At.new2 w _ _ _).alloc _).alloc _⟩
  have S0 : Aside0 (At ((((w.alloc (.cells #[.slice none 0 0] 23)).alloc (.cells #[.int .i64 0] 3)).alloc (.cells #[.int .i64 0] 24)).alloc (.cells (RC s st0 (.slice none 0 0)) 61)) (w.heap.size + 1 + 1) #[.int .i64 0] 24) := ⟨(At.new3 w _ _ _ _).alloc _⟩
  have B0 : Aside0 (Below w.heap.size w ((((w.alloc (.cells #[.slice none 0 0] 23)).alloc (.cells #[.int .i64 0] 3)).alloc (.cells #[.int .i64 0] 24)).alloc (.cells (RC s st0 (.slice none 0 0)) 61))) := ⟨((((Below.refl _ w).alloc (Nat.le_refl _) _).alloc (by simp) _).alloc (by simp; omega) _).alloc (by simp; omega) _⟩
  have hab : w.heap.size ≠ w.heap.size + 1 := by omega
  have hac : w.heap.size ≠ w.heap.size + 1 + 1 := by omega
  have hbc : w.heap.size + 1 ≠ w.heap.size + 1 + 1 := by omega
  have hne1 : w.heap.size ≠ w.heap.size + 1 + 1 + 1 := by omega
  have hne2 : w.heap.size + 1 ≠ w.heap.size + 1 + 1 + 1 := by omega
  have hne3 : w.heap.size + 1 + 1 ≠ w.heap.size + 1 + 1 + 1 := by omega
  have CN := Aside0.mk (next_ ((((w.alloc (.cells #[.slice none 0 0] 23)).alloc (.cells #[.int .i64 0] 3)).alloc (.cells #[.int .i64 0] 24)).alloc (.cells (RC s st0 (.slice none 0 0)) 61)) (w.heap.size + 1 + 1 + 1) s (.slice none 0 0) st0 H0.out (st0_in s).1 (st0_in s).2 hs)
  cases hN : nextF s 0 with
  | bad pp er =>
    rw [hN] at h
    obtain rfl := Option.some.inj h
    have CN := CN.out
    rw [show st0.p = 0 from rfl, hN] at CN
    have CN := Aside0.mk CN
    clear hN h H0
    go_enter_defers Try.func8, Try.ntmps8
    go_wp2_with fail
    go_at_call 17
    refine CN.out.mono ?_
    rintro e w1 ⟨rfl, hk, hl⟩
    have P1 := Aside0.mk (At.keep P0.out hk hne1 (by simp [Value.ownBlock]))
    have Q1 := Aside0.mk (At.keep Q0.out hk hne2 (by simp [Value.ownBlock]))
    have S1 := Aside0.mk (At.keep S0.out hk hne3 (by simp [Value.ownBlock]))
    have hbel1 := B0.out.trans (Below.less hl (by omega : w.heap.size ≤ w.heap.size + 1 + 1 + 1))
    unfold flt
    clear hk hl
    refine leaves_cons (f := 16) (args := #[.pointer (some ⟨w.heap.size, 0, none⟩), .pointer (some ⟨w.heap.size + 1, 0, none⟩), .pointer (some ⟨w.heap.size + 1 + 1, 0, none⟩)]) (by simp) (by simp [go_sem]) ?_
    refine (caught _ _ _ pp er _ _ _ _ P1.out Q1.out S1.out hab hac hbc).mono ?_
    rintro en u' w'' ⟨rfl, rfl, ha, hb, hc, hB⟩
    have a0 : w''.cell? ⟨w.heap.size, 0, none⟩ = some (.slice none 0 0) := (blk_cell ha 0).trans rfl
    have b0 : w''.cell? ⟨w.heap.size + 1, 0, none⟩ = some (.int .i64 pp) := (blk_cell hb 0).trans rfl
    have c0 : w''.cell? ⟨w.heap.size + 1 + 1, 0, none⟩ = some (.int .i64 er) := (blk_cell hc 0).trans rfl
    have hbel := hbel1
    have hsz := P1.out.lt
    simp [Leaves, settle, results, Try.results8, go_sem, a0, b0, c0]
    exact ⟨Kd.R_nil _ _ _ _ _, hbel.trans (hB _ (Nat.le_refl _) (by omega) (by omega) (by omega))⟩
  | ok t =>
    rw [hN] at h
    have hi := (nextF_iw (Int.le_refl 0) (by omega) hN).1
    have CN := CN.out
    rw [show st0.p = 0 from rfl, hN] at CN
    have CN := Aside0.mk CN
    clear hN H0
    simp only at h
    obtain ⟨o, ho, h⟩ := bind_some' h
    have CS := Aside0.mk (fun (W : World) (hg : At W (w.heap.size + 1 + 1 + 1) (RC s t (.slice none 0 0)) 61) => (walks 3000 3000 (Nat.le_refl _)).2 (w.heap.size + 1 + 1 + 1) W (w.heap.size + 1 + 1 + 1) s (.slice none 0 0) t [] o hg (Kd.R_nil _ _ _ _ _) (Nat.le_refl _) hi (by simpa using hi.2.1) hs ho)
    have hup := pr_up s 3000 .sum t o hi ho
    clear ho
    cases o with
    | bad pp er =>
      simp only at h
      obtain rfl := Option.some.inj h
      clear h hup
      go_enter_defers Try.func8, Try.ntmps8
      go_wp2_with fail
      go_at_call 17
      refine CN.out.mono ?_
      rintro e w1 ⟨rfl, hg1, hk, hl⟩
      have P1 := Aside0.mk (At.keep P0.out hk hne1 (by simp [Value.ownBlock]))
      have Q1 := Aside0.mk (At.keep Q0.out hk hne2 (by simp [Value.ownBlock]))
      have S1 := Aside0.mk (At.keep S0.out hk hne3 (by simp [Value.ownBlock]))
      have B1 := Aside0.mk (B0.out.trans (Below.less hl (by omega : w.heap.size ≤ w.heap.size + 1 + 1 + 1)))
      have CS1 := Aside0.mk (CS.out w1 hg1)
      clear hk hl CN CS hg1 P0 Q0 S0 B0
      go_wp2_with fail
      go_at_call 18
      refine CS1.out.mono ?_
      rintro e w2 ⟨rfl, hk, hl⟩
      have P2 := Aside0.mk (At.keep P1.out hk hne1 (by simp [Value.ownBlock]))
      have Q2 := Aside0.mk (At.keep Q1.out hk hne2 (by simp [Value.ownBlock]))
      have S2 := Aside0.mk (At.keep S1.out hk hne3 (by simp [Value.ownBlock]))
      have hbel2 := B1.out.trans (Below.less hl (by omega : w.heap.size ≤ w.heap.size + 1 + 1 + 1))
      unfold flt
      clear hk hl
      refine leaves_cons (f := 16) (args := #[.pointer (some ⟨w.heap.size, 0, none⟩), .pointer (some ⟨w.heap.size + 1, 0, none⟩), .pointer (some ⟨w.heap.size + 1 + 1, 0, none⟩)]) (by simp) (by simp [go_sem]) ?_
      refine (caught _ _ _ pp er _ _ _ _ P2.out Q2.out S2.out hab hac hbc).mono ?_
      rintro en u' w'' ⟨rfl, rfl, ha, hb, hc, hB⟩
      have a0 : w''.cell? ⟨w.heap.size, 0, none⟩ = some (.slice none 0 0) := (blk_cell ha 0).trans rfl
      have b0 : w''.cell? ⟨w.heap.size + 1, 0, none⟩ = some (.int .i64 pp) := (blk_cell hb 0).trans rfl
      have c0 : w''.cell? ⟨w.heap.size + 1 + 1, 0, none⟩ = some (.int .i64 er) := (blk_cell hc 0).trans rfl
      have hbel := hbel2
      have hsz := P2.out.lt
      simp [Leaves, settle, results, Try.results8, go_sem, a0, b0, c0]
      exact ⟨Kd.R_nil _ _ _ _ _, hbel.trans (hB _ (Nat.le_refl _) (by omega) (by omega) (by omega))⟩
    | ok r1 =>
      obtain ⟨l, t1⟩ := r1
      obtain ⟨hi1, -, -⟩ := hup l t1 rfl
      simp only at h
      cases hW : wantF s 101 t1 with
      | bad pp er =>
        rw [hW] at h
        obtain rfl := Option.some.inj h
        have CW := Aside0.mk (fun v => want_all (w.heap.size + 1 + 1 + 1) s v t1 101 hi1.1 hs hW)
        clear h hup hW
        go_enter_defers Try.func8, Try.ntmps8
        go_wp2_with fail
        go_at_call 17
        refine CN.out.mono ?_
        rintro e w1 ⟨rfl, hg1, hk, hl⟩
        have P1 := Aside0.mk (At.keep P0.out hk hne1 (by simp [Value.ownBlock]))
        have Q1 := Aside0.mk (At.keep Q0.out hk hne2 (by simp [Value.ownBlock]))
        have S1 := Aside0.mk (At.keep S0.out hk hne3 (by simp [Value.ownBlock]))
        have B1 := Aside0.mk (B0.out.trans (Below.less hl (by omega : w.heap.size ≤ w.heap.size + 1 + 1 + 1)))
        have CS1 := Aside0.mk (CS.out w1 hg1)
        clear hk hl CN CS hg1 P0 Q0 S0 B0
        go_wp2_with fail
        go_at_call 18
        refine CS1.out.mono ?_
        rintro e w2 ⟨rfl, v2, hg2, hr2, hk, -, hl⟩
        have P2 := Aside0.mk (At.keep P1.out hk hne1 (by simp [Value.ownBlock]))
        have Q2 := Aside0.mk (At.keep Q1.out hk hne2 (by simp [Value.ownBlock]))
        have S2 := Aside0.mk (At.keep S1.out hk hne3 (by simp [Value.ownBlock]))
        have B2 := Aside0.mk (B1.out.trans (Below.less hl (by omega : w.heap.size ≤ w.heap.size + 1 + 1 + 1)))
        rw [List.nil_append] at hr2
        have HR2 := Aside0.mk hr2
        have CW2 := Aside0.mk (CW.out v2 w2 hg2)
        clear hk hl CS1 hg2 hr2 P1 Q1 S1 B1 CW
        go_wp2_with fail
        go_at_call 19
        refine CW2.out.mono ?_
        rintro e w3 ⟨rfl, hk, hl⟩
        have P3 := Aside0.mk (At.keep P2.out hk hne1 (by simp [Value.ownBlock]))
        have Q3 := Aside0.mk (At.keep Q2.out hk hne2 (by simp [Value.ownBlock]))
        have S3 := Aside0.mk (At.keep S2.out hk hne3 (by simp [Value.ownBlock]))
        have hbel3 := B2.out.trans (Below.less hl (by omega : w.heap.size ≤ w.heap.size + 1 + 1 + 1))
        unfold flt
        clear hk hl
        refine leaves_cons (f := 16) (args := #[.pointer (some ⟨w.heap.size, 0, none⟩), .pointer (some ⟨w.heap.size + 1, 0, none⟩), .pointer (some ⟨w.heap.size + 1 + 1, 0, none⟩)]) (by simp) (by simp [go_sem]) ?_
        refine (caught _ _ _ pp er _ _ _ _ P3.out Q3.out S3.out hab hac hbc).mono ?_
        rintro en u' w'' ⟨rfl, rfl, ha, hb, hc, hB⟩
        have a0 : w''.cell? ⟨w.heap.size, 0, none⟩ = some (.slice none 0 0) := (blk_cell ha 0).trans rfl
        have b0 : w''.cell? ⟨w.heap.size + 1, 0, none⟩ = some (.int .i64 pp) := (blk_cell hb 0).trans rfl
        have c0 : w''.cell? ⟨w.heap.size + 1 + 1, 0, none⟩ = some (.int .i64 er) := (blk_cell hc 0).trans rfl
        have hbel := hbel3
        have hsz := P3.out.lt
        simp [Leaves, settle, results, Try.results8, go_sem, a0, b0, c0]
        exact ⟨Kd.R_nil _ _ _ _ _, hbel.trans (hB _ (Nat.le_refl _) (by omega) (by omega) (by omega))⟩
      | ok r2 =>
        obtain ⟨a, t2⟩ := r2
        rw [hW] at h
        have CW := Aside0.mk (fun v => want_all (w.heap.size + 1 + 1 + 1) s v t1 101 hi1.1 hs hW)
        clear hup hW
        simp only at h
        obtain ⟨c, hc, h⟩ := bind_some' h
        by_cases h6 : c = 6
        · rw [if_pos h6] at h
          obtain rfl := Option.some.inj h
          have k6 : (c == 6) = true := by simpa using h6
          clear h h6
          go_enter_defers Try.func8, Try.ntmps8
          go_wp2_with fail
          go_at_call 17
          refine CN.out.mono ?_
          rintro e w1 ⟨rfl, hg1, hk, hl⟩
          have P1 := Aside0.mk (At.keep P0.out hk hne1 (by simp [Value.ownBlock]))
          have Q1 := Aside0.mk (At.keep Q0.out hk hne2 (by simp [Value.ownBlock]))
          have S1 := Aside0.mk (At.keep S0.out hk hne3 (by simp [Value.ownBlock]))
          have B1 := Aside0.mk (B0.out.trans (Below.less hl (by omega : w.heap.size ≤ w.heap.size + 1 + 1 + 1)))
          have CS1 := Aside0.mk (CS.out w1 hg1)
          clear hk hl CN CS hg1 P0 Q0 S0 B0
          go_wp2_with fail
          go_at_call 18
          refine CS1.out.mono ?_
          rintro e w2 ⟨rfl, v2, hg2, hr2, hk, -, hl⟩
          have P2 := Aside0.mk (At.keep P1.out hk hne1 (by simp [Value.ownBlock]))
          have Q2 := Aside0.mk (At.keep Q1.out hk hne2 (by simp [Value.ownBlock]))
          have S2 := Aside0.mk (At.keep S1.out hk hne3 (by simp [Value.ownBlock]))
          have B2 := Aside0.mk (B1.out.trans (Below.less hl (by omega : w.heap.size ≤ w.heap.size + 1 + 1 + 1)))
          rw [List.nil_append] at hr2
          have HR2 := Aside0.mk hr2
          have CW2 := Aside0.mk (CW.out v2 w2 hg2)
          clear hk hl CS1 hg2 hr2 P1 Q1 S1 B1 CW
          go_wp2_with fail
          go_at_call 19
          refine CW2.out.mono ?_
          rintro e w3 ⟨rfl, hg3, hk, hl⟩
          have P3 := Aside0.mk (At.keep P2.out hk hne1 (by simp [Value.ownBlock]))
          have Q3 := Aside0.mk (At.keep Q2.out hk hne2 (by simp [Value.ownBlock]))
          have S3 := Aside0.mk (At.keep S2.out hk hne3 (by simp [Value.ownBlock]))
          have B3 := Aside0.mk (B2.out.trans (Below.less hl (by omega : w.heap.size ≤ w.heap.size + 1 + 1 + 1)))
          have HR3 := Aside0.mk (Kd.R_keep HR2.out hk (fun _ hk => hk))
          obtain ⟨A2, n2, e2⟩ := Kd.R_slice HR3.out
          subst e2
          have lt3 := hg3.lt
          have c7 : w3.cell? ⟨w.heap.size + 1 + 1 + 1, 7, none⟩ = some (.slice A2 l.length n2) := (blk_cell hg3 7).trans rfl
          have HG3 := Aside0.mk hg3
          clear hk hl CW2 hg3 P2 Q2 S2 B2 HR2
          go_wp2_with fail
          go_at_call 11
          refine (pred_Check.calls 3000 A2 n2 l c _ (Kd.R_reads' HR3.out).2.2 (Kd.R_reads' HR3.out).2.1 hc).mono ?_
          rintro e w4 ⟨rfl, hb⟩
          have P4 := Aside0.mk (show At w4 _ _ _ from blk_below P3.out hb)
          have Q4 := Aside0.mk (show At w4 _ _ _ from blk_below Q3.out hb)
          have S4 := Aside0.mk (show At w4 _ _ _ from blk_below S3.out hb)
          have B4 := Aside0.mk (B3.out.trans (Below.less hb (by omega : w.heap.size ≤ w3.heap.size)))
          have HR4 := Aside0.mk (Kd.R_below HR3.out hb)
          have g7 : w4.cell? ⟨w.heap.size + 1 + 1 + 1, 7, none⟩ = some (.slice A2 l.length n2) := (blk_cell (blk_below HG3.out hb) 7).trans rfl
          clear hb c7 P3 Q3 S3 B3 HR3 HG3
          go_wp2_with (first | (go_at_call 20; refine (stop_ _ _ _).mono ?_; rintro e w2 ⟨rfl, hw⟩; subst hw; unfold flt))
          have hbel4 := B4.out
          refine leaves_cons (f := 16) (args := #[.pointer (some ⟨w.heap.size, 0, none⟩), .pointer (some ⟨w.heap.size + 1, 0, none⟩), .pointer (some ⟨w.heap.size + 1 + 1, 0, none⟩)]) (by simp) (by simp [go_sem]) ?_
          refine (caught _ _ _ (s.size : Int) 6 _ _ _ _ P4.out Q4.out S4.out hab hac hbc).mono ?_
          rintro en u' w'' ⟨rfl, rfl, ha, hb, hc, hB⟩
          have a0 : w''.cell? ⟨w.heap.size, 0, none⟩ = some (.slice none 0 0) := (blk_cell ha 0).trans rfl
          have b0 : w''.cell? ⟨w.heap.size + 1, 0, none⟩ = some (.int .i64 (s.size : Int)) := (blk_cell hb 0).trans rfl
          have c0 : w''.cell? ⟨w.heap.size + 1 + 1, 0, none⟩ = some (.int .i64 6) := (blk_cell hc 0).trans rfl
          have hbel := hbel4
          have hsz := P4.out.lt
          simp [Leaves, settle, results, Try.results8, go_sem, a0, b0, c0]
          exact ⟨Kd.R_nil _ _ _ _ _, hbel.trans (hB _ (Nat.le_refl _) (by omega) (by omega) (by omega))⟩
        · rw [if_neg h6] at h
          obtain rfl := Option.some.inj h
          have k6 : (c == 6) = false := by simpa using h6
          clear h h6
          go_enter_defers Try.func8, Try.ntmps8
          go_wp2_with fail
          go_at_call 17
          refine CN.out.mono ?_
          rintro e w1 ⟨rfl, hg1, hk, hl⟩
          have P1 := Aside0.mk (At.keep P0.out hk hne1 (by simp [Value.ownBlock]))
          have Q1 := Aside0.mk (At.keep Q0.out hk hne2 (by simp [Value.ownBlock]))
          have S1 := Aside0.mk (At.keep S0.out hk hne3 (by simp [Value.ownBlock]))
          have B1 := Aside0.mk (B0.out.trans (Below.less hl (by omega : w.heap.size ≤ w.heap.size + 1 + 1 + 1)))
          have CS1 := Aside0.mk (CS.out w1 hg1)
          clear hk hl CN CS hg1 P0 Q0 S0 B0
          go_wp2_with fail
          go_at_call 18
          refine CS1.out.mono ?_
          rintro e w2 ⟨rfl, v2, hg2, hr2, hk, -, hl⟩
          have P2 := Aside0.mk (At.keep P1.out hk hne1 (by simp [Value.ownBlock]))
          have Q2 := Aside0.mk (At.keep Q1.out hk hne2 (by simp [Value.ownBlock]))
          have S2 := Aside0.mk (At.keep S1.out hk hne3 (by simp [Value.ownBlock]))
          have B2 := Aside0.mk (B1.out.trans (Below.less hl (by omega : w.heap.size ≤ w.heap.size + 1 + 1 + 1)))
          rw [List.nil_append] at hr2
          have HR2 := Aside0.mk hr2
          have CW2 := Aside0.mk (CW.out v2 w2 hg2)
          clear hk hl CS1 hg2 hr2 P1 Q1 S1 B1 CW
          go_wp2_with fail
          go_at_call 19
          refine CW2.out.mono ?_
          rintro e w3 ⟨rfl, hg3, hk, hl⟩
          have P3 := Aside0.mk (At.keep P2.out hk hne1 (by simp [Value.ownBlock]))
          have Q3 := Aside0.mk (At.keep Q2.out hk hne2 (by simp [Value.ownBlock]))
          have S3 := Aside0.mk (At.keep S2.out hk hne3 (by simp [Value.ownBlock]))
          have B3 := Aside0.mk (B2.out.trans (Below.less hl (by omega : w.heap.size ≤ w.heap.size + 1 + 1 + 1)))
          have HR3 := Aside0.mk (Kd.R_keep HR2.out hk (fun _ hk => hk))
          obtain ⟨A2, n2, e2⟩ := Kd.R_slice HR3.out
          subst e2
          have lt3 := hg3.lt
          have c7 : w3.cell? ⟨w.heap.size + 1 + 1 + 1, 7, none⟩ = some (.slice A2 l.length n2) := (blk_cell hg3 7).trans rfl
          have HG3 := Aside0.mk hg3
          clear hk hl CW2 hg3 P2 Q2 S2 B2 HR2
          go_wp2_with fail
          go_at_call 11
          refine (pred_Check.calls 3000 A2 n2 l c _ (Kd.R_reads' HR3.out).2.2 (Kd.R_reads' HR3.out).2.1 hc).mono ?_
          rintro e w4 ⟨rfl, hb⟩
          have P4 := Aside0.mk (show At w4 _ _ _ from blk_below P3.out hb)
          have Q4 := Aside0.mk (show At w4 _ _ _ from blk_below Q3.out hb)
          have S4 := Aside0.mk (show At w4 _ _ _ from blk_below S3.out hb)
          have B4 := Aside0.mk (B3.out.trans (Below.less hb (by omega : w.heap.size ≤ w3.heap.size)))
          have HR4 := Aside0.mk (Kd.R_below HR3.out hb)
          have g7 : w4.cell? ⟨w.heap.size + 1 + 1 + 1, 7, none⟩ = some (.slice A2 l.length n2) := (blk_cell (blk_below HG3.out hb) 7).trans rfl
          clear hb c7 P3 Q3 S3 B3 HR3 HG3
          have p0 := (blk_cell P4.out 0).trans rfl
          have fp := blk_frozen P4.out 0
          have q0 := (blk_cell Q4.out 0).trans rfl
          have fq := blk_frozen Q4.out 0
          have s0 := (blk_cell S4.out 0).trans rfl
          have fs := blk_frozen S4.out 0
          go_wp2
          refine leaves_cons (f := 16) (args := #[.pointer (some ⟨w.heap.size, 0, none⟩), .pointer (some ⟨w.heap.size + 1, 0, none⟩), .pointer (some ⟨w.heap.size + 1 + 1, 0, none⟩)]) (by simp) (by simp [go_sem]) ?_
          refine (idle ⟨w.heap.size, 0, none⟩ ⟨w.heap.size + 1, 0, none⟩ ⟨w.heap.size + 1 + 1, 0, none⟩ _).mono ?_
          rintro e u' w'' ⟨rfl, rfl, rfl⟩
          simp [Leaves, settle, results, Try.results8, go_sem, p0, q0, s0]
          refine ⟨?_, bl_set (bl_set (bl_set B4.out (Nat.le_refl _)) (by omega)) (by omega)⟩
          have h0 := Kd.R_bound HR4.out
          refine Kd.R_lower (Kd.R_mono (Kd.R_far (Kd.R_far (Kd.R_far h0 (p := ⟨w.heap.size, 0, none⟩) ?_ _) (p := ⟨w.heap.size + 1, 0, none⟩) ?_ _) (p := ⟨w.heap.size + 1 + 1, 0, none⟩) ?_ _) (fun _ _ => trivial)) (by omega : w.heap.size ≤ w.heap.size + 1 + 1 + 1)
          all_goals (intro k hk; have := hk.2.1; show k ≠ _; simp only []; omega)
end Go.Proofs.Ytmgljgmieomngaa.Pz
