/- Is the word that sign; the word that is wanted; a point's part. -/
import Derived.Test.YtmgljgmieomngaaPz4
namespace Go.Proofs.Ytmgljgmieomngaa.Pz
open Go Go.RowKit Go.Proofs.YtmgljgmieomngaaW.PrintWords Go.Proofs.YtmgljgmieomngaaW.PrintLast Go.Proofs.YtmgljgmieomngaaW.PrintMore Go.Proofs.Ytmgljgmieomngaa.Q
attribute [local go_sem] run_store_complex run_store_float isSome_setCell
set_option linter.unusedVariables false
set_option linter.unusedSimpArgs false
theorem At.new2 (W : World) (o : Obj) (cs : Array Value) (t : TypeId) : At ((W.alloc o).alloc (.cells cs t (0, 0))) (W.heap.size + 1) cs t := by
  have h := At.new (W.alloc o) cs t
  rwa [World.size_alloc] at h
set_option maxHeartbeats 8000000 in
set_option maxRecDepth 100000 in
/-- is the word that sign? -/
theorem is_ (w : World) (g : Nat) (s : ByteArray) (v : Value) (t : St) (c : Int) (hg : At w g (RC s t v) 61) (h0 : 0 ≤ t.p) (h1 : t.p ≤ (s.size : Int)) (hs : s.size ≤ 400) :
    Calls Try.prog 39 #[.pointer (some ⟨g, 0, none⟩), .int .u8 c] w (Rdr w g s v (fun b : Bool => .bool b) (isF s c t)) := by
  have hu61 := Try.underlying61
  have hu59 := Try.underlying59
  have HN := Aside0.mk (next_ w g s v t hg h0 h1 hs)
  have HG := Aside0.mk hg
  have q2 : w.cell? ⟨g, 2, none⟩ = some (.int .u8 t.w.kd) := (blk_cell hg 2).trans rfl
  have q3 : w.cell? ⟨g, 3, none⟩ = some (.bool t.w.lg) := (blk_cell hg 3).trans rfl
  clear hg
  unfold isF
  by_cases hc : t.w.kd = c ∧ t.w.lg = false
  · rw [if_pos hc]
    obtain ⟨k1, k2⟩ := hc
    have k1' : (t.w.kd != c) = false := by simpa [bne] using k1
    rw [k2] at q3
    clear k1 k2
    cases hN : nextF s t.p with
    | ok t' =>
      have C := HN.out
      rw [hN] at C
      have C := Aside0.mk C
      clear HN hN
      go_enter Try.func39, Try.ntmps39
      go_wp2_with (first | (go_at_call 17; refine C.out.mono ?_; rintro e w2 ⟨rfl, hg2, hk2, hl2⟩; have HG2 := Aside0.mk hg2; have HK2 := Aside0.mk hk2; have HL2 := Aside0.mk hl2; clear hg2 hk2 hl2))
      go_ret
      exact ⟨rfl, HG2.out, HK2.out, HL2.out⟩
    | bad p er =>
      have C := HN.out
      rw [hN] at C
      have C := Aside0.mk C
      clear HN hN
      go_enter Try.func39, Try.ntmps39
      go_wp2_with (first | (go_at_call 17; refine C.out.mono ?_; rintro e w2 ⟨rfl, hk2, hl2⟩; have HK2 := Aside0.mk hk2; have HL2 := Aside0.mk hl2; clear hk2 hl2; unfold flt))
      exact ⟨rfl, rfl, HK2.out, HL2.out⟩
  · rw [if_neg hc]
    have hd : Aside0 ((t.w.kd != c) = true ∨ ((t.w.kd != c) = false ∧ t.w.lg = true)) := by
      refine ⟨?_⟩
      by_cases k : t.w.kd = c
      · refine .inr ⟨by simpa [bne] using k, ?_⟩
        have := fun e => hc ⟨k, e⟩
        simpa using this
      · exact .inl (by simpa [bne] using k)
    clear hc
    rcases hd.out with k1 | ⟨k1, k2⟩
    · clear hd
      go_enter Try.func39, Try.ntmps39
      go_wp2
      go_ret
      exact ⟨rfl, HG.out, KeepBut.refl _ _ _, Below.refl _ _⟩
    · clear hd
      rw [k2] at q3
      clear k2
      go_enter Try.func39, Try.ntmps39
      go_wp2
      go_ret
      exact ⟨rfl, HG.out, KeepBut.refl _ _ _, Below.refl _ _⟩
/-- a word as a value -/
def wenc (u : Wd) : Value := .agg #[.int .u8 u.kd, .bool u.lg, .int .i64 u.pl, .string u.tx, .int .i64 u.n]
set_option maxHeartbeats 8000000 in
set_option maxRecDepth 100000 in
/-- the word that is wanted -/
theorem want_ (w : World) (g : Nat) (s : ByteArray) (v : Value) (t : St) (c : Int) (hg : At w g (RC s t v) 61) (h0 : 0 ≤ t.p) (h1 : t.p ≤ (s.size : Int)) (hs : s.size ≤ 400) :
    Calls Try.prog 19 #[.pointer (some ⟨g, 0, none⟩), .int .u8 c] w (Rdr w g s v wenc (wantF s c t)) := by
  obtain ⟨p, kd, lg, pl, tx, n⟩ := t
  simp only at h0 h1
  have hu61 := Try.underlying61
  have hu59 := Try.underlying59
  have hlt := hg.lt
  have HN := Aside0.mk (fun W (h : At W g (RC s ⟨p, ⟨kd, lg, pl, tx, n⟩⟩ v) 61) => next_ W g s v ⟨p, ⟨kd, lg, pl, tx, n⟩⟩ h h0 h1 hs)
  have HG := Aside0.mk hg
  have q2 : w.cell? ⟨g, 2, none⟩ = some (.int .u8 kd) := (blk_cell hg 2).trans rfl
  have q3 : w.cell? ⟨g, 3, none⟩ = some (.bool lg) := (blk_cell hg 3).trans rfl
  have q4 : w.cell? ⟨g, 4, none⟩ = some (.int .i64 pl) := (blk_cell hg 4).trans rfl
  have q5 : w.cell? ⟨g, 5, none⟩ = some (.string tx) := (blk_cell hg 5).trans rfl
  have q6 : w.cell? ⟨g, 6, none⟩ = some (.int .i64 n) := (blk_cell hg 6).trans rfl
  have hne : g ≠ w.heap.size := by omega
  have hne' : w.heap.size ≠ g := by omega
  have hne1 : g ≠ w.heap.size + 1 := by omega
  have hne1' : w.heap.size + 1 ≠ g := by omega
  clear hg
  unfold wantF
  simp only
  by_cases hc : kd = c ∧ lg = false
  · rw [if_pos hc]
    obtain ⟨k1, k2⟩ := hc
    subst k2
    have k1' : (kd != c) = false := by simpa [bne] using k1
    clear k1
    cases hN : nextF s p with
    | ok t' =>
      have C := HN.out
      simp only [hN] at C
      have C := Aside0.mk C
      clear HN hN
      go_enter Try.func19, Try.ntmps19
      go_wp2_with (first | (go_at_call 17; refine (C.out _ ?hA).mono ?_; (case hA => exact (HG.out.alloc _).alloc _); rintro e w2 ⟨rfl, hg2, hk2, hl2⟩; have HG2 := Aside0.mk hg2; have HK2 := Aside0.mk hk2; have HL2 := Aside0.mk hl2; have bA := At.keep (At.new2 _ _ _ _) hk2 hne1' (by simp); have bB := At.keep ((At.new w _ _).alloc _) hk2 hne' (by simp); have BB := Aside0.mk bB; have hs2 := Aside0.mk (keep_size hk2); clear hg2 hk2 hl2; have za0 := (blk_cell bA 0).trans rfl; have za1 := (blk_cell bA 1).trans rfl; have za2 := (blk_cell bA 2).trans rfl; have za3 := (blk_cell bA 3).trans rfl; have za4 := (blk_cell bA 4).trans rfl; have zb0 := (blk_cell bB 0).trans rfl; have fb0 := blk_frozen bB 0; have zb1 := (blk_cell bB 1).trans rfl; have fb1 := blk_frozen bB 1; have zb2 := (blk_cell bB 2).trans rfl; have fb2 := blk_frozen bB 2; have zb3 := (blk_cell bB 3).trans rfl; have fb3 := blk_frozen bB 3; have zb4 := (blk_cell bB 4).trans rfl; have fb4 := blk_frozen bB 4; clear bA bB))
      refine bodyPost_ret (results_cell_row rfl _ _ w.heap.size 59 #[.int .u8 kd, .bool false, .int .i64 pl, .string tx, .int .i64 n] (0, 0) _ rfl ?zg Try.underlying59 rfl (by kernel_rfl)) rfl ?zp
      case zg =>
        apply At.fin
        · (with_reducible repeat (first | exact BB.out | apply At.set))
        · rfl
      case zp =>
        have h1 := HG2.out
        refine ⟨rfl, ?_, ?_, ?_⟩
        · with_reducible repeat (first | exact h1 | apply At.other (hne := hne'))
        · have hk := (kb_alloc (kb_alloc (KeepBut.refl w g none) _) _).trans HK2.out (.inl rfl)
          with_reducible repeat (first | exact hk | refine kb_new ?_ (Nat.le_refl _) _ _)
        · have hl := (bl_alloc (bl_alloc (Below.refl g w) hlt _) hlt _).trans HL2.out
          with_reducible repeat (first | exact hl | refine bl_set ?_ (Nat.le_of_lt hlt))
    | bad pp er =>
      have C := HN.out
      simp only [hN] at C
      have C := Aside0.mk C
      clear HN hN
      go_enter Try.func19, Try.ntmps19
      go_wp2_with (first | (go_at_call 17; refine (C.out _ ?hA).mono ?_; (case hA => exact (HG.out.alloc _).alloc _); rintro e w2 ⟨rfl, hk2, hl2⟩; have HK2 := Aside0.mk hk2; have HL2 := Aside0.mk hl2; clear hk2 hl2; unfold flt))
      exact ⟨rfl, rfl, (kb_alloc (kb_alloc (KeepBut.refl w g none) _) _).trans HK2.out (.inl rfl), (bl_alloc (bl_alloc (Below.refl g w) hlt _) hlt _).trans HL2.out⟩
  · rw [if_neg hc]
    have hd : Aside0 ((kd != c) = true ∨ ((kd != c) = false ∧ lg = true)) := by
      refine ⟨?_⟩
      by_cases k : kd = c
      · refine .inr ⟨by simpa [bne] using k, ?_⟩
        have := fun e => hc ⟨k, e⟩
        simpa using this
      · exact .inl (by simpa [bne] using k)
    clear hc HN
    rcases hd.out with k1 | ⟨k1, rfl⟩
    all_goals
      clear hd
      go_enter Try.func19, Try.ntmps19
      go_wp2_with (first | (go_at_call 20; refine (stop_ _ _ _).mono ?_; rintro e w2 ⟨rfl, hw⟩; subst hw; unfold flt))
      exact ⟨rfl, rfl, by (with_reducible repeat (first | exact KeepBut.refl _ _ _ | exact HK.out | apply KeepBut.set_ | apply kb_drewN | apply kb_drew | apply kb_alloc | refine kb_new ?_ (Nat.le_refl _) _ _)), by (with_reducible repeat (first | exact Below.refl _ _ | exact HL.out | apply pw_below_drewN | apply below_drew1 | refine bl_set ?_ (Nat.le_refl _) | refine bl_set ?_ (Nat.le_of_lt hlt) | refine bl_alloc ?_ hlt _))⟩
end Go.Proofs.Ytmgljgmieomngaa.Pz
