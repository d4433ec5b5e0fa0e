/- Scopes in which the run jumps back to one label, walked as a loop whose relation bears a number; a make of length 0 with room. -/
import Derived.ScopeJumps
import Derived.Laws.MakeOwn
import Derived.Test.YtmgljgmieomngaaWd
import Derived.WalkMore
import Derived.Deep.LoopGhost
namespace Go.Proofs.YtmgljgmieomngaaW
open Go
section
variable {P : Program} {a : Act} {w : World} {Q : Exit → Act → World → Prop}

/-- A scope with one label: what stands at a jump to it is any 'G' that follows from the rest's own run. -/
theorem wp_scope_lab {c rest : Code} (l : Nat) (hf : findLabel c l = some (.seq .skip rest))
    (h : ∀ G : Act → World → Prop, (∀ a' w', rest.wp P (Exit.jump l G Q) a' w' → G a' w') → c.wp P (Exit.jump l G Q) a w) : (Code.scope c).wp P Q a w := by
  let G : Act → World → Prop := fun a w => ∀ b k cs, ∃ e a' w', Q e a' w' ∧ Arrives P (lone (b.at a (.code (.seq .skip rest) :: .inScope c :: k)) cs w) b k cs e a' w'
  have hg : ∀ k, gotoIn l (.inScope c :: k) = some (.code (.seq .skip rest) :: .inScope c :: k) := by intro k; simp [gotoIn, hf]
  have out : ∀ (d : Code) (a : Act) (w : World), d.wp P (Exit.jump l G Q) a w → ∀ b k cs, ∃ e a' w', Q e a' w' ∧ Arrives P (lone (b.at a (.code d :: .inScope c :: k)) cs w) b k cs e a' w' := by
    intro d a w hd b k cs
    obtain ⟨e, a₁, w₁, hq, harr⟩ := hd b (.inScope c :: k) cs
    cases e with
    | normal => exact ⟨.normal, a₁, w₁, hq, Steps.trans harr (.one step_inScope)⟩
    | exit id => exact ⟨.exit id, a₁, w₁, hq, fun k' hk => harr k' (by simp [exitTo, hk])⟩
    | goto l' =>
      obtain ⟨rfl, hG⟩ := hq
      obtain ⟨e₂, a₂, w₂, hq₂, harr₂⟩ := hG b k cs
      exact ⟨e₂, a₂, w₂, hq₂, .of_steps (harr _ (hg k)) harr₂⟩
    | ret => exact ⟨_, a₁, w₁, hq, harr⟩
    | panic ch => exact ⟨_, a₁, w₁, hq, harr⟩
    | outgrown => exact ⟨_, a₁, w₁, hq, harr⟩
  have hG : ∀ a' w', rest.wp P (Exit.jump l G Q) a' w' → G a' w' := by
    intro a' w' hr b k cs
    exact out (.seq .skip rest) a' w' (wp_seq (wp_skip (by exact hr))) b k cs
  intro b k cs
  obtain ⟨e, a', w', hq, harr⟩ := out c a w (h G hG) b k cs
  refine ⟨e, a', w', hq, ?_⟩
  cases e with
  | normal => exact .head step_scope harr
  | exit id => exact fun k' hk => .head step_scope (harr k' hk)
  | goto l' => exact fun k' hk => .head step_scope (harr k' hk)
  | ret => exact .of_steps (.one step_scope) harr
  | panic ch => exact .of_steps (.one step_scope) harr
  | outgrown => exact .of_steps (.one step_scope) harr

/-- The rest behind a label, as a loop: what a round hands on by its goto stands at a smaller number. -/
theorem wp_lab_loop {rest : Code} {l : Nat} {G : Act → World → Prop} (hG : ∀ a' w', rest.wp P (Exit.jump l G Q) a' w' → G a' w')
    (I : Nat → Act → World → Prop) (n₀ : Nat) (h₀ : I n₀ a w)
    (round : ∀ n a w, I n a w → ∀ (J : Nat → Act → World → Prop) (K : Act → World → Prop), (∀ k a' w', I k a' w' → J k a' w') → (∀ a' w', Handed J n a' w' → K a' w') → rest.wp P (Exit.jump l K Q) a w) :
    rest.wp P (Exit.jump l G Q) a w := by
  have key : ∀ n a w, I n a w → rest.wp P (Exit.jump l G Q) a w := by
    intro n
    induction n using Nat.strongRecOn with
    | _ n ih =>
      intro a w hI
      refine wp_mono (round n a w hI I (Handed I n) (fun _ _ _ h => h) (fun _ _ h => h)) ?_
      intro e a' w' hq
      cases e with
      | goto l' =>
        obtain ⟨rfl, n', hlt, hI'⟩ := hq
        exact ⟨rfl, hG _ _ (ih n' hlt a' w' hI')⟩
      | normal => exact hq
      | exit id => exact hq
      | ret => exact hq
      | panic ch => exact hq
      | outgrown => exact hq
  exact key n₀ a w h₀
end
end Go.Proofs.YtmgljgmieomngaaW
namespace Go.Proofs.YtmgljgmieomngaaW.PrintWords.Kd
open Go Go.RowKit Go.Proofs.YtmgljgmieomngaaW.PrintWords
section
variable {α : Type} {P : Program} {ops : Array Oper} {Q : Exit → Act → World → Prop} {o : Oper} {rest : List Oper} {a : Act}
/-- make([]T, 0, n): no element, and room. -/
theorem R_make0 (d : Kd α) {w0 W : World} (base e : Nat) (hgd : o.guard = none) {N : Tmp} (_hd : o.dst = some N) (t : TypeId) (x y : Operand) (ho : o.op = .makeSlice t x y) (n : Int) (hx : a.eval x = .int .i64 0) (hy : a.eval y = .int .i64 n)
    (ht : P.underlying t = some (.slice e)) (z : Value) (bytes : Nat) (hinfo : (P.info? e).map (fun i => (i.zero, i.size, i.bytes)) = some (some z, d.sz, bytes)) (hz : z.cells.size = d.sz) (hs0 : 0 < d.sz) (hb0 : 0 < bytes)
    (z0 : α) {ok okp : Nat → Prop} (hzero : d.M W base okp z0 z.cells.toList) (hok : ∀ k, okp k → ok k) (hfresh : ok W.heap.size) (h0 : 0 ≤ n) (hl : n.toNat * bytes ≤ 281474976710656) (HB : Below base w0 W) (hbase : base ≤ W.heap.size)
    (h : ∀ v1 w1, d.R e w1 base ok v1 [] → Below base w0 w1 → W.grownBy w1 none → (∃ b, v1.ownBlock = some b ∧ W.heap.size ≤ b) → wpList P ops Q rest (a.put o.dst v1) w1) : wpList P ops Q (o :: rest) a W := by
  obtain ⟨m, rfl⟩ := Int.eq_ofNat_of_zero_le h0
  simp only [Int.toNat_natCast] at hl
  obtain ⟨i0, hi, hzz⟩ := Option.map_eq_some_iff.1 hinfo
  simp only [Prod.mk.injEq] at hzz
  obtain ⟨hz0, hz1, hz2⟩ := hzz
  have hm : m ≤ 281474976710656 := Nat.le_trans (Nat.le_mul_of_pos_right _ hb0) hl
  have hr := run_make (P := P) W t e i0 z ht hi hz0 .i64 .i64 0 (m : Int) (by omega) (by omega)
    (by
      have h3 : ((i0.bytes * m : Nat) : Int) ≤ 281474976710656 := by rw [hz2, Nat.mul_comm]; omega
      rwa [Int.natCast_mul] at h3) (by omega)
  simp only [Int.toNat_natCast, Int.toNat_zero] at hr
  rw [hz1] at hr
  have hrep := reps_made (R := d.M W base okp) hz hs0 hzero m
  have full : d.R e (W.alloc (.cells (madeCells z.cells (m * d.sz)) e)) base ok (.slice (some ⟨W.heap.size, 0, none⟩) m m) (List.replicate m z0) := by
    refine ⟨fun k hk => ?_, (madeCells z.cells (m * d.sz)).toList, ?_, ?_⟩
    · have : W.heap.size = k := by simpa [Value.ownBlock] using hk
      subst this
      exact hfresh
    · have h2 := World.ownsRow_lit (base := base) (e := e) (size := d.sz) W (madeCells z.cells (m * d.sz)) m hbase (by simp [maxLen]; omega) (by have := hrep.1; simpa using this)
      simpa using h2
    · refine hrep.imp_ (fun p c hp => d.M_mono (fun k hk => ⟨hok k hk.1, fun he => ?_⟩) (M_below (d.M_bound hp) (below_alloc (Below.refl _ _) _)))
      have h3 : k = W.heap.size := by simpa [Value.ownBlock] using he
      have := hk.2.2.1
      omega
  have none_ := R_take (m := 0) full (Nat.zero_le _)
  rw [List.take_zero] at none_
  refine event_run hgd ?_ (h _ _ none_ (HB.alloc hbase _) (World.grownBy_alloc W _ none) ⟨W.heap.size, by simp [Value.ownBlock], Nat.le_refl _⟩)
  simp [execOp, ho, hx, hy, hr]
theorem S_make0 (d : Kd α) {w0 W : World} (base e : Nat) (hgd : o.guard = none) {N : Tmp} (hd : o.dst = some N) (t : TypeId) (x y : Operand) (ho : o.op = .makeSlice t x y) (n : Int) (hx : a.eval x = .int .i64 0) (hy : a.eval y = .int .i64 n)
    (ht : P.underlying t = some (.slice e)) (z : Value) (bytes : Nat) (hinfo : (P.info? e).map (fun i => (i.zero, i.size, i.bytes)) = some (some z, d.sz, bytes)) (hz : z.cells.size = d.sz) (hs0 : 0 < d.sz) (hb0 : 0 < bytes)
    (z0 : α) {ok okp : Nat → Prop} (hzero : d.M W base (fun _ => False) z0 z.cells.toList) (_hok : ∀ k, okp k → ok k) (hfresh : ok W.heap.size) (h0 : 0 ≤ n) (hl : n.toNat * bytes ≤ 281474976710656) (HB : Below base w0 W) (hbase : base ≤ W.heap.size)
    (h : ∀ v1 w1, S d e w1 base ok v1 [] → Below base w0 w1 → W.grownBy w1 none → (∃ b, v1.ownBlock = some b ∧ W.heap.size ≤ b) → wpList P ops Q rest (a.put o.dst v1) w1) : wpList P ops Q (o :: rest) a W :=
  R_make0 (bare d) base e hgd hd t x y ho n hx hy ht z bytes hinfo hz hs0 hb0 z0 (ok := ok) (okp := ok) hzero (fun _ hk => hk) hfresh h0 hl HB hbase (fun v1 w1 hr => h v1 w1 (S_bare hr))
end
end Go.Proofs.YtmgljgmieomngaaW.PrintWords.Kd
