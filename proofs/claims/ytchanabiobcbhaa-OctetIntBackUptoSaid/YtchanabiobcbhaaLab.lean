/- Scopes in which the run jumps back to one label, walked as a loop whose relation bears a number. -/
import Derived.ScopeJumps
import Derived.WalkMore
import Derived.Deep.LoopGhost
namespace Go.Proofs.YtchanabiobcbhaaW
open Go
section
variable {P : Program} {a : Act} {w : World} {Q : Exit → Act → World → Prop}

/-- A scope with one label: what stands at a jump to it is any 'G' that follows from the rest's own run. -/
theorem wp_scope_lab {c rest : Code} (l : Nat) (hf : findLabel c l = some (.seq .skip rest))
    (h : ∀ G : Act → World → Prop, (∀ a' w', rest.wp P (Exit.jump l G Q) a' w' → G a' w') → c.wp P (Exit.jump l G Q) a w) : (Code.scope c).wp P Q a w := by
  let G : Act → World → Prop := fun a w => ∀ b k cs, ∃ e a' w', Q e a' w' ∧ Arrives P (lone (b.at a (.code (.seq .skip rest) :: .inScope c :: k)) cs w) b k cs e a' w'
  have hg : ∀ k, gotoIn l (.inScope c :: k) = some (.code (.seq .skip rest) :: .inScope c :: k) := by intro k; simp [gotoIn, hf]
  have out : ∀ (d : Code) (a : Act) (w : World), d.wp P (Exit.jump l G Q) a w → ∀ b k cs, ∃ e a' w', Q e a' w' ∧ Arrives P (lone (b.at a (.code d :: .inScope c :: k)) cs w) b k cs e a' w' := by
    intro d a w hd b k cs
    obtain ⟨e, a₁, w₁, hq, harr⟩ := hd b (.inScope c :: k) cs
    cases e with
    | normal => exact ⟨.normal, a₁, w₁, hq, Steps.trans harr (.one step_inScope)⟩
    | exit id => exact ⟨.exit id, a₁, w₁, hq, fun k' hk => harr k' (by simp [exitTo, hk])⟩
    | goto l' =>
      obtain ⟨rfl, hG⟩ := hq
      obtain ⟨e₂, a₂, w₂, hq₂, harr₂⟩ := hG b k cs
      exact ⟨e₂, a₂, w₂, hq₂, .of_steps (harr _ (hg k)) harr₂⟩
    | ret => exact ⟨_, a₁, w₁, hq, harr⟩
    | panic ch => exact ⟨_, a₁, w₁, hq, harr⟩
    | outgrown => exact ⟨_, a₁, w₁, hq, harr⟩
  have hG : ∀ a' w', rest.wp P (Exit.jump l G Q) a' w' → G a' w' := by
    intro a' w' hr b k cs
    exact out (.seq .skip rest) a' w' (wp_seq (wp_skip (by exact hr))) b k cs
  intro b k cs
  obtain ⟨e, a', w', hq, harr⟩ := out c a w (h G hG) b k cs
  refine ⟨e, a', w', hq, ?_⟩
  cases e with
  | normal => exact .head step_scope harr
  | exit id => exact fun k' hk => .head step_scope (harr k' hk)
  | goto l' => exact fun k' hk => .head step_scope (harr k' hk)
  | ret => exact .of_steps (.one step_scope) harr
  | panic ch => exact .of_steps (.one step_scope) harr
  | outgrown => exact .of_steps (.one step_scope) harr

/-- The rest behind a label, as a loop: what a round hands on by its goto stands at a smaller number. -/
theorem wp_lab_loop {rest : Code} {l : Nat} {G : Act → World → Prop} (hG : ∀ a' w', rest.wp P (Exit.jump l G Q) a' w' → G a' w')
    (I : Nat → Act → World → Prop) (n₀ : Nat) (h₀ : I n₀ a w)
    (round : ∀ n a w, I n a w → ∀ (J : Nat → Act → World → Prop) (K : Act → World → Prop), (∀ k a' w', I k a' w' → J k a' w') → (∀ a' w', Handed J n a' w' → K a' w') → rest.wp P (Exit.jump l K Q) a w) :
    rest.wp P (Exit.jump l G Q) a w := by
  have key : ∀ n a w, I n a w → rest.wp P (Exit.jump l G Q) a w := by
    intro n
    induction n using Nat.strongRecOn with
    | _ n ih =>
      intro a w hI
      refine wp_mono (round n a w hI I (Handed I n) (fun _ _ _ h => h) (fun _ _ h => h)) ?_
      intro e a' w' hq
      cases e with
      | goto l' =>
        obtain ⟨rfl, n', hlt, hI'⟩ := hq
        exact ⟨rfl, hG _ _ (ih n' hlt a' w' hI')⟩
      | normal => exact hq
      | exit id => exact hq
      | ret => exact hq
      | panic ch => exact hq
      | outgrown => exact hq
  exact key n₀ a w h₀
end
end Go.Proofs.YtchanabiobcbhaaW
