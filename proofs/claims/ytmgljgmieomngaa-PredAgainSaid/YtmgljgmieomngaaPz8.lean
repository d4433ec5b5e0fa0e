/- A UNIT: what its calls leave of the reader and of the terms by now. -/
import Derived.Test.YtmgljgmieomngaaPz7
import Derived.Test.YtmgljgmieomngaaPy4
namespace Go.Proofs.Ytmgljgmieomngaa.Pz
open Go Go.RowKit Go.Proofs.YtmgljgmieomngaaW.PrintWords Go.Proofs.YtmgljgmieomngaaW.PrintLast Go.Proofs.YtmgljgmieomngaaW.PrintMore Go.Proofs.Ytmgljgmieomngaa.Q
attribute [local go_sem] run_store_complex run_store_float isSome_setCell
set_option linter.unusedVariables false
set_option linter.unusedSimpArgs false
/-- the reader and the terms by now, seen from the begin of a call -/
structure Hs (B : Nat) (w w' : World) (g : Nat) (s : ByteArray) (v v' : Value) (t : St) (ys : List S54) : Prop where
  at' : At w' g (RC s t v') 61
  own : Kd.R k54 54 w' B (fun k => k ≠ g) v' ys
  keep : KeepBut w w' g v.ownBlock
  hv : v'.ownBlock = v.ownBlock ∨ ∃ b, v'.ownBlock = some b ∧ w.heap.size ≤ b
  below : Below B w w'
  ge : B ≤ g
section
variable {B g : Nat} {w w1 w2 : World} {s : ByteArray} {v v1 v2 : Value} {t t1 t2 : St} {xs ys l : List S54}
theorem Hs.start (hg : At w g (RC s t v) 61) (hR : Kd.R k54 54 w B (fun k => k ≠ g) v xs) (ge : B ≤ g) : Hs B w w g s v v t xs := ⟨hg, hR, KeepBut.refl _ _ _, .inl rfl, Below.refl _ _, ge⟩
theorem Hs.turn (h : Hs B w w1 g s v v1 t ys) (hg : At w2 g (RC s t1 v1) 61) (hk : KeepBut w1 w2 g none) (hl : Below g w1 w2) : Hs B w w2 g s v v1 t1 ys :=
  ⟨hg, Kd.R_keep h.own hk (fun _ hk => hk), h.keep.trans (KeepBut.weaker hk _) (.inl rfl), h.hv, h.below.trans (Below.less hl h.ge), h.ge⟩
theorem Hs.turn_bad (h : Hs B w w1 g s v v1 t ys) (hk : KeepBut w1 w2 g none) (hl : Below g w1 w2) : KeepBut w w2 g v.ownBlock ∧ Below B w w2 :=
  ⟨h.keep.trans (KeepBut.weaker hk _) (.inl rfl), h.below.trans (Below.less hl h.ge)⟩
theorem Hs.apd_bad (h : Hs B w w1 g s v v1 t ys) (hk : KeepBut w1 w2 g v1.ownBlock) (hb : Below B w1 w2) : KeepBut w w2 g v.ownBlock ∧ Below B w w2 := ⟨h.keep.trans hk h.hv, h.below.trans hb⟩
theorem Hs.apd (h : Hs B w w1 g s v v1 t ys) (hg : At w2 g (RC s t2 v2) 61) (hR : Kd.R k54 54 w2 B (fun k => k ≠ g) v2 (ys ++ l)) (hk : KeepBut w1 w2 g v1.ownBlock) (hv : v2.ownBlock = v1.ownBlock ∨ ∃ b, v2.ownBlock = some b ∧ w1.heap.size ≤ b) (hb : Below B w1 w2) :
    Hs B w w2 g s v v2 t2 (ys ++ l) := by
  refine ⟨hg, hR, h.keep.trans hk h.hv, ?_, h.below.trans hb, h.ge⟩
  rcases hv with hv | ⟨q, hq, hle⟩
  · rcases h.hv with h1 | ⟨q, hq, hle⟩
    · exact .inl (hv.trans h1)
    · exact .inr ⟨q, hv.trans hq, hle⟩
  · exact .inr ⟨q, hq, Nat.le_trans h.keep.1 hle⟩
theorem Hs.put {r : Value} {x : S54} (h : Hs B w w1 g s v v1 t ys) (ho : Kd.R k54 54 w2 B (fun k => k ≠ g) v2 (ys ++ [x])) (hb : Below B w1 w2) (hg : w1.grownBy w2 v1.ownBlock) (hat : v2.ownBlock = v1.ownBlock ∨ ∃ b, v2.ownBlock = some b ∧ w1.heap.size ≤ b) :
    Hs B w (w2.setCell ⟨g, 7, none⟩ v2) g s v v2 t (ys ++ [x]) := by
  obtain ⟨_, v', a1, a2, a3, a4, a5⟩ := apd_mk (t := t) (KeepBut.refl w1 g none) (Below.refl B w1) h.at' h.own h.ge ho hb hg hat
  have e : v' = v2 := by
    have c1 := (blk_cell a1 7)
    have hne : some g ≠ v1.ownBlock := fun e => h.own.1 g e.symm rfl
    have c2 := (blk_cell (((h.at'.grown hg hne).set 7 v2)) 7)
    have := c1.symm.trans c2
    simpa [RC] using this
  subst e
  exact h.apd a1 a2 a3 a4 a5
theorem Hs.done (h : Hs B w w1 g s v v1 t (xs ++ l)) : Apd B w g s v xs (.ok (l, t)) (.returned (.tuple #[])) w1 := ⟨rfl, v1, h.at', h.own, h.keep, h.hv, h.below⟩
theorem Hs.cell7 (h : Hs B w w1 g s v v1 t ys) (hg : w1.grownBy w2 v1.ownBlock) : w2.cell? ⟨g, 7, none⟩ = some v1 ∧ w2.frozen? ⟨g, 7, none⟩ = false := Pz.cell7 h.at' h.own hg
end
theorem is_all (g : Nat) (s : ByteArray) (v : Value) (t : St) (c : Int) (hi : In s t) (hs : s.size ≤ 400) {o : Out (Bool × St)} (ho : isF s c t = o) : ∀ W, At W g (RC s t v) 61 → Calls Try.prog 39 #[.pointer (some ⟨g, 0, none⟩), .int .u8 c] W (Rdr W g s v (fun b : Bool => .bool b) o) := fun W h => ho ▸ is_ W g s v t c h hi.1 hi.2 hs
/-- the walk of a UNIT, with so many rounds at most -/
def UnitC (k : Nat) : Prop := ∀ (B : Nat) (w : World) (g : Nat) (s : ByteArray) (v : Value) (t : St) (xs : List S54) (o : Out (List S54 × St)), At w g (RC s t v) 61 → Kd.R k54 54 w B (fun k => k ≠ g) v xs → B ≤ g → Iw s t → (xs.length : Int) ≤ t.w.pl → s.size ≤ 400 →
  pr s k .unit t = some o → Calls Try.prog 40 #[.pointer (some ⟨g, 0, none⟩)] w (Apd B w g s v xs o)
def SumC (k : Nat) : Prop := ∀ (B : Nat) (w : World) (g : Nat) (s : ByteArray) (v : Value) (t : St) (xs : List S54) (o : Out (List S54 × St)), At w g (RC s t v) 61 → Kd.R k54 54 w B (fun k => k ≠ g) v xs → B ≤ g → Iw s t → (xs.length : Int) ≤ t.w.pl → s.size ≤ 400 →
  pr s k .sum t = some o → Calls Try.prog 18 #[.pointer (some ⟨g, 0, none⟩)] w (Apd B w g s v xs o)
end Go.Proofs.Ytmgljgmieomngaa.Pz
