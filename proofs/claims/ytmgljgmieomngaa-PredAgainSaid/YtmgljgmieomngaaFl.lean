/- Words for floats of 64 bits and complex numbers of two such: complex numbers as pairs of bits, a float made whole. -/
import Derived.WalkLawsBesides
import Derived.Test.YtmgljgmieomngaaWd
namespace Go.Proofs.YtmgljgmieomngaaW.PrintWords
open Go
structure Cx where
  re : Nat
  im : Nat
def encCx (c : Cx) : Value := .complex .f64 c.re c.im
def fok (b : Nat) : Bool := (floatToIntVal .f64 b .i64).isSome
def ftoi (b : Nat) : Int := (floatToIntVal .f64 b .i64).getD 0
theorem run_ftoi {P : Program} (w : World) (src dst : TypeId) (b : Nat) (hs : (P.underlying src).isSome = true) (hd : P.underlying dst = some (.int .i64)) (h : fok b = true) :
    (convert src dst (.float .f64 b)).run P w = .ok (.int .i64 (ftoi b)) w := by
  obtain ⟨n, hn⟩ := Option.isSome_iff_exists.1 h
  have : ftoi b = n := by unfold ftoi; rw [hn]; rfl
  rw [this]
  exact run_convert_float_int w src dst .f64 .i64 b n hs hd hn
/-- a store leaves the cells that there are: asked without asking what lies there -/
theorem isSome_setCell (w : World) (a b : Addr) (v : Value) : ((w.setCell a v).cell? b).isSome = (w.cell? b).isSome := by
  simp only [World.setCell, World.cell?, Array.getElem?_modify]
  by_cases hb : a.block = b.block
  · rw [if_pos hb]
    cases h : w.heap[b.block]? with
    | none => rfl
    | some o =>
      cases o with
      | cells c e f =>
        simp only [Option.map_some]
        by_cases hs : b.spot.isSome = true
        · simp [hs]
        · simp only [hs]
          by_cases ha : a.spot.isSome = true
          · simp [ha]
          · simp only [ha]
            simp [Array.getElem?_setIfInBounds]
            split
            · by_cases hl : b.off < c.size
              · simp [hl]; omega
              · simp [hl]; omega
            · rfl
      | _ => rfl
  · rw [if_neg hb]
theorem bytesLess_total : ∀ a b : List UInt8, (Op.bytesLess a b || (a == b)) = !(Op.bytesLess b a)
  | [], [] => rfl
  | [], _ :: _ => rfl
  | _ :: _, [] => rfl
  | x :: xs, y :: ys => by
    have ih := bytesLess_total xs ys
    simp only [Op.bytesLess]
    by_cases h : x = y
    · subst h
      have hx : ¬ x < x := UInt8.lt_irrefl x
      simpa [hx] using ih
    · have h' : ¬ y = x := fun e => h e.symm
      have hl : (decide (x < y)) = !(decide (y < x)) := by
        have h1 := @UInt8.lt_iff_toNat_lt x y
        have h2 := @UInt8.lt_iff_toNat_lt y x
        have h3 : x.toNat ≠ y.toNat := fun e => h (UInt8.toNat_inj.1 e)
        by_cases g : x < y
        · have : ¬ y < x := by rw [h2]; rw [h1] at g; omega
          simp [g, this]
        · have : y < x := by rw [h2]; rw [h1] at g; omega
          simp [g, this]
      have b1 : (x == y) = false := by simpa using h
      have b2 : (y == x) = false := by simpa using h'
      show ((decide (x < y) || (x == y && Op.bytesLess xs ys)) || (x == y && xs == ys)) = !(decide (y < x) || (y == x && Op.bytesLess ys xs))
      rw [b1, b2, hl]
      simp
theorem eq_complex {P : Program} (w : World) (d : Nat) (t : TypeId) (x y u v : Nat) (h : P.underlying t = some (.complex .f64)) :
    (Op.equalIn (d + 1) t (.complex .f64 x y) (.complex .f64 u v)).run P w = .ok (FloatKind.f64.format.order x u == some .eq && FloatKind.f64.format.order y v == some .eq) w := by
  simp [Op.equalIn, run_underlying h, Op.floatEq]
section
variable {P : Program} (w : World) (a : Addr)
theorem run_store_complex (k : FloatKind) (x y : Nat) (m : _) : (store a (.complex k x y) m).run P w = stored P w a (.complex k x y) m := run_store P w a _ m rfl
theorem run_store_float (k : FloatKind) (x : Nat) (m : _) : (store a (.float k x) m).run P w = stored P w a (.float k x) m := run_store P w a _ m rfl
end
end Go.Proofs.YtmgljgmieomngaaW.PrintWords
