/- The reader of predicates at any text: its words, its states, what a call leaves. -/
import Derived.Test.YtmgljgmieomngaaQx0
import Derived.Test.YtmgljgmieomngaaPy
import Derived.Test.YtmgljgmieomngaaLab
import Derived.Test.YtmgljgmieomngaaFl
import Derived.LoopN
namespace Go.Proofs.Ytmgljgmieomngaa.Pz
open Go Go.RowKit Go.Proofs.YtmgljgmieomngaaW.PrintWords Go.Proofs.YtmgljgmieomngaaW.PrintLast Go.Proofs.YtmgljgmieomngaaW.PrintMore
set_option linter.unusedVariables false
set_option linter.unusedSimpArgs false
/-- the reader's cells -/
def RC (s : ByteArray) (t : St) (v : Value) : Array Value := #[.string s, .int .i64 t.p, .int .u8 t.w.kd, .bool t.w.lg, .int .i64 t.w.pl, .string t.w.tx, .int .i64 t.w.n, v]
/-- a word's cells -/
def WC (u : Wd) : Array Value := #[.int .u8 u.kd, .bool u.lg, .int .i64 u.pl, .string u.tx, .int .i64 u.n]
/-- a fault's panic -/
def flt (p e : Int) : Ending := .panicked [{ v := .iface 56 (.agg #[.int .i64 p, .int .i64 e]), recovered := false }]
/-- a block's cells -/
def At (W : World) (g : Nat) (cs : Array Value) (t : TypeId) : Prop := W.heap[g]? = some (.cells cs t (0, 0))
namespace At
variable {W : World} {g : Nat} {cs cs' : Array Value} {t : TypeId}
theorem fin (h : At W g cs t) (e : cs = cs') : At W g cs' t := e ▸ h
theorem drew (h : At W g cs t) : At W.drew g cs t := h
theorem drewN (h : At W g cs t) (n : Nat) : At (W.drewN n) g cs t := h
theorem lt (h : At W g cs t) : g < W.heap.size := blk_lt h
theorem alloc (h : At W g cs t) (o : Obj) : At (W.alloc o) g cs t := blk_alloc h o
theorem new (W : World) (cs : Array Value) (t : TypeId) : At (W.alloc (.cells cs t (0, 0))) W.heap.size cs t := blk_new W _
theorem other (h : At W g cs t) {g' : Nat} (hne : g' ≠ g) (j : Nat) (u : Value) : At (W.setCell ⟨g', j, none⟩ u) g cs t := blk_far h (fun e => hne e.symm) u
theorem set (h : At W g cs t) (j : Nat) (u : Value) : At (W.setCell ⟨g, j, none⟩ u) g (cs.setIfInBounds j u) t := by
  unfold At at *
  simp only [World.setCell, Array.getElem?_modify, if_true, h, Option.map_some]
  rfl
theorem keep {W' : World} (h : At W g cs t) {g' : Nat} {row : Option Nat} (k : KeepBut W W' g' row) (hne : g ≠ g') (hr : some g ≠ row) : At W' g cs t := KeepBut.blk k h hne hr
end At
theorem bl_set {w W : World} {g j k : Nat} {u : Value} (h : Below g w W) (hg : g ≤ k) : Below g w (W.setCell ⟨k, j, none⟩ u) := h.setCell hg u
theorem bl_alloc {w W : World} {g : Nat} (h : Below g w W) (hlt : g < w.heap.size) (o : Obj) : Below g w (W.alloc o) := h.alloc (Nat.le_trans (Nat.le_of_lt hlt) h.size) o
theorem kb_row {w W : World} {g b : Nat} (h : KeepBut w W g (some b)) (j : Nat) (u : Value) : KeepBut w (W.setCell ⟨b, j, none⟩ u) g (some b) :=
  ⟨by simpa [World.setCell] using h.1, fun i hi hg hr => (Below.heap_setCell W ⟨b, j, none⟩ u i (fun e => hr (by rw [show i = b from e]))).trans (h.2 i hi hg hr)⟩
theorem kb_alloc {w W : World} {g : Nat} {row : Option Nat} (h : KeepBut w W g row) (o : Obj) : KeepBut w (W.alloc o) g row :=
  ⟨Nat.le_trans h.1 (by simp), fun i hi hg hr => (Below.heap_alloc _ _ _ (Nat.lt_of_lt_of_le hi h.1)).trans (h.2 i hi hg hr)⟩
theorem kb_new {w W : World} {g : Nat} {row : Option Nat} (h : KeepBut w W g row) {b : Nat} (hb : w.heap.size ≤ b) (j : Nat) (u : Value) : KeepBut w (W.setCell ⟨b, j, none⟩ u) g row :=
  ⟨by simpa [World.setCell] using h.1, fun i hi hg hr => (Below.heap_setCell W ⟨b, j, none⟩ u i (by show i ≠ b; omega)).trans (h.2 i hi hg hr)⟩
theorem kb_grown {w W w1 : World} {g : Nat} {row r : Option Nat} (h : KeepBut w W g row) (hg : W.grownBy w1 r) (hr : ∀ k, r = some k → w.heap.size ≤ k) : KeepBut w w1 g row :=
  ⟨Nat.le_trans h.1 hg.size, fun i hi hne hr' => (hg.block i (Nat.lt_of_lt_of_le hi h.1) (fun e => by have := hr i e.symm; omega)).trans (h.2 i hi hne hr')⟩
theorem kb_drew {w W : World} {g : Nat} {row : Option Nat} (h : KeepBut w W g row) : KeepBut w W.drew g row := h
theorem kb_drewN {w W : World} {g : Nat} {row : Option Nat} (h : KeepBut w W g row) (n : Nat) : KeepBut w (W.drewN n) g row := h
theorem kb_then {w W X : World} {g : Nat} {row : Option Nat} (h : KeepBut w W g row) (k : KeepBut W X g row) : KeepBut w X g row := h.trans k (.inl rfl)
theorem Below.less {B g : Nat} {w w' : World} (h : Below g w w') (hB : B ≤ g) : Below B w w' := ⟨h.os, h.tape, h.output, h.size, fun k hk => h.block k (by omega)⟩
/-- what a call that reads a word into block b leaves -/
def Lex (w : World) (g b : Nat) (s : ByteArray) (v : Value) (u0 : Wd) (o : Out (Int × Wd)) (e : Ending) (w' : World) : Prop :=
  match o with
  | .ok (p, u) => e = .returned (.tuple #[]) ∧ At w' g (RC s ⟨p, u0⟩ v) 61 ∧ At w' b (WC u) 59 ∧ KeepBut w w' g (some b) ∧ Below g w w'
  | .bad p er => e = flt p er ∧ KeepBut w w' g (some b) ∧ Below g w w'
/-- what a call that turns the reader alone leaves; its result is told of the answer -/
def Rdr {α : Type} (w : World) (g : Nat) (s : ByteArray) (v : Value) (enc : α → Value) (o : Out (α × St)) (e : Ending) (w' : World) : Prop :=
  match o with
  | .ok (a, t) => e = .returned (enc a) ∧ At w' g (RC s t v) 61 ∧ KeepBut w w' g none ∧ Below g w w'
  | .bad p er => e = flt p er ∧ KeepBut w w' g none ∧ Below g w w'
set_option maxHeartbeats 8000000 in
set_option maxRecDepth 100000 in
/-- a panic with a fault -/
theorem stop_ (p e : Int) (w : World) : Calls Try.prog 20 #[.int .i64 p, .int .i64 e] w fun e' w' => e' = flt p e ∧ w' = w := by
  have hu56 := Try.underlying56
  go_enter Try.func20, Try.ntmps20
  go_wp2
  exact ⟨rfl, rfl, rfl⟩
end Go.Proofs.Ytmgljgmieomngaa.Pz
