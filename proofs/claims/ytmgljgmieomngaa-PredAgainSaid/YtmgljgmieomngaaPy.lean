/- What the reader of predicates tells of a text, in plain Lean: words, values, terms. -/
import Derived.Test.YtmgljgmieomngaaQx0
namespace Go.Proofs.Ytmgljgmieomngaa.Pz
open Go Go.RowKit Go.Proofs.YtmgljgmieomngaaW.PrintWords Go.Proofs.YtmgljgmieomngaaW.PrintLast Go.Proofs.YtmgljgmieomngaaW.PrintMore Go.Proofs.Ytmgljgmieomngaa.Q
set_option linter.unusedVariables false
set_option linter.unusedSimpArgs false
/-- a word of the text -/
structure Wd where
  kd : Int
  lg : Bool
  pl : Int
  tx : ByteArray
  n : Int
/-- what the reader holds beside the text and the terms -/
structure St where
  p : Int
  w : Wd
/-- an answer, or a fault and its place -/
inductive Out (α : Type) where
  | ok (a : α)
  | bad (p e : Int)
def Out.bind {α β : Type} (o : Out α) (f : α → Out β) : Out β :=
  match o with
  | .ok a => f a
  | .bad p e => .bad p e
def long3 (c : Int) : Bool := c == 33 || c == 60 || c == 62
def sign12 (c : Int) : Bool := c == 40 || c == 41 || c == 44 || c == 47 || c == 38 || c == 124 || c == 63 || c == 42 || c == 35 || c == 61 || c == 94 || c == 126
/-- a sign at a place -/
def markF (s : ByteArray) (p c : Int) : Out (Int × Wd) :=
  if long3 c = true then (if p + 1 < (s.size : Int) ∧ bt s (p + 1) = 61 then .ok (p + 1 + 1, ⟨c, true, p, ⟨#[]⟩, 0⟩) else .ok (p + 1, ⟨c, false, p, ⟨#[]⟩, 0⟩))
  else if sign12 c = true then .ok (p + 1, ⟨c, false, p, ⟨#[]⟩, 0⟩)
  else .bad p 4
/-- from a place on, as long as the bytes are such -/
def scan (f : Int → Bool) (s : ByteArray) : Nat → Int → Int
  | 0, p => p
  | d + 1, p => if p < (s.size : Int) then (if f (bt s p) = true then scan f s d (p + 1) else p) else p
theorem scan_range (f : Int → Bool) (s : ByteArray) : ∀ (d : Nat) (p : Int), p ≤ (s.size : Int) → p ≤ scan f s d p ∧ scan f s d p ≤ (s.size : Int)
  | 0, p, h => by rw [scan]; omega
  | d + 1, p, h => by
    rw [scan]
    by_cases c : p < (s.size : Int)
    · rw [if_pos c]
      by_cases e : f (bt s p) = true
      · rw [if_pos e]; have := scan_range f s d (p + 1) (by omega); omega
      · rw [if_neg e]; omega
    · rw [if_neg c]; omega
def isNm (c : Int) : Bool := (decide (97 ≤ c) && decide (c ≤ 122)) || (decide (48 ≤ c) && decide (c ≤ 57)) || c == 45
/-- a name at a place -/
def nameF (s : ByteArray) (p : Int) : Out (Int × Wd) :=
  let q := scan isNm s s.size p
  if 16 < q - p then .bad p 11 else .ok (q, ⟨110, false, p, s.extract p.toNat q.toNat, 0⟩)

/-- the digits from a place on: the number by now, is it too large -/
def digs (s : ByteArray) : Nat → Int → Int → Bool → Int × Int × Bool
  | 0, p, u, big => (p, u, big)
  | d + 1, p, u, big =>
    if p < (s.size : Int) ∧ 48 ≤ bt s p ∧ bt s p ≤ 57 then
      digs s d (p + 1) (IntKind.u64.wrap (u * 10 + (bt s p - 48))) (big || decide (u > (9223372036854775808 - (bt s p - 48)) / 10))
    else (p, u, big)
/-- a number at a place -/
def numF (s : ByteArray) (p : Int) : Out (Int × Wd) :=
  let m : Bool := bt s p == 45
  let f := if m = true then p + 1 else p
  let r := digs s s.size f 0 false
  if r.1 = f ∨ (bt s f = 48 ∧ (m = true ∨ r.1 > f + 1)) then .bad p 4
  else if r.2.2 = true ∨ (m = false ∧ r.2.1 = 9223372036854775808) then .bad p 6
  else .ok (r.1, ⟨100, false, p, ⟨#[]⟩, if m = true then wrap64 (IntKind.u64.wrap (-r.2.1)) else wrap64 r.2.1⟩)
/-- a hexadecimal digit's worth -/
def hexF (c : Int) : Int := if 48 ≤ c ∧ c ≤ 57 then c - 48 else if 97 ≤ c ∧ c ≤ 102 then c - 87 else -1
/-- a string's bytes from a place on -/
def strB (s : ByteArray) (pl : Int) : Nat → Int → List Int → Out (Int × List Int)
  | 0, p, out => .bad pl 4
  | d + 1, p, out =>
    if p ≥ (s.size : Int) ∨ bt s p < 32 ∨ bt s p > 126 then .bad pl 4
    else if bt s p = 34 then .ok (p + 1, out)
    else if bt s p = 92 then
      if p + 1 < (s.size : Int) ∧ (bt s (p + 1) = 34 ∨ bt s (p + 1) = 92) then strB s pl d (p + 1 + 1) (out ++ [bt s (p + 1)])
      else if p + 3 < (s.size : Int) ∧ bt s (p + 1) = 120 ∧ hexF (bt s (p + 2)) ≥ 0 ∧ hexF (bt s (p + 3)) ≥ 0 then strB s pl d (p + 3 + 1) (out ++ [hexF (bt s (p + 2)) * 16 + hexF (bt s (p + 3))])
      else .bad pl 4
    else strB s pl d (p + 1) (out ++ [bt s p])
/-- a string at a place -/
def strF (s : ByteArray) (p : Int) : Out (Int × Wd) :=
  (strB s p (s.size + 1) (p + 1) []).bind fun r => if 200 < r.2.length then .bad p 6 else .ok (r.1, ⟨115, false, p, strOfNums r.2, 0⟩)
/-- the next word from a place on -/
def nextF (s : ByteArray) (p : Int) : Out St :=
  let q := scan (fun c => c == 32) s s.size p
  if q < (s.size : Int) then
    (let c := bt s q
     if 97 ≤ c ∧ c ≤ 122 then nameF s q
     else if c = 45 ∨ (48 ≤ c ∧ c ≤ 57) then numF s q
     else if c = 34 then strF s q
     else markF s q c).bind fun r => .ok ⟨r.1, r.2⟩
  else .ok ⟨q, ⟨101, false, q, ⟨#[]⟩, 0⟩⟩
/-- is the word that sign? then the next one is read -/
def isF (s : ByteArray) (c : Int) (t : St) : Out (Bool × St) :=
  if t.w.kd = c ∧ t.w.lg = false then (nextF s t.p).bind fun t' => .ok (true, t') else .ok (false, t)
/-- the word must be of that kind; the next one is read -/
def wantF (s : ByteArray) (c : Int) (t : St) : Out (Wd × St) :=
  if t.w.kd = c ∧ t.w.lg = false then (nextF s t.p).bind fun t' => .ok (t.w, t') else .bad t.w.pl 4
/-- a point's part -/
def partF (s : ByteArray) (t : St) : Out (Int × St) :=
  if t.w.kd = 100 then
    if t.w.n > 1048576 ∨ t.w.n < -1048576 then .bad t.w.pl 6
    else (nextF s t.p).bind fun t' => .ok (t.w.n, t')
  else .bad t.w.pl 4
def pointF (s : ByteArray) (t : St) : Out (S43 × St) :=
  (wantF s 40 t).bind fun a => (partF s a.2).bind fun x => (wantF s 44 x.2).bind fun b => (partF s b.2).bind fun y => (wantF s 41 y.2).bind fun c =>
    .ok (⟨4, 0, ⟨#[]⟩, false, ⟨floatOfInt .f64 x.1, floatOfInt .f64 y.1⟩⟩, c.2)
def plainF (s : ByteArray) (strings : Bool) (t : St) : Out (S43 × St) :=
  if t.w.kd = 100 ∧ strings = false then (nextF s t.p).bind fun t' => .ok (⟨1, t.w.n, ⟨#[]⟩, false, ⟨0, 0⟩⟩, t')
  else (wantF s 115 t).bind fun a => .ok (⟨2, 0, a.1.tx, false, ⟨0, 0⟩⟩, a.2)
def yesB : ByteArray := ⟨#[121, 101, 115]⟩
def noB : ByteArray := ⟨#[110, 111]⟩
def anyF (s : ByteArray) (t : St) : Out (S43 × St) :=
  if t.w.kd = 40 then pointF s t
  else if t.w.kd = 110 ∧ (t.w.tx = yesB ∨ t.w.tx = noB) then (nextF s t.p).bind fun t' => .ok (⟨3, 0, ⟨#[]⟩, t.w.tx == yesB, ⟨0, 0⟩⟩, t')
  else plainF s false t
/-- the comparison that a word is; 2: none -/
def cmpF (u : Wd) : Int :=
  if u.kd = 61 then 3 else if u.kd = 33 then (if u.lg = true then 4 else 2) else if u.kd = 60 then (if u.lg = true then 6 else 5) else if u.kd = 62 then (if u.lg = true then 8 else 7)
  else if u.kd = 94 then 9 else if u.kd = 126 then 10 else 2
def z43 : S43 := ⟨0, 0, ⟨#[]⟩, false, ⟨0, 0⟩⟩
/-- what stands behind a name -/
def atomF (s : ByteArray) (nm : ByteArray) (t : St) : Out (S54 × St) :=
  let c := cmpF t.w
  if c = 2 then .ok (⟨3, nm, 2, z43, 0⟩, t)
  else (nextF s t.p).bind fun t1 =>
    if c = 3 ∨ c = 4 then (anyF s t1).bind fun a => .ok (⟨3, nm, c, a.1, 0⟩, a.2)
    else if c = 9 then (plainF s true t1).bind fun a => .ok (⟨3, nm, c, a.1, 0⟩, a.2)
    else if c = 10 then (pointF s t1).bind fun a => (wantF s 47 a.2).bind fun b =>
      if b.2.w.kd = 100 ∧ (b.2.w.n < 0 ∨ b.2.w.n > 1048576) then .bad b.2.w.pl 6
      else (wantF s 100 b.2).bind fun d => .ok (⟨3, nm, c, a.1, d.1.n⟩, d.2)
    else (plainF s false t1).bind fun a => .ok (⟨3, nm, c, a.1, 0⟩, a.2)
def op54 (c : Int) : S54 := ⟨c, ⟨#[]⟩, 0, z43, 0⟩
inductive Md where
  | unit | sum | alls | sums
/-- the terms of a UNIT, of an ANY, of what goes on behind a UNIT or an ALL; k bounds the depth -/
def pr (s : ByteArray) : Nat → Md → St → Option (Out (List S54 × St))
  | 0, _, _ => none
  | k + 1, .unit, t =>
    match isF s 33 t with
    | .bad p e => some (.bad p e)
    | .ok (true, t1) => (pr s k .unit t1).bind fun o => some (o.bind fun r => .ok (r.1 ++ [op54 4], r.2))
    | .ok (false, _) =>
    match isF s 40 t with
    | .bad p e => some (.bad p e)
    | .ok (true, t1) => (pr s k .sum t1).bind fun o => some (o.bind fun r => (wantF s 41 r.2).bind fun a => .ok (r.1, a.2))
    | .ok (false, _) =>
    match isF s 42 t with
    | .bad p e => some (.bad p e)
    | .ok (true, t1) => some (.ok ([op54 1], t1))
    | .ok (false, _) =>
    match isF s 35 t with
    | .bad p e => some (.bad p e)
    | .ok (true, t1) => some (.ok ([op54 2], t1))
    | .ok (false, _) =>
    match isF s 63 t with
    | .bad p e => some (.bad p e)
    | .ok (true, t1) => some ((wantF s 110 t1).bind fun a => .ok ([⟨3, a.1.tx, 1, z43, 0⟩], a.2))
    | .ok (false, _) => some ((wantF s 110 t).bind fun a => (atomF s a.1.tx a.2).bind fun r => .ok ([r.1], r.2))
  | k + 1, .sum, t =>
    (pr s k .unit t).bind fun o1 => match o1 with
      | .bad p e => some (.bad p e)
      | .ok (l1, t1) => (pr s k .alls t1).bind fun o2 => match o2 with
        | .bad p e => some (.bad p e)
        | .ok (l2, t2) => (pr s k .sums t2).bind fun o3 => some (o3.bind fun r => .ok (l1 ++ l2 ++ r.1, r.2))
  | k + 1, .alls, t =>
    match isF s 38 t with
    | .bad p e => some (.bad p e)
    | .ok (false, _) => some (.ok ([], t))
    | .ok (true, t1) => (pr s k .unit t1).bind fun o1 => match o1 with
      | .bad p e => some (.bad p e)
      | .ok (l1, t2) => (pr s k .alls t2).bind fun o2 => some (o2.bind fun r => .ok (l1 ++ [op54 5] ++ r.1, r.2))
  | k + 1, .sums, t =>
    match isF s 124 t with
    | .bad p e => some (.bad p e)
    | .ok (false, _) => some (.ok ([], t))
    | .ok (true, t1) => (pr s k .unit t1).bind fun o1 => match o1 with
      | .bad p e => some (.bad p e)
      | .ok (l1, t2) => (pr s k .alls t2).bind fun o2 => match o2 with
        | .bad p e => some (.bad p e)
        | .ok (l2, t3) => (pr s k .sums t3).bind fun o3 => some (o3.bind fun r => .ok (l1 ++ l2 ++ [op54 6] ++ r.1, r.2))
end Go.Proofs.Ytmgljgmieomngaa.Pz
