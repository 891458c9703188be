import PyProof.Rows.All
import Wide.All
import OpenK.AllK
import Wide.FinOn
import HandS.ForMost
import PyProof.StrLawsReplace
import HandS.ForExc
import HandS.Evl
import HandS.IsInst
import HandS.Wide
import HandS.SortKw
import HandS.TryOnly
import KE.DataMinMax
import PyProof.StrCalls6
import PyProof.Rows.StrDouble
import HandS.ReplaceLit
import HandS.More
import HandS.Ends
import PySem.Challenge.RW_whysheet_k07_whole_typed_back
set_option Elab.async false
section
set_option autoImplicit false
set_option maxRecDepth 10000
/-! formulas, how they are written, how they are read: plain functions over lists of codes -/
namespace Ws
open PySem L2 TL

inductive Op where
  | eq | ne | lt | le | gt | ge | amp | add | sub | mul | div
  deriving DecidableEq

def Op.txt : Op → List Nat
  | .eq => [61] | .ne => [60, 62] | .lt => [60] | .le => [60, 61] | .gt => [62] | .ge => [62, 61]
  | .amp => [38] | .add => [43] | .sub => [45] | .mul => [42] | .div => [47]
def Op.lev : Op → Nat
  | .eq => 1 | .ne => 1 | .lt => 1 | .le => 1 | .gt => 1 | .ge => 1
  | .amp => 2 | .add => 3 | .sub => 3 | .mul => 4 | .div => 4
/-- in the order in which the reader tries them -/
def ops : List Op := [.le, .ge, .ne, .eq, .lt, .gt, .amp, .add, .sub, .mul, .div]
theorem Op.mem_ops (o : Op) : o ∈ ops := by cases o <;> simp [ops]
theorem Op.lev_pos (o : Op) : 1 ≤ o.lev := by cases o <;> decide
theorem Op.lev_le (o : Op) : o.lev ≤ 4 := by cases o <;> decide
theorem Op.txt_len (o : Op) : 1 ≤ o.txt.length ∧ o.txt.length ≤ 2 := by cases o <;> decide

inductive F where
  | num (n : Nat) | txt (t : List Nat) | tru (b : Bool) | at (r c : Nat) | box (r c l f : Nat) | word (w : List Nat) | lost
  | less (p : F) | two (o : Op) (a b : F) | call (w : List Nat) (ps : List F)

def parts : F → List F
  | .less p => [p]
  | .two _ a b => [a, b]
  | .call _ ps => ps
  | _ => []

mutual
def depth : F → Nat
  | .less p => 1 + max (depth p) 0
  | .two _ a b => 1 + max (depth a) (max (depth b) 0)
  | .call _ ps => 1 + depths ps
  | .num _ => 1 | .txt _ => 1 | .tru _ => 1 | .at _ _ => 1 | .box _ _ _ _ => 1 | .word _ => 1 | .lost => 1
def depths : List F → Nat
  | [] => 0
  | p :: ps => max (depth p) (depths ps)
end
mutual
def size : F → Nat
  | .less p => 1 + (size p + 0)
  | .two _ a b => 1 + (size a + (size b + 0))
  | .call _ ps => 1 + sizes ps
  | .num _ => 1 | .txt _ => 1 | .tru _ => 1 | .at _ _ => 1 | .box _ _ _ _ => 1 | .word _ => 1 | .lost => 1
def sizes : List F → Nat
  | [] => 0
  | p :: ps => size p + sizes ps
end
theorem depth_parts (f : F) : depth f = 1 + depths (parts f) := by
  cases f <;> simp only [depth, depths, parts] <;> rfl
theorem size_parts (f : F) : size f = 1 + sizes (parts f) := by
  cases f <;> simp only [size, sizes, parts] <;> rfl
theorem depth_pos (f : F) : 1 ≤ depth f := by rw [depth_parts]; omega
theorem size_pos (f : F) : 1 ≤ size f := by rw [size_parts]; omega
theorem depths_mem : ∀ {ps : List F} {p : F}, p ∈ ps → depth p ≤ depths ps
  | q :: ps, p, h => by
    simp only [depths]
    rcases List.mem_cons.mp h with rfl | h
    · omega
    · have := depths_mem h
      omega
theorem sizes_mem : ∀ {ps : List F} {p : F}, p ∈ ps → size p ≤ sizes ps
  | q :: ps, p, h => by
    simp only [sizes]
    rcases List.mem_cons.mp h with rfl | h
    · omega
    · have := sizes_mem h
      omega
theorem depth_part {f p : F} (h : p ∈ parts f) : depth p < depth f := by
  rw [depth_parts f]
  have := depths_mem h
  omega
theorem size_part {f p : F} (h : p ∈ parts f) : size p < size f := by
  rw [size_parts f]
  have := sizes_mem h
  omega

/-! ### signs -/
def isFig (c : Nat) : Bool := decide (48 ≤ c ∧ c ≤ 57)
def isSmall (c : Nat) : Bool := decide (97 ≤ c ∧ c ≤ 122)
def isGreat (c : Nat) : Bool := decide (65 ≤ c ∧ c ≤ 90)
def isCol (c : Nat) : Bool := decide (65 ≤ c ∧ c ≤ 74)
def isAllowed (c : Nat) : Bool := decide (32 ≤ c ∧ c ≤ 126 ∧ c ≠ 37)

/-! ### writing -/
def lev : F → Nat
  | .two o _ _ => o.lev
  | .less _ => 5
  | _ => 6
def wrap (b : Bool) (t : List Nat) : List Nat := if b = true then 40 :: (t ++ [41]) else t
def cellT (r c : Nat) : List Nat := (65 + c) :: numL (r + 1)
def TRUE : List Nat := [84, 82, 85, 69]
def FALSE : List Nat := [70, 65, 76, 83, 69]
def first (o : Op) : Nat := if o.lev = 1 then 2 else o.lev
mutual
def shown : F → List Nat
  | .num n => numL n
  | .txt t => 34 :: (StrLaws.dbl 34 t ++ [34])
  | .tru b => if b = true then TRUE else FALSE
  | .at r c => cellT r c
  | .box r c l f => cellT r c ++ 58 :: cellT l f
  | .word w => w
  | .lost => [35, 82, 69, 70]
  | .less p => 45 :: wrap (decide (lev p < 5)) (shown p)
  | .two o a b => wrap (decide (lev a < first o)) (shown a) ++ (32 :: (o.txt ++ 32 :: wrap (decide (lev b < o.lev + 1)) (shown b)))
  | .call w ps => w ++ 40 :: (joinL [44, 32] (showns ps) ++ [41])
def showns : List F → List (List Nat)
  | [] => []
  | p :: ps => shown p :: showns ps
end
def within (f : F) (l : Nat) : List Nat := wrap (decide (lev f < l)) (shown f)
theorem showns_map : ∀ ps : List F, showns ps = ps.map shown
  | [] => by simp only [showns, List.map_nil]
  | p :: ps => by simp only [showns, List.map_cons, showns_map ps]

/-! ### what may stand -/
def wordOk (p : Nat → Bool) (w : List Nat) : Bool := decide (1 ≤ w.length) && decide (w.length ≤ 8) && w.all p
def place (r c : Nat) : Bool := decide (r < 20) && decide (c < 10)
mutual
def good : F → Bool
  | .num n => decide (n < 10 ^ 40)
  | .txt t => decide (t.length ≤ 60) && t.all isAllowed
  | .tru _ => true
  | .at r c => place r c
  | .box r c l f => place r c && place l f && decide (r ≤ l) && decide (c ≤ f)
  | .word w => wordOk isSmall w
  | .lost => true
  | .less p => good p
  | .two _ a b => good a && good b
  | .call w ps => wordOk isGreat w && decide (ps.length ≤ 8) && goods ps
def goods : List F → Bool
  | [] => true
  | p :: ps => good p && goods ps
end
theorem goods_all : ∀ ps : List F, goods ps = ps.all good
  | [] => by simp only [goods, List.all_nil]
  | p :: ps => by simp only [goods, List.all_cons, goods_all ps]
/-- is_leaf -/
def leafOk : F → Bool
  | .less _ => true
  | .two _ _ _ => true
  | .call _ _ => true
  | f => good f
def callOk : F → Bool
  | .call w ps => wordOk isGreat w && decide (ps.length ≤ 8)
  | _ => true
theorem good_parts (f : F) : good f = (callOk f && leafOk f && (parts f).all good) := by
  cases f <;> simp [good, callOk, leafOk, parts, goods_all]
theorem good_part {f p : F} (h : good f = true) (hp : p ∈ parts f) : good p = true := by
  rw [good_parts] at h
  simp only [Bool.and_eq_true, List.all_eq_true] at h
  exact h.2 p hp
def isForm (f : F) : Bool := good f && decide (size f ≤ 60) && decide (depth f ≤ 8)

/-! no text longer than L -/
mutual
def small (L : Nat) : F → Bool
  | .txt t => decide (t.length ≤ L)
  | .word w => decide (w.length ≤ L)
  | .less p => small L p
  | .two _ a b => small L a && small L b
  | .call w ps => decide (w.length ≤ L) && smalls L ps
  | .num _ => true | .tru _ => true | .at _ _ => true | .box _ _ _ _ => true | .lost => true
def smalls (L : Nat) : List F → Bool
  | [] => true
  | p :: ps => small L p && smalls L ps
end
theorem smalls_all (L : Nat) : ∀ ps : List F, smalls L ps = ps.all (small L)
  | [] => by simp only [smalls, List.all_nil]
  | p :: ps => by simp only [smalls, List.all_cons, smalls_all L ps]
theorem small_part {L : Nat} {f p : F} (h : small L f = true) (hp : p ∈ parts f) : small L p = true := by
  cases f with
  | less q => simp only [parts, List.mem_singleton] at hp; subst hp; simpa only [small] using h
  | two o a b =>
    simp only [small, Bool.and_eq_true] at h
    simp only [parts, List.mem_cons, List.not_mem_nil, or_false] at hp
    rcases hp with rfl | rfl
    · exact h.1
    · exact h.2
  | call w ps =>
    simp only [small, Bool.and_eq_true, smalls_all, List.all_eq_true] at h
    exact h.2 p hp
  | _ => simp [parts] at hp
theorem good_small : ∀ (f : F), good f = true → small 60 f = true
  | .num _, _ => by simp only [small]
  | .txt t, h => by simp only [good, Bool.and_eq_true] at h; simp only [small]; exact h.1
  | .tru _, _ => by simp only [small]
  | .at _ _, _ => by simp only [small]
  | .box _ _ _ _, _ => by simp only [small]
  | .word w, h => by
    simp only [good, wordOk, Bool.and_eq_true, decide_eq_true_eq] at h
    simp only [small, decide_eq_true_eq]
    omega
  | .lost, _ => by simp only [small]
  | .less p, h => by simp only [good] at h; simp only [small]; exact good_small p h
  | .two _ a b, h => by
    simp only [good, Bool.and_eq_true] at h
    simp only [small, Bool.and_eq_true]
    exact ⟨good_small a h.1, good_small b h.2⟩
  | .call w ps, h => by
    simp only [good, wordOk, Bool.and_eq_true, decide_eq_true_eq] at h
    simp only [small, Bool.and_eq_true, decide_eq_true_eq]
    exact ⟨by omega, goods_smalls ps h.2⟩
where goods_smalls : ∀ (ps : List F), goods ps = true → smalls 60 ps = true
  | [], _ => by simp only [smalls]
  | p :: ps, h => by
    simp only [goods, Bool.and_eq_true] at h
    simp only [smalls, Bool.and_eq_true]
    exact ⟨good_small p h.1, goods_smalls ps h.2⟩

/-! ### reading -/
inductive R (α : Type) where
  | ok (a : α) | bad | out
def R.bind {α β : Type} (r : R α) (k : α → R β) : R β := match r with
  | .ok a => k a
  | .bad => .bad
  | .out => .out
theorem R.bind_ok {α β : Type} {a : α} {k : α → R β} : (R.ok a).bind k = k a := rfl
theorem R.bind_bad {α β : Type} {k : α → R β} : (R.bad : R α).bind k = .bad := rfl
theorem R.bind_out {α β : Type} {k : α → R β} : (R.out : R α).bind k = .out := rfl

def run (p : Nat → Bool) (T : List Nat) (a : Nat) : Nat := a + ((T.drop a).takeWhile p).length
def slice (T : List Nat) (a b : Nat) : List Nat := (T.drop a).take (b - a)
def signAt (T : List Nat) (a : Nat) : Option Op := ops.find? fun o => (T.drop a).take (o.txt.length + 2) == 32 :: (o.txt ++ [32])
def letIn (f : F) (e : Nat) : R (F × Nat) := if depth f > 8 then .bad else .ok (f, e)
def numM (T : List Nat) (a : Nat) : R (F × Nat) :=
  let e := run isFig T a
  if e - a > 40 then .bad else .ok (.num (NumText.digitsVal (slice T a e)), e)
/-- behind the first quote: the text, and how many signs were passed -/
def scan : List Nat → Option (List Nat × Nat)
  | [] => none
  | c :: r => if c = 34 then (match r with
      | [] => some ([], 1)
      | d :: r' => if d = 34 then (scan r').map fun p => (34 :: p.1, p.2 + 2) else some ([], 1))
    else (scan r).map fun p => (c :: p.1, p.2 + 1)
def textM (T : List Nat) (a : Nat) : R (F × Nat) := match scan (T.drop (a + 1)) with
  | none => .bad
  | some p => .ok (.txt p.1, a + 1 + p.2)
def cellM (T : List Nat) (a : Nat) : R ((Nat × Nat) × Nat) := match T.drop a with
  | [] => .bad
  | c :: _ =>
    let e := run isFig T (a + 1)
    if isCol c = false ∨ e = a + 1 ∨ e > a + 3 then .bad else
    let row := NumText.digitsVal (slice T (a + 1) e)
    if row < 1 ∨ row > 20 then .bad else .ok ((row - 1, c - 65), e)
def cellsM (T : List Nat) (a : Nat) : R (F × Nat) := (cellM T a).bind fun r =>
  if (T.drop r.2).take 1 = [58] then (cellM T (r.2 + 1)).bind fun q => .ok (.box r.1.1 r.1.2 q.1.1 q.1.2, q.2)
  else .ok (.at r.1.1 r.1.2, r.2)
def loopM (T : List Nat) (lv : Nat) (sub : Nat → R (F × Nat)) : Nat → F → Nat → R (F × Nat)
  | 0, _, _ => .out
  | m + 1, one, a => match signAt T a with
    | none => .ok (one, a)
    | some o => if o.lev = lv then
        (sub (a + o.txt.length + 2)).bind fun r => (letIn (.two o one r.1) r.2).bind fun q => if lv = 1 then .ok q else loopM T lv sub m q.1 q.2
      else .ok (one, a)
def callM (T : List Nat) (sub : Nat → R (F × Nat)) (w : List Nat) : Nat → List F → Nat → R (F × Nat)
  | 0, _, _ => .out
  | m + 1, ps, a => (sub a).bind fun r =>
      if (T.drop r.2).take 1 = [41] then letIn (.call w (ps ++ [r.1])) (r.2 + 1)
      else if (T.drop r.2).take 2 = [44, 32] then callM T sub w m (ps ++ [r.1]) (r.2 + 2) else .bad
inductive Fn where
  | level (lv : Nat) | less | atom | great | call (w : List Nat)
def parse (T : List Nat) : Nat → Fn → Nat → Nat → R (F × Nat)
  | 0, _, _, _ => .out
  | n + 1, .level lv, a, o =>
    if o > 20 then .bad else if lv = 5 then parse T n .less a o else
      (parse T n (.level (lv + 1)) a o).bind fun r => loopM T lv (fun b => parse T n (.level (lv + 1)) b o) (T.length + 2) r.1 r.2
  | n + 1, .less, a, o =>
    if (T.drop a).take 1 = [45] then (parse T n .less (a + 1) (o + 1)).bind fun r => letIn (.less r.1) r.2 else parse T n .atom a o
  | n + 1, .atom, a, o => match T.drop a with
    | [] => .bad
    | c :: _ =>
      if isFig c = true then numM T a else if c = 34 then textM T a
      else if isSmall c = true then .ok (.word (slice T a (run isSmall T a)), run isSmall T a)
      else if isGreat c = true then parse T n .great a o
      else if (T.drop a).take 4 = [35, 82, 69, 70] then .ok (.lost, a + 4)
      else if c = 40 then (parse T n (.level 1) (a + 1) (o + 1)).bind fun r => if (T.drop r.2).take 1 = [41] then .ok (r.1, r.2 + 1) else .bad
      else .bad
  | n + 1, .great, a, o =>
    let e := run isGreat T a
    let w := slice T a e
    if (T.drop e).take 1 = [40] then parse T n (.call w) (e + 1) o
    else if w = TRUE then .ok (.tru true, e) else if w = FALSE then .ok (.tru false, e) else cellsM T a
  | n + 1, .call w, a, o =>
    if (T.drop a).take 1 = [41] then .ok (.call w [], a + 1) else callM T (fun b => parse T n (.level 1) b (o + 1)) w (T.length + 2) [] a
def readM (n : Nat) (T : List Nat) : R F := (parse T n (.level 1) 0 0).bind fun r =>
  if r.2 ≠ T.length ∨ isForm r.1 = false ∨ shown r.1 ≠ T then .bad else .ok r.1
end Ws
end

section
set_option autoImplicit false
set_option maxRecDepth 10000
set_option maxHeartbeats 1000000
namespace Ws
open PySem L2 TL

theorem drop_lt {T : List Nat} {a c : Nat} {r : List Nat} (h : T.drop a = c :: r) : a < T.length := by
  have := congrArg List.length h
  simp at this
  omega
theorem drop_succ {T : List Nat} {a c : Nat} {r : List Nat} (h : T.drop a = c :: r) : T.drop (a + 1) = r := by
  have := congrArg (List.drop 1) h
  rw [List.drop_drop] at this
  simpa using this
theorem drop_app {T : List Nat} {a : Nat} {s r : List Nat} (h : T.drop a = s ++ r) : T.drop (a + s.length) = r := by
  have := congrArg (List.drop s.length) h
  rw [List.drop_drop] at this
  simpa using this
theorem drop_len {T : List Nat} {a : Nat} {s r : List Nat} (h : T.drop a = s ++ r) : s.length ≤ T.length := by
  have := congrArg List.length h
  simp at this
  omega
theorem take_lt {T : List Nat} {a k : Nat} {s : List Nat} (h : (T.drop a).take k = s) : a + s.length ≤ T.length ∨ s = [] := by
  have := congrArg List.length h
  simp at this
  cases s with
  | nil => exact .inr rfl
  | cons c s => simp at this ⊢; omega
theorem run_ge (p : Nat → Bool) (T : List Nat) (a : Nat) : a ≤ run p T a := by unfold run; omega
theorem run_le (p : Nat → Bool) (T : List Nat) (a : Nat) (h : a ≤ T.length) : run p T a ≤ T.length := by
  unfold run
  have := (List.takeWhile_sublist p (l := T.drop a)).length_le
  simp at this
  omega
theorem run_gt {p : Nat → Bool} {T : List Nat} {a c : Nat} {r : List Nat} (h : T.drop a = c :: r) (hc : p c = true) : a + 1 ≤ run p T a := by
  unfold run
  rw [h, List.takeWhile_cons, if_pos hc]
  simp
/-- a run that ends -/
theorem run_app {p : Nat → Bool} {T : List Nat} {a : Nat} {s r : List Nat} (h : T.drop a = s ++ r) (hs : s.all p = true) (hr : ∀ c r', r = c :: r' → p c = false) : run p T a = a + s.length := by
  unfold run
  rw [h]
  have hs' : ∀ x ∈ s, p x = true := by simpa using hs
  rw [List.takeWhile_append_of_pos hs']
  cases r with
  | nil => simp
  | cons c r => simp [List.takeWhile_cons, hr c r rfl]
theorem slice_app {T : List Nat} {a : Nat} {s r : List Nat} (h : T.drop a = s ++ r) : slice T a (a + s.length) = s := by
  unfold slice
  rw [h]
  simp [show a + s.length - a = s.length by omega]

/-! ### what the reader finds: the place, the depth -/
theorem bind_is {α β : Type} {r : R α} {k : α → R β} {b : β} (h : r.bind k = .ok b) : ∃ a, r = .ok a ∧ k a = .ok b := by
  cases r with
  | ok a => exact ⟨a, rfl, h⟩
  | bad => cases h
  | out => cases h
theorem letIn_is {f g : F} {e e' : Nat} (h : letIn f e = .ok (g, e')) : g = f ∧ e' = e ∧ depth f ≤ 8 := by
  unfold letIn at h
  split at h
  · cases h
  · injection h with h
    injection h with h1 h2
    exact ⟨h1.symm, h2.symm, by omega⟩
theorem letIn_ok {f : F} {e : Nat} (h : depth f ≤ 8) : letIn f e = .ok (f, e) := by
  unfold letIn
  rw [if_neg (by omega)]
theorem letIn_out {f : F} {e : Nat} : letIn f e ≠ .out := by
  unfold letIn
  split <;> simp

structure Fit (T : List Nat) (a : Nat) (f : F) (e : Nat) : Prop where
  le : a ≤ e
  dp : depth f ≤ 8
  sz : size f + a ≤ e
  sm : small T.length f = true
  el : e ≤ T.length
def Fine (T : List Nat) (a : Nat) (r : R (F × Nat)) : Prop := ∀ f e, r = .ok (f, e) → Fit T a f e
section
variable {T : List Nat} {a b e : Nat} {f : F} {r : R (F × Nat)}
theorem Fit.mono (h : Fit T b f e) (l : a ≤ b) : Fit T a f e := ⟨Nat.le_trans l h.le, h.dp, by have := h.sz; omega, h.sm, h.el⟩
theorem Fine.mono (h : Fine T b r) (l : a ≤ b) : Fine T a r := fun f e q => (h f e q).mono l
theorem Fine.ok (h : Fit T a f e) : Fine T a (.ok (f, e)) := fun g e' q => by
  injection q with q
  injection q with q1 q2
  subst q1 q2
  exact h
theorem Fine.bad : Fine T a .bad := fun _ _ q => by cases q
theorem Fine.out : Fine T a .out := fun _ _ q => by cases q
theorem Fine.letIn (h : a ≤ e) (hs : size f + a ≤ e) (hm : small T.length f = true) (hl : e ≤ T.length) : Fine T a (letIn f e) := fun g e' q => by
  obtain ⟨rfl, rfl, d⟩ := letIn_is q
  exact ⟨h, d, hs, hm, hl⟩
theorem Fine.bind {α : Type} {r : R α} {k : α → R (F × Nat)} (h : ∀ x, r = .ok x → Fine T a (k x)) : Fine T a (r.bind k) := fun f e q => by
  obtain ⟨x, h1, h2⟩ := bind_is q
  exact h x h1 f e h2
theorem Fine.ite {c : Prop} [Decidable c] {x y : R (F × Nat)} (h1 : c → Fine T a x) (h2 : ¬ c → Fine T a y) : Fine T a (if c then x else y) := by
  split
  · exact h1 ‹_›
  · exact h2 ‹_›
end
theorem cell_is {T : List Nat} {a e r c : Nat} (h : cellM T a = .ok ((r, c), e)) : a + 1 ≤ e ∧ e ≤ T.length := by
  unfold cellM at h
  cases q : T.drop a with
  | nil => rw [q] at h; cases h
  | cons x xs =>
    rw [q] at h
    simp only at h
    split at h
    · cases h
    · split at h
      · cases h
      · injection h with h
        injection h with h1 h2
        have := run_ge isFig T (a + 1)
        have := run_le isFig T (a + 1) (by have := drop_lt q; omega)
        omega
theorem slice_len (T : List Nat) (a b : Nat) : (slice T a b).length ≤ T.length := by unfold slice; simp; omega
theorem slice_len2 (T : List Nat) (a b : Nat) : (slice T a b).length ≤ b - a := by unfold slice; simp; omega
theorem fine_cells (T : List Nat) (a : Nat) : Fine T a (cellsM T a) := by
  unfold cellsM
  refine Fine.bind fun r h => ?_
  obtain ⟨⟨r1, r2⟩, e⟩ := r
  have h1 := cell_is h
  refine Fine.ite (fun _ => ?_) fun _ => Fine.ok ⟨by simp only; omega, by simp [depth], by simp only [size]; omega, by simp only [small], by simp only; omega⟩
  refine Fine.bind fun q hq => ?_
  obtain ⟨⟨q1, q2⟩, e2⟩ := q
  have h2 := cell_is hq
  simp only at h2
  exact Fine.ok ⟨by simp only; omega, by simp [depth], by simp only [size]; omega, by simp only [small], by simp only; omega⟩
theorem fine_loop {T : List Nat} {lv : Nat} {sub : Nat → R (F × Nat)} (hs : ∀ b, Fine T b (sub b)) : ∀ (m : Nat) (one : F) (a a1 : Nat), Fit T a one a1 → Fine T a (loopM T lv sub m one a1)
  | 0, _, _, _, _ => Fine.out
  | m + 1, one, a, a1, hd => by
    unfold loopM
    split
    · exact Fine.ok hd
    · rename_i o ho
      refine Fine.ite (fun _ => ?_) fun _ => Fine.ok hd
      refine Fine.bind fun r hr => ?_
      have h1 := hs _ r.1 r.2 hr
      have hle := h1.le
      have hsz := h1.sz
      have hle0 := hd.le
      have hsz0 := hd.sz
      have hsize : size (.two o one r.1) = 1 + (size one + (size r.1 + 0)) := by simp only [size]
      refine Fine.bind fun q hq => ?_
      have f2 : Fit T a q.1 q.2 := Fine.letIn (T := T) (a := a) (by omega) (by omega) (by simp only [small, Bool.and_eq_true]; exact ⟨hd.sm, h1.sm⟩) h1.el q.1 q.2 hq
      exact Fine.ite (fun _ => Fine.ok (f := q.1) (e := q.2) f2) fun _ => fine_loop hs m q.1 a q.2 f2
theorem sizes_app : ∀ ps qs : List F, sizes (ps ++ qs) = sizes ps + sizes qs
  | [], qs => by simp [sizes]
  | p :: ps, qs => by
    simp only [List.cons_append, sizes, sizes_app ps qs]
    omega
theorem fine_call {T : List Nat} {w : List Nat} {sub : Nat → R (F × Nat)} (hw : w.length ≤ T.length) (hs : ∀ b, Fine T b (sub b)) : ∀ (m : Nat) (ps : List F) (a a1 : Nat), sizes ps + a ≤ a1 → smalls T.length ps = true → Fine T a (callM T sub w m ps a1)
  | 0, _, _, _, _, _ => Fine.out
  | m + 1, ps, a, a1, h0, hsm => by
    unfold callM
    refine Fine.bind fun r hr => ?_
    have h1 := hs _ r.1 r.2 hr
    have hsz := h1.sz
    have hsp : sizes (ps ++ [r.1]) = sizes ps + size r.1 := by rw [sizes_app]; simp [sizes]
    have hsm2 : smalls T.length (ps ++ [r.1]) = true := by
      rw [smalls_all] at hsm ⊢
      rw [List.all_append, hsm]
      simp [h1.sm]
    have hle := h1.le
    have hsize : size (.call w (ps ++ [r.1])) = 1 + sizes (ps ++ [r.1]) := by simp only [size]
    refine Fine.ite (fun hc => Fine.letIn (by omega) (by omega) (by simp only [small, Bool.and_eq_true, decide_eq_true_eq]; exact ⟨hw, hsm2⟩) (by have := take_lt hc; simp at this; omega)) fun _ => Fine.ite (fun _ => ?_) fun _ => Fine.bad
    exact fine_call hw hs m _ _ _ (by omega) hsm2
theorem scan_len : ∀ (l : List Nat) (t : List Nat) (k : Nat), scan l = some (t, k) → t.length ≤ l.length ∧ 1 ≤ k ∧ k ≤ l.length
  | [], t, k, h => by rw [scan.eq_def] at h; cases h
  | c :: r, t, k, h => by
    rw [scan.eq_def] at h
    simp only at h
    split at h
    · cases r with
      | nil => injection h with h; injection h with h1 h2; subst h1 h2; simp
      | cons d r' =>
        simp only at h
        split at h
        · cases q : scan r' with
          | none => rw [q] at h; cases h
          | some p =>
            rw [q] at h
            simp only [Option.map_some, Option.some.injEq, Prod.mk.injEq] at h
            obtain ⟨rfl, rfl⟩ := h
            have := scan_len r' p.1 p.2 q
            simp
            omega
        · injection h with h; injection h with h1 h2; subst h1 h2; simp
    · cases q : scan r with
      | none => rw [q] at h; cases h
      | some p =>
        rw [q] at h
        simp only [Option.map_some, Option.some.injEq, Prod.mk.injEq] at h
        obtain ⟨rfl, rfl⟩ := h
        have := scan_len r p.1 p.2 q
        simp
        omega
def wOk (T : List Nat) : Fn → Prop
  | .call w => w.length ≤ T.length
  | _ => True
theorem run_slice {p : Nat → Bool} {T w : List Nat} {a : Nat} (h : slice T a (run p T a) = w) : a + w.length ≤ run p T a := by
  have h1 := slice_len2 T a (run p T a)
  have h2 := run_ge p T a
  rw [h] at h1
  omega
theorem fine_parse (T : List Nat) : ∀ (n : Nat) (g : Fn) (a o : Nat), wOk T g → Fine T a (parse T n g a o)
  | 0, _, _, _, _ => by unfold parse; exact Fine.out
  | n + 1, .level lv, a, o, _ => by
    unfold parse
    refine Fine.ite (fun _ => Fine.bad) fun _ => Fine.ite (fun _ => fine_parse T n _ a o trivial) fun _ => ?_
    refine Fine.bind fun r hr => ?_
    have h1 := fine_parse T n (.level (lv + 1)) a o trivial r.1 r.2 hr
    exact fine_loop (fun b => fine_parse T n (.level (lv + 1)) b o trivial) _ _ _ _ h1
  | n + 1, .less, a, o, _ => by
    unfold parse
    refine Fine.ite (fun _ => ?_) fun _ => fine_parse T n _ a o trivial
    refine Fine.bind fun r hr => ?_
    have h1 := fine_parse T n .less _ _ trivial r.1 r.2 hr
    have hle := h1.le
    have hsz := h1.sz
    have hsize : size (.less r.1) = 1 + (size r.1 + 0) := by simp only [size]
    exact Fine.letIn (by omega) (by omega) (by simp only [small]; exact h1.sm) h1.el
  | n + 1, .atom, a, o, _ => by
    unfold parse
    split
    · exact Fine.bad
    · rename_i c r hc
      refine Fine.ite (fun hf => ?_) fun _ => Fine.ite (fun _ => ?_) fun _ => Fine.ite (fun hf => ?_) fun _ => Fine.ite (fun _ => fine_parse T n _ a o trivial) fun _ => Fine.ite (fun hc => Fine.ok ⟨by omega, by simp [depth], by simp only [size]; omega, by simp only [small], by have := take_lt hc; simp at this; omega⟩) fun _ =>
        Fine.ite (fun _ => ?_) fun _ => Fine.bad
      · unfold numM
        have := run_gt hc hf
        have := run_le isFig T a (by have := drop_lt hc; omega)
        exact Fine.ite (fun _ => Fine.bad) fun _ => Fine.ok ⟨by omega, by simp [depth], by simp only [size]; omega, by simp only [small], by omega⟩
      · unfold textM
        split
        · exact Fine.bad
        · rename_i p hp
          have := scan_len _ p.1 p.2 hp
          simp at this
          have := drop_lt hc
          exact Fine.ok ⟨by omega, by simp [depth], by simp only [size]; omega, by simp only [small, decide_eq_true_eq]; omega, by omega⟩
      · have := run_gt hc hf
        have := run_le isSmall T a (by have := drop_lt hc; omega)
        exact Fine.ok ⟨by omega, by simp [depth], by simp only [size]; omega, by simp only [small, decide_eq_true_eq]; exact slice_len _ _ _, by omega⟩
      · refine Fine.bind fun r hr => ?_
        have h1 := fine_parse T n (.level 1) _ _ trivial r.1 r.2 hr
        have hle := h1.le
        have hsz := h1.sz
        exact Fine.ite (fun hc => Fine.ok ⟨by omega, h1.dp, by omega, h1.sm, by have := take_lt hc; simp at this; omega⟩) fun _ => Fine.bad
  | n + 1, .great, a, o, _ => by
    unfold parse
    have h := run_ge isGreat T a
    refine Fine.ite (fun _ => (fine_parse T n (.call _) _ o (slice_len _ _ _)).mono (by omega)) fun _ => Fine.ite (fun hw => ?_) fun _ => Fine.ite (fun hw => ?_) fun _ => fine_cells T a
    · have := run_slice hw
      simp [TRUE] at this
      exact Fine.ok ⟨h, by simp [depth], by simp only [size]; omega, by simp only [small], run_le _ _ _ (by
        by_cases hl : a ≤ T.length
        · exact hl
        · unfold run at this; rw [List.drop_eq_nil_of_le (by omega)] at this; simp at this; omega)⟩
    · have := run_slice hw
      simp [FALSE] at this
      exact Fine.ok ⟨h, by simp [depth], by simp only [size]; omega, by simp only [small], run_le _ _ _ (by
        by_cases hl : a ≤ T.length
        · exact hl
        · unfold run at this; rw [List.drop_eq_nil_of_le (by omega)] at this; simp at this; omega)⟩
  | n + 1, .call w, a, o, hw => by
    have hw : w.length ≤ T.length := hw
    unfold parse
    exact Fine.ite (fun hc => Fine.ok ⟨by omega, by simp [depth, depths], by simp only [size, sizes]; omega, by simp only [small, smalls, Bool.and_true, decide_eq_true_eq]; exact hw, by have := take_lt hc; simp at this; omega⟩) fun _ => fine_call hw (fun b => fine_parse T n (.level 1) b _ trivial) _ _ _ _ (by simp [sizes]) (by simp only [smalls])

/-! ### the reader ends -/
theorem sign_lt {T : List Nat} {a : Nat} {o : Op} (h : signAt T a = some o) : a + o.txt.length + 2 ≤ T.length := by
  have q := List.find?_some h
  have q2 := eq_of_beq q
  have := congrArg List.length q2
  simp at this
  omega
theorem bind_ne {α β : Type} {r : R α} {k : α → R β} (h : r ≠ .out) (hk : ∀ a, r = .ok a → k a ≠ .out) : r.bind k ≠ .out := by
  cases r with
  | ok a => exact hk a rfl
  | bad => intro q; cases q
  | out => exact absurd rfl h
theorem ite_ne {α : Type} {c : Prop} [Decidable c] {x y : R α} (h1 : c → x ≠ .out) (h2 : ¬ c → y ≠ .out) : (if c then x else y) ≠ .out := by
  split
  · exact h1 ‹_›
  · exact h2 ‹_›
theorem ok_ne {α : Type} {a : α} : R.ok a ≠ .out := by intro q; cases q
theorem bad_ne {α : Type} : (R.bad : R α) ≠ .out := by intro q; cases q
theorem ends_loop {T : List Nat} {lv : Nat} {sub : Nat → R (F × Nat)} (a0 : Nat) (hf : ∀ b, Fine T b (sub b)) (hs : ∀ b, a0 ≤ b → sub b ≠ .out) : ∀ (m : Nat) (one : F) (a : Nat), a0 ≤ a → 1 ≤ m → T.length + 2 ≤ m + a → loopM T lv sub m one a ≠ .out
  | 0, _, _, _, h, _ => by omega
  | m + 1, one, a, ha, _, hm => by
    unfold loopM
    split
    · exact ok_ne
    · rename_i o ho
      have hl := sign_lt ho
      refine ite_ne (fun _ => ?_) fun _ => ok_ne
      refine bind_ne (hs _ (by omega)) fun r hr => ?_
      have h1 := (hf _ r.1 r.2 hr).le
      refine bind_ne letIn_out fun q hq => ?_
      obtain ⟨e1, e2, d⟩ := letIn_is (g := q.1) (e' := q.2) hq
      exact ite_ne (fun _ => ok_ne) fun _ => ends_loop a0 hf hs m q.1 q.2 (by omega) (by omega) (by omega)
theorem ends_call {T : List Nat} {w : List Nat} {sub : Nat → R (F × Nat)} (a0 : Nat) (hf : ∀ b, Fine T b (sub b)) (hs : ∀ b, a0 ≤ b → sub b ≠ .out) : ∀ (m : Nat) (ps : List F) (a : Nat), a0 ≤ a → 1 ≤ m → T.length + 2 ≤ m + a → callM T sub w m ps a ≠ .out
  | 0, _, _, _, h, _ => by omega
  | m + 1, ps, a, ha, _, hm => by
    unfold callM
    refine bind_ne (hs _ ha) fun r hr => ?_
    have h1 := (hf _ r.1 r.2 hr).le
    refine ite_ne (fun _ => letIn_out) fun _ => ite_ne (fun h => ?_) fun _ => bad_ne
    have hl := take_lt h
    simp at hl
    exact ends_call a0 hf hs m _ _ (by omega) (by omega) (by omega)
def need (L : Nat) : Fn → Nat → Nat → Nat
  | .level lv, a, o => if o > 20 then 1 else (L - a) + 7 * (21 - o) + (9 - lv)
  | .less, a, o => (L - a) + 7 * (21 - o) + 3
  | .atom, a, o => (L - a) + 7 * (21 - o) + 2
  | .great, a, o => (L - a) + 7 * (21 - o) + 1
  | .call _, a, o => (L - a) + 7 * (21 - o) + 2
theorem bind_ne' : True := trivial
theorem ends_cell (T : List Nat) (a : Nat) : cellM T a ≠ .out := by
  unfold cellM
  split
  · exact bad_ne
  · exact ite_ne (fun _ => bad_ne) fun _ => ite_ne (fun _ => bad_ne) fun _ => ok_ne
def gOk (T : List Nat) (a : Nat) : Fn → Prop
  | .level lv => lv ≤ 5
  | .great => ∃ c r, T.drop a = c :: r ∧ isGreat c = true
  | _ => True
theorem ends_parse (T : List Nat) : ∀ (n : Nat) (g : Fn) (a o : Nat), gOk T a g → need T.length g a o ≤ n → parse T n g a o ≠ .out
  | 0, g, a, o, hg, h => by
    cases g with
    | level lv =>
      have hg : lv ≤ 5 := hg
      simp only [need] at h
      split at h <;> omega
    | less => simp only [need] at h; omega
    | atom => simp only [need] at h; omega
    | great => simp only [need] at h; omega
    | call w => simp only [need] at h; omega
  | n + 1, .level lv, a, o, hg, h => by
    have hg : lv ≤ 5 := hg
    unfold parse
    refine ite_ne (fun _ => bad_ne) fun ho => ?_
    simp only [need] at h
    rw [if_neg ho] at h
    refine ite_ne (fun _ => ends_parse T n .less a o trivial (by simp only [need]; omega)) fun hl => ?_
    have hb : ∀ b, a ≤ b → parse T n (.level (lv + 1)) b o ≠ .out := fun b hb => ends_parse T n _ b o (show lv + 1 ≤ 5 by omega) (by simp only [need]; rw [if_neg ho]; omega)
    refine bind_ne (hb a (Nat.le_refl _)) fun r hr => ?_
    have h1 := (fine_parse T n (.level (lv + 1)) a o trivial r.1 r.2 hr).le
    exact ends_loop a (fun b => fine_parse T n (.level (lv + 1)) b o trivial) hb _ _ _ h1 (by omega) (by omega)
  | n + 1, .less, a, o, _, h => by
    simp only [need] at h
    unfold parse
    refine ite_ne (fun hc => ?_) fun _ => ends_parse T n .atom a o trivial (by simp only [need]; omega)
    have hl := take_lt hc
    simp at hl
    exact bind_ne (ends_parse T n .less _ _ trivial (by simp only [need]; omega)) fun r _ => letIn_out
  | n + 1, .atom, a, o, _, h => by
    simp only [need] at h
    unfold parse
    split
    · exact bad_ne
    · rename_i c r hc
      have hl := drop_lt hc
      refine ite_ne (fun _ => ?_) fun _ => ite_ne (fun _ => ?_) fun _ => ite_ne (fun _ => ok_ne) fun _ => ite_ne (fun hg => ends_parse T n .great a o ⟨c, r, hc, hg⟩ (by simp only [need]; omega)) fun _ => ite_ne (fun _ => ok_ne) fun _ =>
        ite_ne (fun _ => ?_) fun _ => bad_ne
      · unfold numM
        exact ite_ne (fun _ => bad_ne) fun _ => ok_ne
      · unfold textM
        split
        · exact bad_ne
        · exact ok_ne
      · refine bind_ne (ends_parse T n (.level 1) _ _ (show 1 ≤ 5 by omega) ?_) fun r _ => ite_ne (fun _ => ok_ne) fun _ => bad_ne
        simp only [need]
        split <;> omega
  | n + 1, .great, a, o, ⟨c, r, hc, hg⟩, h => by
    simp only [need] at h
    unfold parse
    have h0 := run_gt hc hg
    refine ite_ne (fun hc => ?_) fun _ => ite_ne (fun _ => ok_ne) fun _ => ite_ne (fun _ => ok_ne) fun _ => ?_
    · have hl := take_lt hc
      simp at hl
      exact ends_parse T n (.call _) _ o trivial (by simp only [need]; omega)
    · unfold cellsM
      exact bind_ne (ends_cell T a) fun r _ => ite_ne (fun _ => bind_ne (ends_cell T _) fun q _ => ok_ne) fun _ => ok_ne
  | n + 1, .call w, a, o, _, h => by
    simp only [need] at h
    unfold parse
    refine ite_ne (fun _ => ok_ne) fun _ => ?_
    refine ends_call a (fun b => fine_parse T n (.level 1) b _ trivial) (fun b hb => ends_parse T n (.level 1) b _ (show 1 ≤ 5 by omega) ?_) _ _ _ (Nat.le_refl _) (by omega) (by omega)
    simp only [need]
    split <;> omega
theorem ends_read {T : List Nat} {n : Nat} (h : T.length + 155 ≤ n) : parse T n (.level 1) 0 0 ≠ .out := ends_parse T n _ 0 0 (show 1 ≤ 5 by omega) (by
  simp only [need]
  rw [if_neg (by omega)]
  omega)
end Ws
end

section
set_option autoImplicit false
set_option maxRecDepth 10000
set_option maxHeartbeats 2000000
set_option linter.all false
/-! what is written is read back -/
namespace Ws
open PySem L2 TL

def Fol (l : Nat) (r : List Nat) : Prop := r = [] ∨ (∃ s, r = 41 :: s) ∨ (∃ s, r = 44 :: 32 :: s) ∨ ∃ (o : Op) (s : List Nat), r = 32 :: (o.txt ++ 32 :: s) ∧ o.lev < l
theorem Fol.mono {l l' : Nat} {r : List Nat} (h : Fol l r) (hl : l ≤ l') : Fol l' r := by
  rcases h with h | h | h | ⟨o, s, h, q⟩
  · exact .inl h
  · exact .inr (.inl h)
  · exact .inr (.inr (.inl h))
  · exact .inr (.inr (.inr ⟨o, s, h, by omega⟩))
theorem Fol.head {l c : Nat} {r s : List Nat} (h : Fol l r) (e : r = c :: s) : c = 41 ∨ c = 44 ∨ c = 32 := by
  subst e
  rcases h with h | ⟨s, h⟩ | ⟨s, h⟩ | ⟨o, s, h, q⟩
  · cases h
  · injection h with h1 h2; exact .inl h1
  · injection h with h1 h2; exact .inr (.inl h1)
  · injection h with h1 h2; exact .inr (.inr h1)
theorem Fol.take1 {l c : Nat} {r : List Nat} (h : Fol l r) (hc : c ≠ 41 ∧ c ≠ 44 ∧ c ≠ 32) : r.take 1 ≠ [c] := by
  cases r with
  | nil => simp
  | cons d s =>
    have := h.head rfl
    simp
    omega
theorem sign_of {T : List Nat} {a : Nat} {o : Op} {s : List Nat} (h : T.drop a = 32 :: (o.txt ++ 32 :: s)) : signAt T a = some o := by
  unfold signAt
  rw [h]
  cases o <;> simp [ops, Op.txt, List.find?_cons]
theorem sign_none {T : List Nat} {a : Nat} (h : ∀ s, T.drop a ≠ 32 :: s) : signAt T a = none := by
  unfold signAt
  rw [List.find?_eq_none]
  intro o _ q
  have q2 := eq_of_beq q
  cases e : T.drop a with
  | nil => rw [e] at q2; simp at q2
  | cons c s =>
    rw [e] at q2
    have : c = 32 := by
      have := congrArg List.head? q2
      simpa using this
    exact h s (by rw [e, this])
theorem sign_fol {l : Nat} {T : List Nat} {a : Nat} (h : Fol l (T.drop a)) : signAt T a = none ∨ ∃ o, signAt T a = some o ∧ o.lev < l := by
  rcases h with h | ⟨s, h⟩ | ⟨s, h⟩ | ⟨o, s, h, q⟩
  · exact .inl (sign_none fun s e => by rw [h] at e; cases e)
  · exact .inl (sign_none fun s e => by rw [h] at e; injection e with e1 _; omega)
  · exact .inl (sign_none fun s e => by rw [h] at e; injection e with e1 _; omega)
  · exact .inr ⟨o, sign_of h, q⟩
theorem loop_stop {T : List Nat} {lv m a : Nat} {sub : Nat → R (F × Nat)} {f : F} (h : Fol lv (T.drop a)) (hm : 1 ≤ m) : loopM T lv sub m f a = .ok (f, a) := by
  obtain ⟨m, rfl⟩ : ∃ k, m = k + 1 := ⟨m - 1, by omega⟩
  unfold loopM
  rcases sign_fol h with e | ⟨o, e, q⟩
  · rw [e]
  · rw [e]
    simp only
    rw [if_neg (by omega)]
theorem up {T : List Nat} {f : F} {e a o : Nat} (ho : o ≤ 20) : ∀ (j : Nat), j ≤ 4 → ∀ n, parse T n .less a o = .ok (f, e) → Fol (5 - j) (T.drop e) → parse T (n + 1 + j) (.level (5 - j)) a o = .ok (f, e)
  | 0, _, n, h, _ => by
    unfold parse
    rw [if_neg (by omega), if_pos rfl, h]
  | j + 1, hj, n, h, hf => by
    have ih := up ho j (by omega) n h (hf.mono (by omega))
    show parse T ((n + 1 + j) + 1) _ a o = _
    unfold parse
    rw [if_neg (by omega), if_neg (by omega), show 5 - (j + 1) + 1 = 5 - j by omega, ih, R.bind_ok]
    exact loop_stop hf (by omega)
theorem less_of {T : List Nat} {f : F} {e a o n : Nat} (h : parse T n .atom a o = .ok (f, e)) (hT : (T.drop a).take 1 ≠ [45]) : parse T (n + 1) .less a o = .ok (f, e) := by
  unfold parse
  rw [if_neg hT, h]
theorem up_less {T : List Nat} {f : F} {e a o n lv : Nat} (ho : o ≤ 20) (h1 : 1 ≤ lv) (h5 : lv ≤ 5) (h : ∀ k, n + lv = k + 6 → parse T k .less a o = .ok (f, e)) (hn : 6 ≤ n + lv) (hf : Fol lv (T.drop e)) : parse T n (.level lv) a o = .ok (f, e) := by
  have q := up ho (5 - lv) (by omega) (n + lv - 6) (h _ (by omega)) (by rw [show 5 - (5 - lv) = lv by omega]; exact hf)
  rw [show 5 - (5 - lv) = lv by omega, show n + lv - 6 + 1 + (5 - lv) = n by omega] at q
  exact q
theorem up_atom {T : List Nat} {f : F} {e a o n lv : Nat} (ho : o ≤ 20) (h1 : 1 ≤ lv) (h5 : lv ≤ 5) (h : ∀ k, n + lv = k + 7 → parse T k .atom a o = .ok (f, e)) (hn : 7 ≤ n + lv) (hT : (T.drop a).take 1 ≠ [45]) (hf : Fol lv (T.drop e)) : parse T n (.level lv) a o = .ok (f, e) := by
  refine up_less ho h1 h5 (fun k hk => ?_) (by omega) hf
  obtain ⟨k, rfl⟩ : ∃ j, k = j + 1 := ⟨k - 1, by omega⟩
  exact less_of (h k (by omega)) hT

/-! ### the first sign -/
theorem all_head {p : Nat → Bool} {w : List Nat} (h : wordOk p w = true) : ∃ c s, w = c :: s ∧ p c = true ∧ w.all p = true := by
  unfold wordOk at h
  simp only [Bool.and_eq_true, decide_eq_true_eq] at h
  cases w with
  | nil => simp at h
  | cons c s =>
    refine ⟨c, s, rfl, ?_, h.2⟩
    have := h.2
    simp only [List.all_cons, Bool.and_eq_true] at this
    exact this.1
theorem num_head (n : Nat) : ∃ c s, numL n = c :: s ∧ isFig c = true := by
  cases e : numL n with
  | nil => exact absurd e (numL_ne n)
  | cons c s =>
    refine ⟨c, s, rfl, ?_⟩
    have := numL_digits n c (by rw [e]; simp)
    unfold isFig
    simpa using this
theorem num_all (n : Nat) : (numL n).all isFig = true := by
  rw [List.all_eq_true]
  intro c hc
  have := numL_digits n c hc
  unfold isFig
  simpa using this
theorem wrap_true {t : List Nat} : wrap true t = 40 :: (t ++ [41]) := rfl
theorem wrap_false {t : List Nat} : wrap false t = t := rfl
theorem shown_head : ∀ (f : F), good f = true → ∃ c s, shown f = c :: s ∧ c ≠ 41 ∧ (lev f = 6 → c ≠ 45)
  | .num n, _ => by
    obtain ⟨c, s, e, h⟩ := num_head n
    simp only [isFig, decide_eq_true_eq] at h
    exact ⟨c, s, by simp only [shown]; exact e, by omega, fun _ => by omega⟩
  | .txt t, _ => ⟨34, _, by simp only [shown] <;> rfl, by omega, fun _ => by omega⟩
  | .tru true, _ => ⟨84, _, by simp only [shown, TRUE] <;> rfl, by omega, fun _ => by omega⟩
  | .tru false, _ => ⟨70, _, by simp only [shown, FALSE] <;> rfl, by omega, fun _ => by omega⟩
  | .at r c, _ => ⟨65 + c, _, by simp only [shown, cellT] <;> rfl, by omega, fun _ => by omega⟩
  | .box r c l f, _ => ⟨65 + c, _, by simp only [shown, cellT] <;> rfl, by omega, fun _ => by omega⟩
  | .word w, h => by
    simp only [good] at h
    obtain ⟨c, s, e, h, _⟩ := all_head h
    simp only [isSmall, decide_eq_true_eq] at h
    exact ⟨c, s, by simp only [shown]; exact e, by omega, fun _ => by omega⟩
  | .lost, _ => ⟨35, _, by simp only [shown] <;> rfl, by omega, fun _ => by omega⟩
  | .less p, _ => ⟨45, _, by simp only [shown] <;> rfl, by omega, fun h => by simp [lev] at h⟩
  | .two o a b, h => by
    simp only [good, Bool.and_eq_true] at h
    obtain ⟨c, s, e, h1, _⟩ := shown_head a h.1
    simp only [shown]
    cases decide (lev a < first o) with
    | true => exact ⟨40, _, by simp only [wrap_true]; rfl, by omega, fun h => by simp [lev] at h; have := o.lev_le; omega⟩
    | false => exact ⟨c, _, by rw [wrap_false, e]; rfl, h1, fun h => by simp [lev] at h; have := o.lev_le; omega⟩
  | .call w ps, h => by
    simp only [good, Bool.and_eq_true] at h
    obtain ⟨c, s, e, h, _⟩ := all_head h.1.1
    simp only [isGreat, decide_eq_true_eq] at h
    exact ⟨c, s ++ 40 :: (joinL [44, 32] (showns ps) ++ [41]), by simp only [shown]; rw [e]; rfl, by omega, fun _ => by omega⟩

/-! ### what has no sign of two -/
section
variable {T : List Nat} {a o n : Nat} {r : List Nat}
theorem atom_num {k : Nat} (h : T.drop a = numL k ++ r) (hf : Fol 7 r) (hk : k < 10 ^ 40) : parse T (n + 1) .atom a o = .ok (.num k, a + (numL k).length) := by
  obtain ⟨c, s, e, hc⟩ := num_head k
  have hr : run isFig T a = a + (numL k).length := run_app h (num_all k) fun c r' q => by
    have := hf.head q
    unfold isFig
    rw [decide_eq_false_iff_not]
    omega
  have hl := numL_len (by decide) hk
  unfold parse
  have hd : T.drop a = c :: (s ++ r) := by rw [h, e]; rfl
  rw [hd]
  simp only
  rw [if_pos hc]
  unfold numM
  simp only
  rw [hr, if_neg (by omega), slice_app h, numL_val]
theorem scan_dbl : ∀ (t r : List Nat), (∀ c s, r = c :: s → c ≠ 34) → scan (StrLaws.dbl 34 t ++ 34 :: r) = some (t, (StrLaws.dbl 34 t).length + 1)
  | [], r, h => by
    show scan (34 :: r) = _
    cases r with
    | nil => simp [scan, StrLaws.dbl]
    | cons d s =>
      have := h d s rfl
      simp [scan, StrLaws.dbl, this]
  | c :: t, r, h => by
    have ih := scan_dbl t r h
    by_cases hc : c = 34
    · subst hc
      have e : StrLaws.dbl 34 (34 :: t) = 34 :: 34 :: StrLaws.dbl 34 t := by simp [StrLaws.dbl]
      rw [e]
      show scan (34 :: 34 :: (StrLaws.dbl 34 t ++ 34 :: r)) = _
      rw [scan.eq_def]
      simp only [if_true]
      rw [ih]
      simp
    · have e : StrLaws.dbl 34 (c :: t) = c :: StrLaws.dbl 34 t := by simp [StrLaws.dbl, hc]
      rw [e]
      show scan (c :: (StrLaws.dbl 34 t ++ 34 :: r)) = _
      rw [scan.eq_def]
      simp only
      rw [if_neg hc, ih]
      simp
theorem atom_txt {t : List Nat} (h : T.drop a = 34 :: (StrLaws.dbl 34 t ++ [34]) ++ r) (hf : Fol 7 r) : parse T (n + 1) .atom a o = .ok (.txt t, a + (34 :: (StrLaws.dbl 34 t ++ [34])).length) := by
  have hd : T.drop a = 34 :: (StrLaws.dbl 34 t ++ 34 :: r) := by rw [h]; simp
  unfold parse
  rw [hd]
  simp only
  rw [if_neg (by decide), if_pos trivial]
  unfold textM
  rw [drop_succ hd, scan_dbl t r fun c s q => by have := hf.head q; omega]
  simp
  omega
theorem great_run {w : List Nat} (h : T.drop a = w ++ r) (hw : w.all isGreat = true) (hr : ∀ c s, r = c :: s → isGreat c = false) : run isGreat T a = a + w.length := run_app h hw hr
theorem Fol.notGreat {l : Nat} {r : List Nat} (hf : Fol l r) : ∀ c s, r = c :: s → isGreat c = false := fun c s q => by
  have := hf.head q
  unfold isGreat
  rw [decide_eq_false_iff_not]
  omega
theorem Fol.notFig {l : Nat} {r : List Nat} (hf : Fol l r) : ∀ c s, r = c :: s → isFig c = false := fun c s q => by
  have := hf.head q
  unfold isFig
  rw [decide_eq_false_iff_not]
  omega
theorem atom_great {c : Nat} {s : List Nat} (h : T.drop a = c :: s) (hc : isGreat c = true) {x : R (F × Nat)} (hx : parse T n .great a o = x) : parse T (n + 1) .atom a o = x := by
  have hc' := hc
  simp only [isGreat, decide_eq_true_eq] at hc'
  unfold parse
  rw [h]
  simp only
  rw [if_neg (by simp only [isFig, decide_eq_true_eq]; omega), if_neg (by omega), if_neg (by simp only [isSmall, decide_eq_true_eq]; omega), if_pos hc, hx]
theorem atom_tru {b : Bool} (h : T.drop a = (if b = true then TRUE else FALSE) ++ r) (hf : Fol 7 r) : parse T (n + 2) .atom a o = .ok (.tru b, a + (if b = true then TRUE else FALSE).length) := by
  have key : ∀ w : List Nat, w = TRUE ∨ w = FALSE → T.drop a = w ++ r → parse T (n + 2) .atom a o = .ok (.tru (decide (w = TRUE)), a + w.length) := by
    intro w hw h
    have hall : w.all isGreat = true := by rcases hw with rfl | rfl <;> decide
    obtain ⟨c, s, e⟩ : ∃ c s, w = c :: s := by rcases hw with rfl | rfl <;> exact ⟨_, _, rfl⟩
    have hd : T.drop a = c :: (s ++ r) := by rw [h, e]; rfl
    have hc : isGreat c = true := by rw [e] at hall; simp only [List.all_cons, Bool.and_eq_true] at hall; exact hall.1
    refine atom_great hd hc ?_
    unfold parse
    simp only
    rw [great_run h hall hf.notGreat, slice_app h, drop_app h, if_neg (hf.take1 (by omega))]
    rcases hw with rfl | rfl
    · rw [if_pos rfl]; rfl
    · rw [if_neg (by decide), if_pos rfl]; rfl
  cases b with
  | true => exact key TRUE (.inl rfl) h
  | false => exact key FALSE (.inr rfl) h
theorem cell_ok {x y : Nat} (h : T.drop a = cellT x y ++ r) (hx : x < 20) (hy : y < 10) (hr : ∀ c s, r = c :: s → isFig c = false) : cellM T a = .ok ((x, y), a + (cellT x y).length) := by
  have hd : T.drop a = (65 + y) :: (numL (x + 1) ++ r) := by rw [h]; rfl
  have hd1 := drop_succ hd
  have hrun : run isFig T (a + 1) = a + 1 + (numL (x + 1)).length := run_app hd1 (num_all _) hr
  have hl : (numL (x + 1)).length ≤ 2 := numL_len (by decide) (by omega)
  have hp : 0 < (numL (x + 1)).length := List.length_pos_iff.mpr (numL_ne _)
  unfold cellM
  rw [hd]
  simp only
  rw [hrun, if_neg (by
    have hcol : isCol (65 + y) = true := by simp only [isCol, decide_eq_true_eq]; omega
    rw [hcol]
    rintro (h | h | h)
    · cases h
    · omega
    · omega), slice_app hd1, numL_val, if_neg (by omega)]
  have e1 : x + 1 - 1 = x := by omega
  have e2 : 65 + y - 65 = y := by omega
  have e3 : a + 1 + (numL (x + 1)).length = a + (cellT x y).length := by simp [cellT]; omega
  rw [e1, e2, e3]
theorem cells_great {x y : Nat} {s : List Nat} (h : T.drop a = cellT x y ++ s) (hy : y < 10) : parse T (n + 1) .great a o = cellsM T a := by
  have hd : T.drop a = [65 + y] ++ (numL (x + 1) ++ s) := by rw [h]; rfl
  obtain ⟨c, s', e, hc⟩ := num_head (x + 1)
  have hg : isGreat (65 + y) = true := by simp only [isGreat, decide_eq_true_eq]; omega
  have hcf := hc
  simp only [isFig, decide_eq_true_eq] at hcf
  have hnotG : ∀ c' s'', numL (x + 1) ++ s = c' :: s'' → isGreat c' = false := fun c' s'' q => by
    rw [e] at q
    injection q with q1 q2
    subst q1
    unfold isGreat
    rw [decide_eq_false_iff_not]
    omega
  unfold parse
  simp only
  rw [great_run hd (by simp [hg]) hnotG, slice_app hd, drop_app hd, if_neg (by rw [e]; simp; omega), if_neg (by simp [TRUE]), if_neg (by simp [FALSE])]
theorem atom_at {x y : Nat} (h : T.drop a = cellT x y ++ r) (hf : Fol 7 r) (hp : place x y = true) : parse T (n + 2) .atom a o = .ok (.at x y, a + (cellT x y).length) := by
  simp only [place, Bool.and_eq_true, decide_eq_true_eq] at hp
  refine atom_great (c := 65 + y) (s := numL (x + 1) ++ r) (by rw [h]; rfl) (by simp only [isGreat, decide_eq_true_eq]; omega) ?_
  rw [cells_great h hp.2]
  unfold cellsM
  rw [cell_ok h hp.1 hp.2 hf.notFig, R.bind_ok]
  simp only
  rw [drop_app h, if_neg (hf.take1 (by omega))]
theorem atom_box {x y l f : Nat} (h : T.drop a = cellT x y ++ 58 :: cellT l f ++ r) (hf : Fol 7 r) (hp : place x y = true) (hq : place l f = true) : parse T (n + 2) .atom a o = .ok (.box x y l f, a + (cellT x y ++ 58 :: cellT l f).length) := by
  simp only [place, Bool.and_eq_true, decide_eq_true_eq] at hp hq
  have h' : T.drop a = cellT x y ++ (58 :: (cellT l f ++ r)) := by rw [h]; simp
  refine atom_great (c := 65 + y) (s := numL (x + 1) ++ (58 :: (cellT l f ++ r))) (by rw [h']; rfl) (by simp only [isGreat, decide_eq_true_eq]; omega) ?_
  rw [cells_great h' hp.2]
  unfold cellsM
  have h2 := drop_app h'
  rw [cell_ok h' hp.1 hp.2 (fun c s q => by injection q with q1 q2; subst q1; rfl), R.bind_ok]
  simp only
  rw [h2, if_pos (by simp), cell_ok (drop_succ h2) hq.1 hq.2 hf.notFig, R.bind_ok]
  simp
  omega
theorem atom_word {w : List Nat} (h : T.drop a = w ++ r) (hf : Fol 7 r) (hw : wordOk isSmall w = true) : parse T (n + 1) .atom a o = .ok (.word w, a + w.length) := by
  obtain ⟨c, s, e, hc, hall⟩ := all_head hw
  have hd : T.drop a = c :: (s ++ r) := by rw [h, e]; rfl
  have hc' := hc
  simp only [isSmall, decide_eq_true_eq] at hc'
  have hr : run isSmall T a = a + w.length := run_app h hall fun c r' q => by
    have := hf.head q
    unfold isSmall
    rw [decide_eq_false_iff_not]
    omega
  unfold parse
  rw [hd]
  simp only
  rw [if_neg (by simp only [isFig, decide_eq_true_eq]; omega), if_neg (by omega), if_pos hc, hr, slice_app h]
theorem atom_lost (h : T.drop a = [35, 82, 69, 70] ++ r) : parse T (n + 1) .atom a o = .ok (.lost, a + 4) := by
  unfold parse
  rw [h]
  simp only [List.cons_append, List.nil_append]
  rw [if_neg (by decide), if_neg (by decide), if_neg (by decide), if_neg (by decide), if_pos (by simp)]
end

/-! ### the main claim -/
def PV (T : List Nat) (f : F) : Prop := ∀ lv n a o r, 1 ≤ lv → lv ≤ 5 → lv ≤ lev f → T.drop a = shown f ++ r → Fol lv r → 20 * depth f + 10 ≤ n + lv → o + 2 * depth f ≤ 20 → parse T n (.level lv) a o = .ok (f, a + (shown f).length)
def PW (T : List Nat) (f : F) : Prop := ∀ lv n a o r, 2 ≤ lv → lv ≤ 5 → T.drop a = within f lv ++ r → Fol lv r → 20 * depth f + 20 ≤ n + lv → o + 2 * depth f + 1 ≤ 20 → parse T n (.level lv) a o = .ok (f, a + (within f lv).length)
theorem lev_pos (f : F) : 1 ≤ lev f := by
  cases f <;> simp [lev]
  exact Op.lev_pos _
theorem pw_of {T : List Nat} {f : F} (h : PV T f) : PW T f := by
  intro lv n a o r h2 h5 hT hf hn ho
  unfold within at hT ⊢
  by_cases hl : lev f < lv
  · rw [decide_eq_true hl, wrap_true] at hT ⊢
    have hd : T.drop a = 40 :: (shown f ++ 41 :: r) := by rw [hT]; simp
    have hd1 := drop_succ hd
    refine up_atom (by omega) (by omega) h5 (fun k hk => ?_) (by omega) (by rw [hd]; simp) (by
      have := drop_app hT
      rw [this]; exact hf)
    obtain ⟨k, rfl⟩ : ∃ j, k = j + 1 := ⟨k - 1, by omega⟩
    have q := h 1 k (a + 1) (o + 1) (41 :: r) (Nat.le_refl _) (by omega) (lev_pos f) hd1 (.inr (.inl ⟨r, rfl⟩)) (by omega) (by omega)
    unfold parse
    rw [hd]
    simp only
    rw [if_neg (by decide), if_neg (by decide), if_neg (by decide), if_neg (by decide), if_neg (by simp), if_pos trivial, q, R.bind_ok]
    simp only
    rw [drop_app hd1, if_pos (by simp)]
    simp
    omega
  · rw [decide_eq_false hl, wrap_false] at hT ⊢
    exact h lv n a o r (by omega) h5 (by omega) hT hf (by omega) (by omega)

theorem join_len : ∀ ps : List (List Nat), (∀ p ∈ ps, p ≠ []) → ps.length ≤ (joinL [44, 32] ps).length
  | [], _ => by simp
  | [p], h => by
    have := List.length_pos_iff.mpr (h p (by simp))
    simp [joinL]
    omega
  | p :: q :: t, h => by
    have ih := join_len (q :: t) fun x hx => h x (List.mem_cons_of_mem _ hx)
    simp only [joinL, List.length_append, List.length_cons, List.length_nil] at ih ⊢
    omega
theorem depths_app : ∀ ps qs : List F, depths (ps ++ qs) = max (depths ps) (depths qs)
  | [], qs => by simp [depths]
  | p :: ps, qs => by
    simp only [List.cons_append, depths, depths_app ps qs]
    omega
theorem call_loop {T w : List Nat} {sub : Nat → R (F × Nat)} {r : List Nat} : ∀ (ps done : List F) (m b : Nat), ps ≠ [] → T.drop b = joinL [44, 32] (ps.map shown) ++ 41 :: r → ps.length ≤ m →
    (∀ p ∈ ps, ∀ b s, T.drop b = shown p ++ s → Fol 1 s → sub b = .ok (p, b + (shown p).length)) → depth (.call w (done ++ ps)) ≤ 8 →
    callM T sub w m done b = .ok (.call w (done ++ ps), b + (joinL [44, 32] (ps.map shown)).length + 1)
  | [], _, _, _, h, _, _, _, _ => absurd rfl h
  | [p], done, m, b, _, hT, hm, hs, hd => by
    obtain ⟨m, rfl⟩ : ∃ k, m = k + 1 := ⟨m - 1, by simp at hm; omega⟩
    have hT : T.drop b = shown p ++ 41 :: r := hT
    unfold callM
    rw [hs p (by simp) b _ hT (.inr (.inl ⟨r, rfl⟩)), R.bind_ok]
    simp only
    rw [drop_app hT, if_pos (by simp), letIn_ok hd]
    rfl
  | p :: q :: t, done, m, b, _, hT, hm, hs, hd => by
    obtain ⟨m, rfl⟩ : ∃ k, m = k + 1 := ⟨m - 1, by simp at hm; omega⟩
    have hT' : T.drop b = shown p ++ (44 :: 32 :: (joinL [44, 32] ((q :: t).map shown) ++ 41 :: r)) := by
      rw [hT]
      simp [joinL]
    have h2 := drop_app hT'
    have h3 : T.drop (b + (shown p).length + 2) = joinL [44, 32] ((q :: t).map shown) ++ 41 :: r := drop_succ (drop_succ h2)
    have e : done ++ p :: q :: t = (done ++ [p]) ++ (q :: t) := by simp
    have ih := call_loop (r := r) (q :: t) (done ++ [p]) m (b + (shown p).length + 2) (by simp) h3 (by simp at hm ⊢; omega) (fun x hx => hs x (List.mem_cons_of_mem _ hx)) (by rw [← e]; exact hd)
    unfold callM
    rw [hs p (by simp) b _ hT' (.inr (.inr (.inl ⟨_, rfl⟩))), R.bind_ok]
    simp only
    rw [h2, if_neg (by simp), if_pos (by simp), ih, e]
    simp [joinL]
    omega
theorem first_eq {o : Op} (h : 2 ≤ o.lev) : first o = o.lev := by
  unfold first
  rw [if_neg (by omega)]
theorem two_shown {o : Op} {f g : F} : shown (.two o f g) = within f (first o) ++ (32 :: (o.txt ++ 32 :: within g (o.lev + 1))) := by
  simp only [shown, within]

section
variable {T : List Nat}
def CH (T : List Nat) (L : Nat) (f : F) : Prop := ∀ n a o r, T.drop a = shown f ++ r → Fol (L + 1) r → 20 * depth f + 10 ≤ n + L + 1 → o + 2 * depth f ≤ 20 →
  ∃ f0 a0 k, parse T n (.level (L + 1)) a o = .ok (f0, a0) ∧ k ≤ (shown f).length ∧ ∀ m, loopM T L (fun b => parse T n (.level (L + 1)) b o) (m + k) f0 a0 = loopM T L (fun b => parse T n (.level (L + 1)) b o) m f (a + (shown f).length)
theorem depth_two {o : Op} {f g : F} : depth (.two o f g) = 1 + max (depth f) (max (depth g) 0) := by simp only [depth]
theorem size_two {o : Op} {f g : F} : size (.two o f g) = 1 + (size f + (size g + 0)) := by simp only [size]
/-- one turn -/
theorem one_turn {L : Nat} {op : Op} {f g : F} {n o a m : Nat} {r : List Nat} (hL : op.lev = L) (h2 : L ≠ 1) (hg : PW T g) (h5 : L ≤ 4) (h1 : 1 ≤ L)
    (hT : T.drop a = 32 :: (op.txt ++ 32 :: within g (L + 1)) ++ r) (hf : Fol (L + 1) r) (hn : 20 * depth g + 20 ≤ n + L + 1) (ho : o + 2 * depth g + 1 ≤ 20) (hd : depth (.two op f g) ≤ 8) :
    loopM T L (fun b => parse T n (.level (L + 1)) b o) (m + 1) f a = loopM T L (fun b => parse T n (.level (L + 1)) b o) m (.two op f g) (a + (32 :: (op.txt ++ 32 :: within g (L + 1))).length) := by
  have hT2 : T.drop a = 32 :: (op.txt ++ 32 :: (within g (L + 1) ++ r)) := by rw [hT]; simp
  have hT3 : T.drop (a + op.txt.length + 2) = within g (L + 1) ++ r := by
    have e : T.drop a = (32 :: (op.txt ++ [32])) ++ (within g (L + 1) ++ r) := by rw [hT2]; simp
    have := drop_app e
    rw [← this]
    congr 1
    simp
    omega
  have q := hg (L + 1) n (a + op.txt.length + 2) o r (by omega) (by omega) hT3 hf (by omega) ho
  conv => lhs; unfold loopM
  rw [sign_of hT2]
  simp only
  rw [if_pos hL, q, R.bind_ok]
  simp only
  rw [letIn_ok hd, R.bind_ok, if_neg h2]
  congr 1
  simp
  omega
theorem chain (k : Nat) (IH : ∀ g, size g < k → good g = true → depth g ≤ 8 → PV T g) {L : Nat} (h2 : 2 ≤ L) (h4 : L ≤ 4) : ∀ (s : Nat) (f : F), size f ≤ s → size f ≤ k → good f = true → depth f ≤ 8 → lev f = L → CH T L f
  | 0, f, hs, _, _, _, _ => by have := size_pos f; omega
  | s + 1, f, hs, hk, hg, hd, hl => by
    obtain ⟨op, x, y, rfl⟩ : ∃ op x y, f = .two op x y := by
      cases f <;> simp [lev] at hl <;> first | omega | exact ⟨_, _, _, rfl⟩
    have hl : op.lev = L := hl
    have hd2 := hd
    rw [depth_two] at hd2
    rw [size_two] at hs hk
    simp only [good, Bool.and_eq_true] at hg
    have hx1 := size_pos x
    have hy1 := size_pos y
    have px := IH x (by omega) hg.1 (by omega)
    have wy := pw_of (IH y (by omega) hg.2 (by omega))
    intro n a o r hT hf hn ho
    rw [depth_two] at hn ho
    rw [two_shown, first_eq (by omega), hl] at hT ⊢
    have hT1 : T.drop a = within x L ++ ((32 :: (op.txt ++ 32 :: within y (L + 1))) ++ r) := by rw [hT]; simp
    have hT2 := drop_app hT1
    have fol : Fol (L + 1) ((32 :: (op.txt ++ 32 :: within y (L + 1))) ++ r) := .inr (.inr (.inr ⟨op, within y (L + 1) ++ r, by simp, by omega⟩))
    have step := fun m => one_turn (T := T) (m := m) (f := x) (n := n) (o := o) hl (by omega) wy h4 (by omega) hT2 hf (by omega) (by omega) hd
    have len : (within x L).length + (32 :: (op.txt ++ 32 :: within y (L + 1))).length = (within x L ++ (32 :: (op.txt ++ 32 :: within y (L + 1)))).length := by rw [List.length_append]
    have fin : ∀ {f0 a0 k}, parse T n (.level (L + 1)) a o = .ok (f0, a0) → k ≤ (within x L).length → (∀ m, loopM T L (fun b => parse T n (.level (L + 1)) b o) (m + k) f0 a0 = loopM T L (fun b => parse T n (.level (L + 1)) b o) m x (a + (within x L).length)) →
        ∃ f0 a0 k, parse T n (.level (L + 1)) a o = .ok (f0, a0) ∧ k ≤ (within x L ++ (32 :: (op.txt ++ 32 :: within y (L + 1)))).length ∧ ∀ m, loopM T L (fun b => parse T n (.level (L + 1)) b o) (m + k) f0 a0 = loopM T L (fun b => parse T n (.level (L + 1)) b o) m (.two op x y) (a + (within x L ++ (32 :: (op.txt ++ 32 :: within y (L + 1)))).length) := by
      intro f0 a0 k h1 h2 h3
      refine ⟨f0, a0, k + 1, h1, ?_, fun m => ?_⟩
      · rw [← len]; simp; omega
      · rw [show m + (k + 1) = (m + 1) + k by omega, h3 (m + 1), step m, ← len]
        congr 1
        omega
    by_cases hb : lev x < L
    · have e : within x L = within x (L + 1) := by unfold within; rw [decide_eq_true hb, decide_eq_true (show lev x < L + 1 by omega)]
      have hT1' := hT1
      rw [e] at hT1'
      have q := pw_of px (L + 1) n a o _ (by omega) (by omega) hT1' fol (by omega) (by omega)
      refine fin (k := 0) q (Nat.zero_le _) fun m => ?_
      rw [e]
      rfl
    · have e : within x L = shown x := by unfold within; rw [decide_eq_false hb]; rfl
      rw [e] at hT1 hT2 fin
      by_cases hq : lev x = L
      · obtain ⟨f0, a0, k0, h1, h2, h3⟩ := chain k IH h2 h4 s x (by omega) (by omega) hg.1 (by omega) hq n a o _ hT1 fol (by omega) (by omega)
        have := fin h1 h2 h3
        rw [e]
        exact this
      · have q := px (L + 1) n a o _ (by omega) (by omega) (by omega) hT1 fol (by omega) (by omega)
        have := fin (k := 0) q (Nat.zero_le _) fun m => rfl
        rw [e]
        exact this
/-- from a formula's own level down to looser ones -/
theorem down {f : F} {n a o : Nat} {r : List Nat} {l : Nat} (ho : o ≤ 20) (hT : T.drop a = shown f ++ r) : ∀ (j : Nat), j + 1 ≤ l → l ≤ 5 → ∀ n, (∀ n', n' + j = n → parse T n' (.level l) a o = .ok (f, a + (shown f).length)) → j ≤ n → Fol (l - j) r →
    parse T n (.level (l - j)) a o = .ok (f, a + (shown f).length)
  | 0, _, _, n, h, _, _ => h n rfl
  | j + 1, hj, h5, n, h, hn, hf => by
    obtain ⟨n, rfl⟩ : ∃ k, n = k + 1 := ⟨n - 1, by omega⟩
    have ih := down (n := 0) ho hT j (by omega) h5 n (fun n' e => h n' (by omega)) (by omega) (hf.mono (by omega))
    unfold parse
    rw [if_neg (by omega), if_neg (by omega), show l - (j + 1) + 1 = l - j by omega, ih, R.bind_ok]
    refine loop_stop ?_ (by omega)
    simp only
    rw [drop_app hT]
    exact hf
theorem back_two (k : Nat) (IH : ∀ g, size g < k → good g = true → depth g ≤ 8 → PV T g) {op : Op} {x y : F} (hk : size (.two op x y) ≤ k) (hg : good (.two op x y) = true) (hd : depth (.two op x y) ≤ 8) : PV T (.two op x y) := by
  intro lv n a o r h1 h5 hl hT hf hn ho
  have hl : lv ≤ op.lev := hl
  have hdp := depth_two (o := op) (f := x) (g := y)
  have h4 := op.lev_le
  have own : ∀ n', 20 * depth (.two op x y) + 10 ≤ n' + op.lev → Fol op.lev r → parse T n' (.level op.lev) a o = .ok (.two op x y, a + (shown (.two op x y)).length) := by
    intro n' hn' hf'
    obtain ⟨n', rfl⟩ : ∃ k, n' = k + 1 := ⟨n' - 1, by omega⟩
    by_cases h2 : 2 ≤ op.lev
    · obtain ⟨f0, a0, k0, q1, q2, q3⟩ := chain k IH h2 h4 (size (.two op x y)) _ (Nat.le_refl _) hk hg hd rfl n' a o r hT (hf'.mono (by omega)) (by omega) (by omega)
      unfold parse
      rw [if_neg (by omega), if_neg (by omega), q1, R.bind_ok]
      simp only
      have hlen := drop_len hT
      rw [show T.length + 2 = (T.length + 2 - k0) + k0 by omega, q3]
      refine loop_stop ?_ (by omega)
      rw [drop_app hT]
      exact hf'
    · have e1 : op.lev = 1 := by have := op.lev_pos; omega
      rw [size_two] at hk
      have hx1 := size_pos x
      have hy1 := size_pos y
      simp only [good, Bool.and_eq_true] at hg
      have wx := pw_of (IH x (by omega) hg.1 (by omega))
      have wy := pw_of (IH y (by omega) hg.2 (by omega))
      have ef : first op = 2 := by unfold first; rw [if_pos e1]
      rw [e1] at hf' ⊢
      rw [two_shown, ef, e1] at hT ⊢
      have hT1 : T.drop a = within x 2 ++ ((32 :: (op.txt ++ 32 :: within y 2)) ++ r) := by rw [hT]; simp
      have hT2 := drop_app hT1
      have hT2' : T.drop (a + (within x 2).length) = 32 :: (op.txt ++ 32 :: (within y 2 ++ r)) := by rw [hT2]; simp
      have hT3 : T.drop (a + (within x 2).length + op.txt.length + 2) = within y 2 ++ r := by
        have e : T.drop (a + (within x 2).length) = (32 :: (op.txt ++ [32])) ++ (within y 2 ++ r) := by rw [hT2']; simp
        have := drop_app e
        rw [← this]
        congr 1
        simp
        omega
      have fol : Fol 2 ((32 :: (op.txt ++ 32 :: within y 2)) ++ r) := .inr (.inr (.inr ⟨op, within y 2 ++ r, by simp, by omega⟩))
      have q := wx 2 n' a o _ (by omega) (by omega) hT1 fol (by omega) (by omega)
      have q2 := wy 2 n' (a + (within x 2).length + op.txt.length + 2) o r (by omega) (by omega) hT3 (hf'.mono (by omega)) (by omega) (by omega)
      unfold parse
      rw [if_neg (by omega), if_neg (by omega), q, R.bind_ok]
      simp only
      unfold loopM
      rw [sign_of hT2']
      simp only
      rw [if_pos e1, q2, R.bind_ok]
      simp only
      rw [letIn_ok hd, R.bind_ok, if_pos trivial]
      simp
      omega
  have q := down (T := T) (f := .two op x y) (n := 0) (l := op.lev) (by omega) hT (op.lev - lv) (by omega) (by omega) n (fun n' e => own n' (by omega) (hf.mono hl)) (by omega) (by rw [show op.lev - (op.lev - lv) = lv by omega]; exact hf)
  rw [show op.lev - (op.lev - lv) = lv by omega] at q
  exact q
end

theorem back (T : List Nat) : ∀ (k : Nat) (f : F), size f ≤ k → good f = true → depth f ≤ 8 → PV T f
  | 0, f, h, _, _ => by have := size_pos f; omega
  | k + 1, f, hk, hg, hd => by
    have IH : ∀ g, size g < k + 1 → good g = true → depth g ≤ 8 → PV T g := fun g h => back T k g (by omega)
    obtain ⟨c0, s0, e0, _, h45⟩ := shown_head f hg
    -- atoms
    have atoms : lev f = 6 → (∀ n a o r, T.drop a = shown f ++ r → Fol 7 r → 20 * depth f + 10 ≤ n + 7 → o + 2 * depth f ≤ 20 → parse T n .atom a o = .ok (f, a + (shown f).length)) → PV T f := by
      intro h6 h lv n a o r h1 h5 hl hT hf hn ho
      refine up_atom (by omega) h1 h5 (fun j hj => h j a o r hT (hf.mono (by omega)) (by omega) ho) (by omega) ?_ (by rw [drop_app hT]; exact hf)
      rw [hT, e0]
      have := h45 h6
      simp
      omega
    cases f with
    | num j =>
      refine atoms rfl fun n a o r hT hf hn ho => ?_
      obtain ⟨n, rfl⟩ : ∃ k, n = k + 1 := ⟨n - 1, by simp only [depth] at hn; omega⟩
      simp only [good, decide_eq_true_eq] at hg
      simp only [shown] at hT ⊢
      exact atom_num hT hf hg
    | txt t =>
      refine atoms rfl fun n a o r hT hf hn ho => ?_
      obtain ⟨n, rfl⟩ : ∃ k, n = k + 1 := ⟨n - 1, by simp only [depth] at hn; omega⟩
      simp only [shown] at hT ⊢
      exact atom_txt hT hf
    | tru b =>
      refine atoms rfl fun n a o r hT hf hn ho => ?_
      obtain ⟨n, rfl⟩ : ∃ k, n = k + 2 := ⟨n - 2, by simp only [depth] at hn; omega⟩
      simp only [shown] at hT ⊢
      exact atom_tru hT hf
    | «at» x y =>
      refine atoms rfl fun n a o r hT hf hn ho => ?_
      obtain ⟨n, rfl⟩ : ∃ k, n = k + 2 := ⟨n - 2, by simp only [depth] at hn; omega⟩
      simp only [shown] at hT ⊢
      simp only [good] at hg
      exact atom_at hT hf hg
    | box x y l f =>
      refine atoms rfl fun n a o r hT hf hn ho => ?_
      obtain ⟨n, rfl⟩ : ∃ k, n = k + 2 := ⟨n - 2, by simp only [depth] at hn; omega⟩
      simp only [shown] at hT ⊢
      simp only [good, Bool.and_eq_true] at hg
      exact atom_box hT hf hg.1.1.1 hg.1.1.2
    | word w =>
      refine atoms rfl fun n a o r hT hf hn ho => ?_
      obtain ⟨n, rfl⟩ : ∃ k, n = k + 1 := ⟨n - 1, by simp only [depth] at hn; omega⟩
      simp only [shown] at hT ⊢
      simp only [good] at hg
      exact atom_word hT hf hg
    | lost =>
      refine atoms rfl fun n a o r hT hf hn ho => ?_
      obtain ⟨n, rfl⟩ : ∃ k, n = k + 1 := ⟨n - 1, by simp only [depth] at hn; omega⟩
      simp only [shown] at hT ⊢
      exact atom_lost hT
    | less p =>
      intro lv n a o r h1 h5 hl hT hf hn ho
      have dp : depth (.less p) = 1 + max (depth p) 0 := by simp only [depth]
      have sp : size (.less p) = 1 + (size p + 0) := by simp only [size]
      simp only [good] at hg
      have wp := pw_of (IH p (by omega) hg (by omega))
      have sh : shown (.less p) = 45 :: within p 5 := by simp only [shown, within]
      rw [sh] at hT ⊢
      have hT' : T.drop a = 45 :: (within p 5 ++ r) := hT
      have hT1 := drop_succ hT'
      refine up_less (by omega) h1 h5 (fun j hj => ?_) (by omega) (by rw [drop_app hT]; exact hf)
      obtain ⟨j, rfl⟩ : ∃ k, j = k + 1 := ⟨j - 1, by omega⟩
      have q := wp 5 (j + 1) (a + 1) (o + 1) r (by omega) (by omega) hT1 (hf.mono h5) (by omega) (by omega)
      unfold parse at q
      rw [if_neg (by omega), if_pos rfl] at q
      unfold parse
      rw [hT', if_pos (by simp), q, R.bind_ok]
      simp only
      rw [letIn_ok hd]
      simp
      omega
    | two op x y => exact back_two (k + 1) IH hk hg hd
    | call w ps =>
      refine atoms rfl fun n a o r hT hf hn ho => ?_
      have dp : depth (.call w ps) = 1 + depths ps := by simp only [depth]
      have sp : size (.call w ps) = 1 + sizes ps := by simp only [size]
      obtain ⟨n, rfl⟩ : ∃ k, n = k + 3 := ⟨n - 3, by omega⟩
      have hg' := hg
      simp only [good, Bool.and_eq_true, goods_all, List.all_eq_true] at hg'
      obtain ⟨c, s, e, hc, hall⟩ := all_head hg'.1.1
      have sh : shown (.call w ps) = w ++ 40 :: (joinL [44, 32] (ps.map shown) ++ [41]) := by simp only [shown, showns_map]
      rw [sh] at hT ⊢
      have hT0 : T.drop a = w ++ (40 :: (joinL [44, 32] (ps.map shown) ++ 41 :: r)) := by rw [hT]; simp
      have hT1 := drop_app hT0
      have hT2 := drop_succ hT1
      refine atom_great (c := c) (s := s ++ (40 :: (joinL [44, 32] (ps.map shown) ++ 41 :: r))) (by rw [hT0, e]; rfl) hc ?_
      unfold parse
      simp only
      rw [great_run hT0 hall (fun c s q => by injection q with q1 q2; subst q1; rfl), slice_app hT0, hT1, if_pos (by simp)]
      unfold parse
      rw [hT2]
      cases ps with
      | nil =>
        rw [if_pos (by simp [joinL])]
        simp [joinL]
        omega
      | cons p t =>
        obtain ⟨c1, s1, e1, h41, _⟩ := shown_head p (hg'.2 p (by simp))
        have hne : ((joinL [44, 32] ((p :: t).map shown) ++ 41 :: r).take 1) ≠ [41] := by
          cases t with
          | nil => simp [joinL, e1]; omega
          | cons q t => simp [joinL, e1]; omega
        rw [if_neg hne]
        have hsub : ∀ x ∈ p :: t, ∀ b s, T.drop b = shown x ++ s → Fol 1 s → (fun b => parse T n (.level 1) b (o + 1)) b = .ok (x, b + (shown x).length) := by
          intro x hx b s hb hs
          have d1 := depths_mem hx
          have s1 := sizes_mem hx
          exact IH x (by omega) (hg'.2 x hx) (by omega) 1 n b (o + 1) s (by omega) (by omega) (lev_pos x) hb hs (by omega) (by omega)
        have hlen : (p :: t).length ≤ T.length + 2 := by
          have j := join_len ((p :: t).map shown) fun x hx => by
            obtain ⟨y, hy, rfl⟩ := List.mem_map.mp hx
            obtain ⟨c, s, e, _⟩ := shown_head y (hg'.2 y hy)
            rw [e]; simp
          have := drop_len hT2
          rw [List.length_map] at j
          omega
        have q := call_loop (T := T) (w := w) (r := r) (p :: t) [] (T.length + 2) (a + w.length + 1) (by simp) hT2 hlen hsub hd
        rw [q]
        simp
        omega
theorem back_read {f : F} {n : Nat} (hf : isForm f = true) (hd : depth f ≤ 8) (h2 : 2 * depth f ≤ 20) (hn : 20 * depth f + 10 ≤ n) : readM n (shown f) = .ok f := by
  have hf' := hf
  simp only [isForm, Bool.and_eq_true, decide_eq_true_eq] at hf'
  have q := back (shown f) (size f) f (Nat.le_refl _) hf'.1.1 hd 1 n 0 0 [] (by omega) (by omega) (lev_pos f) (by simp) (.inl rfl) (by omega) (by omega)
  unfold readM
  rw [q, R.bind_ok]
  simp [hf]
end Ws
end

section
set_option Elab.async false
set_option linter.all false
set_option maxRecDepth 100000
set_option maxHeartbeats 4000000
/-! values as data: what stands at a value is None, a truth, a number, a text or a tuple of such; readings that come to such data -/
namespace Ws
open PySem PySem.Spec PyProof.Rows L2 Evl

abbrev S := L2.St

abbrev Ex := @Evl.Ex
mutual
inductive Tp (K : PySem.W.Frag) (H : Hp) : V → PyData → Prop
  | non : Tp K H .non .none
  | bl (b : Bool) : Tp K H (.bl b) (.bool b)
  | int (i : Int) : Tp K H (.int i) (.int i)
  | str (x : Str) : Tp K H (.str x) (.str x)
  | tup {a : Addr} {xs : List V} {ds : List PyData} : SqT K H a xs → TpAll K H xs ds → Tp K H (.ref a) (.tuple ds)
inductive TpAll (K : PySem.W.Frag) (H : Hp) : List V → List PyData → Prop
  | nil : TpAll K H [] []
  | cons {v : V} {vs : List V} {d : PyData} {ds : List PyData} : Tp K H v d → TpAll K H vs ds → TpAll K H (v :: vs) (d :: ds)
end
/-- tuples and locked things are kept -/
def Kp (H H' : Hp) : Prop := (∀ a xs, H a = some (.tup xs) → H' a = some (.tup xs)) ∧ ∀ a o u, H a = some (.frz o u) → H' a = some (.frz o u)
theorem Kp.of {H H' : Hp} (e : Ex H H') : Kp H H' := ⟨fun a xs h => e a _ h, fun a o u h => e a _ h⟩
theorem Kp.refl (H : Hp) : Kp H H := ⟨fun _ _ h => h, fun _ _ _ h => h⟩
theorem Kp.trans {H H1 H2 : Hp} (a : Kp H H1) (b : Kp H1 H2) : Kp H H2 := ⟨fun c xs h => b.1 c xs (a.1 c xs h), fun c o u h => b.2 c o u (a.2 c o u h)⟩
theorem Kp.upd {H : Hp} {a : Addr} {o : HO} (h1 : ∀ xs, H a ≠ some (.tup xs)) (h2 : ∀ u x, H a ≠ some (.frz u x)) : Kp H (upd H a o) :=
  ⟨fun b xs h => by rw [upd_ne (fun e => by subst e; exact h1 _ h)]; exact h, fun b u x h => by rw [upd_ne (fun e => by subst e; exact h2 _ _ h)]; exact h⟩
theorem Kp.lst {H : Hp} {a : Addr} {o : HO} {xs : List V} (h : H a = some (.lst xs)) : Kp H (L2.upd H a o) := Kp.upd (fun _ e => by rw [h] at e; cases e) (fun _ _ e => by rw [h] at e; cases e)
theorem Kp.new {H : Hp} {a : Addr} {o : HO} (h : H a = none) : Kp H (L2.upd H a o) := Kp.of (Evl.Ex.new h)
theorem sqt_kp {K : PySem.W.Frag} {H H' : Hp} {a : Addr} {xs : List V} (e : Kp H H') (h : SqT K H a xs) : SqT K H' a xs := by
  rcases h with (h | ⟨o, h⟩) | h
  · exact .inl (.inl (e.1 _ _ h))
  · exact .inl (.inr ⟨o, e.2 _ _ _ h⟩)
  · exact .inr h
section
variable {K : PySem.W.Frag} {H H' : Hp}
mutual
theorem Tp.kp (e : Kp H H') : ∀ {v : V} {d : PyData}, Tp K H v d → Tp K H' v d
  | _, _, .non => .non
  | _, _, .bl b => .bl b
  | _, _, .int i => .int i
  | _, _, .str x => .str x
  | _, _, .tup h a => .tup (sqt_kp e h) (TpAll.kp e a)
theorem TpAll.kp (e : Kp H H') : ∀ {vs : List V} {ds : List PyData}, TpAll K H vs ds → TpAll K H' vs ds
  | _, _, .nil => .nil
  | _, _, .cons h a => .cons (Tp.kp e h) (TpAll.kp e a)
end
theorem Tp.ex {v : V} {d : PyData} (h : Tp K H v d) (e : Ex H H') : Tp K H' v d := h.kp (Kp.of e)
theorem TpAll.ex {vs : List V} {ds : List PyData} (h : TpAll K H vs ds) (e : Ex H H') : TpAll K H' vs ds := h.kp (Kp.of e)
mutual
theorem Tp.dp : ∀ {v : V} {d : PyData}, Tp K H v d → Dp K H v d
  | _, _, .non => .non
  | _, _, .bl b => .bl b
  | _, _, .int i => .int i
  | _, _, .str x => .str x
  | _, _, .tup h a => .tup h (TpAll.dp a)
theorem TpAll.dp : ∀ {vs : List V} {ds : List PyData}, TpAll K H vs ds → DpAll K H vs ds
  | _, _, .nil => .nil
  | _, _, .cons h a => .cons (Tp.dp h) (TpAll.dp a)
end
theorem Tp.int_eq {v : V} {i : Int} (h : Tp K H v (.int i)) : v = .int i := by cases h; rfl
theorem Tp.str_eq {v : V} {x : Str} (h : Tp K H v (.str x)) : v = .str x := by cases h; rfl
theorem Tp.bl_eq {v : V} {b : Bool} (h : Tp K H v (.bool b)) : v = .bl b := by cases h; rfl
theorem Tp.non_eq {v : V} (h : Tp K H v .none) : v = .non := by cases h; rfl
theorem Tp.tup_eq {v : V} {ds : List PyData} (h : Tp K H v (.tuple ds)) : ∃ a xs, v = .ref a ∧ SqT K H a xs ∧ TpAll K H xs ds := by
  cases h with
  | tup h a => exact ⟨_, _, rfl, h, a⟩
theorem TpAll.len : ∀ {vs : List V} {ds : List PyData}, TpAll K H vs ds → vs.length = ds.length
  | _, _, .nil => rfl
  | _, _, .cons _ a => by simp [TpAll.len a]
theorem TpAll.get : ∀ {vs : List V} {ds : List PyData} {i : Nat} {d : PyData}, TpAll K H vs ds → ds[i]? = some d → ∃ v, vs[i]? = some v ∧ Tp K H v d
  | _, _, _, _, .nil, e => by simp at e
  | _, _, 0, _, .cons h _, e => by simp at e; subst e; exact ⟨_, rfl, h⟩
  | _, _, i + 1, d, .cons _ a, e => by
    obtain ⟨v, h1, h2⟩ := TpAll.get (i := i) a (by simpa using e)
    exact ⟨v, by simpa using h1, h2⟩
theorem TpAll.app : ∀ {vs ws : List V} {ds es : List PyData}, TpAll K H vs ds → TpAll K H ws es → TpAll K H (vs ++ ws) (ds ++ es)
  | _, _, _, _, .nil, b => b
  | _, _, _, _, .cons h a, b => .cons h (TpAll.app a b)
theorem TpAll.one {v : V} {d : PyData} (h : Tp K H v d) : TpAll K H [v] [d] := .cons h .nil
theorem TpAll.one_eq {vs : List V} {a : PyData} (h : TpAll K H vs [a]) : ∃ x, vs = [x] ∧ Tp K H x a := by
  cases h with
  | cons h r => cases r; exact ⟨_, rfl, h⟩
theorem TpAll.two_eq {vs : List V} {a b : PyData} (h : TpAll K H vs [a, b]) : ∃ x y, vs = [x, y] ∧ Tp K H x a ∧ Tp K H y b := by
  cases h with
  | cons h r =>
    obtain ⟨y, rfl, hy⟩ := r.one_eq
    exact ⟨_, y, rfl, h, hy⟩
theorem TpAll.three_eq {vs : List V} {a b c : PyData} (h : TpAll K H vs [a, b, c]) : ∃ x y z, vs = [x, y, z] ∧ Tp K H x a ∧ Tp K H y b ∧ Tp K H z c := by
  cases h with
  | cons h r =>
    obtain ⟨y, z, rfl, hy⟩ := r.two_eq
    exact ⟨_, y, z, rfl, h, hy⟩
theorem TpAll.four_eq {vs : List V} {a b c d : PyData} (h : TpAll K H vs [a, b, c, d]) : ∃ x y z u, vs = [x, y, z, u] ∧ Tp K H x a ∧ Tp K H y b ∧ Tp K H z c ∧ Tp K H u d := by
  cases h with
  | cons h r =>
    obtain ⟨y, z, u, rfl, hy⟩ := r.three_eq
    exact ⟨_, y, z, u, rfl, h, hy⟩
theorem TpAll.ints : ∀ {vs : List V} {is : List Int}, TpAll K H vs (is.map PyData.int) → vs = is.map V.int
  | [], [], _ => rfl
  | _ :: _, _ :: _, .cons h a => by rw [h.int_eq, TpAll.ints a]; rfl
  | _ :: _, [], h => by cases h
  | [], _ :: _, h => by cases h
theorem TpAll.bls : ∀ {vs : List V} {is : List Bool}, TpAll K H vs (is.map PyData.bool) → vs = is.map V.bl
  | [], [], _ => rfl
  | _ :: _, _ :: _, .cons h a => by rw [h.bl_eq, TpAll.bls a]; rfl
  | _ :: _, [], h => by cases h
  | [], _ :: _, h => by cases h
theorem TpAll.strs : ∀ {vs : List V} {is : List Str}, TpAll K H vs (is.map PyData.str) → vs = is.map V.str
  | [], [], _ => rfl
  | _ :: _, _ :: _, .cons h a => by rw [h.str_eq, TpAll.strs a]; rfl
  | _ :: _, [], h => by cases h
  | [], _ :: _, h => by cases h
end

/-! ### readings -/
section
variable (K : PySem.W.Frag)
/-- comes to data, leaving all that was -/
def EvD (te : TE) (σ : S) (H : Hp) (d : PyData) : Prop := ∀ H1, Ex H H1 → ∀ Q : VK, (∀ v H2, Ex H1 H2 → Tp K H2 v d → Q v H2) → te σ H1 Q
def EvDA (ta : TA) (σ : S) (H : Hp) (ds : List PyData) : Prop := ∀ H1, Ex H H1 → ∀ Q : List V → Hp → Prop, (∀ vs H2, Ex H1 H2 → TpAll K H2 vs ds → Q vs H2) → ta σ H1 Q
/-- comes to a new list of data -/
def EvDL (te : TE) (σ : S) (H : Hp) (ds : List PyData) : Prop := ∀ H1, Ex H H1 → ∀ Q : VK, (∀ p xs H2, H1 p = none → Ex H1 H2 → H2 p = some (.lst xs) → TpAll K H2 xs ds → Q (.ref p) H2) → te σ H1 Q
end
section
variable {K : PySem.W.Frag} {σ : S} {H H' : Hp} {ta tb te : TE} {tt : TT} {d : PyData} {ds : List PyData} {v : V}
theorem EvD.mono (h : EvD K te σ H d) (e : Ex H H') : EvD K te σ H' d := fun H1 a Q q => h H1 (e.trans a) Q q
theorem EvDA.mono {ta : TA} (h : EvDA K ta σ H ds) (e : Ex H H') : EvDA K ta σ H' ds := fun H1 a Q q => h H1 (e.trans a) Q q
theorem d_of (h : Ev te σ H v) (hd : Tp K H v d) : EvD K te σ H d := fun H1 e Q q => h H1 e Q fun H2 e2 => q v H2 e2 (hd.ex (e.trans e2))
theorem d_int {i : Int} (h : Ev te σ H (.int i)) : EvD K te σ H (.int i) := d_of h (.int i)
theorem d_str {x : Str} (h : Ev te σ H (.str x)) : EvD K te σ H (.str x) := d_of h (.str x)
theorem d_bl {b : Bool} (h : Ev te σ H (.bl b)) : EvD K te σ H (.bool b) := d_of h (.bl b)
theorem d_non (h : Ev te σ H .non) : EvD K te σ H .none := d_of h .non
theorem v_int {i : Int} (h : EvD K te σ H (.int i)) : Ev te σ H (.int i) := fun H1 e Q q => h H1 e Q fun v H2 e2 t => by rw [t.int_eq]; exact q H2 e2
theorem v_str {x : Str} (h : EvD K te σ H (.str x)) : Ev te σ H (.str x) := fun H1 e Q q => h H1 e Q fun v H2 e2 t => by rw [t.str_eq]; exact q H2 e2
theorem v_bl {b : Bool} (h : EvD K te σ H (.bool b)) : Ev te σ H (.bl b) := fun H1 e Q q => h H1 e Q fun v H2 e2 t => by rw [t.bl_eq]; exact q H2 e2
theorem v_non (h : EvD K te σ H .none) : Ev te σ H .non := fun H1 e Q q => h H1 e Q fun v H2 e2 t => by rw [t.non_eq]; exact q H2 e2
theorem d_var {i : Nat} (h : σ[i]? = some (some v)) (hd : Tp K H v d) : EvD K (tVar i) σ H d := d_of (ev_var h) hd
theorem d_is {d' : PyData} (h : EvD K te σ H d) (e : d = d') : EvD K te σ H d' := e ▸ h
theorem da_nil : EvDA K tNil σ H [] := fun H1 _ _ q => q [] H1 (Evl.Ex.refl H1) .nil
theorem da_cons {tr : TA} (h : EvD K ta σ H d) (hr : EvDA K tr σ H ds) : EvDA K (tCons ta tr) σ H (d :: ds) := fun H1 e _ q =>
  h H1 e _ fun v H2 e2 t => hr H2 (e.trans e2) _ fun vs H3 e3 ts => q _ H3 (e2.trans e3) (.cons (t.ex e3) ts)
theorem d_tup {ta : TA} (h : EvDA K ta σ H ds) (hl : ds.length ≤ 100000 := by simp) : EvD K (tTup ta) σ H (.tuple ds) := fun H1 e _ q =>
  h H1 e _ fun vs H2 e2 ts => ⟨sz_of (by rw [ts.len]; exact hl), fun p hp => q _ _ (e2.trans (Evl.Ex.new hp)) (.tup (st_of upd_same) (ts.ex (Evl.Ex.new hp)))⟩
theorem dl_lst {ta : TA} (h : EvDA K ta σ H ds) (hl : ds.length ≤ 100000 := by simp) : EvDL K (tLst ta) σ H ds := fun H1 e _ q =>
  h H1 e _ fun vs H2 e2 ts => ⟨sz_of (by rw [ts.len]; exact hl), fun p hp => q p vs _ (fresh_back e2 hp) (e2.trans (Evl.Ex.new hp)) upd_same (ts.ex (Evl.Ex.new hp))⟩
theorem d_ixT {j : Nat} (ha : EvD K ta σ H (.tuple ds)) (hb : Ev tb σ H (.int (j : Int))) (hj : ds[j]? = some d) : EvD K (tOp (rIxT K) ta tb) σ H d := fun H1 e Q q =>
  ha H1 e _ fun v H2 e2 t => hb H2 (e.trans e2) _ fun H3 e3 => by
    obtain ⟨a, xs, rfl, hs, hx⟩ := t.tup_eq
    obtain ⟨w, h1, h2⟩ := hx.get hj
    exact ⟨a, xs, (j : Int), w, rfl, rfl, sqt_kp (Kp.of e3) hs, atI_nat h1, q w H3 (e2.trans e3) (h2.ex e3)⟩
/-- v[0], v[1], .. -/
theorem d_ix0 (ha : EvD K ta σ H (.tuple (d :: ds))) : EvD K (tOp (rIxT K) ta (tC (.int 0))) σ H d := d_ixT (j := 0) ha ev_c rfl
theorem d_ix1 {d0 : PyData} (ha : EvD K ta σ H (.tuple (d0 :: d :: ds))) : EvD K (tOp (rIxT K) ta (tC (.int 1))) σ H d := d_ixT (j := 1) ha ev_c rfl
theorem d_ix2 {d0 d1 : PyData} (ha : EvD K ta σ H (.tuple (d0 :: d1 :: d :: ds))) : EvD K (tOp (rIxT K) ta (tC (.int 2))) σ H d := d_ixT (j := 2) ha ev_c rfl
theorem d_ix3 {d0 d1 d2 : PyData} (ha : EvD K ta σ H (.tuple (d0 :: d1 :: d2 :: d :: ds))) : EvD K (tOp (rIxT K) ta (tC (.int 3))) σ H d := d_ixT (j := 3) ha ev_c rfl
theorem d_ix4 {d0 d1 d2 d3 : PyData} (ha : EvD K ta σ H (.tuple (d0 :: d1 :: d2 :: d3 :: d :: ds))) : EvD K (tOp (rIxT K) ta (tC (.int 4))) σ H d := d_ixT (j := 4) ha ev_c rfl
/-- equal texts, numbers, truths -/
theorem t_eqS {x y : Str} (ha : Ev ta σ H (.str x)) (hb : Ev tb σ H (.str y)) : EvT (tTest (tOp rEq ta tb)) σ H (decide (x = y)) := et_is (et_test (ev_op ha hb (rv_eq rfl))) (by
  by_cases h : x = y
  · subst h; simp
  · rw [decide_eq_false h, decide_eq_false (fun e => h (by injection e))])
theorem t_eqI {x y : Int} (ha : Ev ta σ H (.int x)) (hb : Ev tb σ H (.int y)) : EvT (tTest (tOp rEq ta tb)) σ H (decide (x = y)) := et_is (et_test (ev_op ha hb (rv_eq rfl))) (by
  by_cases h : x = y
  · subst h; simp
  · rw [decide_eq_false h, decide_eq_false (fun e => h (by injection e))])
theorem t_neS {x y : Str} (ha : Ev ta σ H (.str x)) (hb : Ev tb σ H (.str y)) : EvT (tTest (tOp rNe ta tb)) σ H (!decide (x = y)) := et_is (et_test (ev_op ha hb (rv_ne rfl))) (by
  by_cases h : x = y
  · subst h; simp
  · rw [decide_eq_false h, decide_eq_false (fun e => h (by injection e))])
theorem b_eqS {x y : Str} (ha : Ev ta σ H (.str x)) (hb : Ev tb σ H (.str y)) : Ev (tOp rEq ta tb) σ H (.bl (decide (x = y))) := ev_is (ev_op ha hb (rv_eq rfl)) (by
  by_cases h : x = y
  · subst h; simp
  · rw [decide_eq_false h, decide_eq_false (fun e => h (by injection e))])
theorem b_eqI {x y : Int} (ha : Ev ta σ H (.int x)) (hb : Ev tb σ H (.int y)) : Ev (tOp rEq ta tb) σ H (.bl (decide (x = y))) := ev_is (ev_op ha hb (rv_eq rfl)) (by
  by_cases h : x = y
  · subst h; simp
  · rw [decide_eq_false h, decide_eq_false (fun e => h (by injection e))])
theorem b_neS {x y : Str} (ha : Ev ta σ H (.str x)) (hb : Ev tb σ H (.str y)) : Ev (tOp rNe ta tb) σ H (.bl (!decide (x = y))) := ev_is (ev_op ha hb (rv_ne rfl)) (by
  by_cases h : x = y
  · subst h; simp
  · rw [decide_eq_false h, decide_eq_false (fun e => h (by injection e))])
end

/-! ### promises -/
/-- f(data) = data, nothing raised -/
def spF (K : PySem.W.Frag) (P : List PyData → PyData → Prop) : Sp := fun vs H Q _ => ∃ ds d, TpAll K H vs ds ∧ P ds d ∧ ∀ v H', Ex H H' → Tp K H' v d → Q v H'
/-- f(data) = data, or a raised exception of the class at C -/
def spX (K : PySem.W.Frag) (C : Addr) (P : List PyData → Option PyData → Prop) : Sp := fun vs H Q E => ∃ ds r, TpAll K H vs ds ∧ P ds r ∧ (∀ d, r = some d → ∀ v H', Ex H H' → Tp K H' v d → Q v H') ∧ (r = none → ∀ H', Ex H H' → E (.ref C) none H')
section
variable {K : PySem.W.Frag} {σ : S} {H H' : Hp} {d : PyData} {ds : List PyData} {v : V} {P : List PyData → PyData → Prop} {PX : List PyData → Option PyData → Prop} {C : Addr}
theorem d_call {E : XK} {ta : TA} (h : EvDA K ta σ H ds) (hp : P ds d) : EvD K (tCall (spF K P) [] E ta) σ H d := fun H1 e Q q =>
  h H1 e _ fun vs H2 e2 ts => ⟨ds, d, by rw [List.append_nil]; exact ts, hp, fun v H3 e3 t => q v H3 (e2.trans e3) t⟩
/-- a call that may raise -/
theorem x_call {E : XK} {ta : TA} {r : Option PyData} {Q : VK} (h : EvDA K ta σ H ds) (hp : PX ds r) (h1 : ∀ d, r = some d → ∀ v H', Ex H H' → Tp K H' v d → Q v H') (h2 : r = none → ∀ H', Ex H H' → E (.ref C) none H') : tCall (spX K C PX) [] E ta σ H Q :=
  h H (Evl.Ex.refl H) _ fun vs H2 e2 ts => ⟨ds, r, by rw [List.append_nil]; exact ts, hp, fun d e v H3 e3 t => h1 d e v H3 (e2.trans e3) t, fun e H3 e3 => h2 e H3 (e2.trans e3)⟩
end

/-! ### statements -/
/-- a block runs well from each heap that has what H has -/
def Run (t : TS) (D : Ends) (σ : S) (H : Hp) : Prop := ∀ H1, Ex H H1 → t D σ H1
section
variable {K : PySem.W.Frag} {σ : S} {H H' : Hp} {ta tb te : TE} {tt : TT} {d : PyData} {ds : List PyData} {v : V} {D : Ends} {tz tu tw : TS} {b : Bool}
theorem Run.mono (h : Run tz D σ H) (e : Ex H H') : Run tz D σ H' := fun H1 a => h H1 (e.trans a)
theorem Run.go (h : Run tz D σ H) : tz D σ H := h H (Evl.Ex.refl H)
theorem r_yes (h : EvT tt σ H true) (k : Run tu { D with nx := tz D } σ H) : Run (tSeq (tIfS tt tu tw) tz) D σ H := fun H1 e => h H1 e _ fun H2 e2 => by
  show (if true = true then tu { D with nx := tz D } σ H2 else _)
  rw [if_pos rfl]
  exact k H2 (e.trans e2)
theorem r_no (h : EvT tt σ H false) (k : Run tz D σ H) : Run (tSeq (tIfS tt tu tNext) tz) D σ H := fun H1 e => h H1 e _ fun H2 e2 => by
  show (if false = true then _ else tz D σ H2)
  rw [if_neg Bool.false_ne_true]
  exact k H2 (e.trans e2)
theorem r_no2 (h : EvT tt σ H false) (k : Run tw { D with nx := tz D } σ H) : Run (tSeq (tIfS tt tu tw) tz) D σ H := fun H1 e => h H1 e _ fun H2 e2 => by
  show (if false = true then _ else tw { D with nx := tz D } σ H2)
  rw [if_neg Bool.false_ne_true]
  exact k H2 (e.trans e2)
theorem r_if (h : EvT tt σ H b) (k1 : b = true → Run tu { D with nx := tz D } σ H) (k0 : b = false → Run tz D σ H) : Run (tSeq (tIfS tt tu tNext) tz) D σ H := by
  cases b with
  | true => exact r_yes h (k1 rfl)
  | false => exact r_no h (k0 rfl)
theorem e_if (h : EvT tt σ H b) (k1 : b = true → Run tu D σ H) (k0 : b = false → Run tw D σ H) : Run (tIfS tt tu tw) D σ H := fun H1 e => h H1 e _ fun H2 e2 => by
  cases b with
  | true =>
    show (if true = true then tu D σ H2 else _)
    rw [if_pos rfl]
    exact k1 rfl H2 (e.trans e2)
  | false =>
    show (if false = true then _ else tw D σ H2)
    rw [if_neg Bool.false_ne_true]
    exact k0 rfl H2 (e.trans e2)
theorem r_set {i : Nat} (h : Ev te σ H v) (k : Run tz D (σ.set i (some v)) H) : Run (tSeq (tAsg te (gName i)) tz) D σ H := fun H1 e => h H1 e _ fun H2 e2 => k H2 (e.trans e2)
theorem r_setD {i : Nat} (h : EvD K te σ H d) (k : ∀ v H1, Ex H H1 → Tp K H1 v d → Run tz D (σ.set i (some v)) H1) : Run (tSeq (tAsg te (gName i)) tz) D σ H := fun H1 e => h H1 e _ fun v H2 e2 t => (k v H2 (e.trans e2) t).go
theorem r_setL {i : Nat} (h : EvDL K te σ H ds) (k : ∀ p xs H1, H p = none → Ex H H1 → H1 p = some (.lst xs) → TpAll K H1 xs ds → Run tz D (σ.set i (some (.ref p))) H1) : Run (tSeq (tAsg te (gName i)) tz) D σ H := fun H1 e =>
  h H1 e _ fun p xs H2 hp e2 h2 t => (k p xs H2 (fresh_back e hp) (e.trans e2) h2 t).go
theorem e_set {i : Nat} (h : Ev te σ H v) (k : ∀ H1, Ex H H1 → D.nx (σ.set i (some v)) H1) : Run (tAsg te (gName i)) D σ H := fun H1 e => h H1 e _ fun H2 e2 => k H2 (e.trans e2)
theorem e_setD {i : Nat} (h : EvD K te σ H d) (k : ∀ v H1, Ex H H1 → Tp K H1 v d → D.nx (σ.set i (some v)) H1) : Run (tAsg te (gName i)) D σ H := fun H1 e => h H1 e _ fun v H2 e2 t => k v H2 (e.trans e2) t
theorem r_ret (h : EvD K te σ H d) (k : ∀ v H1, Ex H H1 → Tp K H1 v d → D.rt v H1) : Run (tRet te) D σ H := fun H1 e => h H1 e _ fun v H2 e2 t => k v H2 (e.trans e2) t
theorem r_next (k : ∀ H1, Ex H H1 → D.nx σ H1) : Run tNext D σ H := k
theorem r_seq {t : TS} (h : Run t { D with nx := tz D } σ H) : Run (tSeq t tz) D σ H := h
/-- x, y = f(..) -/
theorem g_two {i j : Nat} {a : Addr} {x y : V} {Q : S → Hp → Prop} (h : SqT K H a [x, y]) (q : Q ((σ.set i (some x)).set j (some y)) H) : gTup K 2 (gCons (gName i) (gCons (gName j) gNil)) (.ref a) σ H Q :=
  ⟨a, [x, y], rfl, h, rfl, x, [y], rfl, y, [], rfl, rfl, q⟩
theorem g_twoD {i j : Nat} {v : V} {d1 d2 : PyData} {Q : S → Hp → Prop} (h : Tp K H v (.tuple [d1, d2])) (q : ∀ x y, Tp K H x d1 → Tp K H y d2 → Q ((σ.set i (some x)).set j (some y)) H) : gTup K 2 (gCons (gName i) (gCons (gName j) gNil)) v σ H Q := by
  obtain ⟨a, xs, rfl, hs, hx⟩ := h.tup_eq
  cases hx with
  | cons h1 r =>
    cases r with
    | cons h2 r =>
      cases r
      exact g_two hs (q _ _ h1 h2)
end

/-! ### comprehensions -/
section
variable {K : PySem.W.Frag} {σ : S} {H H' : Hp} {ta tb te : TE} {tt : TT} {d : PyData} {ds : List PyData} {v : V}
theorem lcD {J : It} {n : Nat} {H1 : Hp} {L : Addr} {j : Nat} {vs : List Nat} {g : Nat → PyData} {Qd : Hp → Prop} (hL : H1 L = none) (hz : n ≤ 50000)
    (hgo : ∀ i H', Kp H1 H' → i < n → J.go i H') (hstop : ∀ i H', Kp H1 H' → n ≤ i → J.stop i H')
    (hs : ∀ i H' x H'', i < n → Ex H1 H' → J.yld i H' x H'' → H'' = H' ∧ wipe ((wipe σ vs).set j (some x)) vs = wipe σ vs ∧ EvD K te ((wipe σ vs).set j (some x)) H' (g i))
    (hd : ∀ xs H', Ex H1 H' → H' L = some (.lst xs) → TpAll K H' xs ((List.range n).map g) → Qd H') :
    ∃ W : Nat → Nat → Hp → Prop, (∃ m, W 0 m (upd H1 L (.lst []))) ∧ ∀ i m H, W i m H → (J.stop i H ∧ Qd H) ∨ (J.go i H ∧ ∃ Nx : Hp → Prop, (∀ H', Nx H' → ∃ m', m' < m ∧ W (i + 1) m' H') ∧
      ∀ x H', J.yld i H x H' → gName j x (wipe σ vs) H' fun σ2 H2 => wipe σ2 vs = wipe σ vs ∧ tYes σ2 H2 fun b H3 => if b = true then te σ2 H3 fun y H4 => ∃ acc, H4 L = some (.lst acc) ∧ acc.length < sizeLine ∧ Nx (upd H4 L (.lst (acc ++ [y]))) else Nx H3) := by
  refine ⟨fun i m H => m = n - i ∧ i ≤ n ∧ Ex H1 H ∧ ∃ acc, H L = some (.lst acc) ∧ TpAll K H acc ((List.range i).map g), ⟨n, by simp, Nat.zero_le _, Evl.Ex.new hL, [], upd_same, .nil⟩, ?_⟩
  rintro i m H ⟨rfl, hi, e, acc, ha, ht⟩
  by_cases hlt : i < n
  · refine .inr ⟨hgo i H (Kp.of e) hlt, fun H' => i + 1 ≤ n ∧ Ex H1 H' ∧ ∃ acc, H' L = some (.lst acc) ∧ TpAll K H' acc ((List.range (i + 1)).map g), fun H' p => ⟨n - (i + 1), by omega, rfl, p⟩, fun x H' hy => ?_⟩
    obtain ⟨rfl, hw, hv⟩ := hs i H x H' hlt e hy
    refine ⟨hw, ?_⟩
    dsimp only [tYes]
    rw [if_pos rfl]
    refine hv H' (Evl.Ex.refl _) _ fun y H4 e4 t => ⟨acc, e4 _ _ ha, sz_lt (by rw [ht.len]; simp; omega), hlt, Evl.Ex.mut (e.trans e4) hL, _, upd_same, ?_⟩
    rw [List.range_succ, List.map_append]
    exact ((ht.ex e4).app (.one t)).kp (Kp.lst (e4 _ _ ha))
  · have h : i = n := by omega
    subst h
    exact .inl ⟨hstop i H (Kp.of e) (Nat.le_refl _), hd acc H e ha ht⟩
theorem range_map {α β : Type} (f : α → β) : ∀ (l : List α) (d : β), (List.range l.length).map (fun i => ((l.map f)[i]?).getD d) = l.map f := fun l d => by
  apply List.ext_getElem
  · simp
  · intro i h1 h2
    simp at h1 h2 ⊢
    simp [h1]
/-- over a tuple of data -/
theorem dl_lcT {tl : TE} {j : Nat} {vs : List Nat} {es : List PyData} (h : EvD K tl σ H (.tuple ds)) (hz : ds.length ≤ 50000) (hl : es.length = ds.length) (hw : ∀ x, wipe ((wipe σ vs).set j (some x)) vs = wipe σ vs)
    (he : ∀ (i : Nat) (x : V) (d e : PyData) H1, Ex H H1 → ds[i]? = some d → es[i]? = some e → Tp K H1 x d → EvD K te ((wipe σ vs).set j (some x)) H1 e) : EvDL K (tLc (iTup K tl) (gName j) tYes te vs) σ H es := fun H0 e0 Q q =>
  h H0 e0 _ fun v H1 e1 t => by
    obtain ⟨a, xs, rfl, hs, hx⟩ := t.tup_eq
    refine ⟨a, rfl, ⟨xs, hs⟩, fun L hL => ?_⟩
    have hl2 := hx.len
    refine lcD (K := K) (n := ds.length) (g := fun i => (es[i]?).getD .none) hL hz (fun i H' k hi => ⟨xs, xs[i]'(by omega), sqt_kp k hs, List.getElem?_eq_getElem _⟩) (fun i H' k hi => ⟨xs, sqt_kp k hs, by omega⟩) (fun i H' x H'' hi k y => ?_) (fun ys H' k hL' ts => ?_)
    · obtain ⟨rfl, y⟩ := y
      have hxi := y xs (sqt_kp (Kp.of k) hs)
      have hdi : ds[i]? = some ds[i] := List.getElem?_eq_getElem hi
      have hei : es[i]? = some (es[i]'(by omega)) := List.getElem?_eq_getElem (by omega)
      obtain ⟨w, h1, h2⟩ := hx.get hdi
      rw [hxi] at h1
      cases h1
      refine ⟨rfl, hw x, ?_⟩
      have := he i x ds[i] _ H'' ((e0.trans e1).trans k) hdi hei (h2.ex k)
      rw [hei]
      exact this
    · have e : (List.range ds.length).map (fun i => (es[i]?).getD .none) = es := by
        have := range_map (fun d : PyData => d) es .none
        rw [← hl]
        simpa using this
      rw [e] at ts
      exact q L ys H' (fresh_back e1 hL) (e1.trans k) hL' ts
/-- the same, the tuple's data and the results of one list -/
theorem dl_lcM {α : Type} {tl : TE} {j : Nat} {vs : List Nat} {l : List α} {f g : α → PyData} (h : EvD K tl σ H (.tuple (l.map f))) (hz : l.length ≤ 50000) (hw : ∀ x, wipe ((wipe σ vs).set j (some x)) vs = wipe σ vs)
    (he : ∀ (x : V) (a : α) H1, Ex H H1 → a ∈ l → Tp K H1 x (f a) → EvD K te ((wipe σ vs).set j (some x)) H1 (g a)) : EvDL K (tLc (iTup K tl) (gName j) tYes te vs) σ H (l.map g) :=
  dl_lcT h (by simpa using hz) (by simp) hw fun i x d e H1 ex hd he' hx => by
    rw [List.getElem?_map] at hd he'
    cases q : l[i]? with
    | none => rw [q] at hd; simp at hd
    | some a =>
      rw [q] at hd he'
      simp at hd he'
      subst hd he'
      exact he x a H1 ex (List.mem_of_getElem? q) hx
/-- over the signs of a text -/
theorem dl_lcS {tl : TE} {j : Nat} {vs : List Nat} {z : Str} {g : Nat → PyData} (h : Ev tl σ H (.str z)) (hz : z.length ≤ 50000) (hw : ∀ x, wipe ((wipe σ vs).set j (some x)) vs = wipe σ vs)
    (he : ∀ (c : Nat) H1, Ex H H1 → c ∈ z.cps.toList → EvD K te ((wipe σ vs).set j (some (.str ⟨#[c]⟩))) H1 (g c)) : EvDL K (tLc (iStr tl) (gName j) tYes te vs) σ H (z.cps.toList.map g) := fun H0 e0 Q q =>
  h H0 e0 _ fun H1 e1 => by
    refine ⟨z, rfl, fun L hL => ?_⟩
    have hl : z.cps.toList.length = z.cps.size := by simp
    refine lcD (K := K) (n := z.cps.toList.length) (g := fun i => ((z.cps.toList.map g)[i]?).getD .none) hL (by rw [hl]; exact hz) (fun i H' k hi => (show i < z.cps.size by omega)) (fun i H' k hi => (show z.cps.size ≤ i by omega)) (fun i H' x H'' hi k y => ?_) (fun ys H' k hL' ts => ?_)
    · obtain ⟨rfl, c, hc, rfl⟩ := y
      have hc' : z.cps.toList[i]? = some c := by rw [Array.getElem?_toList]; exact hc
      refine ⟨rfl, hw _, ?_⟩
      have := he c H'' ((e0.trans e1).trans k) (List.mem_of_getElem? hc')
      simpa [hc', hc] using this
    · rw [range_map] at ts
      exact q L ys H' (fresh_back e1 hL) (e1.trans k) hL' ts
/-! ### built-ins over a list just made -/
theorem v_sum {ns : List Int} {r : List V → Hp → VK → Prop} (h : EvDL K ta σ H (ns.map PyData.int)) (hr : ∀ (a : Addr) H' (Q : VK), SqL K H' a (ns.map V.int) → Q (.int ns.sum) H' → r [.ref a] H' Q) : Ev (tCB r (tCons ta tNil)) σ H (.int ns.sum) := fun H1 e Q q =>
  h H1 e _ fun p xs H2 hp e2 h2 ts => hr p H2 Q (by rw [ts.ints] at h2; exact sq_of h2) (q H2 e2)
theorem v_all {bs : List Bool} {r : List V → Hp → VK → Prop} (h : EvDL K ta σ H (bs.map PyData.bool)) (hr : ∀ (a : Addr) H' (Q : VK), SqL K H' a (bs.map V.bl) → Q (.bl (bs.all id)) H' → r [.ref a] H' Q) : Ev (tCB r (tCons ta tNil)) σ H (.bl (bs.all id)) := fun H1 e Q q =>
  h H1 e _ fun p xs H2 hp e2 h2 ts => hr p H2 Q (by rw [ts.bls] at h2; exact sq_of h2) (q H2 e2)
end
end Ws
end

section
set_option Elab.async false
set_option maxRecDepth 100000
set_option maxHeartbeats 4000000
namespace Ws
open PySem L2
def top (i : Nat) : Stmt := PySem.Challenge.pw_whysheet_k07_whole_typed_back.main.body.getD i (.Pass ⟨0, 0, 0, 0⟩)
-- printed by gen_top.py
abbrev s_fault : Stmt := top 7
theorem sc_fault : FnScope ["word"] ["word"] (defScope s_fault) := ⟨rfl, rfl, rfl, by decide +kernel, rfl, by decide +kernel, by decide +kernel⟩
abbrev s_divisor : Stmt := top 8
theorem sc_divisor : FnScope ["one", "other"] ["one", "other"] (defScope s_divisor) := ⟨rfl, rfl, rfl, by decide +kernel, rfl, by decide +kernel, by decide +kernel⟩
abbrev s_is_short : Stmt := top 9
theorem sc_is_short : FnScope ["whole"] ["whole"] (defScope s_is_short) := ⟨rfl, rfl, rfl, by decide +kernel, rfl, by decide +kernel, by decide +kernel⟩
abbrev s_number : Stmt := top 10
theorem sc_number : FnScope ["top", "bottom", "common"] ["top", "bottom"] (defScope s_number) := ⟨rfl, rfl, rfl, by decide +kernel, rfl, by decide +kernel, by decide +kernel⟩
abbrev s_is_text : Stmt := top 12
theorem sc_is_text : FnScope ["text", "sign"] ["text"] (defScope s_is_text) := ⟨rfl, rfl, rfl, by decide +kernel, rfl, by decide +kernel, by decide +kernel⟩
abbrev s_is_whole : Stmt := top 13
theorem sc_is_whole : FnScope ["x"] ["x"] (defScope s_is_whole) := ⟨rfl, rfl, rfl, by decide +kernel, rfl, by decide +kernel, by decide +kernel⟩
abbrev s_shown_number : Stmt := top 14
theorem sc_shown_number : FnScope ["value"] ["value"] (defScope s_shown_number) := ⟨rfl, rfl, rfl, by decide +kernel, rfl, by decide +kernel, by decide +kernel⟩
abbrev s_shown_truth : Stmt := top 15
theorem sc_shown_truth : FnScope ["truth"] ["truth"] (defScope s_shown_truth) := ⟨rfl, rfl, rfl, by decide +kernel, rfl, by decide +kernel, by decide +kernel⟩
abbrev s_shown_value : Stmt := top 17
theorem sc_shown_value : FnScope ["value"] ["value"] (defScope s_shown_value) := ⟨rfl, rfl, rfl, by decide +kernel, rfl, by decide +kernel, by decide +kernel⟩
abbrev s_parts_of : Stmt := top 30
theorem sc_parts_of : FnScope ["formula"] ["formula"] (defScope s_parts_of) := ⟨rfl, rfl, rfl, by decide +kernel, rfl, by decide +kernel, by decide +kernel⟩
abbrev s_formula_size : Stmt := top 31
theorem sc_formula_size : FnScope ["formula", "part"] ["formula"] (defScope s_formula_size) := ⟨rfl, rfl, rfl, by decide +kernel, rfl, by decide +kernel, by decide +kernel⟩
abbrev s_depth : Stmt := top 32
theorem sc_depth : FnScope ["formula", "part"] ["formula"] (defScope s_depth) := ⟨rfl, rfl, rfl, by decide +kernel, rfl, by decide +kernel, by decide +kernel⟩
abbrev s_is_place : Stmt := top 33
theorem sc_is_place : FnScope ["row", "column"] ["row", "column"] (defScope s_is_place) := ⟨rfl, rfl, rfl, by decide +kernel, rfl, by decide +kernel, by decide +kernel⟩
abbrev s_is_of : Stmt := top 34
theorem sc_is_of : FnScope ["word", "letters", "sign"] ["word", "letters"] (defScope s_is_of) := ⟨rfl, rfl, rfl, by decide +kernel, rfl, by decide +kernel, by decide +kernel⟩
abbrev s_is_put : Stmt := top 35
theorem sc_is_put : FnScope ["value"] ["value"] (defScope s_is_put) := ⟨rfl, rfl, rfl, by decide +kernel, rfl, by decide +kernel, by decide +kernel⟩
abbrev s_is_leaf : Stmt := top 36
theorem sc_is_leaf : FnScope ["formula"] ["formula"] (defScope s_is_leaf) := ⟨rfl, rfl, rfl, by decide +kernel, rfl, by decide +kernel, by decide +kernel⟩
abbrev s_is_sound : Stmt := top 37
theorem sc_is_sound : FnScope ["formula", "part"] ["formula"] (defScope s_is_sound) := ⟨rfl, rfl, rfl, by decide +kernel, rfl, by decide +kernel, by decide +kernel⟩
abbrev s_is_formula : Stmt := top 38
theorem sc_is_formula : FnScope ["formula"] ["formula"] (defScope s_is_formula) := ⟨rfl, rfl, rfl, by decide +kernel, rfl, by decide +kernel, by decide +kernel⟩
abbrev s_cell_text : Stmt := top 39
theorem sc_cell_text : FnScope ["row", "column"] ["row", "column"] (defScope s_cell_text) := ⟨rfl, rfl, rfl, by decide +kernel, rfl, by decide +kernel, by decide +kernel⟩
abbrev s_put_text : Stmt := top 40
theorem sc_put_text : FnScope ["value"] ["value"] (defScope s_put_text) := ⟨rfl, rfl, rfl, by decide +kernel, rfl, by decide +kernel, by decide +kernel⟩
abbrev s_level_of : Stmt := top 41
theorem sc_level_of : FnScope ["formula"] ["formula"] (defScope s_level_of) := ⟨rfl, rfl, rfl, by decide +kernel, rfl, by decide +kernel, by decide +kernel⟩
abbrev s_within : Stmt := top 42
theorem sc_within : FnScope ["formula", "level"] ["formula", "level"] (defScope s_within) := ⟨rfl, rfl, rfl, by decide +kernel, rfl, by decide +kernel, by decide +kernel⟩
abbrev s_two_text : Stmt := top 43
theorem sc_two_text : FnScope ["formula", "level", "first"] ["formula"] (defScope s_two_text) := ⟨rfl, rfl, rfl, by decide +kernel, rfl, by decide +kernel, by decide +kernel⟩
abbrev s_shown : Stmt := top 44
theorem sc_shown : FnScope ["formula", "part"] ["formula"] (defScope s_shown) := ⟨rfl, rfl, rfl, by decide +kernel, rfl, by decide +kernel, by decide +kernel⟩
abbrev s_let_in : Stmt := top 49
theorem sc_let_in : FnScope ["formula"] ["formula"] (defScope s_let_in) := ⟨rfl, rfl, rfl, by decide +kernel, rfl, by decide +kernel, by decide +kernel⟩
abbrev s_run : Stmt := top 50
theorem sc_run : FnScope ["text", "at", "signs"] ["text", "at", "signs"] (defScope s_run) := ⟨rfl, rfl, rfl, by decide +kernel, rfl, by decide +kernel, by decide +kernel⟩
abbrev s_sign_at : Stmt := top 51
theorem sc_sign_at : FnScope ["text", "at", "sign"] ["text", "at"] (defScope s_sign_at) := ⟨rfl, rfl, rfl, by decide +kernel, rfl, by decide +kernel, by decide +kernel⟩
abbrev s_number_at : Stmt := top 52
theorem sc_number_at : FnScope ["text", "at", "end"] ["text", "at"] (defScope s_number_at) := ⟨rfl, rfl, rfl, by decide +kernel, rfl, by decide +kernel, by decide +kernel⟩
abbrev s_text_at : Stmt := top 53
theorem sc_text_at : FnScope ["text", "at", "found", "here"] ["text", "at"] (defScope s_text_at) := ⟨rfl, rfl, rfl, by decide +kernel, rfl, by decide +kernel, by decide +kernel⟩
abbrev s_cell_at : Stmt := top 54
theorem sc_cell_at : FnScope ["text", "at", "end", "row"] ["text", "at"] (defScope s_cell_at) := ⟨rfl, rfl, rfl, by decide +kernel, rfl, by decide +kernel, by decide +kernel⟩
abbrev s_cells_at : Stmt := top 55
theorem sc_cells_at : FnScope ["text", "at", "cell", "end", "far"] ["text", "at"] (defScope s_cells_at) := ⟨rfl, rfl, rfl, by decide +kernel, rfl, by decide +kernel, by decide +kernel⟩
abbrev s_call_at : Stmt := top 56
theorem sc_call_at : FnScope ["text", "word", "at", "open_ones", "parts", "part"] ["text", "word", "at", "open_ones"] (defScope s_call_at) := ⟨rfl, rfl, rfl, by decide +kernel, rfl, by decide +kernel, by decide +kernel⟩
abbrev s_great_at : Stmt := top 57
theorem sc_great_at : FnScope ["text", "at", "open_ones", "end", "word"] ["text", "at", "open_ones"] (defScope s_great_at) := ⟨rfl, rfl, rfl, by decide +kernel, rfl, by decide +kernel, by decide +kernel⟩
abbrev s_atom_at : Stmt := top 58
theorem sc_atom_at : FnScope ["text", "at", "open_ones", "sign", "end", "formula"] ["text", "at", "open_ones"] (defScope s_atom_at) := ⟨rfl, rfl, rfl, by decide +kernel, rfl, by decide +kernel, by decide +kernel⟩
abbrev s_less_at : Stmt := top 59
theorem sc_less_at : FnScope ["text", "at", "open_ones", "formula", "end"] ["text", "at", "open_ones"] (defScope s_less_at) := ⟨rfl, rfl, rfl, by decide +kernel, rfl, by decide +kernel, by decide +kernel⟩
abbrev s_level_at : Stmt := top 60
theorem sc_level_at : FnScope ["text", "at", "level", "open_ones", "one", "sign", "other"] ["text", "at", "level", "open_ones"] (defScope s_level_at) := ⟨rfl, rfl, rfl, by decide +kernel, rfl, by decide +kernel, by decide +kernel⟩
abbrev s_read : Stmt := top 61
theorem sc_read : FnScope ["text", "formula", "end"] ["text"] (defScope s_read) := ⟨rfl, rfl, rfl, by decide +kernel, rfl, by decide +kernel, by decide +kernel⟩
abbrev s_is_figures : Stmt := top 63
theorem sc_is_figures : FnScope ["word", "sign"] ["word"] (defScope s_is_figures) := ⟨rfl, rfl, rfl, by decide +kernel, rfl, by decide +kernel, by decide +kernel⟩
abbrev s_number_of : Stmt := top 64
theorem sc_number_of : FnScope ["text", "halves", "top", "bottom"] ["text"] (defScope s_number_of) := ⟨rfl, rfl, rfl, by decide +kernel, rfl, by decide +kernel, by decide +kernel⟩
abbrev s_text_of : Stmt := top 65
theorem sc_text_of : FnScope ["text"] ["text"] (defScope s_text_of) := ⟨rfl, rfl, rfl, by decide +kernel, rfl, by decide +kernel, by decide +kernel⟩
abbrev s_typed : Stmt := top 66
theorem sc_typed : FnScope ["text", "value"] ["text"] (defScope s_typed) := ⟨rfl, rfl, rfl, by decide +kernel, rfl, by decide +kernel, by decide +kernel⟩
abbrev s_is_plain : Stmt := top 67
theorem sc_is_plain : FnScope ["text"] ["text"] (defScope s_is_plain) := ⟨rfl, rfl, rfl, by decide +kernel, rfl, by decide +kernel, by decide +kernel⟩
abbrev s_typed_of : Stmt := top 68
theorem sc_typed_of : FnScope ["content"] ["content"] (defScope s_typed_of) := ⟨rfl, rfl, rfl, by decide +kernel, rfl, by decide +kernel, by decide +kernel⟩
abbrev s_law_cell_at : Stmt := top 70
theorem sc_law_cell_at : FnScope ["script", "k"] ["script", "k"] (defScope s_law_cell_at) := ⟨rfl, rfl, rfl, by decide +kernel, rfl, by decide +kernel, by decide +kernel⟩
abbrev s_law_state : Stmt := top 71
theorem sc_law_state : FnScope ["script", "k", "cell"] ["script", "k"] (defScope s_law_state) := ⟨rfl, rfl, rfl, by decide +kernel, rfl, by decide +kernel, by decide +kernel⟩
abbrev s_law_choice : Stmt := top 72
theorem sc_law_choice : FnScope ["state", "many", "found", "mixed"] ["state", "many"] (defScope s_law_choice) := ⟨rfl, rfl, rfl, by decide +kernel, rfl, by decide +kernel, by decide +kernel⟩
abbrev s_law_lowest : Stmt := top 73
theorem sc_law_lowest : FnScope ["top", "bottom", "a", "b", "rest"] ["top", "bottom"] (defScope s_law_lowest) := ⟨rfl, rfl, rfl, by decide +kernel, rfl, by decide +kernel, by decide +kernel⟩
abbrev s_law_number : Stmt := top 74
theorem sc_law_number : FnScope ["state", "kind", "great"] ["state"] (defScope s_law_number) := ⟨rfl, rfl, rfl, by decide +kernel, rfl, by decide +kernel, by decide +kernel⟩
abbrev s_law_text : Stmt := top 75
theorem sc_law_text : FnScope ["state", "signs", "count", "k"] ["state"] (defScope s_law_text) := ⟨rfl, rfl, rfl, by decide +kernel, rfl, by decide +kernel, by decide +kernel⟩
abbrev s_law_leaf : Stmt := top 76
theorem sc_law_leaf : FnScope ["state", "kind", "row", "column"] ["state"] (defScope s_law_leaf) := ⟨rfl, rfl, rfl, by decide +kernel, rfl, by decide +kernel, by decide +kernel⟩
abbrev s_law_words : Stmt := top 77
theorem sc_law_words : FnScope ["state", "some", "k"] ["state"] (defScope s_law_words) := ⟨rfl, rfl, rfl, by decide +kernel, rfl, by decide +kernel, by decide +kernel⟩
abbrev s_law_formula : Stmt := top 78
theorem sc_law_formula : FnScope ["state", "deep", "kind", "name", "k", "sign", "one"] ["state", "deep"] (defScope s_law_formula) := ⟨rfl, rfl, rfl, by decide +kernel, rfl, by decide +kernel, by decide +kernel⟩
abbrev s_law_drawn : Stmt := top 79
theorem sc_law_drawn : FnScope ["script", "k", "deep", "state"] ["script", "k", "deep"] (defScope s_law_drawn) := ⟨rfl, rfl, rfl, by decide +kernel, rfl, by decide +kernel, by decide +kernel⟩
abbrev s_law_else : Stmt := top 80
theorem sc_law_else : FnScope ["text", "found"] ["text"] (defScope s_law_else) := ⟨rfl, rfl, rfl, by decide +kernel, rfl, by decide +kernel, by decide +kernel⟩
abbrev s_law : Stmt := top 81
theorem sc_law : FnScope ["script", "state", "kind", "content", "text", "found"] ["script"] (defScope s_law) := ⟨rfl, rfl, rfl, by decide +kernel, rfl, by decide +kernel, by decide +kernel⟩
end Ws
end

section
set_option Elab.async false
set_option linter.all false
set_option maxRecDepth 100000
set_option maxHeartbeats 4000000
/-! what stands in the module; a def's call; formulas as data; rules of one's own -/
namespace Ws
open PySem PySem.Spec PyProof.Rows L2 Evl

/-- the text of some codes -/
abbrev tx (l : List Nat) : Str := ⟨l.toArray⟩
theorem tl_tx (l : List Nat) : TL.tl (tx l) = l := rfl
theorem tx_tl (x : Str) : tx (TL.tl x) = x := TL.mk_tl x
theorem tx_len (l : List Nat) : (tx l).length = l.length := by show l.toArray.size = _; simp
theorem tx_app (a b : List Nat) : tx a ++ tx b = tx (a ++ b) := TL.ext_tl (by rw [TL.tl_append])
theorem tx_inj {a b : List Nat} (h : tx a = tx b) : a = b := by
  have := congrArg TL.tl h
  exact this
theorem tx_eq (a b : List Nat) : decide (tx a = tx b) = decide (a = b) := by
  by_cases h : a = b
  · subst h; simp
  · rw [decide_eq_false h, decide_eq_false (fun e => h (tx_inj e))]
theorem tx_num (n : Nat) : Str.ofString (toString ((n : Nat) : Int)) = tx (TL.numL n) := TL.ext_tl (TL.tl_num n)
def opS : Op → Str
  | .eq => "=" | .ne => "<>" | .lt => "<" | .le => "<=" | .gt => ">" | .ge => ">=" | .amp => "&" | .add => "+" | .sub => "-" | .mul => "*" | .div => "/"
theorem opS_tx (o : Op) : opS o = tx o.txt := by cases o <;> decide +kernel

mutual
def toD : F → PyData
  | .num n => .tuple [.str "put", .tuple [.str "num", .int (n : Int), .int 1]]
  | .txt t => .tuple [.str "put", .tuple [.str "text", .str (tx t)]]
  | .tru b => .tuple [.str "put", .tuple [.str "truth", .bool b]]
  | .at r c => .tuple [.str "at", .int (r : Int), .int (c : Int)]
  | .box r c l f => .tuple [.str "box", .int (r : Int), .int (c : Int), .int (l : Int), .int (f : Int)]
  | .word w => .tuple [.str "word", .str (tx w)]
  | .lost => .tuple [.str "lost"]
  | .less p => .tuple [.str "less", toD p]
  | .two o a b => .tuple [.str "two", .str (opS o), toD a, toD b]
  | .call w ps => .tuple [.str "call", .str (tx w), .tuple (toDs ps)]
def toDs : List F → List PyData
  | [] => []
  | p :: ps => toD p :: toDs ps
end
theorem toDs_map : ∀ ps : List F, toDs ps = ps.map toD
  | [] => by simp only [toDs, List.map_nil]
  | p :: ps => by simp only [toDs, List.map_cons, toDs_map ps]

def BIG : Nat := 10 ^ 40
/-! ### the module -/
def GI (mg : Str → Option Value) (x : Str) (i : Int) : Prop := ∃ t, mg x = some (.int i t)
def GS (mg : Str → Option Value) (x : Str) (z : Str) : Prop := ∃ t, mg x = some (.str z t)
structure Md (K : PySem.W.Frag) (w : World) (mg : Str → Option Value) (aS aL cBF cBN cSE : Addr) (es : Array DictEntry) (n : Nat) : Prop where
  c_GREAT_values : GI mg "GREAT_values" (BIG : Int)
  c_MOST_SIGNS : GI mg "MOST_SIGNS" 60
  c_MOST_ROWS : GI mg "MOST_ROWS" 20
  c_MOST_COLUMNS : GI mg "MOST_COLUMNS" 10
  c_MOST_FORMULAS : GI mg "MOST_FORMULAS" 60
  c_MOST_DEEP : GI mg "MOST_DEEP" 8
  c_MOST_LETTERS : GI mg "MOST_LETTERS" 8
  c_LESS : GI mg "LESS" 5
  c_ATOM : GI mg "ATOM" 6
  c_MOST_OPEN : GI mg "MOST_OPEN" 20
  c_ALLOWED : GS mg "ALLOWED" " !\"#$&'()*+,-./0123456789:;<=>?@ABCDEFGHIJKLMNOPQRSTUVWXYZ[\\]^_`abcdefghijklmnopqrstuvwxyz{|}~"
  c_COLUMNS : GS mg "COLUMNS" "ABCDEFGHIJ"
  c_SMALL : GS mg "SMALL" "abcdefghijklmnopqrstuvwxyz"
  c_GREAT_formulas : GS mg "GREAT_formulas" "ABCDEFGHIJKLMNOPQRSTUVWXYZ"
  c_FIGURES : GS mg "FIGURES" "0123456789"
  c_SIGNS : mg "SIGNS" = some (.ref aS)
  signs : ∃ (o : Obj) (its : Array Value) (k : Nat), K.lookup aS = some o ∧ o.cls = .type "tuple" ∧ o.data = .seq its k ∧ its.size ≤ sizeLine ∧ Vals (ops.map fun o => V.str (opS o)) its.toList
  c_LEVELS : mg "LEVELS" = some (.ref aL)
  levD : KDict K w aL es n
  levV : ∀ o : Op, ∃ t, PySem.W.nsIn K aL (opS o) = some (some (.int (o.lev : Int) t))
  b_len : mg "len" = none
  b_abs : mg "abs" = none
  b_sum : mg "sum" = none
  b_all : mg "all" = none
  b_max : mg "max" = none
  b_str : mg "str" = none
  b_int : mg "int" = none
  b_bool : mg "bool" = none
  b_isinstance : mg "isinstance" = none
  b_tuple : mg "tuple" = none
  b_range : mg "range" = none
  gBF : mg "BadFormula" = some (.ref cBF)
  xBF : PySem.W.excIn K cBF [.type "ValueError", .type "Exception", .type "BaseException", .type "object"] "ValueError.__new__" = true
  kBF : PySem.W.keepIn K (.ref cBF) = true
  bBF : PySem.W.subIn K (.ref cBF) (.type "BaseException") = some true
  tBF : PySem.W.typeIn K (.ref cBF) = some (.type "type")
  gBN : mg "BadNote" = some (.ref cBN)
  xBN : PySem.W.excIn K cBN [.type "ValueError", .type "Exception", .type "BaseException", .type "object"] "ValueError.__new__" = true
  kBN : PySem.W.keepIn K (.ref cBN) = true
  bBN : PySem.W.subIn K (.ref cBN) (.type "BaseException") = some true
  tBN : PySem.W.typeIn K (.ref cBN) = some (.type "type")
  gSE : mg "SheetError" = some (.ref cSE)
  eBF : PySem.W.exmOne K (.ref cBF) (.ref cSE) = some true
  eBN : PySem.W.exmOne K (.ref cBN) (.ref cSE) = some true
section
variable {X : Cx} {x : Str} {pos : Pos}
theorem pe_gi {i : Int} (h : GI X.mg x i) (hg : Gl X x := by rfl) (hd : (x == ("__debug__" : Str)) = false := by decide) : PE X (.Name x pos) (tC (.int i)) := by
  obtain ⟨t, h⟩ := h
  exact pe_glob hg h ⟨t, rfl⟩ hd
theorem pe_gs {z : Str} (h : GS X.mg x z) (hg : Gl X x := by rfl) (hd : (x == ("__debug__" : Str)) = false := by decide) : PE X (.Name x pos) (tC (.str z)) := by
  obtain ⟨t, h⟩ := h
  exact pe_glob hg h ⟨t, rfl⟩ hd
end

/-! ### a def of the text, as it is called -/
def Cl (P : Program) (w : World) (K : PySem.W.Frag) (mg : Str → Option Value) (base : Heap) (CX : CXT) (k : Nat) (x : Str) (sp : Sp) : Prop :=
  ∃ (f : Addr) (fd : FuncData) (ps : List Str), mg x = some (.ref f) ∧ PySem.W.keepIn K (.ref f) = true ∧ Binds K fd ps [] ∧ FnOk P w K mg base CX k f fd ps sp
/-- where a def stands -/
structure Df (K : PySem.W.Frag) (mg : Str → Option Value) (x : Str) (st : Stmt) (ps : List Str) (f : Addr) (fd : FuncData) : Prop where
  fn : Fun K x x st f fd
  gl : mg x = some (.ref f)
  bd : Binds K fd ps []
theorem Df.cl {P : Program} {w : World} {K : PySem.W.Frag} {mg : Str → Option Value} {base : Heap} {CX : CXT} {k : Nat} {x : Str} {sp : Sp} {st : Stmt} {ps : List Str} {f : Addr} {fd : FuncData} (d : Df K mg x st ps f fd) (h : FnOk P w K mg base CX k f fd ps sp) : Cl P w K mg base CX k x sp :=
  ⟨f, fd, ps, d.gl, d.fn.kp, d.bd, h⟩
theorem Cl.imp {P : Program} {w : World} {K : PySem.W.Frag} {mg : Str → Option Value} {base : Heap} {CX : CXT} {k : Nat} {x : Str} {sp sp' : Sp} (c : Cl P w K mg base CX k x sp) (h : ∀ vs H Q E, sp' vs H Q E → sp vs H Q E) : Cl P w K mg base CX k x sp' := by
  obtain ⟨f, fd, ps, a, b, d, e⟩ := c
  exact ⟨f, fd, ps, a, b, d, e.imp h⟩
theorem Cl.mono {P : Program} {w : World} {K : PySem.W.Frag} {mg : Str → Option Value} {base : Heap} {CX : CXT} {j k : Nat} {x : Str} {sp : Sp} (c : Cl P w K mg base CX j x sp) (h : j ≤ k) : Cl P w K mg base CX k x sp := by
  obtain ⟨f, fd, ps, a, b, d, e⟩ := c
  exact ⟨f, fd, ps, a, b, d, e.mono h⟩
theorem pe_cl {X : Cx} {CX : CXT} {j k : Nat} {x : Str} {sp : Sp} {E : XK} {e : Expr} {es : List Expr} {t : TA} {p pos : Pos} (c : Cl X.prog X.w X.K X.mg X.base CX k x sp) (hr : Room j X.A) (hk : k ≤ j) (hx : Passes CX X E) (ha : PA X (e :: es) t) (hg : Gl X x := by rfl)
    (hdb : (x == ("__debug__" : Str)) = false := by decide) (he : starEach (e :: es) X.env = (false, eval e X.env) :: starEach es X.env := by rfl) (hpl : (backTo pos (starEach es X.env)).any (·.1) = false := by rfl) :
    PE X (.Call (.Name x p) (e :: es) [] pos) (tCall sp [] E t) := by
  obtain ⟨f, fd, ps, a, b, d, h⟩ := c
  exact pe_call h (hr.mono hk) hg a b d .nil hx ha hdb he hpl

/-! ### max(xs, default=0) of numbers from nought on; "" + s.replace -/
def rMaxD (K : PySem.W.Frag) : List V → List V → Hp → VK → Prop := fun vs zs H Q => ∃ (a : Addr) (ns : List Nat), vs = [V.ref a] ∧ zs = [.int 0] ∧ SqL K H a (ns.map fun n : Nat => V.int (n : Int)) ∧ Q (.int ((ns.foldr max 0 : Nat) : Int)) H
theorem reads_ints {h : Heap} : ∀ {ns : List Int} {us : List Value}, Vals (ns.map V.int) us → ReadsAll h us (ns.map PyData.int) []
  | [], [], .nil => .nil
  | n :: ns, _ :: us, .cons r rs => by
    obtain ⟨t, rfl⟩ := r
    exact .cons (as := []) (bs := []) (.int n t) (reads_ints rs)
theorem foldl_max_cast : ∀ (ns : List Nat) (m : Nat), (ns.map fun n : Nat => (n : Int)).foldl max (m : Int) = ((ns.foldl max m : Nat) : Int)
  | [], _ => rfl
  | n :: ns, m => by
    have e : max (m : Int) (n : Int) = ((max m n : Nat) : Int) := by omega
    show (ns.map fun n : Nat => (n : Int)).foldl max (max (m : Int) (n : Int)) = _
    rw [e, foldl_max_cast ns]
    rfl
theorem foldl_max_ge : ∀ (ns : List Nat) (m : Nat), ns.foldl max m = max m (ns.foldr max 0)
  | [], m => by simp
  | n :: ns, m => by
    rw [List.foldl_cons, foldl_max_ge ns, List.foldr_cons]
    omega
theorem ints_alike (ns : List Int) : PySem.W.AlikeAll (ns.map PyData.int) := by
  refine ⟨fun x hx y hy => ?_, fun x hx => ?_⟩
  · obtain ⟨i, _, rfl⟩ := List.mem_map.mp hx
    obtain ⟨j, _, rfl⟩ := List.mem_map.mp hy
    simp [PySem.W.alike]
  · obtain ⟨i, _, rfl⟩ := List.mem_map.mp hx
    intro q; cases q
theorem ints_depth : ∀ ns : List Int, PyData.depthAll (ns.map PyData.int) = 0
  | [] => by simp [PyData.depthAll]
  | n :: ns => by
    have := ints_depth ns
    simp [PyData.depthAll, PyData.depth, this]
theorem cr_maxD {X : Cx} (hc : X.calm = true) (hu : X.A.units + 64 < cLine) : CallRK X (.builtin "max") [Str.ofString "default"] (rMaxD X.K) := by
  intro pins s σ H vs zs us ws Q I r rz h
  obtain ⟨a, ns, rfl, rfl, hs, q⟩ := h
  obtain rfl := Vals.ref1 r
  obtain ⟨w1, rfl, t, rfl⟩ := vals1 rz
  obtain ⟨its, rv, hl, hz⟩ := I.list hs
  have e0 : (ns.map fun n : Nat => V.int (n : Int)) = (ns.map fun n : Nat => (n : Int)).map V.int := by rw [List.map_map]; rfl
  rw [e0] at rv
  refine PySem.W.max_list_default (I.ok.hd hc) hl.isList (xs := (ns.map fun n : Nat => (n : Int)).map PyData.int) (as := []) (by simpa using reads_ints rv) (ints_alike _) (by rw [ints_depth]; omega) (fun e h' tk k => ?_) (fun y ys i v h' tk bs e hv hr k => ?_)
  · have e1 : ns = [] := by cases ns with
      | nil => rfl
      | cons n ns => simp at e
    subst e1
    exact ⟨.int 0, H, I.kept k, ⟨t, rfl⟩, q⟩
  · cases ns with
    | nil => simp at e
    | cons n ns =>
      simp only [List.map_cons] at e
      injection e with e1 e2
      subst e1 e2
      rw [PySem.W.maxD_ints, foldl_max_cast] at hr
      cases hr with
      | int i t =>
        refine ⟨.int _, H, I.kept k, ⟨t, rfl⟩, ?_⟩
        rw [foldl_max_ge]
        exact q
theorem pe_op_litT {X : Cx} {op : Operator} {r : R2} {m : Str} {j : Nat} {p pos : Pos} {f : Expr} {tf : TE} (ho : OpR X (binaryOp op) r) (hb : PET X f tf) : PE X (.BinOp (.Constant (.str m) j p) op f pos) (tOp r (tC (.str m)) tf) := by
  refine ⟨fun pins s σ H Q I h => ?_⟩
  refine wpAny_BinOp (Calls.Constant_str ?_)
  exact thn (hb pins { s with toks := s.toks + 1 } σ H _ (by show 1 ≤ s.toks + 1; omega) (I.tok _) h) fun u s2 ⟨y, H2, I2, r2, q2⟩ => ho pins s2 σ H2 (.str m) y _ u Q I2 ⟨_, rfl⟩ r2 q2
end Ws
end

section
set_option Elab.async false
set_option linter.all false
set_option maxRecDepth 100000
set_option maxHeartbeats 4000000
/-! readings of the operations, as they are used -/
namespace Ws
open PySem PySem.Spec PyProof.Rows L2 Evl
section
variable {K : PySem.W.Frag} {σ : S} {H H' : Hp} {ta tb tc te : TE} {tt : TT} {d : PyData} {ds : List PyData} {v x y z : V}
theorem exr (H : Hp) : Ex H H := Evl.Ex.refl H
theorem v_op2 {r : R2} (ha : Ev ta σ H x) (hb : Ev tb σ H y) (hr : ∀ H1 (Q : VK), Ex H H1 → Q z H1 → r x y H1 Q) : Ev (tOp r ta tb) σ H z := ev_op ha hb (rv_val fun H1 e Q q => hr H1 Q e q)
theorem v_cb1 {r : List V → Hp → VK → Prop} (ha : Ev ta σ H x) (hr : ∀ H1 (Q : VK), Ex H H1 → Q z H1 → r [x] H1 Q) : Ev (tCB r (tCons ta tNil)) σ H z := ev_cb (ea_cons ha ea_nil) fun H1 e Q q => hr H1 Q e (q H1 (exr H1))
theorem v_cb2 {r : List V → Hp → VK → Prop} (ha : Ev ta σ H x) (hb : Ev tb σ H y) (hr : ∀ H1 (Q : VK), Ex H H1 → Q z H1 → r [x, y] H1 Q) : Ev (tCB r (tCons ta (tCons tb tNil))) σ H z := ev_cb (ea_cons ha (ea_cons hb ea_nil)) fun H1 e Q q => hr H1 Q e (q H1 (exr H1))
/-- the same with data about the argument -/
theorem v_cbD {r : List V → Hp → VK → Prop} (ha : EvD K ta σ H d) (hr : ∀ v H1 (Q : VK), Ex H H1 → Tp K H1 v d → Q z H1 → r [v] H1 Q) : Ev (tCB r (tCons ta tNil)) σ H z := fun H1 e Q q => ha H1 e _ fun v H2 e2 t => hr v H2 Q (e.trans e2) t (q H2 e2)
theorem v_chain {r r' : R2} {a b : Bool} (ha : Ev ta σ H x) (hb : Ev tb σ H y) (hr : ∀ H1 (Q : VK), Ex H H1 → Q (.bl a) H1 → r x y H1 Q) (hc : a = true → Ev tc σ H z ∧ ∀ H1 (Q : VK), Ex H H1 → Q (.bl b) H1 → r' y z H1 Q) : Ev (tChain r r' ta tb tc) σ H (.bl (a && b)) := fun H1 e Q q =>
  ha H1 e _ fun H2 e2 => hb H2 (e.trans e2) _ fun H3 e3 => hr H3 _ ((e.trans e2).trans e3) ⟨a, rfl, by
    cases a with
    | true =>
      rw [if_pos rfl]
      exact (hc rfl).1 H3 ((e.trans e2).trans e3) _ fun H4 e4 => (hc rfl).2 H4 Q (((e.trans e2).trans e3).trans e4) (q H4 ((e2.trans e3).trans e4))
    | false =>
      rw [if_neg Bool.false_ne_true]
      exact q H3 (e2.trans e3)⟩
theorem t_tag {x s : Str} {b : Bool} (h : EvD K te σ H (.tuple (.str x :: ds))) (e : decide (x = s) = b := by decide +kernel) : EvT (tTest (tOp rEq (tOp (rIxT K) te (tC (.int 0))) (tC (.str s)))) σ H b := et_is (t_eqS (v_str (d_ix0 h)) ev_c) e
theorem t_tagN {x s : Str} {b : Bool} (h : EvD K te σ H (.tuple (.str x :: ds))) (e : (!decide (x = s)) = b := by decide +kernel) : EvT (tTest (tOp rNe (tOp (rIxT K) te (tC (.int 0))) (tC (.str s)))) σ H b := et_is (t_neS (v_str (d_ix0 h)) ev_c) e
theorem b_tag {x s : Str} {b : Bool} (h : EvD K te σ H (.tuple (.str x :: ds))) (e : decide (x = s) = b := by decide +kernel) : Ev (tOp rEq (tOp (rIxT K) te (tC (.int 0))) (tC (.str s))) σ H (.bl b) := ev_is (b_eqS (v_str (d_ix0 h)) ev_c) (by rw [e])
/-! ints -/
theorem v_add {i j : Int} (ha : Ev ta σ H (.int i)) (hb : Ev tb σ H (.int j)) : Ev (tOp (rI0 fun i j => .int (i + j)) ta tb) σ H (.int (i + j)) := ev_op ha hb rv_I0
theorem v_sub {i j : Int} (ha : Ev ta σ H (.int i)) (hb : Ev tb σ H (.int j)) : Ev (tOp (rI0 fun i j => .int (i - j)) ta tb) σ H (.int (i - j)) := ev_op ha hb rv_I0
theorem v_le {i j : Int} (ha : Ev ta σ H (.int i)) (hb : Ev tb σ H (.int j)) : Ev (tOp (rI0 fun i j => .bl (decide (i ≤ j))) ta tb) σ H (.bl (decide (i ≤ j))) := ev_op ha hb rv_I0
theorem v_lt {i j : Int} (ha : Ev ta σ H (.int i)) (hb : Ev tb σ H (.int j)) : Ev (tOp (rI0 fun i j => .bl (decide (i < j))) ta tb) σ H (.bl (decide (i < j))) := ev_op ha hb rv_I0
theorem v_gt {i j : Int} (ha : Ev ta σ H (.int i)) (hb : Ev tb σ H (.int j)) : Ev (tOp (rI0 fun i j => .bl (decide (j < i))) ta tb) σ H (.bl (decide (j < i))) := ev_op ha hb rv_I0
theorem v_ge {i j : Int} (ha : Ev ta σ H (.int i)) (hb : Ev tb σ H (.int j)) : Ev (tOp (rI0 fun i j => .bl (decide (j ≤ i))) ta tb) σ H (.bl (decide (j ≤ i))) := ev_op ha hb rv_I0
theorem v_abs {i : Int} (ha : Ev ta σ H (.int i)) : Ev (tCB (fun xs H Q => ∃ i, xs = [.int i] ∧ Q (.int (if i < 0 then -i else i)) H) (tCons ta tNil)) σ H (.int (i.natAbs : Int)) := v_cb1 ha fun H1 Q _ q => ⟨i, rfl, by
  have e : (if i < 0 then -i else i) = (i.natAbs : Int) := by split <;> omega
  rw [e]; exact q⟩
/-! texts -/
theorem sz16 {n : Nat} (h : n ≤ 16777216) : n ≤ sizeLine := by rw [sizeLine_eq]; exact h
theorem v_len {z : Str} (ha : Ev ta σ H (.str z)) (hz : z.length ≤ 100000) : Ev (tCB (fun xs H Q => ∃ z, xs = [.str z] ∧ z.length ≤ sizeLine ∧ Q (.int z.length) H) (tCons ta tNil)) σ H (.int (z.length : Int)) := v_cb1 ha fun H1 Q _ q => ⟨z, rfl, sz_of hz, q⟩
theorem v_cat {a b : Str} (ha : Ev ta σ H (.str a)) (hb : Ev tb σ H (.str b)) (hz : a.length + b.length ≤ 100000) : Ev (tOp (fun x y H Q => ∃ i j, x = .str i ∧ y = .str j ∧ i.length + j.length ≤ sizeLine ∧ Q (.str (i ++ j)) H) ta tb) σ H (.str (a ++ b)) :=
  v_op2 ha hb fun H1 Q _ q => ⟨a, b, rfl, rfl, sz_of hz, q⟩
theorem v_catL {a b : List Nat} (ha : Ev ta σ H (.str (tx a))) (hb : Ev tb σ H (.str (tx b))) (hz : a.length + b.length ≤ 100000) : Ev (tOp (fun x y H Q => ∃ i j, x = .str i ∧ y = .str j ∧ i.length + j.length ≤ sizeLine ∧ Q (.str (i ++ j)) H) ta tb) σ H (.str (tx (a ++ b))) :=
  ev_is (v_cat ha hb (by rw [tx_len, tx_len]; exact hz)) (by rw [tx_app])
theorem v_str_c {s : Str} {l : List Nat} (h : s = tx l := by decide +kernel) : Ev (tC (.str s)) σ H (.str (tx l)) := by
  subst h
  exact ev_c
theorem v_in {c : Nat} {z : Str} (ha : Ev ta σ H (.str ⟨#[c]⟩)) (hb : Ev tb σ H (.str z)) : Ev (tOp (fun x y H Q => ∃ (c : Nat) (z : Str), x = .str ⟨#[c]⟩ ∧ y = .str z ∧ Q (.bl (decide (c ∈ z.cps.toList))) H) ta tb) σ H (.bl (decide (c ∈ z.cps.toList))) :=
  v_op2 ha hb fun H1 Q _ q => ⟨c, z, rfl, rfl, q⟩
theorem v_ixS {l : List Nat} {j : Nat} {c : Nat} (ha : Ev ta σ H (.str (tx l))) (hb : Ev tb σ H (.int (j : Int))) (hz : l.length ≤ 100000) (hc : l[j]? = some c) : Ev (tOp rIxS ta tb) σ H (.str ⟨#[c]⟩) :=
  ev_op ha hb (rv_ixS (by rw [tx_len]; exact hz) (by show atI l (j : Int) = some c; exact atI_nat hc))
theorem v_toS {n : Nat} (ha : Ev ta σ H (.int (n : Int))) (hn : n < 10 ^ 100) : Ev (tCB (fun xs H Q => ∃ i, xs = [.int i] ∧ i.natAbs.log2 < 1920 ∧ Q (.str (toString i)) H) (tCons ta tNil)) σ H (.str (tx (TL.numL n))) :=
  v_cb1 ha fun H1 Q _ q => ⟨(n : Int), rfl, PySem.Flt.log2_lt_of (by decide) (Nat.lt_of_lt_of_le (show (n : Int).natAbs < 10 ^ 100 by simpa using hn) (by decide +kernel)), by
    have e : (Str.ofString (toString (n : Int))) = tx (TL.numL n) := tx_num n
    show Q (.str (Str.ofString (toString (n : Int)))) H1
    rw [e]; exact q⟩
/-- isinstance -/
theorem v_isi {x : V} {t c : String} {b : Bool} (ha : Ev ta σ H x) (ht : ∀ H1, TyOf K H1 x (.type t)) (hk : kitB t c = some b := by decide +kernel) :
    Ev (tCB (rIsi K) (tCons ta (tCons (tC (.ty c)) tNil))) σ H (.bl b) := v_cb2 ha ev_c fun H1 Q _ q => ⟨x, .ty c, .type t, .type c, b, rfl, .ty c, .base (ht H1), kit_ty hk, q⟩
/-- the join of texts just made -/
theorem v_join {a : Str} {ys : List Str} (ha : Ev ta σ H (.str a)) (hb : EvDL K tb σ H (ys.map PyData.str)) (hz : (ys.map (·.length)).sum + ys.length * a.length ≤ 16777216) :
    Ev (tM1 (fun x xs H Q => ∃ a p, ∃ ys : List Str, x = .str a ∧ xs = [.ref p] ∧ (SqL K H p (ys.map V.str) ∨ SqT K H p (ys.map V.str)) ∧ (ys.map (·.length)).sum + ys.length * a.length ≤ 16777216 ∧ Q (.str (Txt.join a ys)) H) ta tb) σ H (.str (Txt.join a ys)) := fun H1 e Q q =>
  ha H1 e _ fun H2 e2 => ⟨⟨a, rfl⟩, hb H2 (e.trans e2) _ fun p xs H3 hp e3 h3 ts => ⟨a, p, ys, rfl, rfl, .inl (by rw [ts.strs] at h3; exact sq_of h3), hz, q H3 (e2.trans e3)⟩⟩
theorem seg_len (T : List Nat) (a b : Nat) : (slice T a b).length ≤ T.length := by unfold slice; simp; omega
/-- T[a:b], T[a:] -/
theorem cutS_slice (T : List Nat) (a b : Nat) : cutS (tx T) (some (a : Int)) (some (b : Int)) = tx (slice T a b) := by
  apply TL.ext_tl
  show ((tx T).cps.toList.drop (HT.sIx (tx T).length 0 (some (a : Int)))).take (HT.sIx (tx T).length (tx T).length (some (b : Int)) - HT.sIx (tx T).length 0 (some (a : Int))) = slice T a b
  rw [HT.sIx_nat, HT.sIx_nat, tx_len]
  show (T.drop (min a T.length)).take (min b T.length - min a T.length) = (T.drop a).take (b - a)
  by_cases h : a ≤ T.length
  · rw [Nat.min_eq_left h]
    by_cases hb : b ≤ T.length
    · rw [Nat.min_eq_left hb]
    · rw [Nat.min_eq_right (show T.length ≤ b by omega), List.take_of_length_le (by simp), List.take_of_length_le (by simp; omega)]
  · have ha : min a T.length = T.length := Nat.min_eq_right (by omega)
    rw [ha, List.drop_eq_nil_of_le (Nat.le_refl T.length), List.drop_eq_nil_of_le (show T.length ≤ a by omega)]
    simp
theorem v_slice {T : List Nat} {a b : Nat} {to th : TO} (h : Ev te σ H (.str (tx T))) (h1 : EvO to σ H (some (a : Int))) (h2 : EvO th σ H (some (b : Int))) (hz : T.length ≤ 100000) : Ev (tSl rSlS te to th) σ H (.str (tx (slice T a b))) := fun H1 e Q q =>
  h H1 e _ fun H2 e2 => h1 H2 (e.trans e2) _ fun H3 e3 => h2 H3 ((e.trans e2).trans e3) _ fun H4 e4 => ⟨tx T, rfl, sz_of (by rw [tx_len]; exact hz), by rw [cutS_slice]; exact q H4 ((e2.trans e3).trans e4)⟩
theorem cutS_drop (T : List Nat) (a : Nat) : cutS (tx T) (some (a : Int)) none = tx (T.drop a) := by
  apply TL.ext_tl
  show ((tx T).cps.toList.drop (HT.sIx (tx T).length 0 (some (a : Int)))).take (HT.sIx (tx T).length (tx T).length none - HT.sIx (tx T).length 0 (some (a : Int))) = T.drop a
  rw [HT.sIx_nat, HT.sIx_none, tx_len]
  show (T.drop (min a T.length)).take (T.length - min a T.length) = T.drop a
  by_cases h : a ≤ T.length
  · rw [Nat.min_eq_left h, List.take_of_length_le (by simp)]
  · have ha : min a T.length = T.length := Nat.min_eq_right (by omega)
    rw [ha, List.drop_eq_nil_of_le (Nat.le_refl T.length), List.drop_eq_nil_of_le (show T.length ≤ a by omega)]
    simp
theorem v_drop {T : List Nat} {a : Nat} {to : TO} (h : Ev te σ H (.str (tx T))) (h1 : EvO to σ H (some (a : Int))) (hz : T.length ≤ 100000) : Ev (tSl rSlS te to tNoPart) σ H (.str (tx (T.drop a))) := fun H1 e Q q =>
  h H1 e _ fun H2 e2 => h1 H2 (e.trans e2) _ fun H3 e3 => ⟨tx T, rfl, sz_of (by rw [tx_len]; exact hz), by rw [cutS_drop]; exact q H3 (e2.trans e3)⟩
theorem cutS_take (T : List Nat) (b : Nat) : cutS (tx T) none (some (b : Int)) = tx (T.take b) := by
  apply TL.ext_tl
  show ((tx T).cps.toList.drop (HT.sIx (tx T).length 0 none)).take (HT.sIx (tx T).length (tx T).length (some (b : Int)) - HT.sIx (tx T).length 0 none) = T.take b
  rw [HT.sIx_nat, HT.sIx_none, tx_len]
  show (T.drop 0).take (min b T.length - 0) = T.take b
  rw [List.drop_zero, Nat.sub_zero]
  by_cases hb : b ≤ T.length
  · rw [Nat.min_eq_left hb]
  · rw [Nat.min_eq_right (by omega), List.take_of_length_le (Nat.le_refl _), List.take_of_length_le (by omega)]
theorem v_take {T : List Nat} {b : Nat} {th : TO} (h : Ev te σ H (.str (tx T))) (h2 : EvO th σ H (some (b : Int))) (hz : T.length ≤ 100000) : Ev (tSl rSlS te tNoPart th) σ H (.str (tx (T.take b))) := fun H1 e Q q =>
  h H1 e _ fun H2 e2 => h2 H2 (e.trans e2) _ fun H3 e3 => ⟨tx T, rfl, sz_of (by rw [tx_len]; exact hz), by rw [cutS_take]; exact q H3 (e2.trans e3)⟩
end
/-! signs as they stand in the module's texts -/
theorem inFig (c : Nat) : decide (c ∈ (Str.ofString "0123456789").cps.toList) = isFig c := by
  have e : (Str.ofString "0123456789").cps.toList = [48, 49, 50, 51, 52, 53, 54, 55, 56, 57] := by decide +kernel
  rw [e]
  unfold isFig
  apply decide_eq_decide.mpr
  simp
  omega
theorem inSmall (c : Nat) : decide (c ∈ (Str.ofString "abcdefghijklmnopqrstuvwxyz").cps.toList) = isSmall c := by
  have e : (Str.ofString "abcdefghijklmnopqrstuvwxyz").cps.toList = [97, 98, 99, 100, 101, 102, 103, 104, 105, 106, 107, 108, 109, 110, 111, 112, 113, 114, 115, 116, 117, 118, 119, 120, 121, 122] := by decide +kernel
  rw [e]
  unfold isSmall
  apply decide_eq_decide.mpr
  simp
  omega
theorem inGreat (c : Nat) : decide (c ∈ (Str.ofString "ABCDEFGHIJKLMNOPQRSTUVWXYZ").cps.toList) = isGreat c := by
  have e : (Str.ofString "ABCDEFGHIJKLMNOPQRSTUVWXYZ").cps.toList = [65, 66, 67, 68, 69, 70, 71, 72, 73, 74, 75, 76, 77, 78, 79, 80, 81, 82, 83, 84, 85, 86, 87, 88, 89, 90] := by decide +kernel
  rw [e]
  unfold isGreat
  apply decide_eq_decide.mpr
  simp
  omega
theorem inCol (c : Nat) : decide (c ∈ (Str.ofString "ABCDEFGHIJ").cps.toList) = isCol c := by
  have e : (Str.ofString "ABCDEFGHIJ").cps.toList = [65, 66, 67, 68, 69, 70, 71, 72, 73, 74] := by decide +kernel
  rw [e]
  unfold isCol
  apply decide_eq_decide.mpr
  simp
  omega
theorem allowed_list : (Str.ofString " !\"#$&'()*+,-./0123456789:;<=>?@ABCDEFGHIJKLMNOPQRSTUVWXYZ[\\]^_`abcdefghijklmnopqrstuvwxyz{|}~").cps.toList = (List.range 127).filter fun c => decide (32 ≤ c) && decide (c ≠ 37) := by decide +kernel
theorem inAllowed (c : Nat) : decide (c ∈ (Str.ofString " !\"#$&'()*+,-./0123456789:;<=>?@ABCDEFGHIJKLMNOPQRSTUVWXYZ[\\]^_`abcdefghijklmnopqrstuvwxyz{|}~").cps.toList) = isAllowed c := by
  rw [allowed_list]
  unfold isAllowed
  apply decide_eq_decide.mpr
  simp
  omega
end Ws
end

section
set_option Elab.async false
set_option linter.all false
set_option maxRecDepth 100000
set_option maxHeartbeats 4000000
namespace Ws
open PySem PySem.Spec PyProof.Rows L2 Evl
section
variable {P : Program} {w : World} {K : PySem.W.Frag} {mg : Str → Option Value} {base : Heap} {f : Addr} {fd : FuncData} {aS aL cBF cBN cSE : Addr} {es : Array DictEntry} {nn : Nat}

/-! ### parts_of, formula_size, depth -/
def pParts : List PyData → PyData → Prop := fun ds d => ∃ f, ds = [toD f] ∧ d = .tuple ((parts f).map toD)
theorem ok_parts_of (D : Df K mg "parts_of" s_parts_of ["formula"] f fd) : FnOk P w K mg base CX0 1 f fd ["formula"] (spF K pParts) := by
  refine D.fn.ok sc_parts_of (fun vs H Q E h => ?_) (fun cdv A outer s H vs Q E hr h => ?_)
  · obtain ⟨ds, d, hd, ⟨f, rfl, rfl⟩, _⟩ := h
    exact hd.len
  obtain ⟨ds, d, hd, ⟨f, rfl, rfl⟩, q⟩ := h
  obtain ⟨x, rfl, h1⟩ := hd.one_eq
  refine ⟨_, (pss_cons (ps_if (pt_cmpR op_eq (pe_ix ix_tup (pv 0) pe_int (fun _ _ => rfl)) pe_str (nomark _)) (pss_one (ps_ret (pe_tup (pa_cons (pe_ix ix_tup (pv 0) pe_int (fun _ _ => rfl)) pa_nil)))) pss_nil)
    (pss_cons (ps_if (pt_cmpR op_eq (pe_ix ix_tup (pv 0) pe_int (fun _ _ => rfl)) pe_str (nomark _)) (pss_one (ps_ret (pe_tup (pa_cons (pe_ix ix_tup (pv 0) pe_int (fun _ _ => rfl)) (pa_cons (pe_ix ix_tup (pv 0) pe_int (fun _ _ => rfl)) pa_nil))))) pss_nil)
    (pss_cons (ps_if (pt_cmpR op_eq (pe_ix ix_tup (pv 0) pe_int (fun _ _ => rfl)) pe_str (nomark _)) (pss_one (ps_ret (pe_ix ix_tup (pv 0) pe_int (fun _ _ => rfl)))) pss_nil)
    (pss_one (ps_ret (pe_tup pa_nil)))))), ?_⟩
  refine Run.go ?_
  have v0 := d_var (K := K) (i := 0) (σ := start ["formula"] [x]) rfl h1
  cases f with
  | less p =>
    simp only [toD] at v0
    exact r_yes (et_is (t_eqS (v_str (d_ix0 v0)) ev_c) (by decide +kernel)) (r_ret (d_tup (da_cons (d_ix1 v0) da_nil) (by simp)) fun v H1 e t => q v H1 e t)
  | two o a b =>
    simp only [toD] at v0
    exact r_no (et_is (t_eqS (v_str (d_ix0 v0)) ev_c) (by decide +kernel)) (r_yes (et_is (t_eqS (v_str (d_ix0 v0)) ev_c) (by decide +kernel))
      (r_ret (d_tup (da_cons (d_ix2 v0) (da_cons (d_ix3 v0) da_nil)) (by simp)) fun v H1 e t => q v H1 e t))
  | call w ps =>
    simp only [toD] at v0
    refine r_no (et_is (t_eqS (v_str (d_ix0 v0)) ev_c) (by decide +kernel)) (r_no (et_is (t_eqS (v_str (d_ix0 v0)) ev_c) (by decide +kernel)) (r_yes (et_is (t_eqS (v_str (d_ix0 v0)) ev_c) (by decide +kernel))
      (r_ret (d_ix2 v0) fun v H1 e t => q v H1 e ?_)))
    rw [toDs_map] at t
    exact t
  | _ =>
    simp only [toD] at v0
    exact r_no (et_is (t_eqS (v_str (d_ix0 v0)) ev_c) (by decide +kernel)) (r_no (et_is (t_eqS (v_str (d_ix0 v0)) ev_c) (by decide +kernel)) (r_no (et_is (t_eqS (v_str (d_ix0 v0)) ev_c) (by decide +kernel))
      (fun H1 e => (r_ret (d_tup da_nil (by simp)) fun v H1 e t => q v H1 e t) H1 e)))

def pSize (n : Nat) : List PyData → PyData → Prop := fun ds d => ∃ f, ds = [toD f] ∧ depth f ≤ n ∧ size f ≤ 50000 ∧ d = .int (size f : Int)
theorem sizes_len : ∀ ps : List F, ps.length ≤ sizes ps
  | [] => Nat.le_refl _
  | p :: ps => by
    have := sizes_len ps
    have := size_pos p
    simp only [sizes, List.length_cons]
    omega
theorem parts_len (f : F) : (parts f).length < size f := by
  rw [size_parts]
  have := sizes_len (parts f)
  omega
theorem sizes_sum : ∀ ps : List F, ((ps.map fun p => (size p : Int))).sum = (sizes ps : Int)
  | [] => rfl
  | p :: ps => by
    rw [List.map_cons, List.sum_cons, sizes_sum ps]
    simp only [sizes]
    omega
theorem ok_formula_size {n : Nat} (M : Md K w mg aS aL cBF cBN cSE es nn) (D : Df K mg "formula_size" s_formula_size ["formula"] f fd) (c_parts_of : Cl P w K mg base CX0 1 "parts_of" (spF K pParts)) (c_formula_size : Cl P w K mg base CX0 (n + 1) "formula_size" (spF K (pSize n))) :
    FnOk P w K mg base CX0 (n + 2) f fd ["formula"] (spF K (pSize (n + 1))) := by
  refine D.fn.ok sc_formula_size (fun vs H Q E h => ?_) (fun cdv A outer s H vs Q E hr h => ?_)
  · obtain ⟨ds, d, hd, ⟨f, rfl, _, _, rfl⟩, _⟩ := h
    exact hd.len
  obtain ⟨ds, d, hd, ⟨f, rfl, hn, hz, rfl⟩, q⟩ := h
  obtain ⟨x, rfl, h1⟩ := hd.one_eq
  refine ⟨_, (pss_one (ps_ret (pe_op op_add pe_int (pe_callB (cr_sum rfl) (by rfl) M.b_sum (by decide +kernel) (pa_cons (pe_lc (own := [("part", 1)]) (g := gName 1) (tt := tYes) rfl sc_formula_size.nd (pi_tup (pe_cl c_parts_of hr (by omega) pass0 (pa_cons (pv 0) pa_nil))) (blkOk_by (N := ["formula", "part"]) (sc := defScope s_formula_size) (by decide +kernel)) (fun _ _ _ _ _ => pg_name (i := 1) sc_formula_size.nd rfl (Or.inl rfl)) (fun _ _ _ _ _ => pts_nil) (fun _ _ _ _ _ => (pe_cl c_formula_size hr (by omega) pass0 (pa_cons (pv 1) pa_nil)))) pa_nil))))), ?_⟩
  refine Run.go ?_
  have v0 := d_var (K := K) (i := 0) (σ := start ["formula", "part"] [x]) rfl h1
  refine r_ret (d_is (d_int (ev_op ev_c (v_sum (ns := (parts f).map fun p => (size p : Int)) ?_ fun a H' Q hs hq => ⟨a, _, rfl, hs, hq⟩) rv_I0)) ?_) fun v H1 e t => q v H1 e t
  · rw [List.map_map]
    exact dl_lcM (f := toD) (d_call (P := pParts) (da_cons v0 da_nil) ⟨f, rfl, rfl⟩) (by have := parts_len f; omega) (fun x => rfl) fun x p H1 ex hm hx => d_call (P := pSize n) (da_cons (d_var rfl hx) da_nil) ⟨p, rfl, by have := depth_part hm; omega, by have := size_part hm; omega, rfl⟩
  · rw [sizes_sum, size_parts f]
    rfl

def pDepth (n : Nat) : List PyData → PyData → Prop := fun ds d => ∃ f, ds = [toD f] ∧ depth f ≤ n ∧ size f ≤ 50000 ∧ d = .int (depth f : Int)
theorem depths_max : ∀ ps : List F, (ps.map depth).foldr max 0 = depths ps
  | [] => rfl
  | p :: ps => by
    rw [List.map_cons, List.foldr_cons, depths_max ps]
    simp only [depths]
theorem v_maxD {σ : S} {H : Hp} {ta : TE} {ns : List Nat} (h : EvDL K ta σ H (ns.map fun n : Nat => PyData.int (n : Int))) : Ev (tCKw (rMaxD K) (tCons ta tNil) (tCons (tC (.int 0)) tNil)) σ H (.int ((ns.foldr max 0 : Nat) : Int)) := fun H1 e Q q =>
  h H1 e _ fun p xs H2 hp e2 h2 ts => ⟨p, ns, rfl, rfl, by
    have e0 : (ns.map fun n : Nat => PyData.int (n : Int)) = (ns.map fun n : Nat => (n : Int)).map PyData.int := by rw [List.map_map]; rfl
    rw [e0] at ts
    rw [ts.ints, List.map_map] at h2
    exact sq_of h2, q H2 e2⟩
theorem ok_depth {n : Nat} (M : Md K w mg aS aL cBF cBN cSE es nn) (D : Df K mg "depth" s_depth ["formula"] f fd) (c_parts_of : Cl P w K mg base CX0 1 "parts_of" (spF K pParts)) (c_depth : Cl P w K mg base CX0 (n + 1) "depth" (spF K (pDepth n))) :
    FnOk P w K mg base CX0 (n + 2) f fd ["formula"] (spF K (pDepth (n + 1))) := by
  refine D.fn.ok sc_depth (fun vs H Q E h => ?_) (fun cdv A outer s H vs Q E hr h => ?_)
  · obtain ⟨ds, d, hd, ⟨f, rfl, _, _, rfl⟩, _⟩ := h
    exact hd.len
  obtain ⟨ds, d, hd, ⟨f, rfl, hn, hz, rfl⟩, q⟩ := h
  obtain ⟨x, rfl, h1⟩ := hd.one_eq
  refine ⟨_, (pss_one (ps_ret (pe_op op_add pe_int (pe_callBK (cr_maxD rfl hr.units) (by rfl) M.b_max (by decide +kernel) (pa_cons (pe_lc (own := [("part", 1)]) (g := gName 1) (tt := tYes) rfl sc_depth.nd (pi_tup (pe_cl c_parts_of hr (by omega) pass0 (pa_cons (pv 0) pa_nil))) (blkOk_by (N := ["formula", "part"]) (sc := defScope s_depth) (by decide +kernel)) (fun _ _ _ _ _ => pg_name (i := 1) sc_depth.nd rfl (Or.inl rfl)) (fun _ _ _ _ _ => pts_nil) (fun _ _ _ _ _ => (pe_cl c_depth hr (by omega) pass0 (pa_cons (pv 1) pa_nil)))) pa_nil) (pk_cons pe_int pk_nil))))), ?_⟩
  refine Run.go ?_
  have v0 := d_var (K := K) (i := 0) (σ := start ["formula", "part"] [x]) rfl h1
  refine r_ret (d_is (d_int (v_add ev_c (v_maxD (ns := (parts f).map depth) ?_))) ?_) fun v H1 e t => q v H1 e t
  · rw [List.map_map]
    exact dl_lcM (f := toD) (d_call (P := pParts) (da_cons v0 da_nil) ⟨f, rfl, rfl⟩) (by have := parts_len f; omega) (fun x => rfl) fun x p H1 ex hm hx => d_call (P := pDepth n) (da_cons (d_var rfl hx) da_nil) ⟨p, rfl, by have := depth_part hm; omega, by have := size_part hm; omega, rfl⟩
  · rw [depths_max, depth_parts f]
    rfl
theorem none_cl {n : Nat} {x : Str} {st : Stmt} {ps : List Str} {R : List PyData → PyData → Prop} (D : Df K mg x st ps f fd) (h : ∀ ds d, ¬ R ds d) : Cl P w K mg base CX0 n x (spF K R) :=
  D.cl ⟨fun vs H Q E ⟨ds, d, _, hr, _⟩ => (h ds d hr).elim, fun A outer s H args us vs Q E _ _ _ _ ⟨ds, d, _, hr, _⟩ => (h ds d hr).elim⟩
theorem cl_formula_size (M : Md K w mg aS aL cBF cBN cSE es nn) (D : Df K mg "formula_size" s_formula_size ["formula"] f fd) (c_parts_of : Cl P w K mg base CX0 1 "parts_of" (spF K pParts)) : ∀ n : Nat, Cl P w K mg base CX0 (n + 1) "formula_size" (spF K (pSize n))
  | 0 => none_cl D fun ds d ⟨f, _, h, _⟩ => by have := depth_pos f; omega
  | n + 1 => D.cl (ok_formula_size M D c_parts_of (cl_formula_size M D c_parts_of n))
theorem cl_depth (M : Md K w mg aS aL cBF cBN cSE es nn) (D : Df K mg "depth" s_depth ["formula"] f fd) (c_parts_of : Cl P w K mg base CX0 1 "parts_of" (spF K pParts)) : ∀ n : Nat, Cl P w K mg base CX0 (n + 1) "depth" (spF K (pDepth n))
  | 0 => none_cl D fun ds d ⟨f, _, h, _⟩ => by have := depth_pos f; omega
  | n + 1 => D.cl (ok_depth M D c_parts_of (cl_depth M D c_parts_of n))

/-! ### is_short, is_whole, is_place, is_of, is_text -/
def pShort : List PyData → PyData → Prop := fun ds d => ∃ i : Int, ds = [.int i] ∧ d = .bool (decide (i.natAbs < BIG))
theorem ok_is_short (M : Md K w mg aS aL cBF cBN cSE es nn) (D : Df K mg "is_short" s_is_short ["whole"] f fd) : FnOk P w K mg base CX0 1 f fd ["whole"] (spF K pShort) := by
  refine D.fn.ok sc_is_short (fun vs H Q E h => ?_) (fun cdv A outer s H vs Q E hr h => ?_)
  · obtain ⟨ds, d, hd, ⟨i, rfl, rfl⟩, _⟩ := h
    exact hd.len
  obtain ⟨ds, d, hd, ⟨i, rfl, rfl⟩, q⟩ := h
  obtain ⟨x, rfl, h1⟩ := hd.one_eq
  refine ⟨_, (pss_one (ps_ret (pe_cmpR op_lt (pe_callB call_abs (by rfl) M.b_abs (by decide +kernel) (pa_cons (pv 0) pa_nil)) (pe_gi M.c_GREAT_values) (nomark _)))), ?_⟩
  refine Run.go ?_
  have v0 := v_int (d_var (K := K) (i := 0) (σ := start ["whole"] [x]) rfl h1)
  have e : PyData.bool (decide ((i.natAbs : Int) < (BIG : Int))) = PyData.bool (decide (i.natAbs < BIG)) := congrArg PyData.bool (decide_eq_decide.mpr Int.ofNat_lt)
  rw [← e] at q
  exact r_ret (d_bl (v_lt (v_abs v0) ev_c)) q
def pWhole : List PyData → PyData → Prop := fun ds d => ∃ i : Int, ds = [.int i] ∧ d = .bool true
theorem ok_is_whole (M : Md K w mg aS aL cBF cBN cSE es nn) (D : Df K mg "is_whole" s_is_whole ["x"] f fd) : FnOk P w K mg base CX0 1 f fd ["x"] (spF K pWhole) := by
  refine D.fn.ok sc_is_whole (fun vs H Q E h => ?_) (fun cdv A outer s H vs Q E hr h => ?_)
  · obtain ⟨ds, d, hd, ⟨i, rfl, rfl⟩, _⟩ := h
    exact hd.len
  obtain ⟨ds, d, hd, ⟨i, rfl, rfl⟩, q⟩ := h
  obtain ⟨x, rfl, h1⟩ := hd.one_eq
  refine ⟨_, (pss_one (ps_ret (pe_and (pe_callB call_isi (by rfl) M.b_isinstance (by decide +kernel) (pa_cons (pv 0) (pa_cons (pe_bltn (v := .ty "int") (u := .type "int") (by rfl) M.b_int (by decide +kernel) rfl) pa_nil))) (pe_one (pe_not (pe_callB call_isi (by rfl) M.b_isinstance (by decide +kernel) (pa_cons (pv 0) (pa_cons (pe_bltn (v := .ty "bool") (u := .type "bool") (by rfl) M.b_bool (by decide +kernel) rfl) pa_nil)))))))), ?_⟩
  refine Run.go ?_
  have v0 := v_int (d_var (K := K) (i := 0) (σ := start ["x"] [x]) rfl h1)
  exact r_ret (d_bl (ev_andV (a := true) (b := true) (v_isi v0 (fun _ => .int i)) fun _ => ev_notV (a := false) (v_isi v0 (fun _ => .int i)))) q
def pPlace : List PyData → PyData → Prop := fun ds d => ∃ r c : Nat, ds = [.int (r : Int), .int (c : Int)] ∧ d = .bool (place r c)
theorem ok_is_place (M : Md K w mg aS aL cBF cBN cSE es nn) (D : Df K mg "is_place" s_is_place ["row", "column"] f fd) (c_is_whole : Cl P w K mg base CX0 1 "is_whole" (spF K pWhole)) : FnOk P w K mg base CX0 2 f fd ["row", "column"] (spF K pPlace) := by
  refine D.fn.ok sc_is_place (fun vs H Q E h => ?_) (fun cdv A outer s H vs Q E hr h => ?_)
  · obtain ⟨ds, d, hd, ⟨r, c, rfl, rfl⟩, _⟩ := h
    exact hd.len
  obtain ⟨ds, d, hd, ⟨r, c, rfl, rfl⟩, q⟩ := h
  obtain ⟨x, y, rfl, h1, h2⟩ := hd.two_eq
  refine ⟨_, (pss_one (ps_ret (pe_and (pe_cl c_is_whole hr (by omega) pass0 (pa_cons (pv 0) pa_nil)) (pe_and (pe_cl c_is_whole hr (by omega) pass0 (pa_cons (pv 1) pa_nil)) (pe_and (pe_chain op_le op_lt pe_int (pv 0) (pe_gi M.c_MOST_ROWS)) (pe_one (pe_chain op_le op_lt pe_int (pv 1) (pe_gi M.c_MOST_COLUMNS)))))))), ?_⟩
  refine Run.go ?_
  have v0 := v_int (d_var (K := K) (i := 0) (σ := start ["row", "column"] [x, y]) rfl h1)
  have v1 := v_int (d_var (K := K) (i := 1) (σ := start ["row", "column"] [x, y]) rfl h2)
  refine r_ret (d_is (d_bl (ev_andV (a := true) (v_bl (d_call (P := pWhole) (da_cons (d_int v0) da_nil) ⟨_, rfl, rfl⟩)) fun _ => ev_andV (a := true) (v_bl (d_call (P := pWhole) (da_cons (d_int v1) da_nil) ⟨_, rfl, rfl⟩)) fun _ =>
    ev_andV (v_chain ev_c v0 (fun H1 Q _ q => ⟨_, _, rfl, rfl, q⟩) fun _ => ⟨ev_c, fun H1 Q _ q => ⟨_, _, rfl, rfl, q⟩⟩) fun _ => v_chain ev_c v1 (fun H1 Q _ q => ⟨_, _, rfl, rfl, q⟩) fun _ => ⟨ev_c, fun H1 Q _ q => ⟨_, _, rfl, rfl, q⟩⟩)) ?_) q
  congr 1
  unfold place
  rw [Bool.eq_iff_iff]
  simp
  omega
def pOf (z : Str) (p : Nat → Bool) : List PyData → PyData → Prop := fun ds d => ∃ wd : List Nat, ds = [.str (tx wd), .str z] ∧ wd.length ≤ 50000 ∧ d = .bool (wordOk p wd)
theorem dl_signs {σ : S} {H : Hp} {tl te : TE} {j : Nat} {vs : List Nat} {l : List Nat} {g : Nat → PyData} (h : Ev tl σ H (.str (tx l))) (hz : l.length ≤ 50000) (hw : ∀ x, wipe ((wipe σ vs).set j (some x)) vs = wipe σ vs)
    (he : ∀ (c : Nat) H1, Ex H H1 → c ∈ l → EvD K te ((wipe σ vs).set j (some (.str ⟨#[c]⟩))) H1 (g c)) : EvDL K (tLc (iStr tl) (gName j) tYes te vs) σ H (l.map g) := dl_lcS h (by rw [tx_len]; exact hz) hw he
theorem all_map (l : List Nat) (p : Nat → Bool) : (l.map p).all id = l.all p := by
  rw [List.all_map]
  rfl
theorem ok_is_of {z : Str} {p : Nat → Bool} (hp : ∀ c, decide (c ∈ z.cps.toList) = p c) (M : Md K w mg aS aL cBF cBN cSE es nn) (D : Df K mg "is_of" s_is_of ["word", "letters"] f fd) : FnOk P w K mg base CX0 1 f fd ["word", "letters"] (spF K (pOf z p)) := by
  refine D.fn.ok sc_is_of (fun vs H Q E h => ?_) (fun cdv A outer s H vs Q E hr h => ?_)
  · obtain ⟨ds, d, hd, ⟨r, rfl, _, rfl⟩, _⟩ := h
    exact hd.len
  obtain ⟨ds, d, hd, ⟨wd, rfl, hz, rfl⟩, q⟩ := h
  obtain ⟨x, y, rfl, h1, h2⟩ := hd.two_eq
  refine ⟨_, (pss_one (ps_ret (pe_and (pe_chain op_le op_le pe_int (pe_callB call_len_str (by rfl) M.b_len PySem.boot_len (pa_cons (pv 0) pa_nil)) (pe_gi M.c_MOST_LETTERS)) (pe_one (pe_callB (cr_all rfl) (by rfl) M.b_all (by decide +kernel) (pa_cons (pe_lc (own := [("sign", 2)]) (g := gName 2) (tt := tYes) rfl sc_is_of.nd (pi_str (pv 0)) (blkOk_by (N := ["word", "letters", "sign"]) (sc := defScope s_is_of) (by decide +kernel)) (fun _ _ _ _ _ => pg_name (i := 2) sc_is_of.nd rfl (Or.inl rfl)) (fun _ _ _ _ _ => pts_nil) (fun _ _ _ _ _ => (pe_cmpR op_in_sign (pv 2) (pv 1) rfl))) pa_nil)))))), ?_⟩
  refine Run.go ?_
  have v0 := v_str (d_var (K := K) (i := 0) (σ := start ["word", "letters", "sign"] [x, y]) rfl h1)
  refine r_ret (d_is (d_bl (ev_andV (v_chain ev_c (v_len v0 (by rw [tx_len]; omega)) (fun H1 Q _ q => ⟨_, _, rfl, rfl, q⟩) fun _ => ⟨ev_c, fun H1 Q _ q => ⟨_, _, rfl, rfl, q⟩⟩) fun _ =>
    v_all (bs := wd.map p) ?_ fun a H' Q hs hq => ⟨a, _, rfl, hs, hq⟩)) ?_) q
  · rw [List.map_map]
    exact dl_signs v0 hz (fun x => rfl) fun c H1 ex hm => d_is (d_bl (v_in (ev_var rfl) (v_str (d_var rfl (h2.ex ex))))) (by rw [hp]; rfl)
  · rw [all_map, tx_len]
    congr 1
    unfold wordOk
    rw [Bool.eq_iff_iff]
    simp
    omega
def pText : List PyData → PyData → Prop := fun ds d => ∃ t : List Nat, ds = [.str (tx t)] ∧ t.length ≤ 50000 ∧ d = .bool (decide (t.length ≤ 60) && t.all isAllowed)
theorem ok_is_text (M : Md K w mg aS aL cBF cBN cSE es nn) (D : Df K mg "is_text" s_is_text ["text"] f fd) : FnOk P w K mg base CX0 1 f fd ["text"] (spF K pText) := by
  refine D.fn.ok sc_is_text (fun vs H Q E h => ?_) (fun cdv A outer s H vs Q E hr h => ?_)
  · obtain ⟨ds, d, hd, ⟨r, rfl, _, rfl⟩, _⟩ := h
    exact hd.len
  obtain ⟨ds, d, hd, ⟨t, rfl, hz, rfl⟩, q⟩ := h
  obtain ⟨x, rfl, h1⟩ := hd.one_eq
  refine ⟨_, (pss_one (ps_ret (pe_and (pe_cmpR op_le (pe_callB call_len_str (by rfl) M.b_len PySem.boot_len (pa_cons (pv 0) pa_nil)) (pe_gi M.c_MOST_SIGNS) (nomark _)) (pe_one (pe_callB (cr_all rfl) (by rfl) M.b_all (by decide +kernel) (pa_cons (pe_lc (own := [("sign", 1)]) (g := gName 1) (tt := tYes) rfl sc_is_text.nd (pi_str (pv 0)) (blkOk_by (N := ["text", "sign"]) (sc := defScope s_is_text) (by decide +kernel)) (fun _ _ _ _ _ => pg_name (i := 1) sc_is_text.nd rfl (Or.inl rfl)) (fun _ _ _ _ _ => pts_nil) (fun _ _ _ _ _ => (pe_cmpR op_in_sign (pv 1) (pe_gs M.c_ALLOWED) rfl))) pa_nil)))))), ?_⟩
  refine Run.go ?_
  have v0 := v_str (d_var (K := K) (i := 0) (σ := start ["text", "sign"] [x]) rfl h1)
  refine r_ret (d_is (d_bl (ev_andV (v_le (v_len v0 (by rw [tx_len]; omega)) ev_c) fun _ => v_all (bs := t.map isAllowed) ?_ fun a H' Q hs hq => ⟨a, _, rfl, hs, hq⟩)) ?_) q
  · rw [List.map_map]
    exact dl_signs v0 hz (fun x => rfl) fun c H1 ex hm => d_is (d_bl (v_in (ev_var rfl) ev_c)) (by rw [inAllowed]; rfl)
  · rw [all_map, tx_len]
    congr 1
    rw [Bool.eq_iff_iff]
    simp
    omega
end
end Ws
end

section
set_option Elab.async false
set_option linter.all false
set_option maxRecDepth 100000
set_option maxHeartbeats 4000000
namespace Ws
open PySem PySem.Spec PyProof.Rows L2 Evl
section
variable {P : Program} {w : World} {K : PySem.W.Frag} {mg : Str → Option Value} {base : Heap} {f : Addr} {fd : FuncData} {aS aL cBF cBN cSE : Addr} {es : Array DictEntry} {nn : Nat}

/-! ### is_put, is_leaf, is_sound, is_formula -/
def isPut : F → Bool
  | .num _ => true | .txt _ => true | .tru _ => true | _ => false
def putD : F → PyData
  | .num n => .tuple [.str "num", .int (n : Int), .int 1]
  | .txt t => .tuple [.str "text", .str (tx t)]
  | .tru b => .tuple [.str "truth", .bool b]
  | _ => .none
theorem v_lenT {σ : S} {H : Hp} {te : TE} {ds : List PyData} (h : EvD K te σ H (.tuple ds)) : Ev (tCB (fun xs H Q => ∃ p ys, xs = [.ref p] ∧ (SqL K H p ys ∨ SqT K H p ys) ∧ Q (.int ys.length) H) (tCons te tNil)) σ H (.int (ds.length : Int)) :=
  v_cbD h fun v H1 Q e t q => by
    obtain ⟨a, xs, rfl, hs, hx⟩ := t.tup_eq
    refine ⟨a, xs, rfl, .inr hs, ?_⟩
    rw [hx.len]
    exact q
def pPut : List PyData → PyData → Prop := fun ds d => ∃ f, isPut f = true ∧ small 50000 f = true ∧ ds = [putD f] ∧ d = .bool (good f)
theorem ok_is_put (M : Md K w mg aS aL cBF cBN cSE es nn) (D : Df K mg "is_put" s_is_put ["value"] f fd) (c_is_whole : Cl P w K mg base CX0 1 "is_whole" (spF K pWhole)) (c_is_short : Cl P w K mg base CX0 1 "is_short" (spF K pShort)) (c_is_text : Cl P w K mg base CX0 1 "is_text" (spF K pText)) :
    FnOk P w K mg base CX0 2 f fd ["value"] (spF K pPut) := by
  refine D.fn.ok sc_is_put (fun vs H Q E h => ?_) (fun cdv A outer s H vs Q E hr h => ?_)
  · obtain ⟨ds, d, hd, ⟨f, _, _, rfl, rfl⟩, _⟩ := h
    exact hd.len
  obtain ⟨ds, d, hd, ⟨f, hf, hs, rfl, rfl⟩, q⟩ := h
  obtain ⟨x, rfl, h1⟩ := hd.one_eq
  refine ⟨_, (pss_cons (ps_if (pt_cmpR op_eq (pe_ix ix_tup (pv 0) pe_int (fun _ _ => rfl)) pe_str (nomark _)) (pss_one (ps_ret (pe_and (pe_cmpR op_eq (pe_callB call_len_seq (by rfl) M.b_len PySem.boot_len (pa_cons (pv 0) pa_nil)) pe_int (nomark _)) (pe_and (pe_cl c_is_whole hr (by omega) pass0 (pa_cons (pe_ix ix_tup (pv 0) pe_int (fun _ _ => rfl)) pa_nil)) (pe_and (pe_cmpR op_ge (pe_ix ix_tup (pv 0) pe_int (fun _ _ => rfl)) pe_int (nomark _)) (pe_and (pe_cmpR op_eq (pe_ix ix_tup (pv 0) pe_int (fun _ _ => rfl)) pe_int (nomark _)) (pe_one (pe_cl c_is_short hr (by omega) pass0 (pa_cons (pe_ix ix_tup (pv 0) pe_int (fun _ _ => rfl)) pa_nil))))))))) pss_nil)
    (pss_cons (ps_if (pt_cmpR op_eq (pe_ix ix_tup (pv 0) pe_int (fun _ _ => rfl)) pe_str (nomark _)) (pss_one (ps_ret (pe_and (pe_cmpR op_eq (pe_callB call_len_seq (by rfl) M.b_len PySem.boot_len (pa_cons (pv 0) pa_nil)) pe_int (nomark _)) (pe_one (pe_cl c_is_text hr (by omega) pass0 (pa_cons (pe_ix ix_tup (pv 0) pe_int (fun _ _ => rfl)) pa_nil)))))) pss_nil)
    (pss_one (ps_ret (pe_and (pe_cmpR op_eq (pe_ix ix_tup (pv 0) pe_int (fun _ _ => rfl)) pe_str (nomark _)) (pe_one (pe_cmpR op_eq (pe_callB call_len_seq (by rfl) M.b_len PySem.boot_len (pa_cons (pv 0) pa_nil)) pe_int (nomark _)))))))), ?_⟩
  refine Run.go ?_
  have v0 := d_var (K := K) (i := 0) (σ := start ["value"] [x]) rfl h1
  cases f with
  | num n =>
    simp only [putD] at v0
    refine r_yes (t_tag v0) (r_ret (d_is (d_bl (ev_andV (a := true) (b_eqI (v_lenT v0) ev_c) fun _ => ev_andV (a := true) (v_bl (d_call (P := pWhole) (da_cons (d_ix1 v0) da_nil) ⟨_, rfl, rfl⟩)) fun _ =>
      ev_andV (v_ge (v_int (d_ix1 v0)) ev_c) fun _ => ev_andV (a := true) (ev_is (b_eqI (v_int (d_ix2 v0)) ev_c) rfl) fun _ => v_bl (d_call (P := pShort) (da_cons (d_ix1 v0) da_nil) ⟨_, rfl, rfl⟩))) ?_) q)
    congr 1
  | txt t =>
    simp only [putD] at v0
    simp only [small, decide_eq_true_eq] at hs
    refine r_no (t_tag v0) (r_yes (t_tag v0) (r_ret (d_is (d_bl (ev_andV (a := true) (b_eqI (v_lenT v0) ev_c) fun _ => v_bl (d_call (P := pText) (da_cons (d_ix1 v0) da_nil) ⟨t, rfl, hs, rfl⟩))) ?_) q))
    simp only [Bool.true_and, good]
  | tru b =>
    simp only [putD] at v0
    refine r_no (t_tag v0) (r_no (t_tag v0) (r_ret (d_is (d_bl (ev_andV (a := true) (b_tag v0) fun _ => b_eqI (v_lenT v0) ev_c)) ?_) q))
    simp only [good]
    rfl
  | _ => cases hf
def isLeaf : F → Bool
  | .less _ => false | .two _ _ _ => false | .call _ _ => false | _ => true
theorem et_orV {σ : S} {H : Hp} {t u : TT} {a b : Bool} (h1 : EvT t σ H a) (h2 : a = false → EvT u σ H b) : EvT (tOr t u) σ H (a || b) := et_or h1 h2
def pLeaf : List PyData → PyData → Prop := fun ds d => ∃ f, isLeaf f = true ∧ small 50000 f = true ∧ ds = [toD f] ∧ d = .bool (good f)
theorem ok_is_leaf (M : Md K w mg aS aL cBF cBN cSE es nn) (D : Df K mg "is_leaf" s_is_leaf ["formula"] f fd) (c_is_put : Cl P w K mg base CX0 2 "is_put" (spF K pPut)) (c_is_place : Cl P w K mg base CX0 2 "is_place" (spF K pPlace))
    (c_is_of : Cl P w K mg base CX0 1 "is_of" (spF K (pOf "abcdefghijklmnopqrstuvwxyz" isSmall))) : FnOk P w K mg base CX0 3 f fd ["formula"] (spF K pLeaf) := by
  refine D.fn.ok sc_is_leaf (fun vs H Q E h => ?_) (fun cdv A outer s H vs Q E hr h => ?_)
  · obtain ⟨ds, d, hd, ⟨f, _, _, rfl, rfl⟩, _⟩ := h
    exact hd.len
  obtain ⟨ds, d, hd, ⟨f, hf, hs, rfl, rfl⟩, q⟩ := h
  obtain ⟨x, rfl, h1⟩ := hd.one_eq
  refine ⟨_, (pss_cons (ps_if (pt_cmpR op_eq (pe_ix ix_tup (pv 0) pe_int (fun _ _ => rfl)) pe_str (nomark _)) (pss_one (ps_ret (pe_cl c_is_put hr (by omega) pass0 (pa_cons (pe_ix ix_tup (pv 0) pe_int (fun _ _ => rfl)) pa_nil)))) pss_nil)
    (pss_cons (ps_if (pt_cmpR op_eq (pe_ix ix_tup (pv 0) pe_int (fun _ _ => rfl)) pe_str (nomark _)) (pss_one (ps_ret (pe_cl c_is_place hr (by omega) pass0 (pa_cons (pe_ix ix_tup (pv 0) pe_int (fun _ _ => rfl)) (pa_cons (pe_ix ix_tup (pv 0) pe_int (fun _ _ => rfl)) pa_nil))))) pss_nil)
    (pss_cons (ps_if (pt_cmpR op_eq (pe_ix ix_tup (pv 0) pe_int (fun _ _ => rfl)) pe_str (nomark _)) (pss_cons (ps_if (PW.pt (pw_or (pt_not (pt_val (pe_cl c_is_place hr (by omega) pass0 (pa_cons (pe_ix ix_tup (pv 0) pe_int (fun _ _ => rfl)) (pa_cons (pe_ix ix_tup (pv 0) pe_int (fun _ _ => rfl)) pa_nil))))) (pw_or1 (pt_not (pt_val (pe_cl c_is_place hr (by omega) pass0 (pa_cons (pe_ix ix_tup (pv 0) pe_int (fun _ _ => rfl)) (pa_cons (pe_ix ix_tup (pv 0) pe_int (fun _ _ => rfl)) pa_nil)))))))) (pss_one (ps_ret pe_bl)) pss_nil)
    (pss_one (ps_ret (pe_and (pe_cmpR op_le (pe_ix ix_tup (pv 0) pe_int (fun _ _ => rfl)) (pe_ix ix_tup (pv 0) pe_int (fun _ _ => rfl)) (nomark _)) (pe_one (pe_cmpR op_le (pe_ix ix_tup (pv 0) pe_int (fun _ _ => rfl)) (pe_ix ix_tup (pv 0) pe_int (fun _ _ => rfl)) (nomark _))))))) pss_nil)
    (pss_cons (ps_if (pt_cmpR op_eq (pe_ix ix_tup (pv 0) pe_int (fun _ _ => rfl)) pe_str (nomark _)) (pss_one (ps_ret (pe_cl c_is_of hr (by omega) pass0 (pa_cons (pe_ix ix_tup (pv 0) pe_int (fun _ _ => rfl)) (pa_cons (pe_gs M.c_SMALL) pa_nil))))) pss_nil)
    (pss_one (ps_ret (pe_cmpR op_eq (pe_ix ix_tup (pv 0) pe_int (fun _ _ => rfl)) pe_str (nomark _)))))))), ?_⟩
  refine Run.go ?_
  have v0 := d_var (K := K) (i := 0) (σ := start ["formula"] [x]) rfl h1
  have puts : ∀ f, isPut f = true → small 50000 f = true → toD f = .tuple [.str "put", putD f] := fun f h _ => by
    cases f <;> first | (simp only [toD, putD]; done) | cases h
  cases f with
  | num n =>
    rw [puts _ rfl hs] at v0
    exact r_yes (t_tag v0) (r_ret (d_call (P := pPut) (da_cons (d_ix1 v0) da_nil) ⟨_, rfl, hs, rfl, rfl⟩) q)
  | txt t =>
    rw [puts _ rfl hs] at v0
    exact r_yes (t_tag v0) (r_ret (d_call (P := pPut) (da_cons (d_ix1 v0) da_nil) ⟨_, rfl, hs, rfl, rfl⟩) q)
  | tru b =>
    rw [puts _ rfl hs] at v0
    exact r_yes (t_tag v0) (r_ret (d_call (P := pPut) (da_cons (d_ix1 v0) da_nil) ⟨_, rfl, hs, rfl, rfl⟩) q)
  | «at» r c =>
    simp only [toD] at v0
    simp only [good] at q
    exact r_no (t_tag v0) (r_yes (t_tag v0) (r_ret (d_call (P := pPlace) (da_cons (d_ix1 v0) (da_cons (d_ix2 v0) da_nil)) ⟨_, _, rfl, rfl⟩) q))
  | box r c l f =>
    simp only [toD] at v0
    simp only [good] at q
    refine r_no (t_tag v0) (r_no (t_tag v0) (r_yes (t_tag v0) (r_if (b := !place r c || !place l f) (et_or (et_not (et_B (v_bl (d_call (P := pPlace) (da_cons (d_ix1 v0) (da_cons (d_ix2 v0) da_nil)) ⟨_, _, rfl, rfl⟩))))
      fun _ => et_not (et_B (v_bl (d_call (P := pPlace) (da_cons (d_ix3 v0) (da_cons (d_ix4 v0) da_nil)) ⟨_, _, rfl, rfl⟩)))) (fun hb => ?_) (fun hb => ?_))))
    · refine r_ret (d_is (d_bl ev_c) ?_) q
      congr 1
      revert hb
      cases place r c <;> cases place l f <;> simp
    · refine r_ret (d_is (d_bl (ev_andV (v_le (v_int (d_ix1 v0)) (v_int (d_ix3 v0))) fun _ => v_le (v_int (d_ix2 v0)) (v_int (d_ix4 v0)))) ?_) q
      congr 1
      have h1 : place r c = true ∧ place l f = true := by
        revert hb
        cases place r c <;> cases place l f <;> simp
      rw [h1.1, h1.2, Bool.eq_iff_iff]
      simp
  | word wd =>
    simp only [toD] at v0
    simp only [good] at q
    simp only [small, decide_eq_true_eq] at hs
    exact r_no (t_tag v0) (r_no (t_tag v0) (r_no (t_tag v0) (r_yes (t_tag v0) (r_ret (d_call (P := pOf "abcdefghijklmnopqrstuvwxyz" isSmall) (da_cons (d_ix1 v0) (da_cons (d_str ev_c) da_nil)) ⟨wd, rfl, hs, rfl⟩) q))))
  | lost =>
    simp only [toD] at v0
    simp only [good] at q
    exact r_no (t_tag v0) (r_no (t_tag v0) (r_no (t_tag v0) (r_no (t_tag v0) (r_ret (d_bl (b_tag v0)) q))))
  | _ => cases hf
def pSound (n : Nat) : List PyData → PyData → Prop := fun ds d => ∃ f, ds = [toD f] ∧ depth f ≤ n ∧ size f ≤ 50000 ∧ small 50000 f = true ∧ d = .bool (good f)
theorem leaf_parts {f : F} (h : isLeaf f = true) : good f = (leafOk f && ((parts f).map good).all id) := by
  rw [good_parts]
  cases f <;> simp [callOk, parts] <;> cases h
theorem v_levels (M : Md K w mg aS aL cBF cBN cSE es nn) {σ : S} {H : Hp} {ta : TE} {o : Op} (ha : Ev ta σ H (.str (opS o))) : Ev (tOp (rIxD K w) (tC (.ref aL)) ta) σ H (.int (o.lev : Int)) :=
  v_op2 ev_c ha fun H1 Q _ q => by
    obtain ⟨t, ht⟩ := M.levV o
    exact ⟨aL, opS o, .int (o.lev : Int), rfl, rfl, ⟨es, nn, _, M.levD.at_, M.levD.lit, ht, ⟨t, rfl⟩⟩, q⟩
theorem ok_is_sound {n : Nat} (M : Md K w mg aS aL cBF cBN cSE es nn) (D : Df K mg "is_sound" s_is_sound ["formula"] f fd) (c_parts_of : Cl P w K mg base CX0 1 "parts_of" (spF K pParts)) (c_is_leaf : Cl P w K mg base CX0 3 "is_leaf" (spF K pLeaf))
    (c_is_of : Cl P w K mg base CX0 1 "is_of" (spF K (pOf "ABCDEFGHIJKLMNOPQRSTUVWXYZ" isGreat))) (c_is_sound : Cl P w K mg base CX0 (n + 3) "is_sound" (spF K (pSound n))) : FnOk P w K mg base CX0 (n + 4) f fd ["formula"] (spF K (pSound (n + 1))) := by
  refine D.fn.ok sc_is_sound (fun vs H Q E h => ?_) (fun cdv A outer s H vs Q E hr h => ?_)
  · obtain ⟨ds, d, hd, ⟨f, rfl, _, _, _, rfl⟩, _⟩ := h
    exact hd.len
  obtain ⟨ds, d, hd, ⟨f, rfl, hn, hz, hs, rfl⟩, q⟩ := h
  obtain ⟨x, rfl, h1⟩ := hd.one_eq
  refine ⟨_, (pss_cons (ps_if (PW.pt (pw_and (pt_cmpR op_eq (pe_ix ix_tup (pv 0) pe_int (fun _ _ => rfl)) pe_str (nomark _)) (pw_and1 (pt_cmpR (op_notIn_kd M.levD) (pe_ix ix_tup (pv 0) pe_int (fun _ _ => rfl)) (pe_glob (v := .ref aL) rfl M.c_LEVELS rfl) rfl)))) (pss_one (ps_ret pe_bl)) pss_nil)
    (pss_cons (ps_if (PW.pt (pw_and (pt_cmpR op_eq (pe_ix ix_tup (pv 0) pe_int (fun _ _ => rfl)) pe_str (nomark _)) (pw_and1 (PW.pt (pw_or (pt_not (pt_val (pe_cl c_is_of hr (by omega) pass0 (pa_cons (pe_ix ix_tup (pv 0) pe_int (fun _ _ => rfl)) (pa_cons (pe_gs M.c_GREAT_formulas) pa_nil))))) (pw_or1 (pt_cmpR op_gt (pe_callB call_len_seq (by rfl) M.b_len PySem.boot_len (pa_cons (pe_ix ix_tup (pv 0) pe_int (fun _ _ => rfl)) pa_nil)) (pe_gi M.c_MOST_LETTERS) (nomark _)))))))) (pss_one (ps_ret pe_bl)) pss_nil)
    (pss_cons (ps_if (PW.pt (pw_and (pt_cmpR op_notIn_seq (pe_ix ix_tup (pv 0) pe_int (fun _ _ => rfl)) (pe_tup (pa_cons pe_str (pa_cons pe_str (pa_cons pe_str pa_nil)))) (by rfl)) (pw_and1 (pt_not (pt_val (pe_cl c_is_leaf hr (by omega) pass0 (pa_cons (pv 0) pa_nil))))))) (pss_one (ps_ret pe_bl)) pss_nil)
    (pss_one (ps_ret (pe_callB (cr_all rfl) (by rfl) M.b_all (by decide +kernel) (pa_cons (pe_lc (own := [("part", 1)]) (g := gName 1) (tt := tYes) rfl sc_is_sound.nd (pi_tup (pe_cl c_parts_of hr (by omega) pass0 (pa_cons (pv 0) pa_nil))) (blkOk_by (N := ["formula", "part"]) (sc := defScope s_is_sound) (by decide +kernel)) (fun _ _ _ _ _ => pg_name (i := 1) sc_is_sound.nd rfl (Or.inl rfl)) (fun _ _ _ _ _ => pts_nil) (fun _ _ _ _ _ => (pe_cl c_is_sound hr (by omega) pass0 (pa_cons (pv 1) pa_nil)))) pa_nil))))))), ?_⟩
  refine Run.go ?_
  have v0 := d_var (K := K) (i := 0) (σ := start ["formula", "part"] [x]) rfl h1
  have call := d_call (P := pParts) (E := E0) (da_cons v0 da_nil) ⟨f, rfl, rfl⟩
  have all := v_all (K := K) (r := rAll K) (bs := (parts f).map good) (σ := start ["formula", "part"] [x]) (H := H) (ta := tLc (iTup K (tCall (spF K pParts) [] E0 (tCons (tVar 0) tNil))) (gName 1) tYes (tCall (spF K (pSound n)) [] E0 (tCons (tVar 1) tNil)) [1]) (by
    rw [List.map_map]
    exact dl_lcM (f := toD) call (by have := parts_len f; omega) (fun x => rfl) fun x p H1 ex hm hx => d_call (P := pSound n) (da_cons (d_var rfl hx) da_nil) ⟨p, rfl, by have := depth_part hm; omega, by have := size_part hm; omega, small_part hs hm, rfl⟩) fun a H' Q hs hq => ⟨a, _, rfl, hs, hq⟩
  have hgp := good_parts f
  have inner : leafOk f = true → callOk f = true → good f = ((parts f).map good).all id := fun a b => by
    rw [hgp, a, b, List.all_map]
    rfl
  by_cases hl : isLeaf f = true
  · obtain ⟨s, ds, e, e1, e2, e3⟩ : ∃ s ds, toD f = .tuple (.str s :: ds) ∧ decide (s = "two") = false ∧ decide (s = "call") = false ∧ (!inV (.str s) [.str "less", .str "two", .str "call"]) = true := by
      cases f <;> first | exact ⟨_, _, by simp only [toD] <;> rfl, by decide +kernel, by decide +kernel, by decide +kernel⟩ | (simp [isLeaf] at hl; done)
    have v1 := v0
    rw [e] at v1
    refine r_no (et_and (a := false) (b := false) (t_tag v1 e1) (fun h => nomatch h)) (r_no (et_and (a := false) (b := false) (t_tag v1 e2) (fun h => nomatch h)) (r_if (b := !good f) (et_is (et_and (a := true) (et_is (et_test (ev_niU (v_str (d_ix0 v1)) (eu_tup (ea_cons ev_c (ea_cons ev_c (ea_cons ev_c ea_nil))) (by decide)) rfl rfl)) e3)
      fun _ => et_not (et_B (v_bl (d_call (P := pLeaf) (da_cons v0 da_nil) ⟨f, hl, hs, rfl, rfl⟩)))) (Bool.true_and _)) (fun hb => ?_) (fun hb => ?_)))
    · refine r_ret (d_is (d_bl ev_c) ?_) q
      congr 1
      revert hb
      cases good f <;> simp
    · refine r_ret (d_is (d_bl all) ?_) q
      congr 1
      have hb' : good f = true := by revert hb; cases good f <;> simp
      rw [hb'] at hgp
      rw [hb']
      have hgp := hgp.symm
      simp only [Bool.and_eq_true, List.all_eq_true] at hgp
      rw [List.all_map, List.all_eq_true]
      exact hgp.2
  cases f with
  | less p =>
    have v0' := v0
    simp only [toD] at v0'
    refine r_no (et_and (a := false) (b := false) (t_tag v0') (fun h => nomatch h)) (r_no (et_and (a := false) (b := false) (t_tag v0') (fun h => nomatch h)) (r_no (et_and (a := false) (b := false) (et_is (et_test (ev_niU (v_str (d_ix0 v0')) (eu_tup (ea_cons ev_c (ea_cons ev_c (ea_cons ev_c ea_nil))) (by decide)) rfl rfl)) (by decide +kernel)) (fun h => nomatch h)) ?_))
    rw [inner rfl rfl] at q
    exact r_ret (d_bl all) q
  | two o a b =>
    have v0' := v0
    simp only [toD] at v0'
    obtain ⟨t, ht⟩ := M.levV o
    refine r_no (et_is (et_and (a := true) (b := false) (t_tag v0') fun _ => et_test (v_op2 (z := .bl false) (v_str (d_ix1 v0')) ev_c fun H1 Q _ q => ⟨opS o, _, rfl, rfl, ht, q⟩)) rfl) (r_no (et_and (a := false) (b := false) (t_tag v0') (fun h => nomatch h)) (r_no (et_and (a := false) (b := false) (et_is (et_test (ev_niU (v_str (d_ix0 v0')) (eu_tup (ea_cons ev_c (ea_cons ev_c (ea_cons ev_c ea_nil))) (by decide)) rfl rfl)) (by decide +kernel)) (fun h => nomatch h)) ?_))
    rw [inner rfl rfl] at q
    exact r_ret (d_bl all) q
  | call wd ps =>
    have v0' := v0
    simp only [toD] at v0'
    have hs' := hs
    simp only [small, Bool.and_eq_true, decide_eq_true_eq] at hs'
    have hps : (toDs ps).length = ps.length := by rw [toDs_map]; simp
    refine r_no (et_and (a := false) (b := false) (t_tag v0') (fun h => nomatch h)) (r_if (b := !callOk (.call wd ps)) (et_is (et_and (a := true) (t_tag v0') fun _ => et_or (et_not (et_B (v_bl (d_call (P := pOf "ABCDEFGHIJKLMNOPQRSTUVWXYZ" isGreat) (da_cons (d_ix1 v0') (da_cons (d_str ev_c) da_nil)) ⟨wd, rfl, hs'.1, rfl⟩))))
      fun _ => et_test (v_gt (v_lenT (d_ix2 v0')) ev_c)) ?_) (fun hb => ?_) (fun hb => ?_))
    · rw [hps]
      simp only [callOk]
      cases wordOk isGreat wd <;> simp <;> rw [Bool.eq_iff_iff] <;> simp <;> omega
    · refine r_ret (d_is (d_bl ev_c) ?_) q
      congr 1
      rw [hgp]
      revert hb
      cases callOk (.call wd ps) <;> simp
    · refine r_no (et_and (a := false) (b := false) (et_is (et_test (ev_niU (v_str (d_ix0 v0')) (eu_tup (ea_cons ev_c (ea_cons ev_c (ea_cons ev_c ea_nil))) (by decide)) rfl rfl)) (by decide +kernel)) (fun h => nomatch h)) ?_
      have hb' : callOk (.call wd ps) = true := by revert hb; cases callOk (.call wd ps) <;> simp
      rw [inner rfl hb'] at q
      exact r_ret (d_bl all) q
  | _ => exact (hl rfl).elim
theorem cl_is_sound (M : Md K w mg aS aL cBF cBN cSE es nn) (D : Df K mg "is_sound" s_is_sound ["formula"] f fd) (c_parts_of : Cl P w K mg base CX0 1 "parts_of" (spF K pParts)) (c_is_leaf : Cl P w K mg base CX0 3 "is_leaf" (spF K pLeaf))
    (c_is_of : Cl P w K mg base CX0 1 "is_of" (spF K (pOf "ABCDEFGHIJKLMNOPQRSTUVWXYZ" isGreat))) : ∀ n : Nat, Cl P w K mg base CX0 (n + 3) "is_sound" (spF K (pSound n))
  | 0 => none_cl D fun ds d ⟨f, _, h, _⟩ => by have := depth_pos f; omega
  | n + 1 => D.cl (ok_is_sound M D c_parts_of c_is_leaf c_is_of (cl_is_sound M D c_parts_of c_is_leaf c_is_of n))
def pForm : List PyData → PyData → Prop := fun ds d => ∃ f, ds = [toD f] ∧ depth f ≤ 9 ∧ size f ≤ 50000 ∧ small 50000 f = true ∧ d = .bool (isForm f)
theorem ok_is_formula (M : Md K w mg aS aL cBF cBN cSE es nn) (D : Df K mg "is_formula" s_is_formula ["formula"] f fd) (c_is_sound : Cl P w K mg base CX0 12 "is_sound" (spF K (pSound 9))) (c_formula_size : Cl P w K mg base CX0 10 "formula_size" (spF K (pSize 9))) (c_depth : Cl P w K mg base CX0 10 "depth" (spF K (pDepth 9))) :
    FnOk P w K mg base CX0 13 f fd ["formula"] (spF K pForm) := by
  refine D.fn.ok sc_is_formula (fun vs H Q E h => ?_) (fun cdv A outer s H vs Q E hr h => ?_)
  · obtain ⟨ds, d, hd, ⟨f, rfl, _, _, _, rfl⟩, _⟩ := h
    exact hd.len
  obtain ⟨ds, d, hd, ⟨f, rfl, hn, hz, hs, rfl⟩, q⟩ := h
  obtain ⟨x, rfl, h1⟩ := hd.one_eq
  refine ⟨_, (pss_one (ps_ret (pe_and (pe_cl c_is_sound hr (by omega) pass0 (pa_cons (pv 0) pa_nil)) (pe_and (pe_cmpR op_le (pe_cl c_formula_size hr (by omega) pass0 (pa_cons (pv 0) pa_nil)) (pe_gi M.c_MOST_FORMULAS) (nomark _)) (pe_one (pe_cmpR op_le (pe_cl c_depth hr (by omega) pass0 (pa_cons (pv 0) pa_nil)) (pe_gi M.c_MOST_DEEP) (nomark _))))))), ?_⟩
  refine Run.go ?_
  have v0 := d_var (K := K) (i := 0) (σ := start ["formula"] [x]) rfl h1
  refine r_ret (d_is (d_bl (ev_andV (v_bl (d_call (P := pSound 9) (da_cons v0 da_nil) ⟨f, rfl, hn, hz, hs, rfl⟩)) fun _ => ev_andV (v_le (v_int (d_call (P := pSize 9) (da_cons v0 da_nil) ⟨f, rfl, hn, hz, rfl⟩)) ev_c) fun _ =>
    v_le (v_int (d_call (P := pDepth 9) (da_cons v0 da_nil) ⟨f, rfl, hn, hz, rfl⟩)) ev_c)) ?_) q
  congr 1
  unfold isForm
  rw [Bool.eq_iff_iff]
  simp only [Bool.and_eq_true, decide_eq_true_eq]
  constructor
  · intro ⟨a, b, c⟩
    exact ⟨⟨a, by omega⟩, by omega⟩
  · intro ⟨⟨a, b⟩, c⟩
    exact ⟨a, by omega, by omega⟩
end
end Ws
end

section
set_option Elab.async false
set_option linter.all false
set_option maxRecDepth 100000
set_option maxHeartbeats 4000000
namespace Ws
open PySem PySem.Spec PyProof.Rows L2 Evl

/-! ### how long what is written is -/
theorem dbl_len : ∀ t : List Nat, (StrLaws.dbl 34 t).length ≤ 2 * t.length
  | [] => by simp [StrLaws.dbl]
  | c :: t => by
    have := dbl_len t
    unfold StrLaws.dbl
    split <;> simp <;> omega
theorem wrap_len (b : Bool) (t : List Nat) : (wrap b t).length ≤ t.length + 2 := by
  cases b
  · rw [wrap_false]; omega
  · rw [wrap_true]; simp
theorem joinL_len : ∀ (ps : List (List Nat)), (TL.joinL [44, 32] ps).length ≤ (ps.map fun p => p.length + 2).sum
  | [] => by simp [TL.joinL]
  | [p] => by simp [TL.joinL]
  | p :: q :: t => by
    have := joinL_len (q :: t)
    simp only [TL.joinL, List.length_append, List.map_cons, List.sum_cons, List.length_cons, List.length_nil] at this ⊢
    omega
theorem num_len {n k : Nat} (h : n < 10 ^ k) (hk : 0 < k) : (TL.numL n).length ≤ k := TL.numL_len hk h
theorem shown_len : ∀ f : F, good f = true → (shown f).length + 4 ≤ 130 * size f
  | .num n, h => by
    simp only [good, decide_eq_true_eq] at h
    have := num_len h (by decide)
    simp only [shown, size]
    omega
  | .txt t, h => by
    simp only [good, Bool.and_eq_true, decide_eq_true_eq] at h
    have := dbl_len t
    simp [shown, size]
    omega
  | .tru true, _ => by simp [shown, size, TRUE]
  | .tru false, _ => by simp [shown, size, FALSE]
  | .at r c, h => by
    simp only [good, place, Bool.and_eq_true, decide_eq_true_eq] at h
    have := num_len (n := r + 1) (k := 2) (by omega) (by decide)
    simp [shown, size, cellT]
    omega
  | .box r c l f, h => by
    simp only [good, place, Bool.and_eq_true, decide_eq_true_eq] at h
    have := num_len (n := r + 1) (k := 2) (by omega) (by decide)
    have := num_len (n := l + 1) (k := 2) (by omega) (by decide)
    simp [shown, size, cellT]
    omega
  | .word w, h => by
    simp only [good, wordOk, Bool.and_eq_true, decide_eq_true_eq] at h
    simp only [shown, size]
    omega
  | .lost, _ => by simp [shown, size]
  | .less p, h => by
    simp only [good] at h
    have := shown_len p h
    have := wrap_len (decide (lev p < 5)) (shown p)
    simp [shown, size]
    omega
  | .two o a b, h => by
    simp only [good, Bool.and_eq_true] at h
    have := shown_len a h.1
    have := shown_len b h.2
    have := wrap_len (decide (lev a < first o)) (shown a)
    have := wrap_len (decide (lev b < o.lev + 1)) (shown b)
    have := o.txt_len
    simp [shown, size]
    omega
  | .call w ps, h => by
    simp only [good, wordOk, Bool.and_eq_true, decide_eq_true_eq] at h
    have h1 := shown_lens ps h.2
    have h2 := joinL_len (showns ps)
    simp [shown, size]
    omega
where shown_lens : ∀ ps : List F, goods ps = true → ((showns ps).map fun p => p.length + 2).sum ≤ 130 * sizes ps
  | [], _ => by simp [showns, sizes]
  | p :: ps, h => by
    simp only [goods, Bool.and_eq_true] at h
    have := shown_len p h.1
    have := shown_lens ps h.2
    simp only [showns, sizes, List.map_cons, List.sum_cons]
    omega
theorem within_len {f : F} (h : good f = true) (l : Nat) : (within f l).length + 2 ≤ 130 * size f := by
  have := shown_len f h
  have := wrap_len (decide (lev f < l)) (shown f)
  unfold within
  omega
theorem join_tx (ps : List (List Nat)) : Txt.join ", " (ps.map tx) = tx (TL.joinL [44, 32] ps) := by
  apply TL.ext_tl
  rw [TL.join_eq, TL.tl_join, List.map_map]
  have e1 : TL.tl (Str.ofString ", ") = [44, 32] := by decide +kernel
  have e2 : ps.map (TL.tl ∘ tx) = ps := by
    have : TL.tl ∘ tx = id := rfl
    rw [this, List.map_id]
  rw [e1, e2]

section
variable {P : Program} {w : World} {K : PySem.W.Frag} {mg : Str → Option Value} {base : Heap} {f : Addr} {fd : FuncData} {aS aL cBF cBN cSE : Addr} {es : Array DictEntry} {nn : Nat}
/-! ### cell_text, shown_truth, put_text, level_of -/
theorem col_at : ∀ c : Nat, c < 10 → ([65, 66, 67, 68, 69, 70, 71, 72, 73, 74] : List Nat)[c]? = some (65 + c) := by decide
theorem v_cellcol {σ : S} {H : Hp} {tb : TE} {c : Nat} (hb : Ev tb σ H (.int (c : Int))) (hc : c < 10) : Ev (tOp rIxS (tC (.str "ABCDEFGHIJ")) tb) σ H (.str (tx [65 + c])) :=
  v_ixS (l := [65, 66, 67, 68, 69, 70, 71, 72, 73, 74]) (v_str_c) hb (by simp) (col_at c hc)
def pCellT : List PyData → PyData → Prop := fun ds d => ∃ r c : Nat, ds = [.int (r : Int), .int (c : Int)] ∧ c < 10 ∧ r < 1000 ∧ d = .str (tx (cellT r c))
theorem ok_cell_text (M : Md K w mg aS aL cBF cBN cSE es nn) (D : Df K mg "cell_text" s_cell_text ["row", "column"] f fd) : FnOk P w K mg base CX0 1 f fd ["row", "column"] (spF K pCellT) := by
  refine D.fn.ok sc_cell_text (fun vs H Q E h => ?_) (fun cdv A outer s H vs Q E hr h => ?_)
  · obtain ⟨ds, d, hd, ⟨r, c, rfl, _, _, rfl⟩, _⟩ := h
    exact hd.len
  obtain ⟨ds, d, hd, ⟨r, c, rfl, hc, hr0, rfl⟩, q⟩ := h
  obtain ⟨x, y, rfl, h1, h2⟩ := hd.two_eq
  refine ⟨_, (pss_one (ps_ret (pe_op op_add_str (pe_ix ix_str (pe_gs M.c_COLUMNS) (pv 1) (fun _ _ => rfl)) (pe_callTy call_str_int (by rfl) M.b_str (by decide +kernel) (pa_cons (pe_op op_add (pv 0) pe_int) pa_nil))))), ?_⟩
  refine Run.go ?_
  have v0 := v_int (d_var (K := K) (i := 0) (σ := start ["row", "column"] [x, y]) rfl h1)
  have v1 := v_int (d_var (K := K) (i := 1) (σ := start ["row", "column"] [x, y]) rfl h2)
  have hl := num_len (n := r + 1) (k := 4) (by omega) (by decide)
  exact r_ret (d_str (v_catL (v_cellcol v1 hc) (v_toS (n := r + 1) (v_add v0 ev_c) (Nat.lt_of_lt_of_le (show r + 1 < 10 ^ 4 by omega) (by decide +kernel))) (by simp; omega))) q
def pTruth : List PyData → PyData → Prop := fun ds d => ∃ b : Bool, ds = [.bool b] ∧ d = .str (tx (if b = true then TRUE else FALSE))
theorem ok_shown_truth (D : Df K mg "shown_truth" s_shown_truth ["truth"] f fd) : FnOk P w K mg base CX0 1 f fd ["truth"] (spF K pTruth) := by
  refine D.fn.ok sc_shown_truth (fun vs H Q E h => ?_) (fun cdv A outer s H vs Q E hr h => ?_)
  · obtain ⟨ds, d, hd, ⟨b, rfl, rfl⟩, _⟩ := h
    exact hd.len
  obtain ⟨ds, d, hd, ⟨b, rfl, rfl⟩, q⟩ := h
  obtain ⟨x, rfl, h1⟩ := hd.one_eq
  refine ⟨_, (pss_cons (ps_if (pt_val (pv 0)) (pss_one (ps_ret pe_str)) pss_nil)
    (pss_one (ps_ret pe_str))), ?_⟩
  refine Run.go ?_
  have v0 := v_bl (d_var (K := K) (i := 0) (σ := start ["truth"] [x]) rfl h1)
  cases b with
  | true => exact r_yes (et_B v0) (r_ret (d_str (v_str_c (l := TRUE))) q)
  | false => exact r_no (et_B v0) (r_ret (d_str (v_str_c (l := FALSE))) q)
theorem v_repl {σ : S} {H : Hp} {te : TE} {t : List Nat} (h : Ev te σ H (.str (tx t))) (hz : t.length ≤ 60) : Ev (CwR.tReplC te "\"" "\"\"") σ H (.str (tx (StrLaws.dbl 34 t))) := fun H1 e Q q =>
  h H1 e _ fun H2 e2 => ⟨tx t, rfl, by
    have e3 : (Str.ofString "\"\"").length = 2 := by decide +kernel
    rw [e3, tx_len]
    omega, by
    rw [replace_dbl (tx t) "\"" "\"\"" 34 (by decide +kernel) (by decide +kernel)]
    exact q H2 e2⟩
def pPutT : List PyData → PyData → Prop := fun ds d => ∃ f, isPut f = true ∧ good f = true ∧ ds = [putD f] ∧ d = .str (tx (shown f))
theorem ok_put_text (M : Md K w mg aS aL cBF cBN cSE es nn) (D : Df K mg "put_text" s_put_text ["value"] f fd) (c_shown_truth : Cl P w K mg base CX0 1 "shown_truth" (spF K pTruth)) : FnOk P w K mg base CX0 2 f fd ["value"] (spF K pPutT) := by
  refine D.fn.ok sc_put_text (fun vs H Q E h => ?_) (fun cdv A outer s H vs Q E hr h => ?_)
  · obtain ⟨ds, d, hd, ⟨f, _, _, rfl, rfl⟩, _⟩ := h
    exact hd.len
  obtain ⟨ds, d, hd, ⟨f, hf, hg, rfl, rfl⟩, q⟩ := h
  obtain ⟨x, rfl, h1⟩ := hd.one_eq
  refine ⟨_, (pss_cons (ps_if (pt_cmpR op_eq (pe_ix ix_tup (pv 0) pe_int (fun _ _ => rfl)) pe_str (nomark _)) (pss_one (ps_ret (pe_callTy call_str_int (by rfl) M.b_str (by decide +kernel) (pa_cons (pe_ix ix_tup (pv 0) pe_int (fun _ _ => rfl)) pa_nil)))) pss_nil)
    (pss_cons (ps_if (pt_cmpR op_eq (pe_ix ix_tup (pv 0) pe_int (fun _ _ => rfl)) pe_str (nomark _)) (pss_one (ps_ret (pe_op op_add_str (pe_op_litT op_add_str (CwR.pet_replC (pe_ix ix_tup (pv 0) pe_int (fun _ _ => rfl)))) pe_str))) pss_nil)
    (pss_one (ps_ret (pe_cl c_shown_truth hr (by omega) pass0 (pa_cons (pe_ix ix_tup (pv 0) pe_int (fun _ _ => rfl)) pa_nil)))))), ?_⟩
  refine Run.go ?_
  have v0 := d_var (K := K) (i := 0) (σ := start ["value"] [x]) rfl h1
  cases f with
  | num n =>
    simp only [putD] at v0
    simp only [shown] at q
    simp only [good, decide_eq_true_eq] at hg
    exact r_yes (t_tag v0) (r_ret (d_str (v_toS (v_int (d_ix1 v0)) (Nat.lt_of_lt_of_le hg (by decide +kernel)))) q)
  | txt t =>
    simp only [putD] at v0
    simp only [shown] at q
    simp only [good, Bool.and_eq_true, decide_eq_true_eq] at hg
    have hl := dbl_len t
    exact r_no (t_tag v0) (r_yes (t_tag v0) (r_ret (d_str (v_catL (a := 34 :: StrLaws.dbl 34 t) (b := [34]) (v_catL (a := [34]) (b := StrLaws.dbl 34 t) v_str_c (v_repl (v_str (d_ix1 v0)) hg.1) (by simp; omega)) v_str_c (by simp; omega))) q))
  | tru b =>
    simp only [putD] at v0
    simp only [shown] at q
    exact r_no (t_tag v0) (r_no (t_tag v0) (r_ret (d_call (P := pTruth) (da_cons (d_ix1 v0) da_nil) ⟨b, rfl, rfl⟩) q))
  | _ => cases hf
def pLevel : List PyData → PyData → Prop := fun ds d => ∃ f, ds = [toD f] ∧ d = .int (lev f : Int)
theorem ok_level_of (M : Md K w mg aS aL cBF cBN cSE es nn) (D : Df K mg "level_of" s_level_of ["formula"] f fd) : FnOk P w K mg base CX0 1 f fd ["formula"] (spF K pLevel) := by
  refine D.fn.ok sc_level_of (fun vs H Q E h => ?_) (fun cdv A outer s H vs Q E hr h => ?_)
  · obtain ⟨ds, d, hd, ⟨f, rfl, rfl⟩, _⟩ := h
    exact hd.len
  obtain ⟨ds, d, hd, ⟨f, rfl, rfl⟩, q⟩ := h
  obtain ⟨x, rfl, h1⟩ := hd.one_eq
  refine ⟨_, (pss_cons (ps_if (pt_cmpR op_eq (pe_ix ix_tup (pv 0) pe_int (fun _ _ => rfl)) pe_str (nomark _)) (pss_one (ps_ret (pe_ix ix_kdict (pe_glob (v := .ref aL) rfl M.c_LEVELS rfl) (pe_ix ix_tup (pv 0) pe_int (fun _ _ => rfl)) (fun _ _ => rfl)))) pss_nil)
    (pss_cons (ps_if (pt_cmpR op_eq (pe_ix ix_tup (pv 0) pe_int (fun _ _ => rfl)) pe_str (nomark _)) (pss_one (ps_ret (pe_gi M.c_LESS))) pss_nil)
    (pss_one (ps_ret (pe_gi M.c_ATOM))))), ?_⟩
  refine Run.go ?_
  have v0 := d_var (K := K) (i := 0) (σ := start ["formula"] [x]) rfl h1
  cases f with
  | two o a b =>
    simp only [toD] at v0
    exact r_yes (t_tag v0) (r_ret (d_int (v_levels M (v_str (d_ix1 v0)))) q)
  | less p =>
    simp only [toD] at v0
    exact r_no (t_tag v0) (r_yes (t_tag v0) (r_ret (d_int ev_c) q))
  | _ =>
    simp only [toD] at v0
    exact r_no (t_tag v0) (r_no (t_tag v0) (r_ret (d_int ev_c) q))

/-! ### within, two_text, shown -/
def pShown (n : Nat) : List PyData → PyData → Prop := fun ds d => ∃ f, ds = [toD f] ∧ depth f ≤ n ∧ size f ≤ 60 ∧ good f = true ∧ d = .str (tx (shown f))
def pWithin (n : Nat) : List PyData → PyData → Prop := fun ds d => ∃ (f : F) (l : Nat), ds = [toD f, .int (l : Int)] ∧ depth f ≤ n ∧ size f ≤ 60 ∧ good f = true ∧ d = .str (tx (within f l))
def pTwo (n : Nat) : List PyData → PyData → Prop := fun ds d => ∃ (o : Op) (a b : F), ds = [toD (.two o a b)] ∧ depth (.two o a b) ≤ n ∧ size (.two o a b) ≤ 60 ∧ good (.two o a b) = true ∧ d = .str (tx (shown (.two o a b)))
theorem ok_within {k n : Nat} (hk : 1 ≤ k) (D : Df K mg "within" s_within ["formula", "level"] f fd) (c_level_of : Cl P w K mg base CX0 1 "level_of" (spF K pLevel)) (c_shown : Cl P w K mg base CX0 k "shown" (spF K (pShown n))) :
    FnOk P w K mg base CX0 (k + 1) f fd ["formula", "level"] (spF K (pWithin n)) := by
  refine D.fn.ok sc_within (fun vs H Q E h => ?_) (fun cdv A outer s H vs Q E hr h => ?_)
  · obtain ⟨ds, d, hd, ⟨f, l, rfl, _⟩, _⟩ := h
    exact hd.len
  obtain ⟨ds, d, hd, ⟨f, l, rfl, hn, hz, hg, rfl⟩, q⟩ := h
  obtain ⟨x, y, rfl, h1, h2⟩ := hd.two_eq
  refine ⟨_, (pss_cons (ps_if (pt_cmpR op_lt (pe_cl c_level_of hr (by omega) pass0 (pa_cons (pv 0) pa_nil)) (pv 1) (nomark _)) (pss_one (ps_ret (pe_op op_add_str (pe_op op_add_str pe_str (pe_cl c_shown hr (by omega) pass0 (pa_cons (pv 0) pa_nil))) pe_str))) pss_nil)
    (pss_one (ps_ret (pe_cl c_shown hr (by omega) pass0 (pa_cons (pv 0) pa_nil))))), ?_⟩
  refine Run.go ?_
  have v0 := d_var (K := K) (i := 0) (σ := start ["formula", "level"] [x, y]) rfl h1
  have v1 := v_int (d_var (K := K) (i := 1) (σ := start ["formula", "level"] [x, y]) rfl h2)
  have hl := shown_len f hg
  have sh := v_str (d_call (P := pShown n) (E := E0) (da_cons v0 da_nil) ⟨f, rfl, hn, hz, hg, rfl⟩)
  refine r_if (b := decide (lev f < l)) (et_is (et_test (v_lt (v_int (d_call (P := pLevel) (da_cons v0 da_nil) ⟨f, rfl, rfl⟩)) v1)) (decide_eq_decide.mpr Int.ofNat_lt)) (fun hb => ?_) (fun hb => ?_)
  · have e : within f l = 40 :: (shown f ++ [41]) := by unfold within; rw [hb]; rfl
    rw [e] at q
    exact r_ret (d_str (v_catL (a := 40 :: shown f) (b := [41]) (v_catL (a := [40]) (b := shown f) v_str_c sh (by simp; omega)) v_str_c (by simp; omega))) q
  · have e : within f l = shown f := by unfold within; rw [hb]; rfl
    rw [e] at q
    exact r_ret (d_str sh) q
theorem ok_two_text {k n : Nat} (M : Md K w mg aS aL cBF cBN cSE es nn) (D : Df K mg "two_text" s_two_text ["formula"] f fd) (c_within : Cl P w K mg base CX0 k "within" (spF K (pWithin n))) : FnOk P w K mg base CX0 (k + 1) f fd ["formula"] (spF K (pTwo (n + 1))) := by
  refine D.fn.ok sc_two_text (fun vs H Q E h => ?_) (fun cdv A outer s H vs Q E hr h => ?_)
  · obtain ⟨ds, d, hd, ⟨o, a, b, rfl, _⟩, _⟩ := h
    exact hd.len
  obtain ⟨ds, d, hd, ⟨o, a, b, rfl, hn, hz, hg, rfl⟩, q⟩ := h
  obtain ⟨x, rfl, h1⟩ := hd.one_eq
  refine ⟨_, (pss_cons (ps_set (i := 1) sc_two_text.nd rfl (Or.inl rfl) (pe_ix ix_kdict (pe_glob (v := .ref aL) rfl M.c_LEVELS rfl) (pe_ix ix_tup (pv 0) pe_int (fun _ _ => rfl)) (fun _ _ => rfl)))
    (pss_cons (ps_set (i := 2) sc_two_text.nd rfl (Or.inl rfl) (pv 1))
    (pss_cons (ps_if (pt_cmpR op_eq (pv 1) pe_int (nomark _)) (pss_one (ps_set (i := 2) sc_two_text.nd rfl (Or.inl rfl) pe_int)) pss_nil)
    (pss_one (ps_ret (pe_op op_add_str (pe_op op_add_str (pe_op op_add_str (pe_op op_add_str (pe_cl c_within hr (by omega) pass0 (pa_cons (pe_ix ix_tup (pv 0) pe_int (fun _ _ => rfl)) (pa_cons (pv 2) pa_nil))) pe_str) (pe_ix ix_tup (pv 0) pe_int (fun _ _ => rfl))) pe_str) (pe_cl c_within hr (by omega) pass0 (pa_cons (pe_ix ix_tup (pv 0) pe_int (fun _ _ => rfl)) (pa_cons (pe_op op_add (pv 1) pe_int) pa_nil))))))))), ?_⟩
  refine Run.go ?_
  have v0 := d_var (K := K) (i := 0) (σ := start ["formula", "level", "first"] [x]) rfl h1
  simp only [toD] at v0 h1
  simp only [good, Bool.and_eq_true] at hg
  simp only [depth] at hn
  simp only [size] at hz
  have la := within_len hg.1 (first o)
  have lb := within_len hg.2 (o.lev + 1)
  have lo := o.txt_len
  have fin : ∀ σ : S, σ[0]? = some (some x) → σ[1]? = some (some (.int (o.lev : Int))) → σ[2]? = some (some (.int (first o : Int))) → Ev (tOp (fun x y H Q => ∃ i j, x = .str i ∧ y = .str j ∧ i.length + j.length ≤ sizeLine ∧ Q (.str (i ++ j)) H) (tOp (fun x y H Q => ∃ i j, x = .str i ∧ y = .str j ∧ i.length + j.length ≤ sizeLine ∧ Q (.str (i ++ j)) H) (tOp (fun x y H Q => ∃ i j, x = .str i ∧ y = .str j ∧ i.length + j.length ≤ sizeLine ∧ Q (.str (i ++ j)) H) (tOp (fun x y H Q => ∃ i j, x = .str i ∧ y = .str j ∧ i.length + j.length ≤ sizeLine ∧ Q (.str (i ++ j)) H)
      (tCall (spF K (pWithin n)) [] E0 (tCons (tOp (rIxT K) (tVar 0) (tC (.int 2))) (tCons (tVar 2) tNil))) (tC (.str " "))) (tOp (rIxT K) (tVar 0) (tC (.int 1)))) (tC (.str " "))) (tCall (spF K (pWithin n)) [] E0 (tCons (tOp (rIxT K) (tVar 0) (tC (.int 3))) (tCons (tOp (rI0 fun i j => .int (i + j)) (tVar 1) (tC (.int 1))) tNil)))) σ H (.str (tx (shown (.two o a b)))) := by
    intro σ s0 s1 s2
    have w0 := d_var (K := K) s0 h1
    have e : shown (.two o a b) = (((within a (first o) ++ [32]) ++ o.txt) ++ [32]) ++ within b (o.lev + 1) := by rw [two_shown]; simp
    rw [e]
    refine v_catL (v_catL (v_catL (v_catL (v_str (d_call (P := pWithin n) (da_cons (d_ix2 w0) (da_cons (d_int (ev_var s2)) da_nil)) ⟨a, first o, rfl, by omega, by omega, hg.1, rfl⟩)) v_str_c (by simp; omega)) (ev_is (v_str (d_ix1 w0)) (by rw [opS_tx])) (by simp; omega)) v_str_c (by simp; omega))
      (v_str (d_call (P := pWithin n) (da_cons (d_ix3 w0) (da_cons (d_int (v_add (ev_var s1) ev_c)) da_nil)) ⟨b, o.lev + 1, rfl, by omega, by omega, hg.2, rfl⟩)) (by simp; omega)
  refine r_set (v_levels M (v_str (d_ix1 v0))) (r_set (ev_var rfl) (r_if (b := decide (o.lev = 1)) (et_is (t_eqI (ev_var rfl) ev_c) (decide_eq_decide.mpr (by omega))) (fun hb => ?_) (fun hb => ?_)))
  · refine fun H1 e1 => e_set ev_c (fun H2 e2 => ?_) H1 e1
    refine r_ret (d_str ((fin _ rfl rfl ?_))) q H2 e2
    show some (some (V.int 2)) = _
    unfold first
    rw [if_pos (of_decide_eq_true hb)]
    rfl
  · refine r_ret (d_str ((fin _ rfl rfl ?_))) q
    show some (some (V.int _)) = _
    unfold first
    rw [if_neg (of_decide_eq_false hb)]
theorem ok_shown {k n : Nat} (hk : 2 ≤ k) (M : Md K w mg aS aL cBF cBN cSE es nn) (D : Df K mg "shown" s_shown ["formula"] f fd) (c_put_text : Cl P w K mg base CX0 2 "put_text" (spF K pPutT)) (c_cell_text : Cl P w K mg base CX0 1 "cell_text" (spF K pCellT))
    (c_within : Cl P w K mg base CX0 k "within" (spF K (pWithin n))) (c_two_text : Cl P w K mg base CX0 k "two_text" (spF K (pTwo (n + 1)))) (c_shown : Cl P w K mg base CX0 k "shown" (spF K (pShown n))) : FnOk P w K mg base CX0 (k + 1) f fd ["formula"] (spF K (pShown (n + 1))) := by
  refine D.fn.ok sc_shown (fun vs H Q E h => ?_) (fun cdv A outer s H vs Q E hr h => ?_)
  · obtain ⟨ds, d, hd, ⟨f, rfl, _⟩, _⟩ := h
    exact hd.len
  obtain ⟨ds, d, hd, ⟨f, rfl, hn, hz, hg, rfl⟩, q⟩ := h
  obtain ⟨x, rfl, h1⟩ := hd.one_eq
  refine ⟨_, (pss_cons (ps_if (pt_cmpR op_eq (pe_ix ix_tup (pv 0) pe_int (fun _ _ => rfl)) pe_str (nomark _)) (pss_one (ps_ret (pe_cl c_put_text hr (by omega) pass0 (pa_cons (pe_ix ix_tup (pv 0) pe_int (fun _ _ => rfl)) pa_nil)))) pss_nil)
    (pss_cons (ps_if (pt_cmpR op_eq (pe_ix ix_tup (pv 0) pe_int (fun _ _ => rfl)) pe_str (nomark _)) (pss_one (ps_ret (pe_cl c_cell_text hr (by omega) pass0 (pa_cons (pe_ix ix_tup (pv 0) pe_int (fun _ _ => rfl)) (pa_cons (pe_ix ix_tup (pv 0) pe_int (fun _ _ => rfl)) pa_nil))))) pss_nil)
    (pss_cons (ps_if (pt_cmpR op_eq (pe_ix ix_tup (pv 0) pe_int (fun _ _ => rfl)) pe_str (nomark _)) (pss_one (ps_ret (pe_op op_add_str (pe_op op_add_str (pe_cl c_cell_text hr (by omega) pass0 (pa_cons (pe_ix ix_tup (pv 0) pe_int (fun _ _ => rfl)) (pa_cons (pe_ix ix_tup (pv 0) pe_int (fun _ _ => rfl)) pa_nil))) pe_str) (pe_cl c_cell_text hr (by omega) pass0 (pa_cons (pe_ix ix_tup (pv 0) pe_int (fun _ _ => rfl)) (pa_cons (pe_ix ix_tup (pv 0) pe_int (fun _ _ => rfl)) pa_nil)))))) pss_nil)
    (pss_cons (ps_if (pt_cmpR op_eq (pe_ix ix_tup (pv 0) pe_int (fun _ _ => rfl)) pe_str (nomark _)) (pss_one (ps_ret (pe_ix ix_tup (pv 0) pe_int (fun _ _ => rfl)))) pss_nil)
    (pss_cons (ps_if (pt_cmpR op_eq (pe_ix ix_tup (pv 0) pe_int (fun _ _ => rfl)) pe_str (nomark _)) (pss_one (ps_ret (pe_op op_add_str pe_str (pe_cl c_within hr (by omega) pass0 (pa_cons (pe_ix ix_tup (pv 0) pe_int (fun _ _ => rfl)) (pa_cons (pe_gi M.c_LESS) pa_nil)))))) pss_nil)
    (pss_cons (ps_if (pt_cmpR op_eq (pe_ix ix_tup (pv 0) pe_int (fun _ _ => rfl)) pe_str (nomark _)) (pss_one (ps_ret (pe_cl c_two_text hr (by omega) pass0 (pa_cons (pv 0) pa_nil)))) pss_nil)
    (pss_cons (ps_if (pt_cmpR op_eq (pe_ix ix_tup (pv 0) pe_int (fun _ _ => rfl)) pe_str (nomark _)) (pss_one (ps_ret (pe_op op_add_str (pe_op op_add_str (pe_op op_add_str (pe_ix ix_tup (pv 0) pe_int (fun _ _ => rfl)) pe_str) (pe_join pe_str (pe_lc (own := [("part", 1)]) (g := gName 1) (tt := tYes) rfl sc_shown.nd (pi_tup (pe_ix ix_tup (pv 0) pe_int (fun _ _ => rfl))) (blkOk_by (N := ["formula", "part"]) (sc := defScope s_shown) (by decide +kernel)) (fun _ _ _ _ _ => pg_name (i := 1) sc_shown.nd rfl (Or.inl rfl)) (fun _ _ _ _ _ => pts_nil) (fun _ _ _ _ _ => (pe_cl c_shown hr (by omega) pass0 (pa_cons (pv 1) pa_nil)))))) pe_str))) pss_nil)
    (pss_one (ps_ret pe_str))))))))), ?_⟩
  refine Run.go ?_
  have v0 := d_var (K := K) (i := 0) (σ := start ["formula", "part"] [x]) rfl h1
  have hlen := shown_len f hg
  have puts : ∀ f, isPut f = true → toD f = .tuple [.str "put", putD f] := fun f h => by
    cases f <;> first | (simp only [toD, putD]; done) | cases h
  cases f with
  | num m =>
    rw [puts _ rfl] at v0
    exact r_yes (t_tag v0) (r_ret (d_call (P := pPutT) (da_cons (d_ix1 v0) da_nil) ⟨_, rfl, hg, rfl, rfl⟩) q)
  | txt t =>
    rw [puts _ rfl] at v0
    exact r_yes (t_tag v0) (r_ret (d_call (P := pPutT) (da_cons (d_ix1 v0) da_nil) ⟨_, rfl, hg, rfl, rfl⟩) q)
  | tru b =>
    rw [puts _ rfl] at v0
    exact r_yes (t_tag v0) (r_ret (d_call (P := pPutT) (da_cons (d_ix1 v0) da_nil) ⟨_, rfl, hg, rfl, rfl⟩) q)
  | «at» r c =>
    simp only [toD] at v0
    simp only [shown] at q
    simp only [good, place, Bool.and_eq_true, decide_eq_true_eq] at hg
    exact r_no (t_tag v0) (r_yes (t_tag v0) (r_ret (d_call (P := pCellT) (da_cons (d_ix1 v0) (da_cons (d_ix2 v0) da_nil)) ⟨r, c, rfl, hg.2, by omega, rfl⟩) q))
  | box r c l f =>
    simp only [toD] at v0
    simp only [shown, size] at hlen
    simp at hlen
    have e : shown (.box r c l f) = (cellT r c ++ [58]) ++ cellT l f := by simp only [shown]; simp
    rw [e] at q
    simp only [good, place, Bool.and_eq_true, decide_eq_true_eq] at hg
    exact r_no (t_tag v0) (r_no (t_tag v0) (r_yes (t_tag v0) (r_ret (d_str (v_catL (v_catL (v_str (d_call (P := pCellT) (da_cons (d_ix1 v0) (da_cons (d_ix2 v0) da_nil)) ⟨r, c, rfl, by omega, by omega, rfl⟩)) v_str_c (by simp; omega))
      (v_str (d_call (P := pCellT) (da_cons (d_ix3 v0) (da_cons (d_ix4 v0) da_nil)) ⟨l, f, rfl, by omega, by omega, rfl⟩)) (by simp; omega))) q)))
  | word wd =>
    simp only [toD] at v0
    simp only [shown] at q
    exact r_no (t_tag v0) (r_no (t_tag v0) (r_no (t_tag v0) (r_yes (t_tag v0) (r_ret (d_ix1 v0) q))))
  | less p =>
    simp only [toD] at v0
    have e : shown (.less p) = [45] ++ within p 5 := by simp only [shown, within]; rfl
    rw [e] at q hlen
    simp only [good] at hg
    simp only [depth] at hn
    simp only [size] at hz hlen
    simp at hlen
    exact r_no (t_tag v0) (r_no (t_tag v0) (r_no (t_tag v0) (r_no (t_tag v0) (r_yes (t_tag v0) (r_ret (d_str (v_catL v_str_c (v_str (d_call (P := pWithin n) (da_cons (d_ix1 v0) (da_cons (d_int ev_c) da_nil)) ⟨p, 5, rfl, by omega, by omega, hg, rfl⟩)) (by simp; omega))) q)))))
  | two o a b =>
    have v1 := v0
    simp only [toD] at v1
    exact r_no (t_tag v1) (r_no (t_tag v1) (r_no (t_tag v1) (r_no (t_tag v1) (r_no (t_tag v1) (r_yes (t_tag v1) (r_ret (d_call (P := pTwo (n + 1)) (da_cons v0 da_nil) ⟨o, a, b, rfl, hn, hz, hg, rfl⟩) q))))))
  | call wd ps =>
    simp only [toD] at v0
    rw [toDs_map] at v0
    have hg' := hg
    simp only [good, Bool.and_eq_true, goods_all, List.all_eq_true] at hg'
    simp only [depth] at hn
    simp only [size] at hz
    have e : shown (.call wd ps) = ((wd ++ [40]) ++ TL.joinL [44, 32] (ps.map shown)) ++ [41] := by simp only [shown, showns_map]; simp
    rw [e] at q hlen
    simp only [size] at hlen
    simp at hlen
    have hlp := sizes_len ps
    have join : Ev (tM1 (fun x xs H Q => ∃ a p, ∃ ys : List Str, x = .str a ∧ xs = [.ref p] ∧ (SqL K H p (ys.map V.str) ∨ SqT K H p (ys.map V.str)) ∧ (ys.map (·.length)).sum + ys.length * a.length ≤ 16777216 ∧ Q (.str (Txt.join a ys)) H) (tC (.str ", ")) (tLc (iTup K (tOp (rIxT K) (tVar 0) (tC (.int 2)))) (gName 1) tYes (tCall (spF K (pShown n)) [] E0 (tCons (tVar 1) tNil)) [1])) (start ["formula", "part"] [x]) H (.str (tx (TL.joinL [44, 32] (ps.map shown)))) := by
      rw [← join_tx]
      refine v_join ev_c ?_ ?_
      · rw [List.map_map, List.map_map]
        exact dl_lcM (f := toD) (d_ix2 v0) (by omega) (fun x => rfl) fun x p H1 ex hm hx => d_call (P := pShown n) (da_cons (d_var rfl hx) da_nil) ⟨p, rfl, by have := depths_mem hm; omega, by have := sizes_mem hm; omega, hg'.2 p hm, rfl⟩
      · have sums : ∀ qs : List F, (∀ p ∈ qs, p ∈ ps) → (((qs.map shown).map tx).map (·.length)).sum ≤ 130 * sizes qs := by
          intro qs
          induction qs with
          | nil => intro _; simp
          | cons p qs ih =>
            intro h
            have := ih fun x hx => h x (List.mem_cons_of_mem _ hx)
            have := shown_len p (hg'.2 p (h p List.mem_cons_self))
            simp only [List.map_cons, List.sum_cons, sizes, tx_len] at *
            omega
        have := sums ps fun _ h => h
        have e2 : (Str.ofString ", ").length = 2 := by decide +kernel
        rw [e2]
        simp only [List.length_map] at *
        omega
    refine r_no (t_tag v0) (r_no (t_tag v0) (r_no (t_tag v0) (r_no (t_tag v0) (r_no (t_tag v0) (r_no (t_tag v0) (r_yes (t_tag v0) (r_ret (d_str (v_catL (v_catL (v_catL (v_str (d_ix1 v0)) v_str_c ?_) join ?_) v_str_c ?_)) q)))))))
    all_goals (simp; omega)
  | lost =>
    simp only [toD] at v0
    simp only [shown] at q
    exact r_no (t_tag v0) (r_no (t_tag v0) (r_no (t_tag v0) (r_no (t_tag v0) (r_no (t_tag v0) (r_no (t_tag v0) (r_no (t_tag v0) (r_ret (d_str (v_str_c)) q)))))))
theorem cl_shown {f1 f2 f3 : Addr} {fd1 fd2 fd3 : FuncData} (M : Md K w mg aS aL cBF cBN cSE es nn) (D1 : Df K mg "within" s_within ["formula", "level"] f1 fd1) (D2 : Df K mg "two_text" s_two_text ["formula"] f2 fd2) (D3 : Df K mg "shown" s_shown ["formula"] f3 fd3)
    (c_put_text : Cl P w K mg base CX0 2 "put_text" (spF K pPutT)) (c_cell_text : Cl P w K mg base CX0 1 "cell_text" (spF K pCellT)) (c_level_of : Cl P w K mg base CX0 1 "level_of" (spF K pLevel)) : ∀ n : Nat, Cl P w K mg base CX0 (3 * n + 2) "shown" (spF K (pShown n))
  | 0 => none_cl D3 fun ds d ⟨f, _, h, _⟩ => by have := depth_pos f; omega
  | n + 1 => by
    have c := cl_shown M D1 D2 D3 c_put_text c_cell_text c_level_of n
    have c1 := D1.cl (ok_within (by omega) D1 c_level_of c)
    have c2 := D2.cl (ok_two_text M D2 c1)
    exact D3.cl (ok_shown (by omega) M D3 c_put_text c_cell_text (c1.mono (by omega)) c2 (c.mono (by omega)))
end
end Ws
end

section
set_option Elab.async false
set_option linter.all false
set_option maxRecDepth 100000
set_option maxHeartbeats 4000000
namespace Ws
open PySem PySem.Spec PyProof.Rows L2 Evl

/-! ### rules for what may raise, for loops -/
section
variable {K : PySem.W.Frag} {σ : S} {H H' : Hp} {ta tb te : TE} {tt : TT} {d : PyData} {ds : List PyData} {v : V} {D : Ends} {tz tu tw : TS} {PX : List PyData → Option PyData → Prop} {C : Addr} {E : XK}
theorem r_while (W : Nat → S → Hp → Prop) (m0 : Nat) (h0 : ∀ H1, Ex H H1 → W m0 σ H1)
    (hs : ∀ m σ' H', W m σ' H' → (EvT tt σ' H' true ∧ Run tu { D with nx := fun σ2 H2 => ∃ m', m' < m ∧ W m' σ2 H2, ct := fun σ2 H2 => ∃ m', m' < m ∧ W m' σ2 H2, bk := tz D } σ' H') ∨ (EvT tt σ' H' false ∧ Run tz D σ' H')) : Run (tSeq (tWhile tt tu) tz) D σ H := fun H1 e =>
  q_while W m0 (h0 H1 e) fun m σ' H' hw => by
    rcases hs m σ' H' hw with ⟨a, b⟩ | ⟨a, b⟩
    · exact ⟨true, a, fun _ H2 e2 => ⟨_, fun _ _ h => h, b H2 e2⟩, fun h => nomatch h⟩
    · exact ⟨false, a, (fun h => nomatch h), fun _ H2 e2 => b H2 e2⟩
/-- return f(..), f may raise -/
theorem x_ret {ta : TA} {r : Option PyData} (h : EvDA K ta σ H ds) (hp : PX ds r) (h1 : ∀ d, r = some d → ∀ v H', Ex H H' → Tp K H' v d → D.rt v H') (h2 : r = none → ∀ H', Ex H H' → E (.ref C) none H') : Run (tRet (tCall (spX K C PX) [] E ta)) D σ H := fun H1 e =>
  x_call (h.mono e) hp (fun d hd v H2 e2 t => h1 d hd v H2 (e.trans e2) t) fun hr H2 e2 => h2 hr H2 (e.trans e2)
/-- x, y = f(..) -/
theorem x_two {ta : TA} {r : Option PyData} {i j : Nat} (h : EvDA K ta σ H ds) (hp : PX ds r) (h1 : ∀ d, r = some d → ∃ d1 d2, d = .tuple [d1, d2] ∧ ∀ x y H1, Ex H H1 → Tp K H1 x d1 → Tp K H1 y d2 → Run tz D ((σ.set i (some x)).set j (some y)) H1)
    (h2 : r = none → ∀ H', Ex H H' → E (.ref C) none H') : Run (tSeq (tAsg (tCall (spX K C PX) [] E ta) (gTup K 2 (gCons (gName i) (gCons (gName j) gNil)))) tz) D σ H := fun H1 e =>
  x_call (Q := fun v H2 => gTup K 2 (gCons (gName i) (gCons (gName j) gNil)) v σ H2 (tz D)) (h.mono e) hp (fun d hd v H2 e2 t => by
    obtain ⟨d1, d2, rfl, k⟩ := h1 d hd
    exact g_twoD t fun x y hx hy => (k x y H2 (e.trans e2) hx hy).go) fun hr H2 e2 => h2 hr H2 (e.trans e2)
theorem e_two {ta : TA} {r : Option PyData} {i j : Nat} (h : EvDA K ta σ H ds) (hp : PX ds r) (h1 : ∀ d, r = some d → ∃ d1 d2, d = .tuple [d1, d2] ∧ ∀ x y H1, Ex H H1 → Tp K H1 x d1 → Tp K H1 y d2 → D.nx ((σ.set i (some x)).set j (some y)) H1)
    (h2 : r = none → ∀ H', Ex H H' → E (.ref C) none H') : Run (tAsg (tCall (spX K C PX) [] E ta) (gTup K 2 (gCons (gName i) (gCons (gName j) gNil)))) D σ H := fun H1 e =>
  x_call (Q := fun v H2 => gTup K 2 (gCons (gName i) (gCons (gName j) gNil)) v σ H2 D.nx) (h.mono e) hp (fun d hd v H2 e2 t => by
    obtain ⟨d1, d2, rfl, k⟩ := h1 d hd
    exact g_twoD t fun x y hx hy => k x y H2 (e.trans e2) hx hy) fun hr H2 e2 => h2 hr H2 (e.trans e2)
theorem x_set {ta : TA} {r : Option PyData} {i : Nat} (h : EvDA K ta σ H ds) (hp : PX ds r) (h1 : ∀ d, r = some d → ∀ x H1, Ex H H1 → Tp K H1 x d → Run tz D (σ.set i (some x)) H1)
    (h2 : r = none → ∀ H', Ex H H' → E (.ref C) none H') : Run (tSeq (tAsg (tCall (spX K C PX) [] E ta) (gName i)) tz) D σ H := fun H1 e =>
  x_call (Q := fun v H2 => gName i v σ H2 (tz D)) (h.mono e) hp (fun d hd v H2 e2 t => (h1 d hd v H2 (e.trans e2) t).go) fun hr H2 e2 => h2 hr H2 (e.trans e2)
theorem v_toI {σ : S} {H : Hp} {te : TE} {l : List Nat} (h : Ev te σ H (.str (tx l))) (hd : ∀ c ∈ l, isFig c = true) (hne : l ≠ []) (hz : l.length ≤ 640) : Ev (tCB (fun xs H Q => ∃ a n, xs = [.str a] ∧ PySem.intText? a = some n ∧ a.length ≤ 640 ∧ Q (.int n) H) (tCons te tNil)) σ H (.int ((NumText.digitsVal l : Nat) : Int)) :=
  v_cb1 h fun H1 Q _ q => ⟨tx l, _, rfl, PySem.intText_digits (x := tx l) (fun c hc => by have := hd c hc; unfold isFig at this; exact of_decide_eq_true this) hne (by rw [tx_len]; omega), by rw [tx_len]; exact hz, q⟩
end
theorem slice_run (p : Nat → Bool) (T : List Nat) (a : Nat) : slice T a (run p T a) = (T.drop a).takeWhile p := by
  unfold slice run
  rw [show a + ((T.drop a).takeWhile p).length - a = ((T.drop a).takeWhile p).length by omega]
  exact (List.prefix_iff_eq_take.mp (List.takeWhile_prefix p)).symm
theorem takeWhile_all {p : Nat → Bool} : ∀ {l : List Nat} {c : Nat}, c ∈ l.takeWhile p → p c = true
  | [], c, h => by simp at h
  | d :: l, c, h => by
    rw [List.takeWhile_cons] at h
    split at h
    · rcases List.mem_cons.mp h with rfl | h
      · assumption
      · exact takeWhile_all h
    · simp at h
theorem drop_get {T : List Nat} {a c : Nat} {r : List Nat} (h : T.drop a = c :: r) : T[a]? = some c := by
  have := congrArg (fun l => l[0]?) h
  simpa using this
theorem slice1 {T : List Nat} {a : Nat} : slice T a (a + 1) = (T.drop a).take 1 := by
  unfold slice
  rw [show a + 1 - a = 1 by omega]
theorem drop_cases (T : List Nat) (a : Nat) : (T.length ≤ a ∧ T.drop a = []) ∨ ∃ c r, T.drop a = c :: r ∧ a < T.length ∧ T[a]? = some c ∧ T.drop (a + 1) = r := by
  cases h : T.drop a with
  | nil =>
    refine .inl ⟨?_, rfl⟩
    have := congrArg List.length h
    simp at this
    omega
  | cons c r => exact .inr ⟨c, r, rfl, drop_lt h, drop_get h, drop_succ h⟩

section
variable {P : Program} {w : World} {K : PySem.W.Frag} {mg : Str → Option Value} {base : Heap} {f : Addr} {fd : FuncData} {aS aL cBF cBN cSE : Addr} {es : Array DictEntry} {nn : Nat}
/-! ### let_in, run, sign_at -/
def pLet : List PyData → Option PyData → Prop := fun ds r => ∃ f, ds = [toD f] ∧ depth f ≤ 9 ∧ size f ≤ 50000 ∧ r = if depth f > 8 then none else some (toD f)
theorem ok_let_in (M : Md K w mg aS aL cBF cBN cSE es nn) (D : Df K mg "let_in" s_let_in ["formula"] f fd) (c_depth : Cl P w K mg base CX0 10 "depth" (spF K (pDepth 9))) : FnOk P w K mg base (L2.CX P w) 11 f fd ["formula"] (spX K cBF pLet) := by
  refine D.fn.okX sc_let_in (fun vs H Q E h => ?_) (fun cdv A outer s H vs Q E hr h => ?_)
  · obtain ⟨ds, d, hd, ⟨f, rfl, _⟩, _⟩ := h
    exact hd.len
  obtain ⟨ds, d, hd, ⟨f, rfl, hn, hz, rfl⟩, q1, q2⟩ := h
  obtain ⟨x, rfl, h1⟩ := hd.one_eq
  refine ⟨_, (pss_cons (ps_if (pt_cmpR op_gt (pe_cl c_depth hr (by omega) pass0 (pa_cons (pv 0) pa_nil)) (pe_gi M.c_MOST_DEEP) (nomark _)) (pss_one (ps_raise rfl (takes_of rfl rfl rfl rfl) (pmk_own PySem.F.excBase_ValueError M.xBF M.gBF M.kBF (raises_own M.bBF M.tBF) rfl))) pss_nil)
    (pss_one (ps_ret (pv 0)))), ?_⟩
  refine Run.go ?_
  have v0 := d_var (K := K) (i := 0) (σ := start ["formula"] [x]) rfl h1
  refine r_if (b := decide (depth f > 8)) (et_is (et_test (v_gt (v_int (d_call (P := pDepth 9) (da_cons v0 da_nil) ⟨f, rfl, hn, hz, rfl⟩)) ev_c)) (decide_eq_decide.mpr (by omega))) (fun hb => ?_) (fun hb => ?_)
  · exact fun H1 e => q2 (by rw [if_pos (of_decide_eq_true hb)]) H1 e
  · exact r_ret v0 (q1 _ (by rw [if_neg (of_decide_eq_false hb)]))
def pRun (z : Str) (p : Nat → Bool) : List PyData → PyData → Prop := fun ds d => ∃ (T : List Nat) (a : Nat), ds = [.str (tx T), .int (a : Int), .str z] ∧ T.length ≤ 10000 ∧ d = .int ((run p T a : Nat) : Int)
theorem ok_run {z : Str} {p : Nat → Bool} (hp : ∀ c, decide (c ∈ z.cps.toList) = p c) (M : Md K w mg aS aL cBF cBN cSE es nn) (D : Df K mg "run" s_run ["text", "at", "signs"] f fd) : FnOk P w K mg base CX0 1 f fd ["text", "at", "signs"] (spF K (pRun z p)) := by
  refine D.fn.ok sc_run (fun vs H Q E h => ?_) (fun cdv A outer s H vs Q E hr h => ?_)
  · obtain ⟨ds, d, hd, ⟨T, a, rfl, _⟩, _⟩ := h
    exact hd.len
  obtain ⟨ds, d, hd, ⟨T, a, rfl, hz, rfl⟩, q⟩ := h
  obtain ⟨x, y, u, rfl, h1, h2, h3⟩ := hd.three_eq
  obtain rfl := h1.str_eq
  obtain rfl := h2.int_eq
  obtain rfl := h3.str_eq
  refine ⟨_, (pss_cons (ps_while PassesOwn.never (PW.pt (pw_and (pt_cmpR op_lt (pv 1) (pe_callB call_len_str (by rfl) M.b_len PySem.boot_len (pa_cons (pv 0) pa_nil)) (nomark _)) (pw_and1 (pt_cmpR op_in_sign (pe_ix ix_str (pv 0) (pv 1) (fun _ _ => rfl)) (pv 2) rfl)))) (pss_one (ps_set (i := 1) sc_run.nd rfl (Or.inl rfl) (pe_op op_add (pv 1) pe_int))))
    (pss_one (ps_ret (pv 1)))), ?_⟩
  refine Run.go ?_
  refine r_while (fun m σ' H' => Ex H H' ∧ ∃ b : Nat, σ' = [some (.str (tx T)), some (.int (b : Int)), some (.str z)] ∧ run p T b = run p T a ∧ m = T.length - b) (T.length - a) (fun H1 e => ⟨e, a, rfl, rfl, rfl⟩) ?_
  rintro m σ' H' ⟨e, b, rfl, hb, rfl⟩
  have v0 : Ev (tVar 0) [some (.str (tx T)), some (.int (b : Int)), some (.str z)] H' (.str (tx T)) := ev_var rfl
  have v1 : Ev (tVar 1) [some (.str (tx T)), some (.int (b : Int)), some (.str z)] H' (.int (b : Int)) := ev_var rfl
  have v2 : Ev (tVar 2) [some (.str (tx T)), some (.int (b : Int)), some (.str z)] H' (.str z) := ev_var rfl
  have lt := et_test (v_lt v1 (v_len v0 (by rw [tx_len]; omega)))
  rw [tx_len] at lt
  rcases drop_cases T b with ⟨hl, hd0⟩ | ⟨c, r, hd0, hl, hc, hr1⟩
  · refine .inr ⟨et_is (et_and (b := false) (et_is lt (decide_eq_false (by omega))) fun h => nomatch h) rfl, ?_⟩
    have e1 : run p T b = b := by unfold run; rw [hd0]; rfl
    rw [← hb, e1] at q
    exact r_ret (d_int v1) fun v H1 e1 t => q v H1 (e.trans e1) t
  · have inn := et_test (v_in (v_ixS v0 v1 (by omega) hc) v2)
    rw [hp] at inn
    cases hpc : p c with
    | true =>
      rw [hpc] at inn
      refine .inl ⟨et_is (et_and (et_is lt (decide_eq_true (by omega))) fun _ => inn) rfl, ?_⟩
      refine e_set (v_add v1 ev_c) fun H1 e1 => ⟨_, ?_, e.trans e1, b + 1, rfl, ?_, rfl⟩
      · omega
      · rw [← hb]
        unfold run
        rw [hd0, List.takeWhile_cons, if_pos hpc, hr1]
        simp
        omega
    | false =>
      rw [hpc] at inn
      refine .inr ⟨et_is (et_and (et_is lt (decide_eq_true (by omega))) fun _ => inn) rfl, ?_⟩
      have e1 : run p T b = b := by unfold run; rw [hd0, List.takeWhile_cons, hpc]; rfl
      rw [← hb, e1] at q
      exact r_ret (d_int v1) fun v H1 e1 t => q v H1 (e.trans e1) t
def signD (o : Option Op) : PyData := match o with
  | some o => .str (opS o)
  | none => .none
def pSign : List PyData → PyData → Prop := fun ds d => ∃ (T : List Nat) (a : Nat), ds = [.str (tx T), .int (a : Int)] ∧ T.length ≤ 10000 ∧ d = signD (signAt T a)
abbrev hit (T : List Nat) (a : Nat) (o : Op) : Bool := (T.drop a).take (o.txt.length + 2) == 32 :: (o.txt ++ [32])
theorem sqt_signs (M : Md K w mg aS aL cBF cBN cSE es nn) (H : Hp) : SqT K H aS (ops.map fun o => V.str (opS o)) := by
  obtain ⟨o, its, k, h⟩ := M.signs
  exact .inr ⟨o, its, k, h⟩
theorem ok_sign_at (M : Md K w mg aS aL cBF cBN cSE es nn) (D : Df K mg "sign_at" s_sign_at ["text", "at"] f fd) : FnOk P w K mg base CX0 1 f fd ["text", "at"] (spF K pSign) := by
  refine D.fn.ok sc_sign_at (fun vs H Q E h => ?_) (fun cdv A outer s H vs Q E hr h => ?_)
  · obtain ⟨ds, d, hd, ⟨T, a, rfl, _⟩, _⟩ := h
    exact hd.len
  obtain ⟨ds, d, hd, ⟨T, a, rfl, hz, rfl⟩, q⟩ := h
  obtain ⟨x, y, rfl, h1, h2⟩ := hd.two_eq
  obtain rfl := h1.str_eq
  obtain rfl := h2.int_eq
  refine ⟨_, (pss_cons (ps_for PassesOwn.never rfl (pi_tup (pe_glob (v := .ref aS) rfl M.c_SIGNS rfl)) (pg_name (i := 2) sc_sign_at.nd rfl (Or.inl rfl)) (pss_one (ps_if (pt_cmpR op_eq (pe_slice sl_str (pv 0) (po_some (pv 1)) (po_some (pe_op op_add (pe_op op_add (pv 1) (pe_callB call_len_str (by rfl) M.b_len PySem.boot_len (pa_cons (pv 2) pa_nil))) pe_int))) (pe_op op_add_str (pe_op op_add_str pe_str (pv 2)) pe_str) (nomark _)) (pss_one (ps_ret (pv 2))) pss_nil)))
    (pss_one (ps_ret pe_non))), ?_⟩
  refine q_forT (K := K) ev_c (sqt_signs M H) (fun i σ' H' => Ex H H' ∧ (∃ s2, σ' = [some (.str (tx T)), some (.int (a : Int)), s2]) ∧ ∀ j o, j < i → ops[j]? = some o → hit T a o = false) (fun H1 e => ⟨e, ⟨_, rfl⟩, fun j o hj _ => absurd hj (Nat.not_lt_zero j)⟩) (fun i σ' H' _ p => sqt_signs M H') (fun i x σ' H' hi p => ?_) (fun σ' H' p => ?_)
  · obtain ⟨e, ⟨s2, rfl⟩, hn⟩ := p
    rw [List.getElem?_map] at hi
    cases ho : ops[i]? with
    | none => rw [ho] at hi; simp at hi
    | some o =>
      rw [ho] at hi
      simp at hi
      subst hi
      have hlo := o.txt_len
      have v0 : Ev (tVar 0) [some (.str (tx T)), some (.int (a : Int)), some (.str (opS o))] H' (.str (tx T)) := ev_var rfl
      have v1 : Ev (tVar 1) [some (.str (tx T)), some (.int (a : Int)), some (.str (opS o))] H' (.int (a : Int)) := ev_var rfl
      have v2 : Ev (tVar 2) [some (.str (tx T)), some (.int (a : Int)), some (.str (opS o))] H' (.str (tx o.txt)) := ev_is (ev_var rfl) (by rw [opS_tx])
      have ln := v_len v2 (by rw [tx_len]; omega)
      rw [tx_len] at ln
      have t1 := v_slice v0 (eo_some v1) (eo_some (ev_is (v_add (v_add v1 ln) (ev_c (v := .int 2))) (show V.int ((a : Int) + (o.txt.length : Int) + 2) = V.int ((a + o.txt.length + 2 : Nat) : Int) by congr 1))) (by omega)
      have t2 := v_catL (v_catL (a := [32]) (v_str_c (s := " ")) v2 (by simp; omega)) (v_str_c (s := " ") (l := [32])) (by simp; omega)
      have es1 : slice T a (a + o.txt.length + 2) = (T.drop a).take (o.txt.length + 2) := by unfold slice; rw [show a + o.txt.length + 2 - a = o.txt.length + 2 by omega]
      refine Run.go (e_if (b := hit T a o) (et_is (t_eqS t1 t2) ?_) (fun hb => ?_) (fun hb => ?_))
      · rw [tx_eq, es1]
        rw [Bool.eq_iff_iff]
        simp [hit]
      · have hs : signAt T a = some o := by
          unfold signAt
          rw [List.find?_eq_some_iff_getElem]
          obtain ⟨h3, h4⟩ := List.getElem?_eq_some_iff.mp ho
          refine ⟨hb, i, h3, h4, fun j hj => ?_⟩
          have := hn j (ops[j]'(by omega)) hj (List.getElem?_eq_getElem _)
          simpa [hit] using this
        rw [hs] at q
        exact r_ret (d_str (ev_var rfl)) fun v H1 e1 t => q v H1 (e.trans e1) t
      · refine r_next fun H1 e1 => ⟨e.trans e1, ⟨_, rfl⟩, fun j o' hj ho' => ?_⟩
        by_cases hji : j = i
        · subst hji
          rw [ho] at ho'
          cases ho'
          exact hb
        · exact hn j o' (by omega) ho'
  · obtain ⟨e, ⟨s2, rfl⟩, hn⟩ := p
    have hs : signAt T a = none := by
      unfold signAt
      rw [List.find?_eq_none]
      intro o _ ht
      obtain ⟨j, hj, ho⟩ := List.mem_iff_getElem.mp (Op.mem_ops o)
      have := hn j o (by rw [List.length_map]; exact hj) (by rw [List.getElem?_eq_getElem hj, ho])
      have ht : hit T a o = true := ht
      rw [this] at ht
      cases ht
    rw [hs] at q
    exact Run.go (r_ret (d_non ev_c) fun v H1 e1 t => q v H1 (e.trans e1) t)

/-! ### number_at, text_at, cell_at, cells_at -/
def rD (r : R (F × Nat)) : Option PyData := match r with
  | .ok p => some (.tuple [toD p.1, .int (p.2 : Int)])
  | _ => none
theorem rD_ok {f : F} {e : Nat} : rD (.ok (f, e)) = some (.tuple [toD f, .int (e : Int)]) := rfl
def pNum : List PyData → Option PyData → Prop := fun ds r => ∃ (T : List Nat) (a c : Nat) (s : List Nat), ds = [.str (tx T), .int (a : Int)] ∧ T.length ≤ 10000 ∧ T.drop a = c :: s ∧ isFig c = true ∧ r = rD (numM T a)
theorem ok_number_at (M : Md K w mg aS aL cBF cBN cSE es nn) (D : Df K mg "number_at" s_number_at ["text", "at"] f fd) (c_run : Cl P w K mg base CX0 1 "run" (spF K (pRun "0123456789" isFig))) : FnOk P w K mg base (L2.CX P w) 2 f fd ["text", "at"] (spX K cBF pNum) := by
  refine D.fn.okX sc_number_at (fun vs H Q E h => ?_) (fun cdv A outer s H vs Q E hr h => ?_)
  · obtain ⟨ds, d, hd, ⟨T, a, c, r, rfl, _⟩, _⟩ := h
    exact hd.len
  obtain ⟨ds, d, hd, ⟨T, a, c, r, rfl, hz, hc, hf, rfl⟩, q1, q2⟩ := h
  obtain ⟨x, y, rfl, h1, h2⟩ := hd.two_eq
  obtain rfl := h1.str_eq
  obtain rfl := h2.int_eq
  refine ⟨_, (pss_cons (ps_set (i := 2) sc_number_at.nd rfl (Or.inl rfl) (pe_cl c_run hr (by omega) pass0 (pa_cons (pv 0) (pa_cons (pv 1) (pa_cons (pe_gs M.c_FIGURES) pa_nil)))))
    (pss_cons (ps_if (pt_cmpR op_gt (pe_op op_sub (pv 2) (pv 1)) pe_int (nomark _)) (pss_one (ps_raise rfl (takes_of rfl rfl rfl rfl) (pmk_own PySem.F.excBase_ValueError M.xBF M.gBF M.kBF (raises_own M.bBF M.tBF) rfl))) pss_nil)
    (pss_one (ps_ret (pe_tup (pa_cons (pe_tup (pa_cons pe_str (pa_cons (pe_tup (pa_cons pe_str (pa_cons (pe_callTy call_int_str (by rfl) M.b_int (by decide +kernel) (pa_cons (pe_slice sl_str (pv 0) (po_some (pv 1)) (po_some (pv 2))) pa_nil)) (pa_cons pe_int pa_nil)))) pa_nil))) (pa_cons (pv 2) pa_nil))))))), ?_⟩
  refine Run.go ?_
  have v0 : Ev (tVar 0) (start ["text", "at", "end"] [.str (tx T), .int (a : Int)]) H (.str (tx T)) := ev_var rfl
  have v1 : Ev (tVar 1) (start ["text", "at", "end"] [.str (tx T), .int (a : Int)]) H (.int (a : Int)) := ev_var rfl
  have hge := run_ge isFig T a
  refine r_set (v_int (d_call (P := pRun "0123456789" isFig) (da_cons (d_str v0) (da_cons (d_int v1) (da_cons (d_str ev_c) da_nil))) ⟨T, a, rfl, hz, rfl⟩)) ?_
  refine r_if (b := decide (run isFig T a - a > 40)) (et_is (et_test (v_gt (v_sub (ev_var rfl) (ev_var rfl)) ev_c)) (decide_eq_decide.mpr (by omega))) (fun hb => ?_) (fun hb => ?_)
  · exact fun H1 e => q2 (by unfold numM; simp only; rw [if_pos (of_decide_eq_true hb)]; rfl) H1 e
  · have hb := of_decide_eq_false hb
    have hsl : slice T a (run isFig T a) = (T.drop a).takeWhile isFig := slice_run _ _ _
    refine r_ret (d_tup (da_cons (d_tup (da_cons (d_str ev_c) (da_cons (d_tup (da_cons (d_str ev_c) (da_cons (d_int (v_toI (v_slice (ev_var rfl) (eo_some (ev_var rfl)) (eo_some (ev_var rfl)) (by omega)) ?_ ?_ ?_)) (da_cons (d_int ev_c) da_nil)))) da_nil))) (da_cons (d_int (ev_var rfl)) da_nil))) (q1 _ ?_)
    · intro c' hc'
      rw [hsl] at hc'
      exact takeWhile_all hc'
    · rw [hsl, hc, List.takeWhile_cons, if_pos hf]
      simp
    · have := slice_len2 T a (run isFig T a)
      omega
    · unfold numM
      simp only
      rw [if_neg hb]
      simp only [rD, toD]
def pTextAt : List PyData → Option PyData → Prop := fun ds r => ∃ (T : List Nat) (a : Nat), ds = [.str (tx T), .int (a : Int)] ∧ T.length ≤ 10000 ∧ r = rD (textM T a)
theorem ok_text_at (M : Md K w mg aS aL cBF cBN cSE es nn) (D : Df K mg "text_at" s_text_at ["text", "at"] f fd) : FnOk P w K mg base (L2.CX P w) 1 f fd ["text", "at"] (spX K cBF pTextAt) := by
  refine D.fn.okX sc_text_at (fun vs H Q E h => ?_) (fun cdv A outer s H vs Q E hr h => ?_)
  · obtain ⟨ds, d, hd, ⟨T, a, rfl, _⟩, _⟩ := h
    exact hd.len
  obtain ⟨ds, d, hd, ⟨T, a, rfl, hz, rfl⟩, q1, q2⟩ := h
  obtain ⟨x, y, rfl, h1, h2⟩ := hd.two_eq
  obtain rfl := h1.str_eq
  obtain rfl := h2.int_eq
  refine ⟨_, (pss_cons (ps_set (i := 2) sc_text_at.nd rfl (Or.inl rfl) pe_str)
    (pss_cons (ps_set (i := 3) sc_text_at.nd rfl (Or.inl rfl) (pe_op op_add (pv 1) pe_int))
    (pss_cons (ps_while (passes_of rfl) (PW.pt (pw_or (pt_cmpR op_ne (pe_slice sl_str (pv 0) (po_some (pv 3)) (po_some (pe_op op_add (pv 3) pe_int))) pe_str (nomark _)) (pw_or1 (pt_cmpR op_eq (pe_slice sl_str (pv 0) (po_some (pe_op op_add (pv 3) pe_int)) (po_some (pe_op op_add (pv 3) pe_int))) pe_str (nomark _))))) (pss_cons (ps_if (pt_cmpR op_ge (pv 3) (pe_callB call_len_str (by rfl) M.b_len PySem.boot_len (pa_cons (pv 0) pa_nil)) (nomark _)) (pss_one (ps_raise rfl (takes_of rfl rfl rfl rfl) (pmk_own PySem.F.excBase_ValueError M.xBF M.gBF M.kBF (raises_own M.bBF M.tBF) rfl))) pss_nil)
    (pss_cons (ps_set (i := 2) sc_text_at.nd rfl (Or.inl rfl) (pe_op op_add_str (pv 2) (pe_ix ix_str (pv 0) (pv 3) (fun _ _ => rfl))))
    (pss_cons (ps_if (pt_cmpR op_eq (pe_ix ix_str (pv 0) (pv 3) (fun _ _ => rfl)) pe_str (nomark _)) (pss_one (ps_set (i := 3) sc_text_at.nd rfl (Or.inl rfl) (pe_op op_add (pv 3) pe_int))) pss_nil)
    (pss_one (ps_set (i := 3) sc_text_at.nd rfl (Or.inl rfl) (pe_op op_add (pv 3) pe_int)))))))
    (pss_one (ps_ret (pe_tup (pa_cons (pe_tup (pa_cons pe_str (pa_cons (pe_tup (pa_cons pe_str (pa_cons (pv 2) pa_nil))) pa_nil))) (pa_cons (pe_op op_add (pv 3) pe_int) pa_nil)))))))), ?_⟩
  refine Run.go ?_
  refine r_set (v_str_c (s := "") (l := [])) (r_set (v_add (ev_var rfl) ev_c) ?_)
  refine r_while (fun m σ' H' => Ex H H' ∧ ∃ (fo : List Nat) (h : Nat), σ' = [some (.str (tx T)), some (.int (a : Int)), some (.str (tx fo)), some (.int (h : Int))] ∧ m = T.length + 2 - h ∧ fo.length ≤ h ∧ (h ≤ T.length + 1 ∨ T.length ≤ h) ∧
      (scan (T.drop (a + 1))).map (fun p => (p.1, a + 1 + p.2)) = (scan (T.drop h)).map fun p => (fo ++ p.1, h + p.2)) (T.length + 2 - (a + 1)) (fun H1 e => ⟨e, [], a + 1, rfl, rfl, by simp, by omega, by simp⟩) ?_
  rintro m σ' H' ⟨e, fo, h, rfl, rfl, hfo, hh, hs⟩
  have v0 : Ev (tVar 0) [some (.str (tx T)), some (.int (a : Int)), some (.str (tx fo)), some (.int (h : Int))] H' (.str (tx T)) := ev_var rfl
  have v2 : Ev (tVar 2) [some (.str (tx T)), some (.int (a : Int)), some (.str (tx fo)), some (.int (h : Int))] H' (.str (tx fo)) := ev_var rfl
  have v3 : Ev (tVar 3) [some (.str (tx T)), some (.int (a : Int)), some (.str (tx fo)), some (.int (h : Int))] H' (.int (h : Int)) := ev_var rfl
  have t1 : EvT _ _ _ _ := t_neS (v_slice v0 (eo_some v3) (eo_some (v_add v3 (ev_c (v := .int 1)))) (by omega) (b := h + 1)) (v_str_c (s := "\"") (l := [34]))
  have t2 : EvT _ _ _ _ := t_eqS (v_slice v0 (eo_some (v_add v3 (ev_c (v := .int 1)))) (eo_some (v_add v3 (ev_c (v := .int 2)))) (by omega) (a := h + 1) (b := h + 1 + 1)) (v_str_c (s := "\"") (l := [34]))
  rw [tx_eq, slice1] at t1 t2
  have ge := et_test (v_ge v3 (v_len v0 (by rw [tx_len]; omega)))
  rw [tx_len] at ge
  rcases drop_cases T h with ⟨hl, hd0⟩ | ⟨c, r, hd0, hl, hc, hr1⟩
  · rw [hd0] at t1 hs
    have es0 : scan ([] : List Nat) = none := by rw [scan.eq_def]
    refine .inl ⟨et_is (et_or (a := true) (b := false) (et_is t1 (by simp)) fun h => nomatch h) rfl, ?_⟩
    refine r_yes (et_is ge (decide_eq_true (by omega))) (fun H1 e1 => q2 ?_ H1 (e.trans e1))
    unfold textM
    cases hq : scan (T.drop (a + 1)) with
    | none => rfl
    | some p => rw [hq, es0] at hs; simp at hs
  · rw [hd0] at t1
    have ixc := v_ixS v0 v3 (by omega) hc
    have body : ∀ (k : Nat), (∀ σ2 : S, σ2 = [some (.str (tx T)), some (.int (a : Int)), some (.str (tx (fo ++ [c]))), some (.int (h : Int))] → True) → True := fun _ _ => trivial
    have v0' : Ev (tVar 0) [some (.str (tx T)), some (.int (a : Int)), some (.str (tx (fo ++ [c]))), some (.int (h : Int))] H' (.str (tx T)) := ev_var rfl
    have v3' : Ev (tVar 3) [some (.str (tx T)), some (.int (a : Int)), some (.str (tx (fo ++ [c]))), some (.int (h : Int))] H' (.int (h : Int)) := ev_var rfl
    have ixc' := v_ixS v0' v3' (by omega) hc
    by_cases hq : c = 34
    · subst hq
      cases r with
      | nil =>
        rw [hr1] at t2
        have es0 : scan [34] = some ([], 1) := by rw [scan.eq_def]; simp
        refine .inr ⟨et_is (et_or (et_is t1 (show (!decide ((34 :: ([] : List Nat)).take 1 = [34])) = false by simp)) fun _ => et_is t2 (by simp)) rfl, ?_⟩
        rw [hd0, es0] at hs
        refine r_ret (d_tup (da_cons (d_tup (da_cons (d_str ev_c) (da_cons (d_tup (da_cons (d_str ev_c) (da_cons (d_str v2) da_nil))) da_nil))) (da_cons (d_int (v_add v3 ev_c)) da_nil))) fun v H1 e1 t => q1 _ ?_ v H1 (e.trans e1) t
        unfold textM
        cases hq : scan (T.drop (a + 1)) with
        | none => rw [hq] at hs; simp at hs
        | some p =>
          rw [hq] at hs
          simp at hs
          simp only [rD, toD]
          rw [hs.1, hs.2]
          rfl
      | cons d r' =>
        rw [hr1] at t2
        by_cases hd34 : d = 34
        · subst hd34
          have es0 : scan (34 :: 34 :: r') = (scan r').map fun p => (34 :: p.1, p.2 + 2) := by rw [scan.eq_def]; simp
          refine .inl ⟨et_is (et_or (et_is t1 (show (!decide ((34 :: 34 :: r').take 1 = [34])) = false by simp)) fun _ => et_is t2 (by simp)) rfl, ?_⟩
          refine r_no (et_is ge (decide_eq_false (by omega))) (r_set (v_catL v2 ixc (by simp; omega)) (r_yes (et_is (t_eqS ixc' (v_str_c (s := "\"") (l := [34]))) (by decide)) ?_))
          refine fun H1 e1 => e_set (v_add v3' ev_c) (fun H2 e2 => ?_) H1 e1
          refine Run.go (e_set (σ := [some (.str (tx T)), some (.int (a : Int)), some (.str (tx (fo ++ [34]))), some (.int ((h : Int) + 1))]) (v_add (ev_var rfl) ev_c) fun H3 e3 => ⟨_, ?_, (e.trans e2).trans e3, fo ++ [34], h + 2, ?_, rfl, ?_, ?_, ?_⟩)
          · omega
          · show [some (V.str (tx T)), some (.int (a : Int)), some (.str (tx (fo ++ [34]))), some (.int ((h : Int) + 1 + 1))] = [some (V.str (tx T)), some (.int (a : Int)), some (.str (tx (fo ++ [34]))), some (.int ((h + 2 : Nat) : Int))]
            have : (h : Int) + 1 + 1 = ((h + 2 : Nat) : Int) := by omega
            rw [this]
          · simp; omega
          · omega
          · have hr2 : T.drop (h + 2) = r' := drop_succ hr1
            rw [hs, hd0, es0, hr2, Option.map_map]
            congr 1
            funext p
            simp
            omega
        · have es0 : scan (34 :: d :: r') = some ([], 1) := by rw [scan.eq_def]; simp [hd34]
          refine .inr ⟨et_is (et_or (et_is t1 (show (!decide ((34 :: d :: r').take 1 = [34])) = false by simp)) fun _ => et_is t2 (show decide ((d :: r').take 1 = [34]) = false by simp [hd34])) rfl, ?_⟩
          rw [hd0, es0] at hs
          refine r_ret (d_tup (da_cons (d_tup (da_cons (d_str ev_c) (da_cons (d_tup (da_cons (d_str ev_c) (da_cons (d_str v2) da_nil))) da_nil))) (da_cons (d_int (v_add v3 ev_c)) da_nil))) fun v H1 e1 t => q1 _ ?_ v H1 (e.trans e1) t
          unfold textM
          cases hq : scan (T.drop (a + 1)) with
          | none => rw [hq] at hs; simp at hs
          | some p =>
            rw [hq] at hs
            simp at hs
            simp only [rD, toD]
            rw [hs.1, hs.2]
            rfl
    · have es0 : scan (c :: r) = (scan r).map fun p => (c :: p.1, p.2 + 1) := by rw [scan.eq_def]; simp [hq]
      refine .inl ⟨et_is (et_or (a := true) (b := false) (et_is t1 (show (!decide ((c :: r).take 1 = [34])) = true by simp [hq])) fun h => nomatch h) rfl, ?_⟩
      refine r_no (et_is ge (decide_eq_false (by omega))) (r_set (v_catL v2 ixc (by simp; omega)) (r_no (et_is (t_eqS ixc' (v_str_c (s := "\"") (l := [34]))) (show decide (tx [c] = tx [34]) = false by rw [tx_eq]; simp [hq])) ?_))
      refine e_set (v_add v3' ev_c) fun H1 e1 => ⟨_, ?_, e.trans e1, fo ++ [c], h + 1, rfl, rfl, ?_, ?_, ?_⟩
      · omega
      · simp; omega
      · omega
      · rw [hs, hd0, es0, hr1, Option.map_map]
        congr 1
        funext p
        simp
        omega
def cD (r : R ((Nat × Nat) × Nat)) : Option PyData := match r with
  | .ok p => some (.tuple [.tuple [.int (p.1.1 : Int), .int (p.1.2 : Int)], .int (p.2 : Int)])
  | _ => none
def pCell : List PyData → Option PyData → Prop := fun ds r => ∃ (T : List Nat) (a : Nat), ds = [.str (tx T), .int (a : Int)] ∧ T.length ≤ 10000 ∧ r = cD (cellM T a)
theorem col_find : ∀ k : Nat, k < 10 → Txt.find (Str.ofString "ABCDEFGHIJ") ⟨#[65 + k]⟩ = (k : Int) := by decide +kernel
theorem ok_cell_at (M : Md K w mg aS aL cBF cBN cSE es nn) (D : Df K mg "cell_at" s_cell_at ["text", "at"] f fd) (c_run : Cl P w K mg base CX0 1 "run" (spF K (pRun "0123456789" isFig))) : FnOk P w K mg base (L2.CX P w) 2 f fd ["text", "at"] (spX K cBF pCell) := by
  refine D.fn.okX sc_cell_at (fun vs H Q E h => ?_) (fun cdv A outer s H vs Q E hr h => ?_)
  · obtain ⟨ds, d, hd, ⟨T, a, rfl, _⟩, _⟩ := h
    exact hd.len
  obtain ⟨ds, d, hd, ⟨T, a, rfl, hz, rfl⟩, q1, q2⟩ := h
  obtain ⟨x, y, rfl, h1, h2⟩ := hd.two_eq
  obtain rfl := h1.str_eq
  obtain rfl := h2.int_eq
  refine ⟨_, (pss_cons (ps_set (i := 2) sc_cell_at.nd rfl (Or.inl rfl) (pe_cl c_run hr (by omega) pass0 (pa_cons (pv 0) (pa_cons (pe_op op_add (pv 1) pe_int) (pa_cons (pe_gs M.c_FIGURES) pa_nil)))))
    (pss_cons (ps_if (PW.pt (pw_or (pt_cmpR op_notin_str (pe_slice sl_str (pv 0) (po_some (pv 1)) (po_some (pe_op op_add (pv 1) pe_int))) (pe_gs M.c_COLUMNS) rfl) (pw_or (pt_cmpR op_eq (pv 2) (pe_op op_add (pv 1) pe_int) (nomark _)) (pw_or1 (pt_cmpR op_gt (pv 2) (pe_op op_add (pv 1) pe_int) (nomark _)))))) (pss_one (ps_raise rfl (takes_of rfl rfl rfl rfl) (pmk_own PySem.F.excBase_ValueError M.xBF M.gBF M.kBF (raises_own M.bBF M.tBF) rfl))) pss_nil)
    (pss_cons (ps_set (i := 3) sc_cell_at.nd rfl (Or.inl rfl) (pe_callTy call_int_str (by rfl) M.b_int (by decide +kernel) (pa_cons (pe_slice sl_str (pv 0) (po_some (pe_op op_add (pv 1) pe_int)) (po_some (pv 2))) pa_nil)))
    (pss_cons (ps_if (PW.pt (pw_or (pt_cmpR op_lt (pv 3) pe_int (nomark _)) (pw_or1 (pt_cmpR op_gt (pv 3) (pe_gi M.c_MOST_ROWS) (nomark _))))) (pss_one (ps_raise rfl (takes_of rfl rfl rfl rfl) (pmk_own PySem.F.excBase_ValueError M.xBF M.gBF M.kBF (raises_own M.bBF M.tBF) rfl))) pss_nil)
    (pss_one (ps_ret (pe_tup (pa_cons (pe_tup (pa_cons (pe_op op_sub (pv 3) pe_int) (pa_cons (pe_m1 PySem.F.slot_str_find PySem.F.type_str_find mt_find (pe_gs M.c_COLUMNS) (pe_ix ix_str (pv 0) (pv 1) (fun _ _ => rfl))) pa_nil))) (pa_cons (pv 2) pa_nil))))))))), ?_⟩
  refine Run.go ?_
  have hge := run_ge isFig T (a + 1)
  refine r_set (v_int (d_call (P := pRun "0123456789" isFig) (da_cons (d_str (ev_var rfl)) (da_cons (d_int (v_add (ev_var rfl) ev_c)) (da_cons (d_str ev_c) da_nil))) ⟨T, a + 1, rfl, hz, rfl⟩)) ?_
  have v0 : Ev (tVar 0) [some (.str (tx T)), some (.int (a : Int)), some (.int ((run isFig T (a + 1) : Nat) : Int)), none] H (.str (tx T)) := ev_var rfl
  have v1 : Ev (tVar 1) [some (.str (tx T)), some (.int (a : Int)), some (.int ((run isFig T (a + 1) : Nat) : Int)), none] H (.int (a : Int)) := ev_var rfl
  have v2 : Ev (tVar 2) [some (.str (tx T)), some (.int (a : Int)), some (.int ((run isFig T (a + 1) : Nat) : Int)), none] H (.int ((run isFig T (a + 1) : Nat) : Int)) := ev_var rfl
  have sl := v_slice v0 (eo_some v1) (eo_some (v_add v1 (ev_c (v := .int 1)))) (by omega) (b := a + 1)
  rw [slice1] at sl
  have t2 : EvT _ _ _ (decide (run isFig T (a + 1) = a + 1)) := et_is (t_eqI v2 (v_add v1 (ev_c (v := .int 1)))) (decide_eq_decide.mpr (by omega))
  have t3 : EvT _ _ _ (decide (run isFig T (a + 1) > a + 3)) := et_is (et_test (v_gt v2 (v_add v1 (ev_c (v := .int 3))))) (decide_eq_decide.mpr (by omega))
  rcases drop_cases T a with ⟨hl, hd0⟩ | ⟨c, r, hd0, hl, hc, hr1⟩
  · rw [hd0] at sl
    have e1 : run isFig T (a + 1) = a + 1 := by unfold run; rw [List.drop_eq_nil_of_le (by omega)]; rfl
    refine r_yes (et_is (et_or (et_test (v_op2 (z := .bl (!(!(Builtin.Str.occurrences (Str.ofString "ABCDEFGHIJ") (tx (([] : List Nat).take 1)) 0 (Str.ofString "ABCDEFGHIJ").length 1).isEmpty))) sl ev_c fun H1 Q _ q => ⟨_, _, rfl, rfl, q⟩)) fun _ => et_or (et_is t2 (decide_eq_true e1)) (b := false) fun h => nomatch h) (by simp)) (fun H1 e => q2 ?_ H1 e)
    unfold cellM
    rw [hd0]
    rfl
  · rw [hd0] at sl
    have t1 : EvT _ _ _ (!isCol c) := et_is (et_test (v_op2 (r := fun x y H Q => ∃ i j, x = .str i ∧ y = .str j ∧ Q (.bl (!(!(Builtin.Str.occurrences j i 0 j.length 1).isEmpty))) H) (z := .bl (!isCol c)) sl (ev_c (v := .str "ABCDEFGHIJ")) fun H1 Q _ q => ⟨_, _, rfl, rfl, by
      have e2 : (!(!(Builtin.Str.occurrences (Str.ofString "ABCDEFGHIJ") (tx ((c :: r).take 1)) 0 (Str.ofString "ABCDEFGHIJ").length 1).isEmpty)) = !isCol c := by
        have := PySem.StrLaws.found_one (Str.ofString "ABCDEFGHIJ") c
        rw [inCol] at this
        rw [← this]
        rfl
      rw [e2]
      exact q⟩)) rfl
    refine r_if (et_or t1 fun _ => et_or t2 fun _ => t3) (fun hb => ?_) (fun hb => ?_)
    · refine fun H1 e => q2 ?_ H1 e
      unfold cellM
      rw [hd0]
      simp only
      rw [if_pos]
      · rfl
      · simpa using hb
    · have hb' : ¬ (isCol c = false ∨ run isFig T (a + 1) = a + 1 ∨ run isFig T (a + 1) > a + 3) := by simpa using hb
      have hsl : slice T (a + 1) (run isFig T (a + 1)) = (T.drop (a + 1)).takeWhile isFig := slice_run _ _ _
      have hne : slice T (a + 1) (run isFig T (a + 1)) ≠ [] := by
        rw [hsl]
        intro h0
        have : run isFig T (a + 1) = a + 1 := by unfold run; rw [h0]; rfl
        exact hb' (.inr (.inl this))
      have hln : (slice T (a + 1) (run isFig T (a + 1))).length ≤ 640 := by
        have := slice_len2 T (a + 1) (run isFig T (a + 1))
        omega
      refine r_set (v_toI (v_slice v0 (eo_some (v_add v1 (ev_c (v := .int 1)))) (eo_some v2) (by omega) (a := a + 1)) (fun c' hc' => by rw [hsl] at hc'; exact takeWhile_all hc') hne hln) ?_
      generalize hrow : NumText.digitsVal (slice T (a + 1) (run isFig T (a + 1))) = row
      have hcell : cellM T a = if row < 1 ∨ row > 20 then .bad else .ok ((row - 1, c - 65), run isFig T (a + 1)) := by
        unfold cellM
        rw [hd0]
        simp only
        rw [if_neg hb', hrow]
      refine r_if (b := decide (row < 1) || decide (row > 20)) (et_or (et_is (et_test (v_lt (ev_var rfl) ev_c)) (decide_eq_decide.mpr (by omega))) fun _ => et_is (et_test (v_gt (ev_var rfl) ev_c)) (decide_eq_decide.mpr (by omega))) (fun hb2 => ?_) (fun hb2 => ?_)
      · refine fun H1 e => q2 ?_ H1 e
        rw [hcell, if_pos (by simpa using hb2)]
        rfl
      · have hb3 : ¬ (row < 1 ∨ row > 20) := by simpa using hb2
        have hcol : isCol c = true := by
          cases h : isCol c with
          | true => rfl
          | false => exact absurd (.inl h) hb'
        simp only [isCol, decide_eq_true_eq] at hcol
        have v0' : Ev (tVar 0) [some (.str (tx T)), some (.int (a : Int)), some (.int ((run isFig T (a + 1) : Nat) : Int)), some (.int (row : Int))] H (.str (tx T)) := ev_var rfl
        have v1' : Ev (tVar 1) [some (.str (tx T)), some (.int (a : Int)), some (.int ((run isFig T (a + 1) : Nat) : Int)), some (.int (row : Int))] H (.int (a : Int)) := ev_var rfl
        have ix := v_ixS v0' v1' (by omega) hc
        have fnd : Ev (tM1 (fun x xs H Q => ∃ a b, x = .str a ∧ xs = [.str b] ∧ Q (.int (Txt.find a b)) H) (tC (.str "ABCDEFGHIJ")) (tOp rIxS (tVar 0) (tVar 1))) [some (.str (tx T)), some (.int (a : Int)), some (.int ((run isFig T (a + 1) : Nat) : Int)), some (.int (row : Int))] H (.int ((c - 65 : Nat) : Int)) := fun H1 e Q q =>
          ⟨⟨_, rfl⟩, ix H1 e _ fun H2 e2 => ⟨_, _, rfl, rfl, by
            have e3 := col_find (c - 65) (by omega)
            rw [show 65 + (c - 65) = c by omega] at e3
            rw [e3]
            exact q H2 e2⟩⟩
        refine r_ret (d_tup (da_cons (d_tup (da_cons (d_int (ev_is (v_sub (ev_var rfl) ev_c) (show V.int ((row : Int) - 1) = V.int ((row - 1 : Nat) : Int) by congr 1; omega))) (da_cons (d_int fnd) da_nil))) (da_cons (d_int (ev_var rfl)) da_nil))) (q1 _ ?_)
        rw [hcell, if_neg hb3]
        rfl
def pCells : List PyData → Option PyData → Prop := fun ds r => ∃ (T : List Nat) (a : Nat), ds = [.str (tx T), .int (a : Int)] ∧ T.length ≤ 10000 ∧ r = rD (cellsM T a)
theorem ok_cells_at (D : Df K mg "cells_at" s_cells_at ["text", "at"] f fd) (c_cell_at : Cl P w K mg base (L2.CX P w) 2 "cell_at" (spX K cBF pCell)) : FnOk P w K mg base (L2.CX P w) 3 f fd ["text", "at"] (spX K cBF pCells) := by
  refine D.fn.okX sc_cells_at (fun vs H Q E h => ?_) (fun cdv A outer s H vs Q E hr h => ?_)
  · obtain ⟨ds, d, hd, ⟨T, a, rfl, _⟩, _⟩ := h
    exact hd.len
  obtain ⟨ds, d, hd, ⟨T, a, rfl, hz, rfl⟩, q1, q2⟩ := h
  obtain ⟨x, y, rfl, h1, h2⟩ := hd.two_eq
  obtain rfl := h1.str_eq
  obtain rfl := h2.int_eq
  refine ⟨_, (pss_cons (ps_asg (pe_cl c_cell_at hr (by omega) (passes_call (takes_of rfl rfl rfl rfl) (fun _ _ _ _ h => h)) (pa_cons (pv 0) (pa_cons (pv 1) pa_nil))) (pg_tup (by rfl) (pgs_cons (pg_name (i := 2) sc_cells_at.nd rfl (Or.inl rfl)) (pgs_cons (pg_name (i := 3) sc_cells_at.nd rfl (Or.inl rfl)) pgs_nil))))
    (pss_cons (ps_if (pt_cmpR op_ne (pe_slice sl_str (pv 0) (po_some (pv 3)) (po_some (pe_op op_add (pv 3) pe_int))) pe_str (nomark _)) (pss_one (ps_ret (pe_tup (pa_cons (pe_tup (pa_cons pe_str (pa_cons (pe_ix ix_tup (pv 2) pe_int (fun _ _ => rfl)) (pa_cons (pe_ix ix_tup (pv 2) pe_int (fun _ _ => rfl)) pa_nil)))) (pa_cons (pv 3) pa_nil))))) pss_nil)
    (pss_cons (ps_asg (pe_cl c_cell_at hr (by omega) (passes_call (takes_of rfl rfl rfl rfl) (fun _ _ _ _ h => h)) (pa_cons (pv 0) (pa_cons (pe_op op_add (pv 3) pe_int) pa_nil))) (pg_tup (by rfl) (pgs_cons (pg_name (i := 4) sc_cells_at.nd rfl (Or.inl rfl)) (pgs_cons (pg_name (i := 3) sc_cells_at.nd rfl (Or.inl rfl)) pgs_nil))))
    (pss_one (ps_ret (pe_tup (pa_cons (pe_tup (pa_cons pe_str (pa_cons (pe_ix ix_tup (pv 2) pe_int (fun _ _ => rfl)) (pa_cons (pe_ix ix_tup (pv 2) pe_int (fun _ _ => rfl)) (pa_cons (pe_ix ix_tup (pv 4) pe_int (fun _ _ => rfl)) (pa_cons (pe_ix ix_tup (pv 4) pe_int (fun _ _ => rfl)) pa_nil)))))) (pa_cons (pv 3) pa_nil)))))))), ?_⟩
  refine Run.go ?_
  have hcs : cellsM T a = (cellM T a).bind fun r => if (T.drop r.2).take 1 = [58] then (cellM T (r.2 + 1)).bind fun q => .ok (.box r.1.1 r.1.2 q.1.1 q.1.2, q.2) else .ok (.at r.1.1 r.1.2, r.2) := rfl
  refine x_two (PX := pCell) (da_cons (d_str (ev_var rfl)) (da_cons (d_int (ev_var rfl)) da_nil)) ⟨T, a, rfl, hz, rfl⟩ (fun d hd1 => ?_) (fun hr H1 e => ?_)
  · cases hm : cellM T a with
    | ok p =>
      rw [hm] at hd1 hcs
      rw [R.bind_ok] at hcs
      obtain ⟨⟨r0, c0⟩, e0⟩ := p
      simp only [cD, Option.some.injEq] at hd1
      subst hd1
      refine ⟨_, _, rfl, fun x y H1 ex hx hy => ?_⟩
      obtain rfl := hy.int_eq
      have v0 : Ev (tVar 0) [some (.str (tx T)), some (.int (a : Int)), some x, some (.int (e0 : Int)), none] H1 (.str (tx T)) := ev_var rfl
      have v3 : Ev (tVar 3) [some (.str (tx T)), some (.int (a : Int)), some x, some (.int (e0 : Int)), none] H1 (.int (e0 : Int)) := ev_var rfl
      have v2 : EvD K (tVar 2) [some (.str (tx T)), some (.int (a : Int)), some x, some (.int (e0 : Int)), none] H1 _ := d_var rfl hx
      have t1 := t_neS (v_slice v0 (eo_some v3) (eo_some (v_add v3 (ev_c (v := .int 1)))) (by omega) (b := e0 + 1)) (v_str_c (s := ":") (l := [58]))
      rw [tx_eq, slice1] at t1
      refine r_if t1 (fun hb => ?_) (fun hb => ?_)
      · have hb' : ¬ (T.drop e0).take 1 = [58] := by simpa using hb
        rw [if_neg hb'] at hcs
        exact r_ret (d_tup (da_cons (d_tup (da_cons (d_str ev_c) (da_cons (d_ix0 v2) (da_cons (d_ix1 v2) da_nil)))) (da_cons (d_int v3) da_nil))) fun v H2 e2 t => q1 _ (by rw [hcs]; simp only [rD, toD]) v H2 (ex.trans e2) t
      · have hb' : (T.drop e0).take 1 = [58] := by simpa using hb
        rw [if_pos hb'] at hcs
        refine x_two (PX := pCell) (da_cons (d_str v0) (da_cons (d_int (v_add v3 ev_c)) da_nil)) ⟨T, e0 + 1, rfl, hz, rfl⟩ (fun d hd1 => ?_) (fun hr H2 e2 => ?_)
        · cases hm2 : cellM T (e0 + 1) with
          | ok p2 =>
            simp only at hcs
            rw [hm2] at hd1 hcs
            rw [R.bind_ok] at hcs
            obtain ⟨⟨r1, c1⟩, e1⟩ := p2
            simp only [cD, Option.some.injEq] at hd1
            subst hd1
            refine ⟨_, _, rfl, fun x2 y2 H2 ex2 hx2 hy2 => ?_⟩
            obtain rfl := hy2.int_eq
            have w2 : EvD K (tVar 2) [some (.str (tx T)), some (.int (a : Int)), some x, some (.int (e1 : Int)), some x2] H2 _ := d_var rfl (hx.ex ex2)
            have w4 : EvD K (tVar 4) [some (.str (tx T)), some (.int (a : Int)), some x, some (.int (e1 : Int)), some x2] H2 _ := d_var rfl hx2
            exact r_ret (d_tup (da_cons (d_tup (da_cons (d_str ev_c) (da_cons (d_ix0 w2) (da_cons (d_ix1 w2) (da_cons (d_ix0 w4) (da_cons (d_ix1 w4) da_nil)))))) (da_cons (d_int (ev_var rfl)) da_nil))) fun v H3 e3 t => q1 _ (by rw [hcs]; simp only [rD, toD]) v H3 ((ex.trans ex2).trans e3) t
          | bad => rw [hm2] at hd1; cases hd1
          | out => rw [hm2] at hd1; cases hd1
        · refine q2 ?_ H2 (ex.trans e2)
          rw [hcs]
          simp only
          cases hm2 : cellM T (e0 + 1) with
          | ok p2 => rw [hm2] at hr; cases hr
          | bad => rfl
          | out => rfl
    | bad => rw [hm] at hd1; cases hd1
    | out => rw [hm] at hd1; cases hd1
  · refine q2 ?_ H1 e
    rw [hcs]
    cases hm : cellM T a with
    | ok p => rw [hm] at hr; cases hr
    | bad => rfl
    | out => rfl
end
end Ws
end

section
set_option Elab.async false
set_option linter.all false
set_option maxRecDepth 100000
set_option maxHeartbeats 4000000
namespace Ws
open PySem PySem.Spec PyProof.Rows L2 Evl
section
variable {K : PySem.W.Frag} {σ : S} {H H' : Hp} {ta tb te : TE} {tt : TT} {d : PyData} {ds : List PyData} {v : V} {D : Ends} {tz tu tw : TS} {PX : List PyData → Option PyData → Prop} {C : Addr} {E : XK}
/-- return (f(..), number), f may raise -/
theorem x_retT {ta : TA} {r : Option PyData} {j : Int} (h : EvDA K ta σ H ds) (hp : PX ds r) (hb : Ev tb σ H (.int j)) (h1 : ∀ d, r = some d → ∀ v H', Ex H H' → Tp K H' v (.tuple [d, .int j]) → D.rt v H') (h2 : r = none → ∀ H', Ex H H' → E (.ref C) none H') :
    Run (tRet (tTup (tCons (tCall (spX K C PX) [] E ta) (tCons tb tNil)))) D σ H := fun H1 e =>
  x_call (h.mono e) hp (fun d hd v H2 e2 t => hb H2 (e.trans e2) _ fun H3 e3 => ⟨by show 2 ≤ sizeLine; decide, fun p hp => h1 d hd _ _ (((e.trans e2).trans e3).trans (Evl.Ex.new hp)) (.tup (st_of upd_same) (.cons ((t.ex e3).ex (Evl.Ex.new hp)) (.one (.int j))))⟩) (fun hr H2 e2 => h2 hr H2 (e.trans e2))
theorem d_tupleL {p : Addr} {xs : List V} (h : Ev te σ H (.ref p)) (hl : H p = some (.lst xs)) (ts : TpAll K H xs ds) : EvD K (tCB (fun xs H Q => ∃ p ys, xs = [.ref p] ∧ ((SqL K H p ys ∧ ∀ l, H l = none → Q (.ref l) (upd H l (.tup ys))) ∨ (SqT K H p ys ∧ Q (.ref p) H))) (tCons te tNil)) σ H (.tuple ds) := fun H1 e Q q =>
  h H1 e _ fun H2 e2 => ⟨p, xs, rfl, .inl ⟨sq_of ((e.trans e2) _ _ hl), fun l hl2 => q _ _ (e2.trans (Evl.Ex.new hl2)) (.tup (st_of upd_same) (ts.ex ((e.trans e2).trans (Evl.Ex.new hl2))))⟩⟩
theorem r_app {l : Addr} {xs : List V} (hl : H l = some (.lst xs)) (ha : Ev ta σ H (.ref l)) (h : Ev te σ H v) (hz : xs.length < 100000) (k : Run tz D σ (upd H l (.lst (xs ++ [v])))) : Run (tSeq (tDrop (tBM K "list" rAppend ta (tCons te tNil))) tz) D σ H := fun H1 e =>
  q_app (e _ _ hl) (ha.mono e) (h.mono e) hz fun H2 e2 => k _ fun b o hb => by
    by_cases hbl : b = l
    · subst hbl
      rw [upd_same] at hb ⊢
      exact hb
    · rw [upd_ne hbl] at hb ⊢
      exact e2 _ _ (e _ _ hb)
theorem e_while (W : Nat → S → Hp → Prop) (m0 : Nat) (h0 : ∀ H1, Ex H H1 → W m0 σ H1)
    (hs : ∀ m σ' H', W m σ' H' → (EvT tt σ' H' true ∧ Run tu { D with nx := fun σ2 H2 => ∃ m', m' < m ∧ W m' σ2 H2, ct := fun σ2 H2 => ∃ m', m' < m ∧ W m' σ2 H2, bk := D.nx } σ' H') ∨ (EvT tt σ' H' false ∧ ∀ H2, Ex H' H2 → D.nx σ' H2)) : Run (tWhile tt tu) D σ H := fun H1 e =>
  s_while W m0 (h0 H1 e) fun m σ' H' hw => by
    rcases hs m σ' H' hw with ⟨a, b⟩ | ⟨a, b⟩
    · exact ⟨true, a, fun _ H2 e2 => ⟨_, fun _ _ h => h, b H2 e2⟩, fun h => nomatch h⟩
    · exact ⟨false, a, (fun h => nomatch h), fun _ H2 e2 => b H2 e2⟩
theorem e_ret {ta : TE} (h : EvD K ta σ H d) (k : ∀ v H1, Ex H H1 → Tp K H1 v d → D.rt v H1) : tRet ta D σ H := (r_ret h k).go
end
section
variable {P : Program} {w : World} {K : PySem.W.Frag} {mg : Str → Option Value} {base : Heap} {f : Addr} {fd : FuncData} {aS aL cBF cBN cSE : Addr} {es : Array DictEntry} {nn : Nat}
def pLv (n : Nat) : List PyData → Option PyData → Prop := fun ds r => ∃ (T : List Nat) (a lv o : Nat), ds = [.str (tx T), .int (a : Int), .int (lv : Int), .int (o : Int)] ∧ T.length ≤ 10000 ∧ 1 ≤ lv ∧ lv ≤ 5 ∧ parse T n (.level lv) a o ≠ .out ∧ r = rD (parse T n (.level lv) a o)
def pLs (n : Nat) : List PyData → Option PyData → Prop := fun ds r => ∃ (T : List Nat) (a o : Nat), ds = [.str (tx T), .int (a : Int), .int (o : Int)] ∧ T.length ≤ 10000 ∧ parse T n .less a o ≠ .out ∧ r = rD (parse T n .less a o)
def pAt (n : Nat) : List PyData → Option PyData → Prop := fun ds r => ∃ (T : List Nat) (a o : Nat), ds = [.str (tx T), .int (a : Int), .int (o : Int)] ∧ T.length ≤ 10000 ∧ parse T n .atom a o ≠ .out ∧ r = rD (parse T n .atom a o)
def pGr (n : Nat) : List PyData → Option PyData → Prop := fun ds r => ∃ (T : List Nat) (a o : Nat), ds = [.str (tx T), .int (a : Int), .int (o : Int)] ∧ T.length ≤ 10000 ∧ parse T n .great a o ≠ .out ∧ r = rD (parse T n .great a o)
def pCa (n : Nat) : List PyData → Option PyData → Prop := fun ds r => ∃ (T wd : List Nat) (a o : Nat), ds = [.str (tx T), .str (tx wd), .int (a : Int), .int (o : Int)] ∧ T.length ≤ 10000 ∧ wd.length ≤ T.length ∧ parse T n (.call wd) a o ≠ .out ∧ r = rD (parse T n (.call wd) a o)
theorem rD_bad : rD (.bad) = none := rfl
/-- what a call that is read hands on -/
theorem rD_some {r : R (F × Nat)} {d : PyData} (h : rD r = some d) : ∃ f e, r = .ok (f, e) ∧ d = .tuple [toD f, .int (e : Int)] := by
  cases r with
  | ok p => exact ⟨p.1, p.2, rfl, (Option.some.inj h).symm⟩
  | bad => cases h
  | out => cases h
theorem rD_none {r : R (F × Nat)} (h : rD r = none) (ho : r ≠ .out) : r = .bad := by
  cases r with
  | ok p => cases h
  | bad => rfl
  | out => exact absurd rfl ho
theorem bind_out_of {α β : Type} {r : R α} {k : α → R β} (h : r.bind k ≠ .out) : r ≠ .out := fun e => by
  rw [e] at h
  exact h rfl
theorem letIn_rD {f : F} {e : Nat} : rD (letIn f e) = if depth f > 8 then none else some (.tuple [toD f, .int (e : Int)]) := by
  unfold letIn
  split <;> rfl
theorem let_eq {f : F} {e : Nat} {d : PyData} (h : (if depth f > 8 then none else some (toD f)) = some d) : d = toD f ∧ letIn f e = .ok (f, e) := by
  split at h
  · cases h
  · exact ⟨(Option.some.inj h).symm, letIn_ok (by omega)⟩
theorem let_none {f : F} {e : Nat} (h : (if depth f > 8 then none else some (toD f)) = none) : letIn f e = .bad := by
  split at h
  · unfold letIn
    rw [if_pos (by omega)]
  · cases h

theorem ok_less_at {n : Nat} (M : Md K w mg aS aL cBF cBN cSE es nn) (D : Df K mg "less_at" s_less_at ["text", "at", "open_ones"] f fd) (c_let_in : Cl P w K mg base (L2.CX P w) 11 "let_in" (spX K cBF pLet)) (c_atom_at : Cl P w K mg base (L2.CX P w) (n + 11) "atom_at" (spX K cBF (pAt n)))
    (c_less_at : Cl P w K mg base (L2.CX P w) (n + 11) "less_at" (spX K cBF (pLs n))) : FnOk P w K mg base (L2.CX P w) (n + 11 + 1) f fd ["text", "at", "open_ones"] (spX K cBF (pLs (n + 1))) := by
  refine D.fn.okX sc_less_at (fun vs H Q E h => ?_) (fun cdv A outer s H vs Q E hr h => ?_)
  · obtain ⟨ds, d, hd, ⟨T, a, o, rfl, _⟩, _⟩ := h
    exact hd.len
  obtain ⟨ds, d, hd, ⟨T, a, o, rfl, hz, ho, rfl⟩, q1, q2⟩ := h
  obtain ⟨x, y, z, rfl, h1, h2, h3⟩ := hd.three_eq
  obtain rfl := h1.str_eq
  obtain rfl := h2.int_eq
  obtain rfl := h3.int_eq
  refine ⟨_, (pss_cons (ps_if (pt_cmpR op_ne (pe_slice sl_str (pv 0) (po_some (pv 1)) (po_some (pe_op op_add (pv 1) pe_int))) pe_str (nomark _)) (pss_one (ps_ret (pe_cl c_atom_at hr (by omega) (passes_call (takes_of rfl rfl rfl rfl) (fun _ _ _ _ h => h)) (pa_cons (pv 0) (pa_cons (pv 1) (pa_cons (pv 2) pa_nil)))))) pss_nil)
    (pss_cons (ps_asg (pe_cl c_less_at hr (by omega) (passes_call (takes_of rfl rfl rfl rfl) (fun _ _ _ _ h => h)) (pa_cons (pv 0) (pa_cons (pe_op op_add (pv 1) pe_int) (pa_cons (pe_op op_add (pv 2) pe_int) pa_nil)))) (pg_tup (by rfl) (pgs_cons (pg_name (i := 3) sc_less_at.nd rfl (Or.inl rfl)) (pgs_cons (pg_name (i := 4) sc_less_at.nd rfl (Or.inl rfl)) pgs_nil))))
    (pss_one (ps_ret (pe_tup (pa_cons (pe_cl c_let_in hr (by omega) (passes_call (takes_of rfl rfl rfl rfl) (fun _ _ _ _ h => h)) (pa_cons (pe_tup (pa_cons pe_str (pa_cons (pv 3) pa_nil))) pa_nil)) (pa_cons (pv 4) pa_nil))))))), ?_⟩
  refine Run.go ?_
  unfold parse at ho q1 q2
  have v0 : Ev (tVar 0) (start ["text", "at", "open_ones", "formula", "end"] [.str (tx T), .int (a : Int), .int (o : Int)]) H (.str (tx T)) := ev_var rfl
  have v1 : Ev (tVar 1) (start ["text", "at", "open_ones", "formula", "end"] [.str (tx T), .int (a : Int), .int (o : Int)]) H (.int (a : Int)) := ev_var rfl
  have v2 : Ev (tVar 2) (start ["text", "at", "open_ones", "formula", "end"] [.str (tx T), .int (a : Int), .int (o : Int)]) H (.int (o : Int)) := ev_var rfl
  have t1 := t_neS (v_slice v0 (eo_some v1) (eo_some (v_add v1 (ev_c (v := .int 1)))) (by omega) (b := a + 1)) (v_str_c (s := "-") (l := [45]))
  rw [tx_eq, slice1] at t1
  refine r_if t1 (fun hb => ?_) (fun hb => ?_)
  · have hb' : ¬ (T.drop a).take 1 = [45] := by simpa using hb
    rw [if_neg hb'] at ho q1 q2
    exact x_ret (PX := pAt n) (da_cons (d_str v0) (da_cons (d_int v1) (da_cons (d_int v2) da_nil))) ⟨T, a, o, rfl, hz, ho, rfl⟩ (fun d hd => q1 d hd) q2
  · have hb' : (T.drop a).take 1 = [45] := by simpa using hb
    rw [if_pos hb'] at ho q1 q2
    refine x_two (PX := pLs n) (da_cons (d_str v0) (da_cons (d_int (v_add v1 ev_c)) (da_cons (d_int (v_add v2 ev_c)) da_nil))) ⟨T, a + 1, o + 1, rfl, hz, bind_out_of ho, rfl⟩ (fun d hd => ?_) (fun hr H1 e1 => ?_)
    · obtain ⟨g, e, hg, rfl⟩ := rD_some hd
      refine ⟨_, _, rfl, fun x y H1 ex hx hy => ?_⟩
      obtain rfl := hy.int_eq
      have ft := fine_parse T n .less (a + 1) (o + 1) trivial g e hg
      rw [hg, R.bind_ok] at q1 q2
      have hd := ft.dp
      have hs := ft.sz
      have hl := ft.el
      have hdp : depth (.less g) = 1 + max (depth g) 0 := by simp only [depth]
      have hsz : size (.less g) = 1 + (size g + 0) := by simp only [size]
      refine x_retT (PX := pLet) (da_cons (d_is (d_tup (da_cons (d_str ev_c) (da_cons (d_var rfl hx) da_nil))) (show PyData.tuple [.str "less", toD g] = toD (.less g) by simp only [toD])) da_nil) ⟨.less g, rfl, by omega, by omega, rfl⟩ (ev_var rfl) (fun d hd v H2 e2 t => ?_) (fun hr H2 e2 => ?_)
      · obtain ⟨rfl, hl⟩ := let_eq (e := e) hd
        exact q1 _ (by rw [hl]; rfl) v H2 (ex.trans e2) t
      · exact q2 (by rw [let_none (e := e) hr]; rfl) H2 (ex.trans e2)
    · have hbad := rD_none hr (bind_out_of ho)
      exact q2 (by rw [hbad]; rfl) H1 e1
theorem ok_great_at {n : Nat} (M : Md K w mg aS aL cBF cBN cSE es nn) (D : Df K mg "great_at" s_great_at ["text", "at", "open_ones"] f fd) (c_run : Cl P w K mg base CX0 1 "run" (spF K (pRun "ABCDEFGHIJKLMNOPQRSTUVWXYZ" isGreat))) (c_cells_at : Cl P w K mg base (L2.CX P w) 3 "cells_at" (spX K cBF pCells))
    (c_call_at : Cl P w K mg base (L2.CX P w) (n + 11) "call_at" (spX K cBF (pCa n))) : FnOk P w K mg base (L2.CX P w) (n + 11 + 1) f fd ["text", "at", "open_ones"] (spX K cBF (pGr (n + 1))) := by
  refine D.fn.okX sc_great_at (fun vs H Q E h => ?_) (fun cdv A outer s H vs Q E hr h => ?_)
  · obtain ⟨ds, d, hd, ⟨T, a, o, rfl, _⟩, _⟩ := h
    exact hd.len
  obtain ⟨ds, d, hd, ⟨T, a, o, rfl, hz, ho, rfl⟩, q1, q2⟩ := h
  obtain ⟨x, y, z, rfl, h1, h2, h3⟩ := hd.three_eq
  obtain rfl := h1.str_eq
  obtain rfl := h2.int_eq
  obtain rfl := h3.int_eq
  refine ⟨_, (pss_cons (ps_set (i := 3) sc_great_at.nd rfl (Or.inl rfl) (pe_cl c_run hr (by omega) pass0 (pa_cons (pv 0) (pa_cons (pv 1) (pa_cons (pe_gs M.c_GREAT_formulas) pa_nil)))))
    (pss_cons (ps_set (i := 4) sc_great_at.nd rfl (Or.inl rfl) (pe_slice sl_str (pv 0) (po_some (pv 1)) (po_some (pv 3))))
    (pss_cons (ps_if (pt_cmpR op_eq (pe_slice sl_str (pv 0) (po_some (pv 3)) (po_some (pe_op op_add (pv 3) pe_int))) pe_str (nomark _)) (pss_one (ps_ret (pe_cl c_call_at hr (by omega) (passes_call (takes_of rfl rfl rfl rfl) (fun _ _ _ _ h => h)) (pa_cons (pv 0) (pa_cons (pv 4) (pa_cons (pe_op op_add (pv 3) pe_int) (pa_cons (pv 2) pa_nil))))))) pss_nil)
    (pss_cons (ps_if (PW.pt (pw_or (pt_cmpR op_eq (pv 4) pe_str (nomark _)) (pw_or1 (pt_cmpR op_eq (pv 4) pe_str (nomark _))))) (pss_one (ps_ret (pe_tup (pa_cons (pe_tup (pa_cons pe_str (pa_cons (pe_tup (pa_cons pe_str (pa_cons (pe_cmpR op_eq (pv 4) pe_str (nomark _)) pa_nil))) pa_nil))) (pa_cons (pv 3) pa_nil))))) pss_nil)
    (pss_one (ps_ret (pe_cl c_cells_at hr (by omega) (passes_call (takes_of rfl rfl rfl rfl) (fun _ _ _ _ h => h)) (pa_cons (pv 0) (pa_cons (pv 1) pa_nil))))))))), ?_⟩
  refine Run.go ?_
  unfold parse at ho q1 q2
  simp only at ho q1 q2
  refine r_set (v_int (d_call (P := pRun "ABCDEFGHIJKLMNOPQRSTUVWXYZ" isGreat) (da_cons (d_str (ev_var rfl)) (da_cons (d_int (ev_var rfl)) (da_cons (d_str ev_c) da_nil))) ⟨T, a, rfl, hz, rfl⟩)) ?_
  generalize hend : run isGreat T a = en at ho q1 q2 ⊢
  refine r_set (v_slice (T := T) (a := a) (b := en) (ev_var rfl) (eo_some (ev_var rfl)) (eo_some (ev_var rfl)) (by omega)) ?_
  generalize hw : slice T a en = wd at ho q1 q2 ⊢
  have hwl : wd.length ≤ T.length := by rw [← hw]; exact slice_len _ _ _
  have v0 : Ev (tVar 0) [some (.str (tx T)), some (.int (a : Int)), some (.int (o : Int)), some (.int (en : Int)), some (.str (tx wd))] H (.str (tx T)) := ev_var rfl
  have v3 : Ev (tVar 3) [some (.str (tx T)), some (.int (a : Int)), some (.int (o : Int)), some (.int (en : Int)), some (.str (tx wd))] H (.int (en : Int)) := ev_var rfl
  have v4 : Ev (tVar 4) [some (.str (tx T)), some (.int (a : Int)), some (.int (o : Int)), some (.int (en : Int)), some (.str (tx wd))] H (.str (tx wd)) := ev_var rfl
  have t1 := t_eqS (v_slice v0 (eo_some v3) (eo_some (v_add v3 (ev_c (v := .int 1)))) (by omega) (b := en + 1)) (v_str_c (s := "(") (l := [40]))
  rw [tx_eq, slice1] at t1
  refine r_if t1 (fun hb => ?_) (fun hb => ?_)
  · rw [if_pos (of_decide_eq_true hb)] at ho q1 q2
    exact x_ret (PX := pCa n) (da_cons (d_str v0) (da_cons (d_str v4) (da_cons (d_int (v_add v3 ev_c)) (da_cons (d_int (ev_var rfl)) da_nil)))) ⟨T, wd, en + 1, o, rfl, hz, hwl, ho, rfl⟩ (fun d hd => q1 d hd) q2
  · rw [if_neg (of_decide_eq_false hb)] at ho q1 q2
    have tT := t_eqS v4 (v_str_c (s := "TRUE") (l := TRUE))
    have tF := t_eqS v4 (v_str_c (s := "FALSE") (l := FALSE))
    have bT := b_eqS v4 (v_str_c (s := "TRUE") (l := TRUE))
    rw [tx_eq] at tT tF bT
    refine r_if (et_or tT fun _ => tF) (fun hb2 => ?_) (fun hb2 => ?_)
    · refine r_ret (d_tup (da_cons (d_tup (da_cons (d_str ev_c) (da_cons (d_tup (da_cons (d_str ev_c) (da_cons (d_bl bT) da_nil))) da_nil))) (da_cons (d_int v3) da_nil))) (q1 _ ?_)
      by_cases hT : wd = TRUE
      · rw [if_pos hT, decide_eq_true hT]
        simp only [rD, toD]
      · have hF : wd = FALSE := by simpa [hT] using hb2
        rw [if_neg hT, if_pos hF, decide_eq_false hT]
        simp only [rD, toD]
    · have hT : ¬ wd = TRUE := fun e => by rw [decide_eq_true e] at hb2; simp at hb2
      have hF : ¬ wd = FALSE := fun e => by rw [decide_eq_true e] at hb2; simp at hb2
      rw [if_neg hT, if_neg hF] at ho q1 q2
      exact x_ret (PX := pCells) (da_cons (d_str v0) (da_cons (d_int (ev_var rfl)) da_nil)) ⟨T, a, rfl, hz, rfl⟩ (fun d hd => q1 d hd) q2
theorem ok_atom_at {n : Nat} (M : Md K w mg aS aL cBF cBN cSE es nn) (D : Df K mg "atom_at" s_atom_at ["text", "at", "open_ones"] f fd) (c_number_at : Cl P w K mg base (L2.CX P w) 2 "number_at" (spX K cBF pNum)) (c_text_at : Cl P w K mg base (L2.CX P w) 1 "text_at" (spX K cBF pTextAt))
    (c_run : Cl P w K mg base CX0 1 "run" (spF K (pRun "abcdefghijklmnopqrstuvwxyz" isSmall))) (c_great_at : Cl P w K mg base (L2.CX P w) (n + 11) "great_at" (spX K cBF (pGr n))) (c_level_at : Cl P w K mg base (L2.CX P w) (n + 11) "level_at" (spX K cBF (pLv n))) : FnOk P w K mg base (L2.CX P w) (n + 11 + 1) f fd ["text", "at", "open_ones"] (spX K cBF (pAt (n + 1))) := by
  refine D.fn.okX sc_atom_at (fun vs H Q E h => ?_) (fun cdv A outer s H vs Q E hr h => ?_)
  · obtain ⟨ds, d, hd, ⟨T, a, o, rfl, _⟩, _⟩ := h
    exact hd.len
  obtain ⟨ds, d, hd, ⟨T, a, o, rfl, hz, ho, rfl⟩, q1, q2⟩ := h
  obtain ⟨x, y, z, rfl, h1, h2, h3⟩ := hd.three_eq
  obtain rfl := h1.str_eq
  obtain rfl := h2.int_eq
  obtain rfl := h3.int_eq
  refine ⟨_, (pss_cons (ps_set (i := 3) sc_atom_at.nd rfl (Or.inl rfl) (pe_slice sl_str (pv 0) (po_some (pv 1)) (po_some (pe_op op_add (pv 1) pe_int))))
    (pss_cons (ps_if (pt_cmpR op_eq (pv 3) pe_str (nomark _)) (pss_one (ps_raise rfl (takes_of rfl rfl rfl rfl) (pmk_own PySem.F.excBase_ValueError M.xBF M.gBF M.kBF (raises_own M.bBF M.tBF) rfl))) pss_nil)
    (pss_cons (ps_if (pt_cmpR op_in_sign (pv 3) (pe_gs M.c_FIGURES) rfl) (pss_one (ps_ret (pe_cl c_number_at hr (by omega) (passes_call (takes_of rfl rfl rfl rfl) (fun _ _ _ _ h => h)) (pa_cons (pv 0) (pa_cons (pv 1) pa_nil))))) pss_nil)
    (pss_cons (ps_if (pt_cmpR op_eq (pv 3) pe_str (nomark _)) (pss_one (ps_ret (pe_cl c_text_at hr (by omega) (passes_call (takes_of rfl rfl rfl rfl) (fun _ _ _ _ h => h)) (pa_cons (pv 0) (pa_cons (pv 1) pa_nil))))) pss_nil)
    (pss_cons (ps_if (pt_cmpR op_in_sign (pv 3) (pe_gs M.c_SMALL) rfl) (pss_cons (ps_set (i := 4) sc_atom_at.nd rfl (Or.inl rfl) (pe_cl c_run hr (by omega) pass0 (pa_cons (pv 0) (pa_cons (pv 1) (pa_cons (pe_gs M.c_SMALL) pa_nil)))))
    (pss_one (ps_ret (pe_tup (pa_cons (pe_tup (pa_cons pe_str (pa_cons (pe_slice sl_str (pv 0) (po_some (pv 1)) (po_some (pv 4))) pa_nil))) (pa_cons (pv 4) pa_nil)))))) pss_nil)
    (pss_cons (ps_if (pt_cmpR op_in_sign (pv 3) (pe_gs M.c_GREAT_formulas) rfl) (pss_one (ps_ret (pe_cl c_great_at hr (by omega) (passes_call (takes_of rfl rfl rfl rfl) (fun _ _ _ _ h => h)) (pa_cons (pv 0) (pa_cons (pv 1) (pa_cons (pv 2) pa_nil)))))) pss_nil)
    (pss_cons (ps_if (pt_cmpR op_eq (pe_slice sl_str (pv 0) (po_some (pv 1)) (po_some (pe_op op_add (pv 1) pe_int))) pe_str (nomark _)) (pss_one (ps_ret (pe_tup (pa_cons (pe_tup (pa_cons pe_str pa_nil)) (pa_cons (pe_op op_add (pv 1) pe_int) pa_nil))))) pss_nil)
    (pss_cons (ps_if (pt_cmpR op_ne (pv 3) pe_str (nomark _)) (pss_one (ps_raise rfl (takes_of rfl rfl rfl rfl) (pmk_own PySem.F.excBase_ValueError M.xBF M.gBF M.kBF (raises_own M.bBF M.tBF) rfl))) pss_nil)
    (pss_cons (ps_asg (pe_cl c_level_at hr (by omega) (passes_call (takes_of rfl rfl rfl rfl) (fun _ _ _ _ h => h)) (pa_cons (pv 0) (pa_cons (pe_op op_add (pv 1) pe_int) (pa_cons pe_int (pa_cons (pe_op op_add (pv 2) pe_int) pa_nil))))) (pg_tup (by rfl) (pgs_cons (pg_name (i := 5) sc_atom_at.nd rfl (Or.inl rfl)) (pgs_cons (pg_name (i := 4) sc_atom_at.nd rfl (Or.inl rfl)) pgs_nil))))
    (pss_cons (ps_if (pt_cmpR op_ne (pe_slice sl_str (pv 0) (po_some (pv 4)) (po_some (pe_op op_add (pv 4) pe_int))) pe_str (nomark _)) (pss_one (ps_raise rfl (takes_of rfl rfl rfl rfl) (pmk_own PySem.F.excBase_ValueError M.xBF M.gBF M.kBF (raises_own M.bBF M.tBF) rfl))) pss_nil)
    (pss_one (ps_ret (pe_tup (pa_cons (pv 5) (pa_cons (pe_op op_add (pv 4) pe_int) pa_nil))))))))))))))), ?_⟩
  refine Run.go ?_
  unfold parse at ho q1 q2
  have u0 : Ev (tVar 0) (start ["text", "at", "open_ones", "sign", "end", "formula"] [.str (tx T), .int (a : Int), .int (o : Int)]) H (.str (tx T)) := ev_var rfl
  have u1 : Ev (tVar 1) (start ["text", "at", "open_ones", "sign", "end", "formula"] [.str (tx T), .int (a : Int), .int (o : Int)]) H (.int (a : Int)) := ev_var rfl
  have usl := v_slice u0 (eo_some u1) (eo_some (v_add u1 (ev_c (v := .int 1)))) (by omega) (b := a + 1)
  rw [slice1] at usl
  refine r_set usl ?_
  rcases drop_cases T a with ⟨hl, hd0⟩ | ⟨c, r, hd0, hl, hc, hr1⟩
  · rw [hd0] at ho q1 q2 ⊢
    exact r_yes (et_is (t_eqS (ev_var rfl) (v_str_c (s := "") (l := []))) (by decide)) fun H1 e1 => q2 rfl H1 e1
  · rw [hd0] at ho q1 q2 ⊢
    simp only at ho q1 q2
    have v0 : Ev (tVar 0) [some (.str (tx T)), some (.int (a : Int)), some (.int (o : Int)), some (.str (tx [c])), none, none] H (.str (tx T)) := ev_var rfl
    have v1 : Ev (tVar 1) [some (.str (tx T)), some (.int (a : Int)), some (.int (o : Int)), some (.str (tx [c])), none, none] H (.int (a : Int)) := ev_var rfl
    have v2 : Ev (tVar 2) [some (.str (tx T)), some (.int (a : Int)), some (.int (o : Int)), some (.str (tx [c])), none, none] H (.int (o : Int)) := ev_var rfl
    have v3 : Ev (tVar 3) [some (.str (tx T)), some (.int (a : Int)), some (.int (o : Int)), some (.str (tx [c])), none, none] H (.str (tx [c])) := ev_var rfl
    have tE := t_eqS v3 (v_str_c (s := "") (l := []))
    have tQ := t_eqS v3 (v_str_c (s := "\"") (l := [34]))
    have tB := t_neS v3 (v_str_c (s := "(") (l := [40]))
    rw [tx_eq] at tE tQ tB
    have iF := et_test (v_in (c := c) v3 (ev_c (v := .str "0123456789")))
    have iS := et_test (v_in (c := c) v3 (ev_c (v := .str "abcdefghijklmnopqrstuvwxyz")))
    have iG := et_test (v_in (c := c) v3 (ev_c (v := .str "ABCDEFGHIJKLMNOPQRSTUVWXYZ")))
    rw [inFig] at iF
    rw [inSmall] at iS
    rw [inGreat] at iG
    have tR := t_eqS (v_slice v0 (eo_some v1) (eo_some (v_add v1 (ev_c (v := .int 4)))) (by omega) (b := a + 4)) (v_str_c (s := "#REF") (l := [35, 82, 69, 70]))
    have es4 : slice T a (a + 4) = (c :: r).take 4 := by unfold slice; rw [show a + 4 - a = 4 by omega, hd0]
    rw [tx_eq, es4] at tR
    refine r_no (et_is tE (by simp)) (r_if iF (fun hb => ?_) (fun hb => ?_))
    · rw [if_pos hb] at ho q1 q2
      exact x_ret (PX := pNum) (da_cons (d_str v0) (da_cons (d_int v1) da_nil)) ⟨T, a, c, r, rfl, hz, hd0, hb, rfl⟩ (fun d hd => q1 d hd) q2
    rw [if_neg (by rw [hb]; decide)] at ho q1 q2
    refine r_if tQ (fun hb2 => ?_) (fun hb2 => ?_)
    · have hb2' : c = 34 := by simpa using hb2
      rw [if_pos hb2'] at ho q1 q2
      exact x_ret (PX := pTextAt) (da_cons (d_str v0) (da_cons (d_int v1) da_nil)) ⟨T, a, rfl, hz, rfl⟩ (fun d hd => q1 d hd) q2
    have hb2' : ¬ c = 34 := by simpa using hb2
    rw [if_neg hb2'] at ho q1 q2
    refine r_if iS (fun hb3 => ?_) (fun hb3 => ?_)
    · rw [if_pos hb3] at ho q1 q2
      refine r_set (v_int (d_call (P := pRun "abcdefghijklmnopqrstuvwxyz" isSmall) (da_cons (d_str v0) (da_cons (d_int v1) (da_cons (d_str ev_c) da_nil))) ⟨T, a, rfl, hz, rfl⟩)) ?_
      exact r_ret (d_tup (da_cons (d_tup (da_cons (d_str ev_c) (da_cons (d_str (v_slice (T := T) (a := a) (b := run isSmall T a) (ev_var rfl) (eo_some (ev_var rfl)) (eo_some (ev_var rfl)) (by omega))) da_nil))) (da_cons (d_int (ev_var rfl)) da_nil))) (q1 _ (by simp only [rD, toD]))
    rw [if_neg (by rw [hb3]; decide)] at ho q1 q2
    refine r_if iG (fun hb4 => ?_) (fun hb4 => ?_)
    · rw [if_pos hb4] at ho q1 q2
      exact x_ret (PX := pGr n) (da_cons (d_str v0) (da_cons (d_int v1) (da_cons (d_int v2) da_nil))) ⟨T, a, o, rfl, hz, ho, rfl⟩ (fun d hd => q1 d hd) q2
    rw [if_neg (by rw [hb4]; decide)] at ho q1 q2
    refine r_if tR (fun hb5 => ?_) (fun hb5 => ?_)
    · rw [if_pos (of_decide_eq_true hb5)] at ho q1 q2
      exact r_ret (d_tup (da_cons (d_tup (da_cons (d_str ev_c) da_nil)) (da_cons (d_int (v_add v1 ev_c)) da_nil))) (q1 _ (by simp only [rD, toD]; rfl))
    rw [if_neg (of_decide_eq_false hb5)] at ho q1 q2
    refine r_if tB (fun hb6 => ?_) (fun hb6 => ?_)
    · have hb6' : ¬ c = 40 := by simpa using hb6
      rw [if_neg hb6'] at ho q1 q2
      exact fun H1 e1 => q2 rfl H1 e1
    have hb6' : c = 40 := by simpa using hb6
    rw [if_pos hb6'] at ho q1 q2
    refine x_two (PX := pLv n) (da_cons (d_str v0) (da_cons (d_int (v_add v1 ev_c)) (da_cons (d_int ev_c) (da_cons (d_int (v_add v2 ev_c)) da_nil)))) ⟨T, a + 1, 1, o + 1, rfl, hz, by omega, by omega, bind_out_of ho, rfl⟩ (fun d hd => ?_) (fun hr H1 e1 => ?_)
    · obtain ⟨g, e, hg, rfl⟩ := rD_some hd
      rw [hg, R.bind_ok] at q1 q2
      simp only at q1 q2
      refine ⟨_, _, rfl, fun x y H1 ex hx hy => ?_⟩
      obtain rfl := hy.int_eq
      have w0 : Ev (tVar 0) [some (.str (tx T)), some (.int (a : Int)), some (.int (o : Int)), some (.str (tx [c])), some (.int (e : Int)), some x] H1 (.str (tx T)) := ev_var rfl
      have w4 : Ev (tVar 4) [some (.str (tx T)), some (.int (a : Int)), some (.int (o : Int)), some (.str (tx [c])), some (.int (e : Int)), some x] H1 (.int (e : Int)) := ev_var rfl
      have tP := t_neS (v_slice w0 (eo_some w4) (eo_some (v_add w4 (ev_c (v := .int 1)))) (by omega) (b := e + 1)) (v_str_c (s := ")") (l := [41]))
      rw [tx_eq, slice1] at tP
      refine r_if tP (fun hb7 => ?_) (fun hb7 => ?_)
      · have hb7' : ¬ (T.drop e).take 1 = [41] := by simpa using hb7
        rw [if_neg hb7'] at q1 q2
        exact fun H2 e2 => q2 rfl H2 (ex.trans e2)
      · have hb7' : (T.drop e).take 1 = [41] := by simpa using hb7
        rw [if_pos hb7'] at q1 q2
        exact r_ret (d_tup (da_cons (d_var rfl hx) (da_cons (d_int (v_add w4 ev_c)) da_nil))) fun v H2 e2 t => q1 _ rfl v H2 (ex.trans e2) t
    · have hbad := rD_none hr (bind_out_of ho)
      exact q2 (by rw [hbad]; rfl) H1 e1
theorem ok_call_at {n : Nat} (M : Md K w mg aS aL cBF cBN cSE es nn) (D : Df K mg "call_at" s_call_at ["text", "word", "at", "open_ones"] f fd) (c_let_in : Cl P w K mg base (L2.CX P w) 11 "let_in" (spX K cBF pLet)) (c_level_at : Cl P w K mg base (L2.CX P w) (n + 11) "level_at" (spX K cBF (pLv n))) :
    FnOk P w K mg base (L2.CX P w) (n + 11 + 1) f fd ["text", "word", "at", "open_ones"] (spX K cBF (pCa (n + 1))) := by
  refine D.fn.okX sc_call_at (fun vs H Q E h => ?_) (fun cdv A outer s H vs Q E hr h => ?_)
  · obtain ⟨ds, d, hd, ⟨T, wd, a, o, rfl, _⟩, _⟩ := h
    exact hd.len
  obtain ⟨ds, d, hd, ⟨T, wd, a, o, rfl, hz, hwl, ho, rfl⟩, q1, q2⟩ := h
  obtain ⟨x, y, z, u, rfl, h1, h2, h3, h4⟩ := hd.four_eq
  obtain rfl := h1.str_eq
  obtain rfl := h2.str_eq
  obtain rfl := h3.int_eq
  obtain rfl := h4.int_eq
  refine ⟨_, (pss_cons (ps_set (i := 4) sc_call_at.nd rfl (Or.inl rfl) (pe_lst pa_nil))
    (pss_cons (ps_if (pt_cmpR op_eq (pe_slice sl_str (pv 0) (po_some (pv 2)) (po_some (pe_op op_add (pv 2) pe_int))) pe_str (nomark _)) (pss_one (ps_ret (pe_tup (pa_cons (pe_tup (pa_cons pe_str (pa_cons (pv 1) (pa_cons (pe_tup pa_nil) pa_nil)))) (pa_cons (pe_op op_add (pv 2) pe_int) pa_nil))))) pss_nil)
    (pss_one (ps_while (passes_of rfl) (pt_val pe_bl) (pss_cons (ps_asg (pe_cl c_level_at hr (by omega) (passes_call (takes_of rfl rfl rfl rfl) (fun _ _ _ _ h => h)) (pa_cons (pv 0) (pa_cons (pv 2) (pa_cons pe_int (pa_cons (pe_op op_add (pv 3) pe_int) pa_nil))))) (pg_tup (by rfl) (pgs_cons (pg_name (i := 5) sc_call_at.nd rfl (Or.inl rfl)) (pgs_cons (pg_name (i := 2) sc_call_at.nd rfl (Or.inl rfl)) pgs_nil))))
    (pss_cons (ps_expr (pe_bm PySem.F.plainAttrs_list PySem.F.slot_list_append PySem.F.type_list_append mt_append (pv 4) (pa_cons (pv 5) pa_nil)))
    (pss_cons (ps_if (pt_cmpR op_eq (pe_slice sl_str (pv 0) (po_some (pv 2)) (po_some (pe_op op_add (pv 2) pe_int))) pe_str (nomark _)) (pss_one (ps_ret (pe_tup (pa_cons (pe_cl c_let_in hr (by omega) (passes_call (takes_of rfl rfl rfl rfl) (fun _ _ _ _ h => h)) (pa_cons (pe_tup (pa_cons pe_str (pa_cons (pv 1) (pa_cons (pe_callTy call_tuple_of (by rfl) M.b_tuple (by decide +kernel) (pa_cons (pv 4) pa_nil)) pa_nil)))) pa_nil)) (pa_cons (pe_op op_add (pv 2) pe_int) pa_nil))))) pss_nil)
    (pss_cons (ps_if (pt_cmpR op_ne (pe_slice sl_str (pv 0) (po_some (pv 2)) (po_some (pe_op op_add (pv 2) pe_int))) pe_str (nomark _)) (pss_one (ps_raise rfl (takes_of rfl rfl rfl rfl) (pmk_own PySem.F.excBase_ValueError M.xBF M.gBF M.kBF (raises_own M.bBF M.tBF) rfl))) pss_nil)
    (pss_one (ps_set (i := 2) sc_call_at.nd rfl (Or.inl rfl) (pe_op op_add (pv 2) pe_int))))))))))), ?_⟩
  refine Run.go ?_
  unfold parse at ho q1 q2
  refine r_setL (K := K) (dl_lst da_nil) fun pl xs H1 hpl e1 hxs ts => ?_
  cases ts
  have tP : EvT _ _ _ _ := t_eqS (σ := [some (.str (tx T)), some (.str (tx wd)), some (.int (a : Int)), some (.int (o : Int)), some (.ref pl), none]) (H := H1) (v_slice (T := T) (a := a) (b := a + 1) (te := tVar 0) (ev_var rfl) (eo_some (ev_var (i := 2) rfl)) (eo_some (v_add (i := (a : Int)) (ev_var (i := 2) rfl) (ev_c (v := .int 1)))) (by omega)) (v_str_c (s := ")") (l := [41]))
  rw [tx_eq, slice1] at tP
  refine r_if tP (fun hb => ?_) (fun hb => ?_)
  · rw [if_pos (of_decide_eq_true hb)] at q1
    exact r_ret (d_tup (da_cons (d_tup (da_cons (d_str ev_c) (da_cons (d_str (ev_var rfl)) (da_cons (d_tup da_nil) da_nil)))) (da_cons (d_int (v_add (ev_var rfl) ev_c)) da_nil))) fun v H2 e2 t => q1 _ (by simp only [rD, toD, toDs]; rfl) v H2 (e1.trans e2) t
  rw [if_neg (of_decide_eq_false hb)] at ho q1 q2
  generalize hsub : (fun b => parse T n (.level 1) b (o + 1)) = sub at ho q1 q2
  have fsub : ∀ b, Fine T b (sub b) := fun b => by rw [← hsub]; exact fine_parse T n (.level 1) b (o + 1) trivial
  have esub : ∀ b, sub b = parse T n (.level 1) b (o + 1) := fun b => by rw [← hsub]
  generalize hr0 : callM T sub wd (T.length + 2) [] a = r0 at ho q1 q2
  refine e_while (fun m σ' H' => Ex H H' ∧ ∃ (ps : List F) (b : Nat) (xs : List V) (s5 : Option V), σ' = [some (.str (tx T)), some (.str (tx wd)), some (.int (b : Int)), some (.int (o : Int)), some (.ref pl), s5] ∧ H' pl = some (.lst xs) ∧ TpAll K H' xs (ps.map toD) ∧
    callM T sub wd m ps b = r0 ∧ depths ps ≤ 8 ∧ sizes ps + a ≤ b ∧ ps.length ≤ T.length) (T.length + 2) (fun H2 e2 => ⟨e1.trans e2, [], a, [], _, rfl, e2 _ _ hxs, .nil, hr0, by simp [depths], by simp [sizes], by simp⟩) ?_
  rintro m σ' H' ⟨e, ps, b, xs, s5, rfl, hl, hts, hm, hdp, hsz, hln⟩
  cases m with
  | zero => exact absurd (by rw [← hm]; rfl) ho
  | succ m =>
  unfold callM at hm
  refine .inl ⟨et_B ev_c, ?_⟩
  have hbo : sub b ≠ .out := fun h => by rw [h] at hm; exact ho (by rw [← hm]; rfl)
  refine x_two (PX := pLv n) (da_cons (d_str (ev_var rfl)) (da_cons (d_int (ev_var rfl)) (da_cons (d_int ev_c) (da_cons (d_int (v_add (ev_var rfl) ev_c)) da_nil)))) ⟨T, b, 1, o + 1, rfl, hz, by omega, by omega, by rw [← esub]; exact hbo, rfl⟩ (fun d hd => ?_) (fun hr H2 e2 => ?_)
  · obtain ⟨g, en, hg, rfl⟩ := rD_some hd
    rw [← esub] at hg
    have ft := fsub b g en hg
    have f1 := ft.dp
    have f2 := ft.sz
    have f3 := ft.el
    have f4 := size_pos g
    rw [hg, R.bind_ok] at hm
    simp only at hm
    refine ⟨_, _, rfl, fun x y H2 ex hx hy => ?_⟩
    obtain rfl := hy.int_eq
    have hl2 := ex _ _ hl
    have hlen : xs.length = ps.length := by have := hts.len; simpa using this
    refine r_app (l := pl) (xs := xs) (v := x) hl2 (ev_var rfl) (ev_var rfl) (by omega) ?_
    have k3 : Kp H2 (upd H2 pl (.lst (xs ++ [x]))) := Kp.lst hl2
    have e3 : Ex H (upd H2 pl (.lst (xs ++ [x]))) := Evl.Ex.mut (e.trans ex) hpl
    have hl3 : (upd H2 pl (.lst (xs ++ [x]))) pl = some (.lst (xs ++ [x])) := upd_same
    have ts3 : TpAll K (upd H2 pl (.lst (xs ++ [x]))) (xs ++ [x]) ((ps ++ [g]).map toD) := by
      rw [List.map_append]
      exact ((hts.ex ex).app (.one hx)).kp k3
    generalize (upd H2 pl (.lst (xs ++ [x]))) = H3 at e3 hl3 ts3 ⊢
    have v0 : Ev (tVar 0) [some (.str (tx T)), some (.str (tx wd)), some (.int (en : Int)), some (.int (o : Int)), some (.ref pl), some x] H3 (.str (tx T)) := ev_var rfl
    have v2 : Ev (tVar 2) [some (.str (tx T)), some (.str (tx wd)), some (.int (en : Int)), some (.int (o : Int)), some (.ref pl), some x] H3 (.int (en : Int)) := ev_var rfl
    have tP := t_eqS (v_slice v0 (eo_some v2) (eo_some (v_add v2 (ev_c (v := .int 1)))) (by omega) (b := en + 1)) (v_str_c (s := ")") (l := [41]))
    rw [tx_eq, slice1] at tP
    have hdp2 : depths (ps ++ [g]) ≤ 8 := by rw [depths_app]; simp only [depths]; omega
    have hsz2 : sizes (ps ++ [g]) = sizes ps + size g := by rw [sizes_app]; simp [sizes]
    refine r_if tP (fun hb2 => ?_) (fun hb2 => ?_)
    · rw [if_pos (of_decide_eq_true hb2)] at hm
      have dcall : depth (.call wd (ps ++ [g])) = 1 + depths (ps ++ [g]) := by simp only [depth]
      have scall : size (.call wd (ps ++ [g])) = 1 + sizes (ps ++ [g]) := by simp only [size]
      refine x_retT (PX := pLet) (da_cons (d_is (d_tup (da_cons (d_str ev_c) (da_cons (d_str (ev_var rfl)) (da_cons (d_tupleL (ev_var rfl) hl3 ts3) da_nil)))) (show PyData.tuple [.str "call", .str (tx wd), .tuple ((ps ++ [g]).map toD)] = toD (.call wd (ps ++ [g])) by simp only [toD, toDs_map])) da_nil) ⟨.call wd (ps ++ [g]), rfl, by omega, by omega, rfl⟩ (j := ((en + 1 : Nat) : Int)) (v_add v2 ev_c) (fun d hd v H4 e4 t => ?_) (fun hr H4 e4 => ?_)
      · obtain ⟨rfl, hl⟩ := let_eq (e := en + 1) hd
        exact q1 _ (by rw [← hm, hl]; rfl) v H4 (e3.trans e4) t
      · exact q2 (by rw [← hm, let_none (e := en + 1) hr]; rfl) H4 (e3.trans e4)
    · rw [if_neg (of_decide_eq_false hb2)] at hm
      have tC := t_neS (v_slice v0 (eo_some v2) (eo_some (v_add v2 (ev_c (v := .int 2)))) (by omega) (b := en + 2)) (v_str_c (s := ", ") (l := [44, 32]))
      have es2 : slice T en (en + 2) = (T.drop en).take 2 := by unfold slice; rw [show en + 2 - en = 2 by omega]
      rw [tx_eq, es2] at tC
      refine r_if tC (fun hb3 => ?_) (fun hb3 => ?_)
      · have hb3' : ¬ (T.drop en).take 2 = [44, 32] := by simpa using hb3
        rw [if_neg hb3'] at hm
        exact fun H4 e4 => q2 (by rw [← hm]; rfl) H4 (e3.trans e4)
      · have hb3' : (T.drop en).take 2 = [44, 32] := by simpa using hb3
        rw [if_pos hb3'] at hm
        have hsl := sizes_len (ps ++ [g])
        refine e_set (v_add v2 ev_c) fun H4 e4 => ⟨m, by omega, e3.trans e4, ps ++ [g], en + 2, xs ++ [x], _, rfl, e4 _ _ hl3, ts3.ex e4, hm, hdp2, by omega, by omega⟩
  · have hbad : sub b = .bad := by rw [← esub] at hr; exact rD_none hr hbo
    rw [hbad] at hm
    exact q2 (by rw [← hm]; rfl) H2 (e.trans e2)
theorem ok_level_at {n : Nat} (M : Md K w mg aS aL cBF cBN cSE es nn) (D : Df K mg "level_at" s_level_at ["text", "at", "level", "open_ones"] f fd) (c_let_in : Cl P w K mg base (L2.CX P w) 11 "let_in" (spX K cBF pLet)) (c_sign_at : Cl P w K mg base CX0 1 "sign_at" (spF K pSign))
    (c_less_at : Cl P w K mg base (L2.CX P w) (n + 11) "less_at" (spX K cBF (pLs n))) (c_level_at : Cl P w K mg base (L2.CX P w) (n + 11) "level_at" (spX K cBF (pLv n))) :
    FnOk P w K mg base (L2.CX P w) (n + 11 + 1) f fd ["text", "at", "level", "open_ones"] (spX K cBF (pLv (n + 1))) := by
  refine D.fn.okX sc_level_at (fun vs H Q E h => ?_) (fun cdv A outer s H vs Q E hr h => ?_)
  · obtain ⟨ds, d, hd, ⟨T, a, lv, o, rfl, _⟩, _⟩ := h
    exact hd.len
  obtain ⟨ds, d, hd, ⟨T, a, lv, o, rfl, hz, hlv1, hlv5, ho, rfl⟩, q1, q2⟩ := h
  obtain ⟨x, y, z, u, rfl, h1, h2, h3, h4⟩ := hd.four_eq
  obtain rfl := h1.str_eq
  obtain rfl := h2.int_eq
  obtain rfl := h3.int_eq
  obtain rfl := h4.int_eq
  refine ⟨_, (pss_cons (ps_if (pt_cmpR op_gt (pv 3) (pe_gi M.c_MOST_OPEN) (nomark _)) (pss_one (ps_raise rfl (takes_of rfl rfl rfl rfl) (pmk_own PySem.F.excBase_ValueError M.xBF M.gBF M.kBF (raises_own M.bBF M.tBF) rfl))) pss_nil)
    (pss_cons (ps_if (pt_cmpR op_eq (pv 2) (pe_gi M.c_LESS) (nomark _)) (pss_one (ps_ret (pe_cl c_less_at hr (by omega) (passes_call (takes_of rfl rfl rfl rfl) (fun _ _ _ _ h => h)) (pa_cons (pv 0) (pa_cons (pv 1) (pa_cons (pv 3) pa_nil)))))) pss_nil)
    (pss_cons (ps_asg (pe_cl c_level_at hr (by omega) (passes_call (takes_of rfl rfl rfl rfl) (fun _ _ _ _ h => h)) (pa_cons (pv 0) (pa_cons (pv 1) (pa_cons (pe_op op_add (pv 2) pe_int) (pa_cons (pv 3) pa_nil))))) (pg_tup (by rfl) (pgs_cons (pg_name (i := 4) sc_level_at.nd rfl (Or.inl rfl)) (pgs_cons (pg_name (i := 1) sc_level_at.nd rfl (Or.inl rfl)) pgs_nil))))
    (pss_cons (ps_set (i := 5) sc_level_at.nd rfl (Or.inl rfl) (pe_cl c_sign_at hr (by omega) pass0 (pa_cons (pv 0) (pa_cons (pv 1) pa_nil))))
    (pss_cons (ps_while (passes_of rfl) (PW.pt (pw_and (pt_cmpR op_notN (pv 5) pe_non (nomark _)) (pw_and1 (pt_cmpR op_eq (pe_ix ix_kdict (pe_glob (v := .ref aL) rfl M.c_LEVELS rfl) (pv 5) (fun _ _ => rfl)) (pv 2) (nomark _))))) (pss_cons (ps_asg (pe_cl c_level_at hr (by omega) (passes_call (takes_of rfl rfl rfl rfl) (fun _ _ _ _ h => h)) (pa_cons (pv 0) (pa_cons (pe_op op_add (pe_op op_add (pv 1) (pe_callB call_len_str (by rfl) M.b_len PySem.boot_len (pa_cons (pv 5) pa_nil))) pe_int) (pa_cons (pe_op op_add (pv 2) pe_int) (pa_cons (pv 3) pa_nil))))) (pg_tup (by rfl) (pgs_cons (pg_name (i := 6) sc_level_at.nd rfl (Or.inl rfl)) (pgs_cons (pg_name (i := 1) sc_level_at.nd rfl (Or.inl rfl)) pgs_nil))))
    (pss_cons (ps_set (i := 4) sc_level_at.nd rfl (Or.inl rfl) (pe_cl c_let_in hr (by omega) (passes_call (takes_of rfl rfl rfl rfl) (fun _ _ _ _ h => h)) (pa_cons (pe_tup (pa_cons pe_str (pa_cons (pv 5) (pa_cons (pv 4) (pa_cons (pv 6) pa_nil))))) pa_nil)))
    (pss_cons (ps_set (i := 5) sc_level_at.nd rfl (Or.inl rfl) (pe_cl c_sign_at hr (by omega) pass0 (pa_cons (pv 0) (pa_cons (pv 1) pa_nil))))
    (pss_one (ps_if (pt_cmpR op_eq (pv 2) pe_int (nomark _)) (pss_one (ps_set (i := 5) sc_level_at.nd rfl (Or.inl rfl) pe_non)) pss_nil))))))
    (pss_one (ps_ret (pe_tup (pa_cons (pv 4) (pa_cons (pv 1) pa_nil)))))))))), ?_⟩
  refine Run.go ?_
  unfold parse at ho q1 q2
  have v0 : Ev (tVar 0) (start ["text", "at", "level", "open_ones", "one", "sign", "other"] [.str (tx T), .int (a : Int), .int (lv : Int), .int (o : Int)]) H (.str (tx T)) := ev_var rfl
  have v1 : Ev (tVar 1) (start ["text", "at", "level", "open_ones", "one", "sign", "other"] [.str (tx T), .int (a : Int), .int (lv : Int), .int (o : Int)]) H (.int (a : Int)) := ev_var rfl
  have v2 : Ev (tVar 2) (start ["text", "at", "level", "open_ones", "one", "sign", "other"] [.str (tx T), .int (a : Int), .int (lv : Int), .int (o : Int)]) H (.int (lv : Int)) := ev_var rfl
  have v3 : Ev (tVar 3) (start ["text", "at", "level", "open_ones", "one", "sign", "other"] [.str (tx T), .int (a : Int), .int (lv : Int), .int (o : Int)]) H (.int (o : Int)) := ev_var rfl
  refine r_if (b := decide (o > 20)) (et_is (et_test (v_gt v3 ev_c)) (decide_eq_decide.mpr (by omega))) (fun hb => ?_) (fun hb => ?_)
  · rw [if_pos (of_decide_eq_true hb)] at q2
    exact fun H1 e1 => q2 rfl H1 e1
  rw [if_neg (of_decide_eq_false hb)] at ho q1 q2
  refine r_if (b := decide (lv = 5)) (et_is (t_eqI v2 ev_c) (decide_eq_decide.mpr (by omega))) (fun hb2 => ?_) (fun hb2 => ?_)
  · rw [if_pos (of_decide_eq_true hb2)] at ho q1 q2
    exact x_ret (PX := pLs n) (da_cons (d_str v0) (da_cons (d_int v1) (da_cons (d_int v3) da_nil))) ⟨T, a, o, rfl, hz, ho, rfl⟩ (fun d hd => q1 d hd) q2
  have hlv : ¬ lv = 5 := of_decide_eq_false hb2
  rw [if_neg hlv] at ho q1 q2
  refine x_two (PX := pLv n) (da_cons (d_str v0) (da_cons (d_int v1) (da_cons (d_int (v_add v2 ev_c)) (da_cons (d_int v3) da_nil)))) ⟨T, a, lv + 1, o, rfl, hz, by omega, by omega, bind_out_of ho, rfl⟩ (fun d hd => ?_) (fun hr H1 e1 => ?_)
  rotate_left
  · have hbad := rD_none hr (bind_out_of ho)
    exact q2 (by rw [hbad]; rfl) H1 e1
  obtain ⟨g, en, hg, rfl⟩ := rD_some hd
  have ft := fine_parse T n (.level (lv + 1)) a o trivial g en hg
  rw [hg, R.bind_ok] at ho q1 q2
  simp only at ho q1 q2
  refine ⟨_, _, rfl, fun x y H1 ex hx hy => ?_⟩
  obtain rfl := hy.int_eq
  generalize hsub : (fun b => parse T n (.level (lv + 1)) b o) = sub at ho q1 q2
  have fsub : ∀ b, Fine T b (sub b) := fun b => by rw [← hsub]; exact fine_parse T n (.level (lv + 1)) b o trivial
  have esub : ∀ b, sub b = parse T n (.level (lv + 1)) b o := fun b => by rw [← hsub]
  generalize hr0 : loopM T lv sub (T.length + 2) g en = r0 at ho q1 q2
  have sg : ∀ (σ : S) (H2 : Hp) (b : Nat), σ[0]? = some (some (.str (tx T))) → σ[1]? = some (some (.int (b : Int))) → EvD K (tCall (spF K pSign) [] E0 (tCons (tVar 0) (tCons (tVar 1) tNil))) σ H2 (signD (signAt T b)) := fun σ H2 b s0 s1 =>
    d_call (P := pSign) (da_cons (d_str (ev_var s0)) (da_cons (d_int (ev_var s1)) da_nil)) ⟨T, b, rfl, hz, rfl⟩
  refine r_setD (sg _ _ en rfl rfl) fun sv H2 e2 hsv => ?_
  refine r_while (fun m σ' H' => Ex H H' ∧ ∃ (one : F) (b : Nat) (x sv : V) (s6 : Option V) (so : Option Op), σ' = [some (.str (tx T)), some (.int (b : Int)), some (.int (lv : Int)), some (.int (o : Int)), some x, some sv, s6] ∧ Tp K H' x (toD one) ∧ Tp K H' sv (signD so) ∧ Fit T a one b ∧
    (match so with | some op => signAt T b = some op ∧ loopM T lv sub m one b = r0 | none => r0 = .ok (one, b))) (T.length + 2) (fun H3 e3 => ⟨(ex.trans e2).trans e3, g, en, x, sv, _, signAt T en, rfl, (hx.ex e2).ex e3, hsv.ex e3, ft, ?_⟩) ?_
  · cases hs : signAt T en with
    | some op => exact ⟨rfl, hr0⟩
    | none =>
      rw [← hr0]
      unfold loopM
      rw [hs]
  rintro m σ' H' ⟨e, one, b, x, sv, s6, so, rfl, hx, hsv, hft, hso⟩
  have w0 : Ev (tVar 0) [some (.str (tx T)), some (.int (b : Int)), some (.int (lv : Int)), some (.int (o : Int)), some x, some sv, s6] H' (.str (tx T)) := ev_var rfl
  have w1 : Ev (tVar 1) [some (.str (tx T)), some (.int (b : Int)), some (.int (lv : Int)), some (.int (o : Int)), some x, some sv, s6] H' (.int (b : Int)) := ev_var rfl
  have w2 : Ev (tVar 2) [some (.str (tx T)), some (.int (b : Int)), some (.int (lv : Int)), some (.int (o : Int)), some x, some sv, s6] H' (.int (lv : Int)) := ev_var rfl
  have w3 : Ev (tVar 3) [some (.str (tx T)), some (.int (b : Int)), some (.int (lv : Int)), some (.int (o : Int)), some x, some sv, s6] H' (.int (o : Int)) := ev_var rfl
  have w4 : EvD K (tVar 4) [some (.str (tx T)), some (.int (b : Int)), some (.int (lv : Int)), some (.int (o : Int)), some x, some sv, s6] H' (toD one) := d_var rfl hx
  have w5 : Ev (tVar 5) [some (.str (tx T)), some (.int (b : Int)), some (.int (lv : Int)), some (.int (o : Int)), some x, some sv, s6] H' sv := ev_var rfl
  have done : r0 = .ok (one, b) → Run (tRet (tTup (tCons (tVar 4) (tCons (tVar 1) tNil)))) { nx := fun _ H' => Q .non H', rt := Q } [some (.str (tx T)), some (.int (b : Int)), some (.int (lv : Int)), some (.int (o : Int)), some x, some sv, s6] H' := fun hr =>
    r_ret (d_tup (da_cons w4 (da_cons (d_int w1) da_nil))) fun v H3 e3 t => q1 _ (by rw [hr]; rfl) v H3 (e.trans e3) t
  cases so with
  | none =>
    obtain rfl := hsv.non_eq
    refine .inr ⟨et_is (et_and (a := false) (b := false) (et_test (v_op2 (z := .bl false) w5 ev_c fun H1 Q _ q => ⟨rfl, q⟩)) fun h => nomatch h) rfl, done hso⟩
  | some op =>
    obtain rfl := hsv.str_eq
    obtain ⟨hs, hm⟩ := hso
    have tN := et_test (v_op2 (r := fun x y H Q => y = .non ∧ Q (.bl (!decide (x = .non))) H) (z := .bl true) w5 (ev_c (v := .non)) fun H1 Q _ q => ⟨rfl, q⟩)
    have tL := t_eqI (v_levels M w5) w2
    cases m with
    | zero => exact absurd (by rw [← hm]; rfl) ho
    | succ m =>
    unfold loopM at hm
    rw [hs] at hm
    simp only at hm
    by_cases hlev : op.lev = lv
    · rw [if_pos hlev] at hm
      refine .inl ⟨et_is (et_and tN fun _ => et_is tL (decide_eq_true (by omega))) rfl, ?_⟩
      have hbo : sub (b + op.txt.length + 2) ≠ .out := fun h => by rw [h] at hm; exact ho (by rw [← hm]; rfl)
      have hlo := op.txt_len
      have ln := v_len (ev_is w5 (show V.str (opS op) = V.str (tx op.txt) by rw [opS_tx])) (by rw [tx_len]; omega)
      rw [tx_len] at ln
      refine x_two (PX := pLv n) (da_cons (d_str w0) (da_cons (d_int (v_add (v_add w1 ln) (ev_c (v := .int 2)))) (da_cons (d_int (v_add w2 (ev_c (v := .int 1)))) (da_cons (d_int w3) da_nil)))) ⟨T, b + op.txt.length + 2, lv + 1, o, rfl, hz, by omega, by omega, by rw [← esub]; exact hbo, rfl⟩ (fun d hd => ?_) (fun hr H1 e1 => ?_)
      rotate_left
      · have hbad : sub (b + op.txt.length + 2) = .bad := by rw [← esub] at hr; exact rD_none hr hbo
        rw [hbad] at hm
        exact q2 (by rw [← hm]; rfl) H1 (e.trans e1)
      obtain ⟨g2, en2, hg2, rfl⟩ := rD_some hd
      rw [← esub] at hg2
      have ft2 := fsub _ g2 en2 hg2
      rw [hg2, R.bind_ok] at hm
      simp only at hm
      refine ⟨_, _, rfl, fun x2 y2 H3 ex3 hx2 hy2 => ?_⟩
      obtain rfl := hy2.int_eq
      have d1 := hft.dp
      have d2 := ft2.dp
      have z1 := hft.sz
      have z2 := ft2.sz
      have l2 := ft2.el
      have le2 := ft2.le
      have hdp : depth (.two op one g2) = 1 + max (depth one) (max (depth g2) 0) := by simp only [depth]
      have hsz : size (.two op one g2) = 1 + (size one + (size g2 + 0)) := by simp only [size]
      refine x_set (PX := pLet) (da_cons (d_is (d_tup (da_cons (d_str ev_c) (da_cons (d_str (ev_var rfl)) (da_cons (d_var rfl (hx.ex ex3)) (da_cons (d_var rfl hx2) da_nil))))) (show PyData.tuple [.str "two", .str (opS op), toD one, toD g2] = toD (.two op one g2) by simp only [toD])) da_nil) ⟨.two op one g2, rfl, by omega, by omega, rfl⟩ (fun d hd x3 H4 e4 hx3 => ?_) (fun hr H4 e4 => ?_)
      rotate_left
      · rw [let_none (e := en2) hr] at hm
        exact q2 (by rw [← hm]; rfl) H4 ((e.trans ex3).trans e4)
      obtain ⟨rfl, hle⟩ := let_eq (e := en2) hd
      rw [hle, R.bind_ok] at hm
      simp only at hm
      have fit2 : Fit T a (.two op one g2) en2 := by
        have := Fine.letIn (T := T) (a := a) (e := en2) (f := .two op one g2) (by have := hft.le; omega) (by omega) (by simp only [small, Bool.and_eq_true]; exact ⟨hft.sm, ft2.sm⟩) l2
        exact this _ _ hle
      refine r_setD (sg _ _ en2 rfl rfl) fun sv2 H5 e5 hsv2 => ?_
      refine e_if (b := decide (lv = 1)) (et_is (t_eqI (ev_var rfl) ev_c) (decide_eq_decide.mpr (by omega))) (fun hb3 => ?_) (fun hb3 => ?_)
      · rw [if_pos (of_decide_eq_true hb3)] at hm
        refine e_set (ev_c (v := .non)) fun H6 e6 => ⟨m, by omega, (((e.trans ex3).trans e4).trans e5).trans e6, .two op one g2, en2, x3, .non, _, none, rfl, (hx3.ex e5).ex e6, .non, fit2, hm.symm⟩
      · rw [if_neg (of_decide_eq_false hb3)] at hm
        refine r_next fun H6 e6 => ⟨m, by omega, (((e.trans ex3).trans e4).trans e5).trans e6, .two op one g2, en2, x3, sv2, _, signAt T en2, rfl, (hx3.ex e5).ex e6, hsv2.ex e6, fit2, ?_⟩
        cases hs2 : signAt T en2 with
        | some op2 => exact ⟨rfl, hm⟩
        | none =>
          cases m with
          | zero => exact absurd (by rw [← hm]; rfl) ho
          | succ m =>
            rw [← hm]
            unfold loopM
            rw [hs2]
    · rw [if_neg hlev] at hm
      exact .inr ⟨et_is (et_and tN fun _ => et_is tL (decide_eq_false (by omega))) rfl, done hm.symm⟩
theorem none_clX {n : Nat} {x : Str} {st : Stmt} {ps : List Str} {R : List PyData → Option PyData → Prop} (D : Df K mg x st ps f fd) (h : ∀ ds d, ¬ R ds d) : Cl P w K mg base (L2.CX P w) n x (spX K cBF R) :=
  D.cl ⟨fun vs H Q E ⟨ds, d, _, hr, _⟩ => (h ds d hr).elim, fun A outer s H args us vs Q E _ _ _ _ ⟨ds, d, _, hr, _⟩ => (h ds d hr).elim⟩
structure ClP (P : Program) (w : World) (K : PySem.W.Frag) (mg : Str → Option Value) (base : Heap) (cBF : Addr) (n : Nat) : Prop where
  lv : Cl P w K mg base (L2.CX P w) (n + 11) "level_at" (spX K cBF (pLv n))
  ls : Cl P w K mg base (L2.CX P w) (n + 11) "less_at" (spX K cBF (pLs n))
  at_ : Cl P w K mg base (L2.CX P w) (n + 11) "atom_at" (spX K cBF (pAt n))
  gr : Cl P w K mg base (L2.CX P w) (n + 11) "great_at" (spX K cBF (pGr n))
  ca : Cl P w K mg base (L2.CX P w) (n + 11) "call_at" (spX K cBF (pCa n))
theorem cl_parse {f1 f2 f3 f4 f5 : Addr} {fd1 fd2 fd3 fd4 fd5 : FuncData} (M : Md K w mg aS aL cBF cBN cSE es nn) (D1 : Df K mg "level_at" s_level_at ["text", "at", "level", "open_ones"] f1 fd1) (D2 : Df K mg "less_at" s_less_at ["text", "at", "open_ones"] f2 fd2) (D3 : Df K mg "atom_at" s_atom_at ["text", "at", "open_ones"] f3 fd3)
    (D4 : Df K mg "great_at" s_great_at ["text", "at", "open_ones"] f4 fd4) (D5 : Df K mg "call_at" s_call_at ["text", "word", "at", "open_ones"] f5 fd5) (c_let_in : Cl P w K mg base (L2.CX P w) 11 "let_in" (spX K cBF pLet)) (c_sign_at : Cl P w K mg base CX0 1 "sign_at" (spF K pSign))
    (c_number_at : Cl P w K mg base (L2.CX P w) 2 "number_at" (spX K cBF pNum)) (c_text_at : Cl P w K mg base (L2.CX P w) 1 "text_at" (spX K cBF pTextAt)) (c_cells_at : Cl P w K mg base (L2.CX P w) 3 "cells_at" (spX K cBF pCells))
    (c_runS : Cl P w K mg base CX0 1 "run" (spF K (pRun "abcdefghijklmnopqrstuvwxyz" isSmall))) (c_runG : Cl P w K mg base CX0 1 "run" (spF K (pRun "ABCDEFGHIJKLMNOPQRSTUVWXYZ" isGreat))) : ∀ n : Nat, ClP P w K mg base cBF n
  | 0 => ⟨none_clX D1 fun ds d ⟨T, a, lv, o, _, _, _, _, h, _⟩ => h (by unfold parse; rfl), none_clX D2 fun ds d ⟨T, a, o, _, _, h, _⟩ => h (by unfold parse; rfl), none_clX D3 fun ds d ⟨T, a, o, _, _, h, _⟩ => h (by unfold parse; rfl),
      none_clX D4 fun ds d ⟨T, a, o, _, _, h, _⟩ => h (by unfold parse; rfl), none_clX D5 fun ds d ⟨T, wd, a, o, _, _, _, h, _⟩ => h (by unfold parse; rfl)⟩
  | n + 1 => by
    have c := cl_parse M D1 D2 D3 D4 D5 c_let_in c_sign_at c_number_at c_text_at c_cells_at c_runS c_runG n
    have e : n + 11 + 1 = n + 1 + 11 := by omega
    have r1 := D1.cl (ok_level_at M D1 c_let_in c_sign_at c.ls c.lv)
    have r2 := D2.cl (ok_less_at M D2 c_let_in c.at_ c.ls)
    have r3 := D3.cl (ok_atom_at M D3 c_number_at c_text_at c_runS c.gr c.lv)
    have r4 := D4.cl (ok_great_at M D4 c_runG c_cells_at c.ca)
    have r5 := D5.cl (ok_call_at M D5 c_let_in c.lv)
    rw [e] at r1 r2 r3 r4 r5
    exact ⟨r1, r2, r3, r4, r5⟩
end
end Ws
end

section
set_option autoImplicit false
set_option linter.all false
set_option maxRecDepth 10000
set_option maxHeartbeats 2000000
/-! what is typed: plain functions, and that it gives back -/
namespace Ws
open PySem L2 TL

def figs (l : List Nat) : Bool := decide (1 ≤ l.length) && decide (l.length ≤ 40) && l.all isFig
def halves (t : List Nat) : List (List Nat) := spl [47] 0 [] t
def topOf (t : List Nat) : List Nat := let p := (halves t).headD []
  if p.take 1 = [45] then p.drop 1 else p
def sgn (t : List Nat) (n : Nat) : Int := if t.take 1 = [45] then -(n : Int) else (n : Int)
def numOf (t : List Nat) : Option (Int × Nat) :=
  if (halves t).length > 2 ∨ figs (topOf t) = false then none
  else if (halves t).length = 2 then
    let b := (halves t).getD 1 []
    if figs b = false ∨ NumText.digitsVal b = 0 then none else some (sgn t (NumText.digitsVal (topOf t)), NumText.digitsVal b)
  else some (sgn t (NumText.digitsVal (topOf t)), 1)
def plain (t : List Nat) : Bool := match t with
  | [] => false
  | c :: s => decide (c ≠ 61) && decide (c ≠ 39) && decide (c :: s ≠ TRUE) && decide (c :: s ≠ FALSE) && (numOf (c :: s)).isNone
/-- the fuel -/
abbrev NF : Nat := 214
inductive Ct where
  | none | has (f : F) | num (i : Int) (b : Nat) | txt (t : List Nat) | tru (b : Bool)
def textO (t : List Nat) : Option Ct := if t.length > 60 then none else some (.txt t)
def readO (s : List Nat) : Option F := match readM NF s with
  | .ok f => some f
  | _ => none
/-- a fraction in lowest terms -/
def low (p : Int × Nat) : Int × Nat := (p.1 / (Nat.gcd p.1.natAbs p.2 : Nat), p.2 / Nat.gcd p.1.natAbs p.2)
def typedM (t : List Nat) : Option Ct := match t with
  | [] => some .none
  | c :: s => if c = 61 then (readO s).map .has else if c = 39 then textO s
    else if c :: s = TRUE ∨ c :: s = FALSE then some (.tru (decide (c :: s = TRUE)))
    else match numOf (c :: s) with
      | some p => some (.num (low p).1 (low p).2)
      | none => textO (c :: s)
def intT (i : Int) : List Nat := if i < 0 then 45 :: numL i.natAbs else numL i.natAbs
def numT (i : Int) (b : Nat) : List Nat := if b = 1 then intT i else intT i ++ 47 :: numL b
def typedOf : Ct → List Nat
  | .none => []
  | .has f => 61 :: shown f
  | .num i b => numT i b
  | .txt t => if plain t = true then t else 39 :: t
  | .tru b => if b = true then TRUE else FALSE
def ctOk : Ct → Prop
  | .none => True
  | .has f => isForm f = true ∧ depth f ≤ 5
  | .num i b => i.natAbs < 10 ^ 40 ∧ 0 < b ∧ b < 10 ^ 40 ∧ Nat.gcd i.natAbs b = 1
  | .txt t => t.length ≤ 60
  | .tru _ => True

theorem figs_num {n : Nat} (h : n < 10 ^ 40) : figs (numL n) = true := by
  have h1 := numL_len (by decide) h
  have h2 : 0 < (numL n).length := List.length_pos_iff.mpr (numL_ne n)
  unfold figs
  rw [num_all]
  simp
  omega
theorem no_slash (i : Int) : 47 ∉ intT i := by
  unfold intT
  have h := numL_free (n := i.natAbs) (s := 47) (by omega)
  split
  · simp [h]
  · exact h
theorem num_take (n : Nat) (r : List Nat) : ¬ (numL n ++ r).take 1 = [45] := by
  obtain ⟨c, s, e, h⟩ := num_head n
  rw [e]
  simp only [isFig, decide_eq_true_eq] at h
  simp
  omega
theorem int_take (i : Int) (r : List Nat) : (intT i ++ r).take 1 = [45] ↔ i < 0 := by
  unfold intT
  split
  · simp; assumption
  · constructor
    · intro h; exact absurd h (num_take _ r)
    · intro h; omega
theorem top_int (i : Int) : (if (intT i).take 1 = [45] then (intT i).drop 1 else intT i) = numL i.natAbs := by
  have h := int_take i []
  rw [List.append_nil] at h
  by_cases hi : i < 0
  · rw [if_pos (h.mpr hi)]
    unfold intT
    rw [if_pos hi]
    rfl
  · rw [if_neg (fun q => hi (h.mp q))]
    unfold intT
    rw [if_neg hi]
theorem sgn_int (i : Int) (r : List Nat) : sgn (intT i ++ r) i.natAbs = i := by
  unfold sgn
  by_cases hi : i < 0
  · rw [if_pos ((int_take i r).mpr hi)]
    omega
  · rw [if_neg (fun q => hi ((int_take i r).mp q))]
    omega
theorem numOf_back {i : Int} {b : Nat} (hi : i.natAbs < 10 ^ 40) (h0 : 0 < b) (hb : b < 10 ^ 40) : numOf (numT i b) = some (i, b) := by
  unfold numT
  by_cases h1 : b = 1
  · rw [if_pos h1]
    have hh : halves (intT i) = [intT i] := by
      unfold halves
      rw [spl_last1 (no_slash i)]
      rfl
    have ht : topOf (intT i) = numL i.natAbs := by
      unfold topOf
      rw [hh]
      exact top_int i
    have hs := sgn_int i []
    rw [List.append_nil] at hs
    unfold numOf
    rw [hh, ht, figs_num hi, numL_val, hs]
    simp
    exact h1.symm
  · rw [if_neg h1]
    have hfb : 47 ∉ numL b := numL_free (by omega)
    have hh : halves (intT i ++ 47 :: numL b) = [intT i, numL b] := by
      unfold halves
      have := spl_part1 (s := 47) (S := []) (p := intT i) (rest := numL b) (acc := []) (no_slash i)
      rw [spl_last1 hfb] at this
      simpa using this
    have ht : topOf (intT i ++ 47 :: numL b) = numL i.natAbs := by
      unfold topOf
      rw [hh]
      exact top_int i
    have hs := sgn_int i (47 :: numL b)
    unfold numOf
    rw [hh, ht, figs_num hi, numL_val, hs]
    simp only [List.getD_cons_succ, List.getD_cons_zero, List.length_cons, List.length_nil, figs_num hb, numL_val]
    rw [if_neg (show ¬ (0 + 1 + 1 > 2 ∨ true = false) by simp), if_pos trivial, if_neg (show ¬ (true = false ∨ b = 0) by simp; omega)]
theorem numT_head (i : Int) (b : Nat) : ∃ c s, numT i b = c :: s ∧ c ≠ 61 ∧ c ≠ 39 ∧ c ≠ 84 ∧ c ≠ 70 := by
  have hi : ∃ c s, intT i = c :: s ∧ c ≠ 61 ∧ c ≠ 39 ∧ c ≠ 84 ∧ c ≠ 70 := by
    unfold intT
    split
    · exact ⟨45, _, rfl, by omega, by omega, by omega, by omega⟩
    · obtain ⟨c, s, e, h⟩ := num_head i.natAbs
      simp only [isFig, decide_eq_true_eq] at h
      exact ⟨c, s, e, by omega, by omega, by omega, by omega⟩
  obtain ⟨c, s, e, h⟩ := hi
  unfold numT
  split
  · exact ⟨c, s, e, h⟩
  · exact ⟨c, s ++ 47 :: numL b, by rw [e]; rfl, h⟩
theorem typed_back {c : Ct} (h : ctOk c) : typedM (typedOf c) = some c := by
  cases c with
  | none => rfl
  | has f =>
    obtain ⟨h1, h2⟩ := h
    have e : typedM (typedOf (.has f)) = (readO (shown f)).map Ct.has := by
      show typedM (61 :: shown f) = _
      unfold typedM
      simp only
      rw [if_pos trivial]
    rw [e]
    unfold readO
    rw [back_read h1 (by omega) (by omega) (show 20 * depth f + 10 ≤ 214 by omega)]
    rfl
  | num i b =>
    obtain ⟨h1, h2, h3, h4⟩ := h
    have hn := numOf_back h1 h2 h3
    obtain ⟨c, s, e, e1, e2, e3, e4⟩ := numT_head i b
    show typedM (numT i b) = _
    rw [e] at hn ⊢
    unfold typedM
    simp only
    rw [if_neg e1, if_neg e2, if_neg (by rintro (q | q) <;> (injection q with q1 _; omega)), hn]
    simp only [low, h4]
    simp
  | txt t =>
    have h : t.length ≤ 60 := h
    show typedM (if plain t = true then t else 39 :: t) = _
    by_cases hp : plain t = true
    · rw [if_pos hp]
      cases t with
      | nil => cases hp
      | cons c s =>
        simp only [plain, Bool.and_eq_true, decide_eq_true_eq, Option.isNone_iff_eq_none] at hp
        obtain ⟨⟨⟨⟨p1, p2⟩, p3⟩, p4⟩, p5⟩ := hp
        unfold typedM
        simp only
        rw [if_neg p1, if_neg p2, if_neg (by rintro (q | q) <;> contradiction), p5]
        simp only [textO]
        rw [if_neg (by omega)]
    · rw [if_neg hp]
      unfold typedM
      simp only
      rw [if_neg (by omega), if_pos trivial]
      unfold textO
      rw [if_neg (by omega)]
  | tru b =>
    cases b <;> rfl
/-- a text is typed as it is just where it is plain -/
theorem plain_iff {t : List Nat} (h : t.length ≤ 60) : typedM t = some (.txt t) ↔ plain t = true := by
  cases t with
  | nil =>
    constructor
    · intro q; cases q
    · intro q; cases q
  | cons c s =>
    simp only [plain, Bool.and_eq_true, decide_eq_true_eq, Option.isNone_iff_eq_none]
    unfold typedM
    simp only
    constructor
    · intro q
      by_cases p1 : c = 61
      · rw [if_pos p1] at q
        cases hr : readO s with
        | none => rw [hr] at q; cases q
        | some f => rw [hr] at q; simp at q
      · rw [if_neg p1] at q
        by_cases p2 : c = 39
        · rw [if_pos p2] at q
          unfold textO at q
          split at q
          · cases q
          · injection q with q
            injection q with q
            have := congrArg List.length q
            simp at this
        · rw [if_neg p2] at q
          by_cases p3 : c :: s = TRUE ∨ c :: s = FALSE
          · rw [if_pos p3] at q
            simp at q
          · rw [if_neg p3] at q
            cases hn : numOf (c :: s) with
            | some p => rw [hn] at q; simp at q
            | none => exact ⟨⟨⟨⟨p1, p2⟩, fun e => p3 (.inl e)⟩, fun e => p3 (.inr e)⟩, rfl⟩
    · rintro ⟨⟨⟨⟨p1, p2⟩, p3⟩, p4⟩, p5⟩
      rw [if_neg p1, if_neg p2, if_neg (by rintro (q | q) <;> contradiction), p5]
      simp only [textO]
      rw [if_neg (by simp at h ⊢; omega)]
theorem digits_lt : ∀ (l : List Nat) (a : Nat), (∀ c ∈ l, isFig c = true) → l.foldl (fun acc c => acc * 10 + (c - 48)) a < (a + 1) * 10 ^ l.length
  | [], a, _ => by simp
  | c :: l, a, h => by
    have hc := h c (by simp)
    simp only [isFig, decide_eq_true_eq] at hc
    have ih := digits_lt l (a * 10 + (c - 48)) fun x hx => h x (List.mem_cons_of_mem _ hx)
    rw [List.foldl_cons]
    refine Nat.lt_of_lt_of_le ih ?_
    rw [List.length_cons, Nat.pow_succ, Nat.mul_comm (10 ^ l.length) 10, ← Nat.mul_assoc]
    exact Nat.mul_le_mul_right _ (by omega)
theorem figs_lt {l : List Nat} (h : figs l = true) : NumText.digitsVal l < 10 ^ 40 := by
  simp only [figs, Bool.and_eq_true, decide_eq_true_eq, List.all_eq_true] at h
  have h1 := digits_lt l 0 h.2
  have h2 : 10 ^ l.length ≤ 10 ^ 40 := Nat.pow_le_pow_right (by decide) h.1.2
  unfold NumText.digitsVal
  omega
theorem numOf_ok {t : List Nat} {p : Int × Nat} (h : numOf t = some p) : p.1.natAbs < 10 ^ 40 ∧ 0 < p.2 ∧ p.2 < 10 ^ 40 := by
  unfold numOf at h
  split at h
  · cases h
  · rename_i h1
    have hf : figs (topOf t) = true := by
      cases q : figs (topOf t) with
      | true => rfl
      | false => exact absurd (.inr q) h1
    have hs : ∀ n, (sgn t n).natAbs = n := fun n => by unfold sgn; split <;> omega
    split at h
    · simp only at h
      split at h
      · cases h
      · rename_i h2
        injection h with h
        subst h
        have hb : figs ((halves t).getD 1 []) = true := by
          cases q : figs ((halves t).getD 1 []) with
          | true => rfl
          | false => exact absurd (.inl q) h2
        have h3 : ¬ NumText.digitsVal ((halves t).getD 1 []) = 0 := fun q => h2 (.inr q)
        exact ⟨by rw [hs]; exact figs_lt hf, by simp only; omega, figs_lt hb⟩
    · injection h with h
      subst h
      exact ⟨by rw [hs]; exact figs_lt hf, by simp, by simp only; decide⟩
end Ws
end

section
set_option Elab.async false
set_option linter.all false
set_option maxRecDepth 100000
set_option maxHeartbeats 4000000
namespace Ws
open PySem PySem.Spec PyProof.Rows L2 Evl

theorem tx_int (i : Int) : Str.ofString (toString i) = tx (intT i) := by
  cases i with
  | ofNat n =>
    have e : intT (Int.ofNat n) = TL.numL n := by
      unfold intT
      rw [if_neg (show ¬ Int.ofNat n < 0 from Int.not_lt.mpr (Int.natCast_nonneg n))]
      rfl
    rw [e]
    exact tx_num n
  | negSucc m =>
    have e : intT (Int.negSucc m) = 45 :: TL.numL (m + 1) := by
      unfold intT
      rw [if_pos (Int.negSucc_lt_zero m)]
      rfl
    rw [e]
    apply TL.ext_tl
    have h1 := TL.tl_num (m + 1)
    rw [TL.tl_ofString] at h1 ⊢
    have e2 : toString (Int.negSucc m) = "-" ++ toString ((m + 1 : Nat) : Int) := rfl
    rw [e2, String.toList_append, List.map_append, h1]
    rfl
section
variable {K : PySem.W.Frag} {σ : S} {H H' : Hp} {ta tb te : TE} {tt t2 : TT} {d : PyData} {ds : List PyData} {v : V} {D : Ends} {tz tu tw : TS} {PX : List PyData → Option PyData → Prop} {C C2 : Addr} {E : XK}
theorem r_ifSet {b : Bool} {i : Nat} (h : EvT tt σ H b) (h1 : b = true → Ev te σ H v) (h2 : b = false → σ.set i (some v) = σ) (k : Run tz D (σ.set i (some v)) H) : Run (tSeq (tIfS tt (tAsg te (gName i)) tNext) tz) D σ H := by
  refine r_if h (fun hb => ?_) (fun hb => ?_)
  · exact e_set (h1 hb) fun H1 e1 => k H1 e1
  · rw [h2 hb] at k
    exact k
theorem r_ifRetSet {b c : Bool} {i : Nat} (h : EvT tt σ H b) (h2 : b = true → EvT t2 σ H c) (hr : b = true → c = true → ∀ D', D'.rt = D.rt → Run tu D' σ H) (hv : b = true → c = false → Ev te σ H v) (hs : b = false → σ.set i (some v) = σ) (k : (b = true → c = false) → Run tz D (σ.set i (some v)) H) :
    Run (tSeq (tIfS tt (tSeq (tIfS t2 tu tNext) (tAsg te (gName i))) tNext) tz) D σ H := by
  refine r_if h (fun hb => ?_) (fun hb => ?_)
  · refine r_if (h2 hb) (fun hc => hr hb hc _ rfl) (fun hc => ?_)
    exact e_set (hv hb hc) fun H1 e1 => k (fun _ => hc) H1 e1
  · have k := k (fun q => by rw [hb] at q; cases q)
    rw [hs hb] at k
    exact k
/-- return (constant, f(..)), f may raise -/
theorem x_retU {ta : TA} {r : Option PyData} {z : Str} (h : EvDA K ta σ H ds) (hp : PX ds r) (h1 : ∀ d, r = some d → ∀ v H', Ex H H' → Tp K H' v (.tuple [.str z, d]) → D.rt v H') (h2 : r = none → ∀ H', Ex H H' → E (.ref C) none H') :
    Run (tRet (tTup (tCons (tC (.str z)) (tCons (tCall (spX K C PX) [] E ta) tNil)))) D σ H := fun H1 e =>
  x_call (h.mono e) hp (fun d hd v H2 e2 t => ⟨by show 2 ≤ sizeLine; decide, fun p hp => h1 d hd _ _ ((e.trans e2).trans (Evl.Ex.new hp)) (.tup (st_of upd_same) (.cons (.str z) (.one (t.ex (Evl.Ex.new hp)))))⟩) (fun hr H2 e2 => h2 hr H2 (e.trans e2))
theorem v_toSi {i : Int} (ha : Ev ta σ H (.int i)) (hn : i.natAbs < 10 ^ 100) : Ev (tCB (fun xs H Q => ∃ i, xs = [.int i] ∧ i.natAbs.log2 < 1920 ∧ Q (.str (toString i)) H) (tCons ta tNil)) σ H (.str (tx (intT i))) :=
  v_cb1 ha fun H1 Q _ q => ⟨i, rfl, PySem.Flt.log2_lt_of (by decide) (Nat.lt_of_lt_of_le hn (by decide +kernel)), by
    have e : (Str.ofString (toString i)) = tx (intT i) := tx_int i
    show Q (.str (Str.ofString (toString i))) H1
    rw [e]; exact q⟩
/-- f(data) = data, or an exception of one of two classes -/
def spZ (K : PySem.W.Frag) (C C2 : Addr) (P : List PyData → Option PyData → Prop) : Sp := fun vs H Q E => ∃ ds r, TpAll K H vs ds ∧ P ds r ∧ (∀ d, r = some d → ∀ v H', Ex H H' → Tp K H' v d → Q v H') ∧ (r = none → ∀ c, (c = C ∨ c = C2) → ∀ H', Ex H H' → E (.ref c) none H')
theorem z_call {ta : TA} {r : Option PyData} {Q : VK} (h : EvDA K ta σ H ds) (hp : PX ds r) (h1 : ∀ d, r = some d → ∀ v H', Ex H H' → Tp K H' v d → Q v H') (h2 : r = none → ∀ c, (c = C ∨ c = C2) → ∀ H', Ex H H' → E (.ref c) none H') : tCall (spZ K C C2 PX) [] E ta σ H Q :=
  h H (Evl.Ex.refl H) _ fun vs H2 e2 ts => ⟨ds, r, by rw [List.append_nil]; exact ts, hp, fun d e v H3 e3 t => h1 d e v H3 (e2.trans e3) t, fun e c hc H3 e3 => h2 e c hc H3 (e2.trans e3)⟩
theorem map_tx (ls : List (List Nat)) : ls.map (TL.tl ∘ tx) = ls := by
  have : TL.tl ∘ tx = id := rfl
  rw [this, List.map_id]
theorem tp_strs : ∀ ls : List (List Nat), TpAll K H (ls.map (V.str ∘ tx)) (ls.map fun l => PyData.str (tx l))
  | [] => .nil
  | l :: ls => .cons (.str (tx l)) (tp_strs ls)
theorem dl_split {t : List Nat} (h : Ev te σ H (.str (tx t))) (hz : t.length ≤ 10000) :
    EvDL K (tM1 (fun x xs H Q => ∃ a b, x = .str a ∧ xs = [.str b] ∧ (b.length == 0) = false ∧ a.length + 2 ≤ sizeLine ∧ rNewStrs (Txt.split a b) H Q) te (tC (.str "/"))) σ H ((halves t).map fun l => PyData.str (tx l)) := fun H1 e Q q =>
  h H1 e _ fun H2 e2 => ⟨⟨_, rfl⟩, tx t, "/", rfl, rfl, by decide +kernel, by rw [tx_len, sizeLine_eq]; omega, fun p hp => by
    have es : Txt.split (tx t) "/" = (halves t).map tx := by
      apply TL.map_tl_inj
      rw [TL.split_spl _ _ (by decide +kernel) (TL.kind_ok (by decide +kernel)), List.map_map, map_tx]
      have e3 : TL.tl (Str.ofString "/") = [47] := by decide +kernel
      rw [e3]
      rfl
    rw [es, List.map_map]
    exact q p _ _ (fresh_back e2 hp) (e2.trans (Evl.Ex.new hp)) upd_same (tp_strs _)⟩
theorem v_ixL {p : Addr} {xs : List V} {j : Nat} (ha : Ev ta σ H (.ref p)) (hb : Ev tb σ H (.int (j : Int))) (hl : H p = some (.lst xs)) (hj : xs[j]? = some v) : Ev (tOp (rIxL K) ta tb) σ H v := ev_op ha hb (rv_ixL (sq_of hl) (atI_nat hj))
theorem v_lenL {p : Addr} {xs : List V} (ha : Ev ta σ H (.ref p)) (hl : H p = some (.lst xs)) : Ev (tCB (fun xs H Q => ∃ p ys, xs = [.ref p] ∧ (SqL K H p ys ∨ SqT K H p ys) ∧ Q (.int ys.length) H) (tCons ta tNil)) σ H (.int (xs.length : Int)) :=
  v_cb1 ha fun H1 Q e q => ⟨p, xs, rfl, .inl (sq_of (e _ _ hl)), q⟩
end
theorem small_mono {L L' : Nat} (h : L ≤ L') : ∀ (f : F), small L f = true → small L' f = true
  | .num _, _ => by simp only [small]
  | .txt t, q => by simp only [small, decide_eq_true_eq] at q ⊢; omega
  | .tru _, _ => by simp only [small]
  | .at _ _, _ => by simp only [small]
  | .box _ _ _ _, _ => by simp only [small]
  | .word w, q => by simp only [small, decide_eq_true_eq] at q ⊢; omega
  | .lost, _ => by simp only [small]
  | .less p, q => by simp only [small] at q ⊢; exact small_mono h p q
  | .two _ a b, q => by simp only [small, Bool.and_eq_true] at q ⊢; exact ⟨small_mono h a q.1, small_mono h b q.2⟩
  | .call w ps, q => by
    simp only [small, Bool.and_eq_true, decide_eq_true_eq] at q ⊢
    exact ⟨by omega, smalls_mono ps q.2⟩
where smalls_mono : ∀ (ps : List F), smalls L ps = true → smalls L' ps = true
  | [], _ => by simp only [smalls]
  | p :: ps, q => by simp only [smalls, Bool.and_eq_true] at q ⊢; exact ⟨small_mono h p q.1, smalls_mono ps q.2⟩

section
variable {P : Program} {w : World} {K : PySem.W.Frag} {mg : Str → Option Value} {base : Heap} {f : Addr} {fd : FuncData} {aS aL cBF cBN cSE : Addr} {es : Array DictEntry} {nn : Nat}
/-! ### divisor, number, shown_number, shown_value -/
def pDiv : List PyData → PyData → Prop := fun ds d => ∃ a b : Nat, ds = [.int (a : Int), .int (b : Int)] ∧ d = .int ((Nat.gcd a b : Nat) : Int)
theorem ok_divisor (D : Df K mg "divisor" s_divisor ["one", "other"] f fd) : FnOk P w K mg base CX0 1 f fd ["one", "other"] (spF K pDiv) := by
  refine D.fn.ok sc_divisor (fun vs H Q E h => ?_) (fun cdv A outer s H vs Q E hr h => ?_)
  · obtain ⟨ds, d, hd, ⟨a, b, rfl, _⟩, _⟩ := h
    exact hd.len
  obtain ⟨ds, d, hd, ⟨a, b, rfl, rfl⟩, q⟩ := h
  obtain ⟨x, y, rfl, h1, h2⟩ := hd.two_eq
  obtain rfl := h1.int_eq
  obtain rfl := h2.int_eq
  refine ⟨_, (pss_cons (ps_while PassesOwn.never (pt_cmpR op_gt (pv 1) pe_int (nomark _)) (pss_one (ps_par (i := 0) (j := 1) (by rfl) sc_divisor.nd rfl rfl (by decide) rfl rfl (pa_cons (pv 1) (pa_cons (pe_op op_modN (pv 0) (pv 1)) pa_nil)) (by rfl))))
    (pss_one (ps_ret (pv 0)))), ?_⟩
  refine Run.go ?_
  refine r_while (fun m σ' H' => Ex H H' ∧ ∃ c : Nat, σ' = [some (.int (c : Int)), some (.int (m : Int))] ∧ Nat.gcd c m = Nat.gcd a b) b (fun H1 e => ⟨e, a, rfl, rfl⟩) ?_
  rintro m σ' H' ⟨e, c, rfl, hg⟩
  have v0 : Ev (tVar 0) [some (.int (c : Int)), some (.int (m : Int))] H' (.int (c : Int)) := ev_var rfl
  have v1 : Ev (tVar 1) [some (.int (c : Int)), some (.int (m : Int))] H' (.int (m : Int)) := ev_var rfl
  have t := et_test (v_gt v1 (ev_c (v := .int 0)))
  cases m with
  | zero =>
    refine .inr ⟨et_is t (by simp), ?_⟩
    rw [Nat.gcd_zero_right] at hg
    rw [← hg] at q
    exact r_ret (d_int v0) fun v H1 e1 t => q v H1 (e.trans e1) t
  | succ m =>
    refine .inl ⟨et_is t (by simp), ?_⟩
    refine fun H1 e1 => ea_cons v1 (ea_cons (ev_op v0 v1 (rv_I (C := fun _ j => j ≠ 0) (g := fun i j => .int (i.fmod j)) (by omega))) ea_nil) H1 e1 _ fun H2 e2 => ⟨_, _, rfl, c % (m + 1), ?_, (e.trans e1).trans e2, m + 1, ?_, ?_⟩
    · exact Nat.mod_lt _ (by omega)
    · have e3 : Int.fmod (c : Int) ((m + 1 : Nat) : Int) = ((c % (m + 1) : Nat) : Int) := by
        rw [Int.fmod_eq_emod_of_nonneg _ (by omega)]
        rfl
      rw [e3]
      rfl
    · rw [← hg, Nat.gcd_comm c (m + 1), Nat.gcd_rec (m + 1) c, Nat.gcd_comm]
def fracD (i : Int) (b : Nat) : PyData := .tuple [.str "num", .int i, .int (b : Int)]
def pNumber : List PyData → PyData → Prop := fun ds d => ∃ (i : Int) (b : Nat), ds = [.int i, .int (b : Int)] ∧ i.natAbs < BIG ∧ 0 < b ∧ b < BIG ∧ d = fracD (low (i, b)).1 (low (i, b)).2
theorem big_lt : BIG < 2 ^ 140 := by decide +kernel
theorem ok_number (M : Md K w mg aS aL cBF cBN cSE es nn) (D : Df K mg "number" s_number ["top", "bottom"] f fd) (c_divisor : Cl P w K mg base CX0 1 "divisor" (spF K pDiv)) (c_is_short : Cl P w K mg base CX0 1 "is_short" (spF K pShort)) : FnOk P w K mg base CX0 2 f fd ["top", "bottom"] (spF K pNumber) := by
  refine D.fn.ok sc_number (fun vs H Q E h => ?_) (fun cdv A outer s H vs Q E hr h => ?_)
  · obtain ⟨ds, d, hd, ⟨i, b, rfl, _⟩, _⟩ := h
    exact hd.len
  obtain ⟨ds, d, hd, ⟨i, b, rfl, hi, h0, hb, rfl⟩, q⟩ := h
  obtain ⟨x, y, rfl, h1, h2⟩ := hd.two_eq
  obtain rfl := h1.int_eq
  obtain rfl := h2.int_eq
  refine ⟨_, (pss_cons (ps_if (pt_cmpR op_eq (pv 1) pe_int (nomark _)) (pss_one ps_never) pss_nil)
    (pss_cons (ps_if (pt_cmpR op_lt (pv 1) pe_int (nomark _)) (pss_cons (ps_set (i := 0) sc_number.nd rfl (Or.inl rfl) (pe_op op_sub pe_int (pv 0)))
    (pss_one (ps_set (i := 1) sc_number.nd rfl (Or.inl rfl) (pe_op op_sub pe_int (pv 1))))) pss_nil)
    (pss_cons (ps_set (i := 2) sc_number.nd rfl (Or.inl rfl) (pe_cl c_divisor hr (by omega) pass0 (pa_cons (pe_callB call_abs (by rfl) M.b_abs (by decide +kernel) (pa_cons (pv 0) pa_nil)) (pa_cons (pv 1) pa_nil))))
    (pss_cons (ps_if (PW.pt (pw_or (pt_not (pt_val (pe_cl c_is_short hr (by omega) pass0 (pa_cons (pe_op op_fdivW (pv 0) (pv 2)) pa_nil)))) (pw_or1 (pt_not (pt_val (pe_cl c_is_short hr (by omega) pass0 (pa_cons (pe_op op_fdivW (pv 1) (pv 2)) pa_nil))))))) (pss_one ps_never) pss_nil)
    (pss_one (ps_ret (pe_tup (pa_cons pe_str (pa_cons (pe_op op_fdivW (pv 0) (pv 2)) (pa_cons (pe_op op_fdivW (pv 1) (pv 2)) pa_nil)))))))))), ?_⟩
  refine Run.go ?_
  have hg0 : 0 < Nat.gcd i.natAbs b := Nat.gcd_pos_of_pos_right _ h0
  have hgb : Nat.gcd i.natAbs b ≤ b := Nat.gcd_le_right _ h0
  have hgi : Nat.gcd i.natAbs b ∣ i.natAbs := Nat.gcd_dvd_left _ _
  refine r_no (et_is (t_eqI (ev_var rfl) ev_c) (decide_eq_false (by omega))) (r_no (et_is (et_test (v_lt (ev_var rfl) ev_c)) (decide_eq_false (by omega))) ?_)
  refine r_set (v_int (d_call (P := pDiv) (da_cons (d_int (v_abs (ev_var rfl))) (da_cons (d_int (ev_var rfl)) da_nil)) ⟨i.natAbs, b, rfl, rfl⟩)) ?_
  generalize hg : Nat.gcd i.natAbs b = g at *
  have hlow : low (i, b) = (i / (g : Int), b / g) := by unfold low; simp only [hg]
  rw [hlow] at q
  have cdiv : ∀ j : Int, CDivW j (g : Int) := fun j => wide_div (b := 140) (by omega) (Nat.lt_of_le_of_lt hgb (Nat.lt_trans hb big_lt)) (by decide) (by decide)
  have q1 : ∀ H1, Ev (tOp (rI CDivW fun i j => .int (i / j)) (tVar 0) (tVar 2)) [some (.int i), some (.int (b : Int)), some (.int (g : Int))] H1 (.int (i / (g : Int))) := fun H1 => ev_op (ev_var rfl) (ev_var rfl) (rv_I (cdiv _))
  have q2 : ∀ H1, Ev (tOp (rI CDivW fun i j => .int (i / j)) (tVar 1) (tVar 2)) [some (.int i), some (.int (b : Int)), some (.int (g : Int))] H1 (.int ((b / g : Nat) : Int)) := fun H1 => ev_is (ev_op (ev_var rfl) (ev_var rfl) (rv_I (cdiv _))) rfl
  have s1 : (i / (g : Int)).natAbs < BIG := by
    have e : (i / (g : Int)).natAbs = i.natAbs / g := by
      have hd : (g : Int) ∣ i := Int.natAbs_dvd_natAbs.mp (by simpa using hgi)
      have := Int.natAbs_ediv_of_dvd (a := i) (b := (g : Int)) hd
      simpa using this
    rw [e]
    exact Nat.lt_of_le_of_lt (Nat.div_le_self _ _) hi
  have s2 : ((b / g : Nat) : Int).natAbs < BIG := Nat.lt_of_le_of_lt (show ((b / g : Nat) : Int).natAbs ≤ b from Nat.div_le_self _ _) hb
  refine r_no (et_is (et_or (a := false) (b := false) (et_is (et_not (et_B (v_bl (d_call (P := pShort) (da_cons (d_int (q1 H)) da_nil) ⟨_, rfl, rfl⟩)))) (by rw [decide_eq_true s1]; rfl)) fun _ => et_is (et_not (et_B (v_bl (d_call (P := pShort) (da_cons (d_int (q2 H)) da_nil) ⟨_, rfl, rfl⟩)))) (by rw [decide_eq_true s2]; rfl)) rfl) ?_
  exact r_ret (d_tup (da_cons (d_str ev_c) (da_cons (d_int (q1 H)) (da_cons (d_int (q2 H)) da_nil)))) q
def pShNum : List PyData → PyData → Prop := fun ds d => ∃ (i : Int) (b : Nat), ds = [fracD i b] ∧ i.natAbs < BIG ∧ b < BIG ∧ d = .str (tx (numT i b))
theorem intT_len {i : Int} (h : i.natAbs < BIG) : (intT i).length ≤ 41 := by
  have := TL.numL_len (k := 40) (by decide) (show i.natAbs < 10 ^ 40 from h)
  unfold intT
  split <;> simp <;> omega
theorem ok_shown_number (M : Md K w mg aS aL cBF cBN cSE es nn) (D : Df K mg "shown_number" s_shown_number ["value"] f fd) : FnOk P w K mg base CX0 1 f fd ["value"] (spF K pShNum) := by
  refine D.fn.ok sc_shown_number (fun vs H Q E h => ?_) (fun cdv A outer s H vs Q E hr h => ?_)
  · obtain ⟨ds, d, hd, ⟨i, b, rfl, _⟩, _⟩ := h
    exact hd.len
  obtain ⟨ds, d, hd, ⟨i, b, rfl, hi, hb, rfl⟩, q⟩ := h
  obtain ⟨x, rfl, h1⟩ := hd.one_eq
  refine ⟨_, (pss_cons (ps_if (pt_cmpR op_eq (pe_ix ix_tup (pv 0) pe_int (fun _ _ => rfl)) pe_int (nomark _)) (pss_one (ps_ret (pe_callTy call_str_int (by rfl) M.b_str (by decide +kernel) (pa_cons (pe_ix ix_tup (pv 0) pe_int (fun _ _ => rfl)) pa_nil)))) pss_nil)
    (pss_one (ps_ret (pe_op op_add_str (pe_op op_add_str (pe_callTy call_str_int (by rfl) M.b_str (by decide +kernel) (pa_cons (pe_ix ix_tup (pv 0) pe_int (fun _ _ => rfl)) pa_nil)) pe_str) (pe_callTy call_str_int (by rfl) M.b_str (by decide +kernel) (pa_cons (pe_ix ix_tup (pv 0) pe_int (fun _ _ => rfl)) pa_nil)))))), ?_⟩
  refine Run.go ?_
  have v0 := d_var (K := K) (i := 0) (σ := start ["value"] [x]) rfl h1
  unfold fracD at v0
  have l1 := intT_len hi
  have l2 := TL.numL_len (k := 40) (by decide) (show b < 10 ^ 40 from hb)
  have big : BIG ≤ 10 ^ 100 := by decide +kernel
  have s1 := v_toSi (v_int (d_ix1 v0)) (Nat.lt_of_lt_of_le hi big)
  unfold numT at q
  refine r_if (b := decide (b = 1)) (et_is (t_eqI (v_int (d_ix2 v0)) ev_c) (decide_eq_decide.mpr (by omega))) (fun hb1 => ?_) (fun hb1 => ?_)
  · rw [if_pos (of_decide_eq_true hb1)] at q
    exact r_ret (d_str s1) q
  · rw [if_neg (of_decide_eq_false hb1)] at q
    have e : intT i ++ 47 :: TL.numL b = (intT i ++ [47]) ++ TL.numL b := by simp
    rw [e] at q
    exact r_ret (d_str (v_catL (v_catL s1 v_str_c (by simp; omega)) (v_toS (v_int (d_ix2 v0)) (Nat.lt_of_lt_of_le hb big)) (by simp; omega))) q
inductive Vl where
  | num (i : Int) (b : Nat) | txt (t : List Nat) | tru (b : Bool)
def vlD : Vl → PyData
  | .num i b => fracD i b
  | .txt t => .tuple [.str "text", .str (tx t)]
  | .tru b => .tuple [.str "truth", .bool b]
def vlT : Vl → List Nat
  | .num i b => numT i b
  | .txt t => t
  | .tru b => if b = true then TRUE else FALSE
def vlOk : Vl → Prop
  | .num i b => i.natAbs < BIG ∧ b < BIG
  | _ => True
def pShVal : List PyData → PyData → Prop := fun ds d => ∃ v, ds = [vlD v] ∧ vlOk v ∧ d = .str (tx (vlT v))
theorem ok_shown_value (D : Df K mg "shown_value" s_shown_value ["value"] f fd) (c_shown_number : Cl P w K mg base CX0 1 "shown_number" (spF K pShNum)) (c_shown_truth : Cl P w K mg base CX0 1 "shown_truth" (spF K pTruth)) : FnOk P w K mg base CX0 2 f fd ["value"] (spF K pShVal) := by
  refine D.fn.ok sc_shown_value (fun vs H Q E h => ?_) (fun cdv A outer s H vs Q E hr h => ?_)
  · obtain ⟨ds, d, hd, ⟨v, rfl, _⟩, _⟩ := h
    exact hd.len
  obtain ⟨ds, d, hd, ⟨v, rfl, hv, rfl⟩, q⟩ := h
  obtain ⟨x, rfl, h1⟩ := hd.one_eq
  refine ⟨_, (pss_cons (ps_if (pt_cmpR op_eq (pe_ix ix_tup (pv 0) pe_int (fun _ _ => rfl)) pe_str (nomark _)) (pss_one (ps_ret pe_str)) pss_nil)
    (pss_cons (ps_if (pt_cmpR op_eq (pe_ix ix_tup (pv 0) pe_int (fun _ _ => rfl)) pe_str (nomark _)) (pss_one (ps_ret (pe_cl c_shown_number hr (by omega) pass0 (pa_cons (pv 0) pa_nil)))) pss_nil)
    (pss_cons (ps_if (pt_cmpR op_eq (pe_ix ix_tup (pv 0) pe_int (fun _ _ => rfl)) pe_str (nomark _)) (pss_one (ps_ret (pe_ix ix_tup (pv 0) pe_int (fun _ _ => rfl)))) pss_nil)
    (pss_cons (ps_if (pt_cmpR op_eq (pe_ix ix_tup (pv 0) pe_int (fun _ _ => rfl)) pe_str (nomark _)) (pss_one (ps_ret (pe_cl c_shown_truth hr (by omega) pass0 (pa_cons (pe_ix ix_tup (pv 0) pe_int (fun _ _ => rfl)) pa_nil)))) pss_nil)
    (pss_one ps_never))))), ?_⟩
  refine Run.go ?_
  have v0 := d_var (K := K) (i := 0) (σ := start ["value"] [x]) rfl h1
  cases v with
  | num i b =>
    have v1 := v0
    simp only [vlD, fracD] at v1
    exact r_no (t_tag v1) (r_yes (t_tag v1) (r_ret (d_call (P := pShNum) (da_cons v0 da_nil) ⟨i, b, rfl, hv.1, hv.2, rfl⟩) q))
  | txt t =>
    simp only [vlD] at v0
    exact r_no (t_tag v0) (r_no (t_tag v0) (r_yes (t_tag v0) (r_ret (d_ix1 v0) q)))
  | tru b =>
    simp only [vlD] at v0
    exact r_no (t_tag v0) (r_no (t_tag v0) (r_no (t_tag v0) (r_yes (t_tag v0) (r_ret (d_call (P := pTruth) (da_cons (d_ix1 v0) da_nil) ⟨b, rfl, rfl⟩) q))))

/-! ### is_figures, number_of -/
def pFigs : List PyData → PyData → Prop := fun ds d => ∃ t : List Nat, ds = [.str (tx t)] ∧ t.length ≤ 50000 ∧ d = .bool (figs t)
theorem ok_is_figures (M : Md K w mg aS aL cBF cBN cSE es nn) (D : Df K mg "is_figures" s_is_figures ["word"] f fd) : FnOk P w K mg base CX0 1 f fd ["word"] (spF K pFigs) := by
  refine D.fn.ok sc_is_figures (fun vs H Q E h => ?_) (fun cdv A outer s H vs Q E hr h => ?_)
  · obtain ⟨ds, d, hd, ⟨r, rfl, _, rfl⟩, _⟩ := h
    exact hd.len
  obtain ⟨ds, d, hd, ⟨t, rfl, hz, rfl⟩, q⟩ := h
  obtain ⟨x, rfl, h1⟩ := hd.one_eq
  refine ⟨_, (pss_one (ps_ret (pe_and (pe_chain op_le op_le pe_int (pe_callB call_len_str (by rfl) M.b_len PySem.boot_len (pa_cons (pv 0) pa_nil)) pe_int) (pe_one (pe_callB (cr_all rfl) (by rfl) M.b_all (by decide +kernel) (pa_cons (pe_lc (own := [("sign", 1)]) (g := gName 1) (tt := tYes) rfl sc_is_figures.nd (pi_str (pv 0)) (blkOk_by (N := ["word", "sign"]) (sc := defScope s_is_figures) (by decide +kernel)) (fun _ _ _ _ _ => pg_name (i := 1) sc_is_figures.nd rfl (Or.inl rfl)) (fun _ _ _ _ _ => pts_nil) (fun _ _ _ _ _ => (pe_cmpR op_in_sign (pv 1) (pe_gs M.c_FIGURES) rfl))) pa_nil)))))), ?_⟩
  refine Run.go ?_
  have v0 := v_str (d_var (K := K) (i := 0) (σ := start ["word", "sign"] [x]) rfl h1)
  refine r_ret (d_is (d_bl (ev_andV (v_chain ev_c (v_len v0 (by rw [tx_len]; omega)) (fun H1 Q _ q => ⟨_, _, rfl, rfl, q⟩) fun _ => ⟨ev_c, fun H1 Q _ q => ⟨_, _, rfl, rfl, q⟩⟩) fun _ =>
    v_all (bs := t.map isFig) ?_ fun a H' Q hs hq => ⟨a, _, rfl, hs, hq⟩)) ?_) q
  · rw [List.map_map]
    exact dl_signs v0 hz (fun x => rfl) fun c H1 ex hm => d_is (d_bl (v_in (ev_var rfl) ev_c)) (by rw [inFig]; rfl)
  · rw [all_map, tx_len]
    congr 1
    unfold figs
    rw [Bool.eq_iff_iff]
    simp
    omega
def nbD : Option (Int × Nat) → PyData
  | none => .none
  | some p => fracD (low p).1 (low p).2
def pNumOf : List PyData → PyData → Prop := fun ds d => ∃ t : List Nat, ds = [.str (tx t)] ∧ t.length ≤ 10000 ∧ d = nbD (numOf t)
theorem spl_ne : ∀ (l acc : List Nat), TL.spl [47] 0 acc l ≠ []
  | [], acc => by simp [TL.spl]
  | c :: l, acc => by
    unfold TL.spl
    split
    · simp
    · exact spl_ne l _
theorem spl_len : ∀ (l acc p : List Nat), p ∈ TL.spl [47] 0 acc l → p.length ≤ acc.length + l.length
  | [], acc, p, h => by simp [TL.spl] at h; subst h; simp
  | c :: l, acc, p, h => by
    unfold TL.spl at h
    split at h
    · rcases List.mem_cons.mp h with rfl | h
      · simp
      · have := spl_len l [] p h
        simp at this ⊢
        omega
    · have := spl_len l (acc ++ [c]) p h
      simp at this ⊢
      omega
theorem ok_number_of (M : Md K w mg aS aL cBF cBN cSE es nn) (D : Df K mg "number_of" s_number_of ["text"] f fd) (c_is_figures : Cl P w K mg base CX0 1 "is_figures" (spF K pFigs)) (c_number : Cl P w K mg base CX0 2 "number" (spF K pNumber)) : FnOk P w K mg base CX0 3 f fd ["text"] (spF K pNumOf) := by
  refine D.fn.ok sc_number_of (fun vs H Q E h => ?_) (fun cdv A outer s H vs Q E hr h => ?_)
  · obtain ⟨ds, d, hd, ⟨r, rfl, _, rfl⟩, _⟩ := h
    exact hd.len
  obtain ⟨ds, d, hd, ⟨t, rfl, hz, rfl⟩, q⟩ := h
  obtain ⟨x, rfl, h1⟩ := hd.one_eq
  obtain rfl := h1.str_eq
  refine ⟨_, (pss_cons (ps_set (i := 1) sc_number_of.nd rfl (Or.inl rfl) (pe_split (pv 0) pe_str))
    (pss_cons (ps_set (i := 2) sc_number_of.nd rfl (Or.inl rfl) (pe_ix ix_list (pv 1) pe_int (fun _ _ => rfl)))
    (pss_cons (ps_if (pt_cmpR op_eq (pe_slice sl_str (pv 2) po_none (po_some pe_int)) pe_str (nomark _)) (pss_one (ps_set (i := 2) sc_number_of.nd rfl (Or.inl rfl) (pe_slice sl_str (pv 2) (po_some pe_int) po_none))) pss_nil)
    (pss_cons (ps_if (PW.pt (pw_or (pt_cmpR op_gt (pe_callB call_len_seq (by rfl) M.b_len PySem.boot_len (pa_cons (pv 1) pa_nil)) pe_int (nomark _)) (pw_or1 (pt_not (pt_val (pe_cl c_is_figures hr (by omega) pass0 (pa_cons (pv 2) pa_nil))))))) (pss_one (ps_ret pe_non)) pss_nil)
    (pss_cons (ps_set (i := 3) sc_number_of.nd rfl (Or.inl rfl) pe_int)
    (pss_cons (ps_if (pt_cmpR op_eq (pe_callB call_len_seq (by rfl) M.b_len PySem.boot_len (pa_cons (pv 1) pa_nil)) pe_int (nomark _)) (pss_cons (ps_if (PW.pt (pw_or (pt_not (pt_val (pe_cl c_is_figures hr (by omega) pass0 (pa_cons (pe_ix ix_list (pv 1) pe_int (fun _ _ => rfl)) pa_nil)))) (pw_or1 (pt_cmpR op_eq (pe_callTy call_int_str (by rfl) M.b_int (by decide +kernel) (pa_cons (pe_ix ix_list (pv 1) pe_int (fun _ _ => rfl)) pa_nil)) pe_int (nomark _))))) (pss_one (ps_ret pe_non)) pss_nil)
    (pss_one (ps_set (i := 3) sc_number_of.nd rfl (Or.inl rfl) (pe_callTy call_int_str (by rfl) M.b_int (by decide +kernel) (pa_cons (pe_ix ix_list (pv 1) pe_int (fun _ _ => rfl)) pa_nil))))) pss_nil)
    (pss_cons (ps_if (pt_cmpR op_eq (pe_ix ix_str (pv 0) pe_int (fun _ _ => rfl)) pe_str (nomark _)) (pss_one (ps_ret (pe_cl c_number hr (by omega) pass0 (pa_cons (pe_op op_sub pe_int (pe_callTy call_int_str (by rfl) M.b_int (by decide +kernel) (pa_cons (pv 2) pa_nil))) (pa_cons (pv 3) pa_nil))))) pss_nil)
    (pss_one (ps_ret (pe_cl c_number hr (by omega) pass0 (pa_cons (pe_callTy call_int_str (by rfl) M.b_int (by decide +kernel) (pa_cons (pv 2) pa_nil)) (pa_cons (pv 3) pa_nil)))))))))))), ?_⟩
  refine Run.go ?_
  refine r_setL (dl_split (K := K) (ev_var rfl) hz) fun p xs H1 hp e1 hl ts => ?_
  have hxs : xs = (halves t).map fun l => V.str (tx l) := by
    have e : ((halves t).map fun l => PyData.str (tx l)) = ((halves t).map tx).map PyData.str := by rw [List.map_map]; rfl
    rw [e] at ts
    rw [ts.strs, List.map_map]
    rfl
  clear ts
  have hhl : ∀ l ∈ halves t, l.length ≤ t.length := fun l hm => by
    have := spl_len t [] l hm
    simpa using this
  have hne : halves t ≠ [] := spl_ne t []
  obtain ⟨p0, ps, hps⟩ : ∃ p0 ps, halves t = p0 :: ps := by
    cases h : halves t with
    | nil => exact absurd h hne
    | cons a b => exact ⟨a, b, rfl⟩
  have htop : topOf t = if p0.take 1 = [45] then p0.drop 1 else p0 := by unfold topOf; rw [hps]; rfl
  have hp0 : p0.length ≤ t.length := hhl p0 (by rw [hps]; simp)
  have htl : (topOf t).length ≤ t.length := by rw [htop]; split <;> (try simp) <;> omega
  have hlen : xs.length = (halves t).length := by rw [hxs]; simp
  have hx0 : xs[0]? = some (.str (tx p0)) := by rw [hxs, hps]; rfl
  refine r_set (v_ixL (ev_var rfl) (ev_c (v := .int 0)) hl hx0) ?_
  have u2 : Ev (tVar 2) [some (.str (tx t)), some (.ref p), some (.str (tx p0)), none] H1 (.str (tx p0)) := ev_var rfl
  have tm := t_eqS (v_take u2 (eo_some (ev_c (v := .int 1))) (by omega) (b := 1)) (v_str_c (s := "-") (l := [45]))
  rw [tx_eq] at tm
  refine r_ifSet (v := .str (tx (topOf t))) tm (fun hb => ?_) (fun hb => ?_) ?_
  · rw [htop, if_pos (of_decide_eq_true hb)]
    exact v_drop u2 (eo_some (ev_c (v := .int 1))) (by omega) (a := 1)
  · rw [htop, if_neg (of_decide_eq_false hb)]
    rfl
  have w1 : Ev (tVar 1) [some (.str (tx t)), some (.ref p), some (.str (tx (topOf t))), none] H1 (.ref p) := ev_var rfl
  have tl2 := et_test (v_gt (v_lenL (K := K) w1 hl) (ev_c (v := .int 2)))
  have tf := v_bl (d_call (K := K) (P := pFigs) (E := E0) (da_cons (d_str (ev_var (i := 2) (σ := [some (.str (tx t)), some (.ref p), some (.str (tx (topOf t))), none]) (H := H1) rfl)) da_nil) ⟨topOf t, rfl, by omega, rfl⟩)
  refine r_if (b := decide ((halves t).length > 2) || !figs (topOf t)) (et_or (et_is tl2 (decide_eq_decide.mpr (by omega))) fun _ => et_not (et_B tf)) (fun hb => ?_) (fun hb => ?_)
  · refine r_ret (K := K) (d_non ev_c) fun v H2 e2 t2 => q v H2 (e1.trans e2) ?_
    have hn : numOf t = none := by
      unfold numOf
      rw [if_pos (by simpa using hb)]
    rw [hn]
    exact t2
  have hb' : ¬ ((halves t).length > 2 ∨ figs (topOf t) = false) := by simpa using hb
  have hft : figs (topOf t) = true := by
    cases h : figs (topOf t) with
    | true => rfl
    | false => exact absurd (.inr h) hb'
  have hdig : ∀ {l : List Nat}, figs l = true → (∀ c ∈ l, isFig c = true) ∧ l ≠ [] ∧ l.length ≤ 640 := fun {l} h => by
    simp only [figs, Bool.and_eq_true, decide_eq_true_eq, List.all_eq_true] at h
    exact ⟨h.2, fun e => by rw [e] at h; simp at h, by omega⟩
  obtain ⟨g1, g2, g3⟩ := hdig hft
  obtain ⟨c, r, hct⟩ : ∃ c r, t = c :: r := by
    cases t with
    | nil =>
      exfalso
      have : topOf [] = [] := by unfold topOf halves; simp [TL.spl]
      exact g2 this
    | cons c r => exact ⟨c, r, rfl⟩
  refine r_set (ev_c (v := .int 1)) ?_
  have y1 : Ev (tVar 1) [some (.str (tx t)), some (.ref p), some (.str (tx (topOf t))), some (.int 1)] H1 (.ref p) := ev_var rfl
  -- the bottom
  have bot : ∃ (B : Nat) (cc : Bool), (∀ (hc : (decide ((halves t).length = 2) = true → cc = false)), 0 < B ∧ B < BIG ∧ numOf t = some (sgn t (NumText.digitsVal (topOf t)), B)) ∧ (decide ((halves t).length = 2) = true → cc = true → numOf t = none) ∧
      (decide ((halves t).length = 2) = true → ∃ l, xs[1]? = some (.str (tx l)) ∧ l.length ≤ t.length ∧ cc = (!figs l || decide (NumText.digitsVal l = 0)) ∧ (cc = false → figs l = true ∧ B = NumText.digitsVal l)) ∧ (decide ((halves t).length = 2) = false → B = 1) := by
    by_cases h2 : (halves t).length = 2
    · obtain ⟨p1, hp1⟩ : ∃ p1, halves t = [p0, p1] := by
        rw [hps] at h2 ⊢
        cases ps with
        | nil => simp at h2
        | cons a b =>
          cases b with
          | nil => exact ⟨a, rfl⟩
          | cons _ _ => simp at h2
      have hn : numOf t = if figs p1 = false ∨ NumText.digitsVal p1 = 0 then none else some (sgn t (NumText.digitsVal (topOf t)), NumText.digitsVal p1) := by
        unfold numOf
        rw [if_neg hb', if_pos h2, hp1]
        rfl
      refine ⟨NumText.digitsVal p1, !figs p1 || decide (NumText.digitsVal p1 = 0), fun hc => ?_, fun _ hc => ?_, fun _ => ⟨p1, by rw [hxs, hp1]; rfl, hhl p1 (by rw [hp1]; simp), rfl, fun hc => ⟨by simp at hc; exact hc.1, rfl⟩⟩, fun h => by rw [decide_eq_true h2] at h; cases h⟩
      · have hc := hc (decide_eq_true h2)
        simp at hc
        rw [hn, if_neg (by simp [hc.1, hc.2])]
        exact ⟨by omega, figs_lt hc.1, rfl⟩
      · rw [hn, if_pos (by simpa using hc)]
    · refine ⟨1, false, fun _ => ⟨by decide, by decide +kernel, ?_⟩, fun h => (by rw [decide_eq_false h2] at h; cases h), fun h => (by rw [decide_eq_false h2] at h; cases h), fun _ => rfl⟩
      unfold numOf
      rw [if_neg hb', if_neg h2]
  obtain ⟨B, cc, b1, b2, b3, b4⟩ := bot
  have te2 := t_eqI (v_lenL (K := K) y1 hl) (ev_c (v := .int 2))
  refine r_ifRetSet (b := decide ((halves t).length = 2)) (c := cc) (v := .int (B : Int)) (et_is te2 (decide_eq_decide.mpr (by omega))) (fun h2 => ?_) (fun h2 hc D' hD => ?_) (fun h2 hc => ?_) (fun h2 => ?_) (fun hk => ?_)
  · obtain ⟨l, hl1, hlt, hcc, _⟩ := b3 h2
    have ix1 := v_ixL (K := K) y1 (ev_c (v := .int 1)) hl (j := 1) hl1
    rw [hcc]
    refine et_or (et_not (et_B (v_bl (d_call (P := pFigs) (da_cons (d_str ix1) da_nil) ⟨l, rfl, by omega, rfl⟩)))) fun hf => ?_
    have hf' : figs l = true := by simpa using hf
    obtain ⟨k1, k2, k3⟩ := hdig hf'
    exact et_is (t_eqI (v_toI ix1 k1 k2 k3) ev_c) (decide_eq_decide.mpr (by omega))
  · refine r_ret (K := K) (d_non ev_c) fun v H2 e2 t2 => ?_
    rw [hD]
    refine q v H2 (e1.trans e2) ?_
    rw [b2 h2 hc]
    exact t2
  · obtain ⟨l, hl1, hlt, hcc, hB⟩ := b3 h2
    obtain ⟨hf', rfl⟩ := hB hc
    obtain ⟨k1, k2, k3⟩ := hdig hf'
    exact v_toI (v_ixL (K := K) y1 (ev_c (v := .int 1)) hl (j := 1) hl1) k1 k2 k3
  · rw [b4 h2]
    rfl
  obtain ⟨hB0, hBb, hnum⟩ := b1 hk
  rw [hnum] at q
  have htn : NumText.digitsVal (topOf t) < BIG := figs_lt hft
  have z0 : Ev (tVar 0) [some (.str (tx t)), some (.ref p), some (.str (tx (topOf t))), some (.int (B : Int))] H1 (.str (tx t)) := ev_var rfl
  have z2 : Ev (tVar 2) [some (.str (tx t)), some (.ref p), some (.str (tx (topOf t))), some (.int (B : Int))] H1 (.str (tx (topOf t))) := ev_var rfl
  have z3 : Ev (tVar 3) [some (.str (tx t)), some (.ref p), some (.str (tx (topOf t))), some (.int (B : Int))] H1 (.int (B : Int)) := ev_var rfl
  have ti := v_toI z2 g1 g2 g3
  have tm2 := t_eqS (v_ixS z0 (ev_c (v := .int 0)) (by omega) (j := 0) (c := c) (by rw [hct]; rfl)) (v_str_c (s := "-") (l := [45]))
  refine r_if (b := decide (t.take 1 = [45])) (et_is tm2 (by rw [hct]; exact tx_eq [c] [45])) (fun hb2 => ?_) (fun hb2 => ?_)
  · have es : sgn t (NumText.digitsVal (topOf t)) = 0 - (NumText.digitsVal (topOf t) : Int) := by unfold sgn; rw [if_pos (of_decide_eq_true hb2)]; omega
    rw [es] at q
    exact r_ret (d_call (P := pNumber) (da_cons (d_int (v_sub ev_c ti)) (da_cons (d_int z3) da_nil)) ⟨_, B, rfl, by omega, hB0, hBb, rfl⟩) fun v H2 e2 t2 => q v H2 (e1.trans e2) t2
  · have es : sgn t (NumText.digitsVal (topOf t)) = (NumText.digitsVal (topOf t) : Int) := by unfold sgn; rw [if_neg (of_decide_eq_false hb2)]
    rw [es] at q
    exact r_ret (d_call (P := pNumber) (da_cons (d_int ti) (da_cons (d_int z3) da_nil)) ⟨_, B, rfl, by omega, hB0, hBb, rfl⟩) fun v H2 e2 t2 => q v H2 (e1.trans e2) t2
end
end Ws
end

section
set_option Elab.async false
set_option linter.all false
set_option maxRecDepth 100000
set_option maxHeartbeats 4000000
namespace Ws
open PySem PySem.Spec PyProof.Rows L2 Evl

section
variable {K : PySem.W.Frag} {σ : S} {H H' : Hp} {ta tb te : TE}
theorem t_neI {x y : Int} (ha : Ev ta σ H (.int x)) (hb : Ev tb σ H (.int y)) : EvT (tTest (tOp rNe ta tb)) σ H (!decide (x = y)) := et_is (et_test (ev_op ha hb (rv_ne rfl))) (by
  by_cases h : x = y
  · subst h; simp
  · rw [decide_eq_false h, decide_eq_false (fun e => h (by injection e))])
theorem t_neL {x y : List Nat} (ha : Ev ta σ H (.str (tx x))) (hb : Ev tb σ H (.str (tx y))) : EvT (tTest (tOp rNe ta tb)) σ H (!decide (x = y)) := et_is (t_neS ha hb) (by rw [tx_eq])
theorem t_eqL {x y : List Nat} (ha : Ev ta σ H (.str (tx x))) (hb : Ev tb σ H (.str (tx y))) : EvT (tTest (tOp rEq ta tb)) σ H (decide (x = y)) := et_is (t_eqS ha hb) (by rw [tx_eq])
theorem b_eqL {x y : List Nat} (ha : Ev ta σ H (.str (tx x))) (hb : Ev tb σ H (.str (tx y))) : Ev (tOp rEq ta tb) σ H (.bl (decide (x = y))) := ev_is (b_eqS ha hb) (by rw [tx_eq])
theorem t_sg {c k : Nat} (ha : Ev ta σ H (.str ⟨#[c]⟩)) (hb : Ev tb σ H (.str (tx [k]))) : EvT (tTest (tOp rEq ta tb)) σ H (decide (c = k)) := et_is (t_eqL (x := [c]) ha hb) (by simp)
theorem t_isN {x : V} (ha : Ev ta σ H x) : EvT (tTest (tOp (fun x y H Q => y = .non ∧ Q (.bl (decide (x = .non))) H) ta (tC .non))) σ H (decide (x = .non)) := et_test (v_op2 ha (ev_c (v := .non)) fun H1 Q _ q => ⟨rfl, q⟩)
theorem t_notN {x : V} (ha : Ev ta σ H x) : EvT (tTest (tOp (fun x y H Q => y = .non ∧ Q (.bl (!decide (x = .non))) H) ta (tC .non))) σ H (!decide (x = .non)) := et_test (v_op2 ha (ev_c (v := .non)) fun H1 Q _ q => ⟨rfl, q⟩)
def isND : PyData → Bool
  | .none => true
  | _ => false
theorem b_isND (ha : EvD K ta σ H d) : Ev (tOp (fun x y H Q => y = .non ∧ Q (.bl (decide (x = .non))) H) ta (tC .non)) σ H (.bl (isND d)) := fun H1 e Q q =>
  ha H1 e _ fun v H2 e2 t => ⟨rfl, by
    have : decide (v = V.non) = isND d := by cases t <;> rfl
    rw [this]
    exact q H2 e2⟩
end
section
variable {P : Program} {w : World} {K : PySem.W.Frag} {mg : Str → Option Value} {base : Heap} {f : Addr} {fd : FuncData} {aS aL cBF cBN cSE : Addr} {es : Array DictEntry} {nn : Nat}
/-! ### read -/
def pRead : List PyData → Option PyData → Prop := fun ds r => ∃ T : List Nat, ds = [.str (tx T)] ∧ T.length ≤ 10000 ∧ parse T NF (.level 1) 0 0 ≠ .out ∧ r = (readO T).map toD
theorem ok_read (M : Md K w mg aS aL cBF cBN cSE es nn) (D : Df K mg "read" s_read ["text"] f fd) (c_level_at : Cl P w K mg base (L2.CX P w) 225 "level_at" (spX K cBF (pLv NF))) (c_is_formula : Cl P w K mg base CX0 13 "is_formula" (spF K pForm)) (c_shown : Cl P w K mg base CX0 26 "shown" (spF K (pShown 8))) :
    FnOk P w K mg base (L2.CX P w) 226 f fd ["text"] (spX K cBF pRead) := by
  refine D.fn.okX sc_read (fun vs H Q E h => ?_) (fun cdv A outer s H vs Q E hr h => ?_)
  · obtain ⟨ds, d, hd, ⟨f, rfl, _⟩, _⟩ := h
    exact hd.len
  obtain ⟨ds, d, hd, ⟨T, rfl, hz, ho, rfl⟩, q1, q2⟩ := h
  obtain ⟨x, rfl, h1⟩ := hd.one_eq
  obtain rfl := h1.str_eq
  refine ⟨_, (pss_cons (ps_asg (pe_cl c_level_at hr (by omega) (passes_call (takes_of rfl rfl rfl rfl) (fun _ _ _ _ h => h)) (pa_cons (pv 0) (pa_cons pe_int (pa_cons pe_int (pa_cons pe_int pa_nil))))) (pg_tup (by rfl) (pgs_cons (pg_name (i := 1) sc_read.nd rfl (Or.inl rfl)) (pgs_cons (pg_name (i := 2) sc_read.nd rfl (Or.inl rfl)) pgs_nil))))
    (pss_cons (ps_if (PW.pt (pw_or (pt_cmpR op_ne (pv 2) (pe_callB call_len_str (by rfl) M.b_len PySem.boot_len (pa_cons (pv 0) pa_nil)) (nomark _)) (pw_or (pt_not (pt_val (pe_cl c_is_formula hr (by omega) pass0 (pa_cons (pv 1) pa_nil)))) (pw_or1 (pt_cmpR op_ne (pe_cl c_shown hr (by omega) pass0 (pa_cons (pv 1) pa_nil)) (pv 0) (nomark _)))))) (pss_one (ps_raise rfl (takes_of rfl rfl rfl rfl) (pmk_own PySem.F.excBase_ValueError M.xBF M.gBF M.kBF (raises_own M.bBF M.tBF) rfl))) pss_nil)
    (pss_one (ps_ret (pv 1))))), ?_⟩
  refine Run.go ?_
  have fine := fine_parse T NF (.level 1) 0 0 trivial
  refine x_two (PX := pLv NF) (da_cons (d_str (ev_var rfl)) (da_cons (d_int ev_c) (da_cons (d_int ev_c) (da_cons (d_int ev_c) da_nil)))) ⟨T, 0, 1, 0, rfl, hz, by omega, by omega, ho, rfl⟩ (fun d hd2 => ?_) (fun hr2 H1 e1 => ?_)
  rotate_left
  · have hbad := rD_none hr2 ho
    refine q2 ?_ H1 e1
    unfold readO readM
    rw [hbad]
    rfl
  obtain ⟨g, en, hg, rfl⟩ := rD_some hd2
  have ft := fine g en hg
  refine ⟨_, _, rfl, fun x2 y2 H3 ex3 hx2 hy2 => ?_⟩
  obtain rfl := hy2.int_eq
  have hrd : readO T = if en ≠ T.length ∨ isForm g = false ∨ shown g ≠ T then none else some g := by
    unfold readO readM
    rw [hg, R.bind_ok]
    by_cases h : en ≠ T.length ∨ isForm g = false ∨ shown g ≠ T
    · rw [if_pos h, if_pos h]
    · rw [if_neg h, if_neg h]
  rw [hrd] at q1 q2
  clear hrd
  have w0 : Ev (tVar 0) [some (.str (tx T)), some x2, some (.int (en : Int))] H3 (.str (tx T)) := ev_var rfl
  have w1 : EvD K (tVar 1) [some (.str (tx T)), some x2, some (.int (en : Int))] H3 (toD g) := d_var rfl hx2
  have w2 : Ev (tVar 2) [some (.str (tx T)), some x2, some (.int (en : Int))] H3 (.int (en : Int)) := ev_var rfl
  have ln := v_len w0 (by rw [tx_len]; omega)
  rw [tx_len] at ln
  have e8 := ft.dp
  have e9 := ft.sz
  have e10 := ft.el
  refine r_if (b := (!decide (en = T.length)) || ((!isForm g) || !decide (shown g = T))) (et_or (et_is (t_neI w2 ln) (by rw [decide_eq_decide.mpr (show ((en : Int) = (T.length : Int)) ↔ en = T.length by omega)])) fun _ => et_or (et_not (et_B (v_bl (d_call (P := pForm) (da_cons w1 da_nil) ⟨g, rfl, by omega, by omega, small_mono (by omega) g ft.sm, rfl⟩)))) fun hf => ?_) (fun hb => ?_) (fun hb => ?_)
  · have hf' : isForm g = true := by simpa using hf
    have hf'' := hf'
    simp only [isForm, Bool.and_eq_true, decide_eq_true_eq] at hf''
    exact t_neL (v_str (d_call (P := pShown 8) (da_cons w1 da_nil) ⟨g, rfl, by omega, by omega, hf''.1.1, rfl⟩)) w0
  · refine fun H4 e4 => q2 ?_ H4 (ex3.trans e4)
    rw [if_pos (by simpa using hb)]
    rfl
  · refine r_ret w1 fun v H4 e4 t => q1 (toD g) ?_ v H4 (ex3.trans e4) t
    rw [if_neg (by intro h; have : (!decide (en = T.length) || (!isForm g || !decide (shown g = T))) = true := by simpa using h
                   rw [hb] at this; cases this)]
    rfl
/-! ### text_of, typed, is_plain, typed_of -/
def ctD : Ct → PyData
  | .none => .none
  | .has f => .tuple [.str "has", toD f]
  | .num i b => .tuple [.str "is", fracD i b]
  | .txt t => .tuple [.str "is", .tuple [.str "text", .str (tx t)]]
  | .tru b => .tuple [.str "is", .tuple [.str "truth", .bool b]]
def pTextOf : List PyData → Option PyData → Prop := fun ds r => ∃ t : List Nat, ds = [.str (tx t)] ∧ t.length ≤ 10000 ∧ r = (textO t).map ctD
theorem ok_text_of (M : Md K w mg aS aL cBF cBN cSE es nn) (D : Df K mg "text_of" s_text_of ["text"] f fd) : FnOk P w K mg base (L2.CX P w) 1 f fd ["text"] (spX K cBN pTextOf) := by
  refine D.fn.okX sc_text_of (fun vs H Q E h => ?_) (fun cdv A outer s H vs Q E hr h => ?_)
  · obtain ⟨ds, d, hd, ⟨f, rfl, _⟩, _⟩ := h
    exact hd.len
  obtain ⟨ds, d, hd, ⟨t, rfl, hz, rfl⟩, q1, q2⟩ := h
  obtain ⟨x, rfl, h1⟩ := hd.one_eq
  obtain rfl := h1.str_eq
  refine ⟨_, (pss_cons (ps_if (pt_cmpR op_gt (pe_callB call_len_str (by rfl) M.b_len PySem.boot_len (pa_cons (pv 0) pa_nil)) (pe_gi M.c_MOST_SIGNS) (nomark _)) (pss_one (ps_raise rfl (takes_of rfl rfl rfl rfl) (pmk_own PySem.F.excBase_ValueError M.xBN M.gBN M.kBN (raises_own M.bBN M.tBN) rfl))) pss_nil)
    (pss_one (ps_ret (pe_tup (pa_cons pe_str (pa_cons (pe_tup (pa_cons pe_str (pa_cons (pv 0) pa_nil))) pa_nil)))))), ?_⟩
  refine Run.go ?_
  have w0 : Ev (tVar 0) (start ["text"] [.str (tx t)]) H (.str (tx t)) := ev_var rfl
  have ln := v_len w0 (by rw [tx_len]; omega)
  rw [tx_len] at ln
  unfold textO at q1 q2
  refine r_if (b := decide (t.length > 60)) (et_is (et_test (v_gt ln ev_c)) (decide_eq_decide.mpr (by omega))) (fun hb => ?_) (fun hb => ?_)
  · exact fun H1 e => q2 (by rw [if_pos (of_decide_eq_true hb)]; rfl) H1 e
  · exact r_ret (d_tup (da_cons (d_str ev_c) (da_cons (d_tup (da_cons (d_str ev_c) (da_cons (d_str w0) da_nil))) da_nil))) (q1 _ (by rw [if_neg (of_decide_eq_false hb)]; rfl))
def pTyped : List PyData → Option PyData → Prop := fun ds r => ∃ t : List Nat, ds = [.str (tx t)] ∧ t.length ≤ 10000 ∧ (∀ s, t = 61 :: s → parse s NF (.level 1) 0 0 ≠ .out) ∧ r = (typedM t).map ctD
theorem ok_typed (M : Md K w mg aS aL cBF cBN cSE es nn) (D : Df K mg "typed" s_typed ["text"] f fd) (c_read : Cl P w K mg base (L2.CX P w) 226 "read" (spX K cBF pRead)) (c_text_of : Cl P w K mg base (L2.CX P w) 1 "text_of" (spX K cBN pTextOf)) (c_number_of : Cl P w K mg base CX0 3 "number_of" (spF K pNumOf)) :
    FnOk P w K mg base (L2.CX P w) 227 f fd ["text"] (spZ K cBF cBN pTyped) := by
  refine D.fn.okX sc_typed (fun vs H Q E h => ?_) (fun cdv A outer s H vs Q E hr h => ?_)
  · obtain ⟨ds, d, hd, ⟨f, rfl, _⟩, _⟩ := h
    exact hd.len
  obtain ⟨ds, d, hd, ⟨t, rfl, hz, ho, rfl⟩, q1, q2⟩ := h
  obtain ⟨x, rfl, h1⟩ := hd.one_eq
  obtain rfl := h1.str_eq
  refine ⟨_, (pss_cons (ps_if (pt_cmpR op_eq (pv 0) pe_str (nomark _)) (pss_one (ps_ret pe_non)) pss_nil)
    (pss_cons (ps_if (pt_cmpR op_eq (pe_ix ix_str (pv 0) pe_int (fun _ _ => rfl)) pe_str (nomark _)) (pss_one (ps_ret (pe_tup (pa_cons pe_str (pa_cons (pe_cl c_read hr (by omega) (passes_call (takes_of rfl rfl rfl rfl) (fun _ _ _ _ h => h)) (pa_cons (pe_slice sl_str (pv 0) (po_some pe_int) po_none) pa_nil)) pa_nil))))) pss_nil)
    (pss_cons (ps_if (pt_cmpR op_eq (pe_ix ix_str (pv 0) pe_int (fun _ _ => rfl)) pe_str (nomark _)) (pss_one (ps_ret (pe_cl c_text_of hr (by omega) (passes_call (takes_of rfl rfl rfl rfl) (fun _ _ _ _ h => h)) (pa_cons (pe_slice sl_str (pv 0) (po_some pe_int) po_none) pa_nil)))) pss_nil)
    (pss_cons (ps_if (PW.pt (pw_or (pt_cmpR op_eq (pv 0) pe_str (nomark _)) (pw_or1 (pt_cmpR op_eq (pv 0) pe_str (nomark _))))) (pss_one (ps_ret (pe_tup (pa_cons pe_str (pa_cons (pe_tup (pa_cons pe_str (pa_cons (pe_cmpR op_eq (pv 0) pe_str (nomark _)) pa_nil))) pa_nil))))) pss_nil)
    (pss_cons (ps_set (i := 1) sc_typed.nd rfl (Or.inl rfl) (pe_cl c_number_of hr (by omega) pass0 (pa_cons (pv 0) pa_nil)))
    (pss_cons (ps_if (pt_cmpR op_notN (pv 1) pe_non (nomark _)) (pss_one (ps_ret (pe_tup (pa_cons pe_str (pa_cons (pv 1) pa_nil))))) pss_nil)
    (pss_one (ps_ret (pe_cl c_text_of hr (by omega) (passes_call (takes_of rfl rfl rfl rfl) (fun _ _ _ _ h => h)) (pa_cons (pv 0) pa_nil)))))))))), ?_⟩
  refine Run.go ?_
  have w0 : Ev (tVar 0) [some (.str (tx t)), none] H (.str (tx t)) := ev_var rfl
  have t0 := t_eqL w0 (v_str_c (s := "") (l := []))
  cases t with
  | nil => exact r_yes (et_is t0 rfl) (r_ret (d_non ev_c) (q1 _ rfl))
  | cons c s =>
  refine r_no (et_is t0 (by simp)) ?_
  have i0 := v_ixS w0 (ev_c (v := .int 0)) (by omega) (j := 0) (c := c) rfl
  have dr := v_drop w0 (eo_some (ev_c (v := .int 1))) (by omega) (a := 1)
  have hs : s.length ≤ 10000 := by simp at hz; omega
  unfold typedM at q1 q2
  simp only at q1 q2
  refine r_if (t_sg i0 (v_str_c (s := "=") (l := [61]))) (fun hb => ?_) (fun hb => ?_)
  · have hc := of_decide_eq_true hb
    subst hc
    rw [if_pos rfl] at q1 q2
    refine x_retU (PX := pRead) (da_cons (d_str dr) da_nil) ⟨s, rfl, hs, ho s rfl, rfl⟩ (fun d hd2 => ?_) (fun hr2 H' e => ?_)
    · cases hro : readO s with
      | none => rw [hro] at hd2; cases hd2
      | some g =>
        rw [hro] at hd2
        injection hd2 with hd2
        subst hd2
        exact q1 _ (by rw [hro]; rfl)
    · cases hro : readO s with
      | none => exact q2 (by rw [hro]; rfl) cBF (.inl rfl) H' e
      | some g => rw [hro] at hr2; cases hr2
  rw [if_neg (of_decide_eq_false hb)] at q1 q2
  refine r_if (t_sg i0 (v_str_c (s := "'") (l := [39]))) (fun hb2 => ?_) (fun hb2 => ?_)
  · rw [if_pos (of_decide_eq_true hb2)] at q1 q2
    exact x_ret (PX := pTextOf) (da_cons (d_str dr) da_nil) ⟨s, rfl, hs, rfl⟩ q1 (fun hr2 H' e => q2 hr2 cBN (.inr rfl) H' e)
  rw [if_neg (of_decide_eq_false hb2)] at q1 q2
  have tT := v_str_c (σ := [some (V.str (tx (c :: s))), none]) (H := H) (s := "TRUE") (l := TRUE)
  have tF := v_str_c (σ := [some (V.str (tx (c :: s))), none]) (H := H) (s := "FALSE") (l := FALSE)
  refine r_if (b := decide (c :: s = TRUE) || decide (c :: s = FALSE)) (et_or (t_eqL w0 tT) fun _ => t_eqL w0 tF) (fun hb3 => ?_) (fun hb3 => ?_)
  · rw [if_pos (by simpa using hb3)] at q1 q2
    exact r_ret (d_tup (da_cons (d_str ev_c) (da_cons (d_tup (da_cons (d_str ev_c) (da_cons (d_bl (b_eqL w0 tT)) da_nil))) da_nil))) (q1 _ rfl)
  rw [if_neg (fun h => by have : (decide (c :: s = TRUE) || decide (c :: s = FALSE)) = true := by simpa using h
                          rw [hb3] at this; cases this)] at q1 q2
  refine r_setD (d_call (P := pNumOf) (da_cons (d_str w0) da_nil) ⟨c :: s, rfl, hz, rfl⟩) fun v H1 e1 tv => ?_
  have w1 : Ev (tVar 1) [some (.str (tx (c :: s))), some v] H1 v := ev_var rfl
  cases hn : numOf (c :: s) with
  | none =>
    rw [hn] at tv q1 q2
    obtain rfl := tv.non_eq
    refine r_no (et_is (t_notN w1) rfl) ?_
    exact x_ret (PX := pTextOf) (da_cons (d_str (ev_var rfl)) da_nil) ⟨c :: s, rfl, hz, rfl⟩ (fun d hd2 v H' e => q1 d hd2 v H' (e1.trans e)) (fun hr2 H' e => q2 hr2 cBN (.inr rfl) H' (e1.trans e))
  | some p =>
    rw [hn] at tv q1 q2
    obtain ⟨a, xs, rfl, _, _⟩ := Tp.tup_eq tv
    refine r_yes (et_is (t_notN w1) rfl) ?_
    exact r_ret (d_tup (da_cons (d_str ev_c) (da_cons (d_var rfl tv) da_nil))) (fun v H' e => q1 _ rfl v H' (e1.trans e))
def pPlain : List PyData → PyData → Prop := fun ds d => ∃ t : List Nat, ds = [.str (tx t)] ∧ t.length ≤ 10000 ∧ d = .bool (plain t)
theorem ok_is_plain (M : Md K w mg aS aL cBF cBN cSE es nn) (D : Df K mg "is_plain" s_is_plain ["text"] f fd) (c_number_of : Cl P w K mg base CX0 3 "number_of" (spF K pNumOf)) : FnOk P w K mg base CX0 4 f fd ["text"] (spF K pPlain) := by
  refine D.fn.ok sc_is_plain (fun vs H Q E h => ?_) (fun cdv A outer s H vs Q E hr h => ?_)
  · obtain ⟨ds, d, hd, ⟨f, rfl, _⟩, _⟩ := h
    exact hd.len
  obtain ⟨ds, d, hd, ⟨t, rfl, hz, rfl⟩, q⟩ := h
  obtain ⟨x, rfl, h1⟩ := hd.one_eq
  obtain rfl := h1.str_eq
  refine ⟨_, (pss_cons (ps_if (PW.pt (pw_or (pt_cmpR op_eq (pv 0) pe_str (nomark _)) (pw_or (pt_cmpR op_eq (pe_ix ix_str (pv 0) pe_int (fun _ _ => rfl)) pe_str (nomark _)) (pw_or (pt_cmpR op_eq (pe_ix ix_str (pv 0) pe_int (fun _ _ => rfl)) pe_str (nomark _)) (pw_or (pt_cmpR op_eq (pv 0) pe_str (nomark _)) (pw_or1 (pt_cmpR op_eq (pv 0) pe_str (nomark _)))))))) (pss_one (ps_ret pe_bl)) pss_nil)
    (pss_one (ps_ret (pe_cmpR op_isN (pe_cl c_number_of hr (by omega) pass0 (pa_cons (pv 0) pa_nil)) pe_non (nomark _))))), ?_⟩
  refine Run.go ?_
  have w0 : Ev (tVar 0) [some (.str (tx t))] H (.str (tx t)) := ev_var rfl
  have t0 := t_eqL w0 (v_str_c (s := "") (l := []))
  cases t with
  | nil => exact r_yes (et_or (a := true) (b := false) (et_is t0 rfl) fun h => nomatch h) (r_ret (d_bl ev_c) q)
  | cons c s =>
  have i0 := v_ixS w0 (ev_c (v := .int 0)) (by omega) (j := 0) (c := c) rfl
  have tT := v_str_c (σ := [some (V.str (tx (c :: s)))]) (H := H) (s := "TRUE") (l := TRUE)
  have tF := v_str_c (σ := [some (V.str (tx (c :: s)))]) (H := H) (s := "FALSE") (l := FALSE)
  refine r_if (et_or (et_is t0 (b := false) (by simp)) fun _ => et_or (t_sg i0 (v_str_c (s := "=") (l := [61]))) fun _ => et_or (t_sg i0 (v_str_c (s := "'") (l := [39]))) fun _ => et_or (t_eqL w0 tT) fun _ => t_eqL w0 tF) (fun hb => ?_) (fun hb => ?_)
  · refine r_ret (K := K) (d_bl ev_c) fun v H1 e t => q v H1 e ?_
    have : plain (c :: s) = false := by
      simp only [plain]
      simp only [Bool.false_or, Bool.or_eq_true, decide_eq_true_eq] at hb
      rcases hb with h | h | h | h <;> simp [h]
    rw [this]
    exact t
  · refine r_ret (d_is (d_bl (b_isND (d_call (P := pNumOf) (da_cons (d_str w0) da_nil) ⟨c :: s, rfl, hz, rfl⟩))) ?_) q
    simp only [Bool.false_or, Bool.or_eq_false_iff, decide_eq_false_iff_not] at hb
    have : plain (c :: s) = (numOf (c :: s)).isNone := by
      simp only [plain]
      simp [hb.1, hb.2.1, hb.2.2.1, hb.2.2.2]
    rw [this]
    cases numOf (c :: s) <;> rfl
def pTypedOf : List PyData → PyData → Prop := fun ds d => ∃ c : Ct, ds = [ctD c] ∧ ctOk c ∧ d = .str (tx (typedOf c))
theorem ok_typed_of (D : Df K mg "typed_of" s_typed_of ["content"] f fd) (c_shown : Cl P w K mg base CX0 26 "shown" (spF K (pShown 8))) (c_is_plain : Cl P w K mg base CX0 4 "is_plain" (spF K pPlain)) (c_shown_value : Cl P w K mg base CX0 2 "shown_value" (spF K pShVal)) :
    FnOk P w K mg base CX0 27 f fd ["content"] (spF K pTypedOf) := by
  refine D.fn.ok sc_typed_of (fun vs H Q E h => ?_) (fun cdv A outer s H vs Q E hr h => ?_)
  · obtain ⟨ds, d, hd, ⟨f, rfl, _⟩, _⟩ := h
    exact hd.len
  obtain ⟨ds, d, hd, ⟨c, rfl, hc, rfl⟩, q⟩ := h
  obtain ⟨x, rfl, h1⟩ := hd.one_eq
  refine ⟨_, (pss_cons (ps_if (pt_cmpR op_isN (pv 0) pe_non (nomark _)) (pss_one (ps_ret pe_str)) pss_nil)
    (pss_cons (ps_if (pt_cmpR op_eq (pe_ix ix_tup (pv 0) pe_int (fun _ _ => rfl)) pe_str (nomark _)) (pss_one (ps_ret (pe_op op_add_str pe_str (pe_cl c_shown hr (by omega) pass0 (pa_cons (pe_ix ix_tup (pv 0) pe_int (fun _ _ => rfl)) pa_nil))))) pss_nil)
    (pss_cons (ps_if (PW.pt (pw_or (pt_cmpR op_ne (pe_ix ix_tup (pe_ix ix_tup (pv 0) pe_int (fun _ _ => rfl)) pe_int (fun _ _ => rfl)) pe_str (nomark _)) (pw_or1 (pt_val (pe_cl c_is_plain hr (by omega) pass0 (pa_cons (pe_ix ix_tup (pe_ix ix_tup (pv 0) pe_int (fun _ _ => rfl)) pe_int (fun _ _ => rfl)) pa_nil)))))) (pss_one (ps_ret (pe_cl c_shown_value hr (by omega) pass0 (pa_cons (pe_ix ix_tup (pv 0) pe_int (fun _ _ => rfl)) pa_nil)))) pss_nil)
    (pss_one (ps_ret (pe_op op_add_str pe_str (pe_ix ix_tup (pe_ix ix_tup (pv 0) pe_int (fun _ _ => rfl)) pe_int (fun _ _ => rfl)))))))), ?_⟩
  refine Run.go ?_
  have w0 : Ev (tVar 0) [some x] H x := ev_var rfl
  have v0 : EvD K (tVar 0) [some x] H (ctD c) := d_var rfl h1
  have tup : ∀ {ds : List PyData}, Tp K H x (.tuple ds) → decide (x = V.non) = false := fun h => by
    obtain ⟨a, xs, rfl, _⟩ := h.tup_eq
    rfl
  cases c with
  | none =>
    obtain rfl := h1.non_eq
    exact r_yes (et_is (t_isN w0) rfl) (r_ret (d_str (v_str_c (s := "") (l := []))) q)
  | has f =>
    simp only [ctD] at v0 h1
    obtain ⟨g1, g2⟩ := hc
    have g1' := g1
    simp only [isForm, Bool.and_eq_true, decide_eq_true_eq] at g1'
    have hl := shown_len f g1'.1.1
    exact r_no (et_is (t_isN w0) (tup h1)) (r_yes (t_tag v0) (r_ret (d_str (v_catL (v_str_c (s := "=") (l := [61])) (v_str (d_call (P := pShown 8) (da_cons (d_ix1 v0) da_nil) ⟨f, rfl, by omega, by omega, g1'.1.1, rfl⟩)) (by simp; omega))) q))
  | num i b =>
    simp only [ctD] at v0 h1
    have v1 := d_ix1 v0
    simp only [fracD] at v1
    exact r_no (et_is (t_isN w0) (tup h1)) (r_no (t_tag v0) (r_yes (et_or (a := true) (b := false) (t_tagN v1) fun h => nomatch h) (r_ret (d_call (P := pShVal) (da_cons (d_ix1 v0) da_nil) ⟨.num i b, rfl, ⟨hc.1, hc.2.2.1⟩, rfl⟩) q)))
  | txt t =>
    simp only [ctD] at v0 h1
    have v1 := d_ix1 v0
    have hc : t.length ≤ 60 := hc
    refine r_no (et_is (t_isN w0) (tup h1)) (r_no (t_tag v0) (r_if (et_or (t_tagN (b := false) v1) fun _ => et_B (v_bl (d_call (P := pPlain) (da_cons (d_ix1 v1) da_nil) ⟨t, rfl, by omega, rfl⟩))) (fun hb => ?_) (fun hb => ?_)))
    · have hp : plain t = true := by simpa using hb
      refine r_ret (d_call (P := pShVal) (da_cons v1 da_nil) ⟨.txt t, rfl, trivial, rfl⟩) ?_
      have e : typedOf (.txt t) = t := by show (if plain t = true then t else 39 :: t) = t; rw [if_pos hp]
      rw [e] at q
      exact q
    · have hp : ¬ plain t = true := by simpa using hb
      have e : typedOf (.txt t) = [39] ++ t := by show (if plain t = true then t else 39 :: t) = _; rw [if_neg hp]; rfl
      rw [e] at q
      exact r_ret (d_str (v_catL (v_str_c (s := "'") (l := [39])) (v_str (d_ix1 v1)) (by simp; omega))) q
  | tru b =>
    simp only [ctD] at v0 h1
    have v1 := d_ix1 v0
    refine r_no (et_is (t_isN w0) (tup h1)) (r_no (t_tag v0) (r_yes (et_or (a := true) (b := false) (t_tagN v1) fun h => nomatch h) (r_ret (d_call (P := pShVal) (da_cons (d_ix1 v0) da_nil) ⟨.tru b, rfl, trivial, rfl⟩) q)))
end
end Ws
end

section
set_option Elab.async false
set_option linter.all false
set_option maxRecDepth 100000
set_option maxHeartbeats 4000000
/-! the drawing of the law: a list that changes -/
namespace Ws
open PySem PySem.Spec PyProof.Rows L2 Evl

/-- all but what stands at a is kept; data is kept -/
def Mv (a : Addr) (H H' : Hp) : Prop := (∀ c o, c ≠ a → H c = some o → H' c = some o) ∧ Kp H H'
section
variable {a : Addr} {H H' H2 : Hp}
theorem Mv.refl (a : Addr) (H : Hp) : Mv a H H := ⟨fun _ _ _ h => h, Kp.refl H⟩
theorem Mv.trans (h : Mv a H H') (k : Mv a H' H2) : Mv a H H2 := ⟨fun c o hc e => k.1 c o hc (h.1 c o hc e), h.2.trans k.2⟩
theorem Mv.of (e : Ex H H') : Mv a H H' := ⟨fun c o _ h => e c o h, Kp.of e⟩
theorem Mv.set {o : HO} {xs : List V} (h : H a = some (.lst xs)) : Mv a H (upd H a o) := ⟨fun c o' hc e => by rw [upd_ne hc]; exact e, Kp.lst h⟩
/-- the state -/
def Sq (a : Addr) (b : Bool) (r : List V) (H : Hp) : Prop := ∃ s : Int, H a = some (.lst (.int s :: .bl b :: r)) ∧ (b = false → 0 ≤ s ∧ s < 2147483647)
theorem Sq.ex {b : Bool} {r : List V} (h : Sq a b r H) (e : Ex H H') : Sq a b r H' := by
  obtain ⟨s, h1, h2⟩ := h
  exact ⟨s, e _ _ h1, h2⟩
theorem Mv.fresh {b : Bool} {r : List V} {p : Addr} (m : Mv a H H') (s : Sq a b r H') (h : H' p = none) : H p = none ∧ p ≠ a := by
  have hp : p ≠ a := fun e => by
    obtain ⟨i, h1, _⟩ := s
    rw [e, h1] at h
    cases h
  refine ⟨?_, hp⟩
  cases q : H p with
  | none => rfl
  | some o => rw [m.1 p o hp q] at h; cases h
end
section
variable (K : PySem.W.Frag) (a : Addr) (b : Bool) (r : List V)
def EvS (te : TE) (σ : S) (H : Hp) (P : PyData → Prop) : Prop := ∀ H1, Mv a H H1 → Sq a b r H1 → ∀ Q : VK, (∀ d v H2, Mv a H1 H2 → Sq a b r H2 → P d → Tp K H2 v d → Q v H2) → te σ H1 Q
def EvSA (ta : TA) (σ : S) (H : Hp) (P : List PyData → Prop) : Prop := ∀ H1, Mv a H H1 → Sq a b r H1 → ∀ Q : List V → Hp → Prop, (∀ ds vs H2, Mv a H1 H2 → Sq a b r H2 → P ds → TpAll K H2 vs ds → Q vs H2) → ta σ H1 Q
def EvSL (te : TE) (σ : S) (H : Hp) (P : List PyData → Prop) : Prop := ∀ H1, Mv a H H1 → Sq a b r H1 → ∀ Q : VK, (∀ ds p xs H2, H1 p = none → Mv a H1 H2 → Sq a b r H2 → P ds → H2 p = some (.lst xs) → TpAll K H2 xs ds → Q (.ref p) H2) → te σ H1 Q
def RunS (t : TS) (D : Ends) (σ : S) (H : Hp) : Prop := ∀ H1, Mv a H H1 → Sq a b r H1 → t D σ H1
/-- f(state, data), the state drawn on -/
def spS (Pre : List PyData → Prop) (R : List PyData → PyData → Prop) : Sp := fun vs H Q _ => ∃ a b r ws ds, vs = V.ref a :: ws ∧ Sq a b r H ∧ TpAll K H ws ds ∧ Pre ds ∧ ∀ d v H', Mv a H H' → Sq a b r H' → R ds d → Tp K H' v d → Q v H'
end
section
variable {K : PySem.W.Frag} {a : Addr} {b : Bool} {r : List V} {σ : S} {H H' : Hp} {te tf tl ti : TE} {ta tr : TA} {tt : TT} {P P1 P2 : PyData → Prop} {PA PA1 : List PyData → Prop} {D : Ends} {tz tu tw : TS} {v : V} {d : PyData}
theorem EvS.imp (h : EvS K a b r te σ H P) (k : ∀ d, P d → P1 d) : EvS K a b r te σ H P1 := fun H1 m s Q q => h H1 m s Q fun d v H2 m2 s2 p t => q d v H2 m2 s2 (k d p) t
theorem EvS.mono (h : EvS K a b r te σ H P) (m : Mv a H H') : EvS K a b r te σ H' P := fun H1 m1 s Q q => h H1 (m.trans m1) s Q q
theorem es_of (h : ∀ H1, Mv a H H1 → Sq a b r H1 → EvD K te σ H1 d) (p : P d) : EvS K a b r te σ H P := fun H1 m s Q q => h H1 m s H1 (Evl.Ex.refl H1) Q fun v H2 e2 t => q d v H2 (Mv.of e2) (s.ex e2) p t
theorem es_int {i : Int} (p : P (.int i)) : EvS K a b r (tC (.int i)) σ H P := es_of (fun _ _ _ => d_int ev_c) p
theorem es_str {z : Str} (p : P (.str z)) : EvS K a b r (tC (.str z)) σ H P := es_of (fun _ _ _ => d_str ev_c) p
theorem es_var {i : Nat} (h : σ[i]? = some (some v)) (hd : Tp K H v d) (p : P d) : EvS K a b r (tVar i) σ H P := es_of (fun _ m _ => d_of (ev_var h) (hd.kp m.2)) p
theorem es_op {r2 : R2} (ha : EvS K a b r te σ H P1) (hb : EvS K a b r tf σ H P2) (hr : ∀ d e x y H1 (Q : VK), P1 d → P2 e → Tp K H1 x d → Tp K H1 y e → (∀ f z, P f → Tp K H1 z f → Q z H1) → r2 x y H1 Q) : EvS K a b r (tOp r2 te tf) σ H P := fun H1 m s Q q =>
  ha H1 m s _ fun d x H2 m2 s2 p2 t2 => hb H2 (m.trans m2) s2 _ fun e y H3 m3 s3 p3 t3 => hr d e x y H3 Q p2 p3 (t2.kp m3.2) t3 fun f z pf tz => q f z H3 (m2.trans m3) s3 pf tz
theorem es_I {C : Int → Int → Prop} {g : Int → Int → Int} {p1 p2 p : Int → Prop} (ha : EvS K a b r te σ H fun d => ∃ i, d = .int i ∧ p1 i) (hb : EvS K a b r tf σ H fun d => ∃ i, d = .int i ∧ p2 i) (hc : ∀ i j, p1 i → p2 j → C i j ∧ p (g i j)) :
    EvS K a b r (tOp (rI C fun i j => .int (g i j)) te tf) σ H fun d => ∃ i, d = .int i ∧ p i := es_op ha hb fun d e x y H1 Q ⟨i, hi, p1⟩ ⟨j, hj, p2⟩ t1 t2 k => by
  subst hi hj
  obtain rfl := t1.int_eq
  obtain rfl := t2.int_eq
  exact ⟨i, j, rfl, rfl, (hc i j p1 p2).1, k _ _ ⟨_, rfl, (hc i j p1 p2).2⟩ (.int _)⟩
theorem es_I0 {g : Int → Int → Int} {p1 p2 p : Int → Prop} (ha : EvS K a b r te σ H fun d => ∃ i, d = .int i ∧ p1 i) (hb : EvS K a b r tf σ H fun d => ∃ i, d = .int i ∧ p2 i) (hc : ∀ i j, p1 i → p2 j → p (g i j)) :
    EvS K a b r (tOp (rI0 fun i j => .int (g i j)) te tf) σ H fun d => ∃ i, d = .int i ∧ p i := es_op ha hb fun d e x y H1 Q ⟨i, hi, p1⟩ ⟨j, hj, p2⟩ t1 t2 k => by
  subst hi hj
  obtain rfl := t1.int_eq
  obtain rfl := t2.int_eq
  exact ⟨i, j, rfl, rfl, k _ _ ⟨_, rfl, hc i j p1 p2⟩ (.int _)⟩
theorem es_max {p1 p2 p : Int → Prop} (ha : EvS K a b r te σ H fun d => ∃ i, d = .int i ∧ p1 i) (hb : EvS K a b r tf σ H fun d => ∃ i, d = .int i ∧ p2 i) (hc : ∀ i j, p1 i → p2 j → p (if j > i then j else i)) :
    EvS K a b r (tCB (fun xs H Q => ∃ i j, xs = [.int i, .int j] ∧ Q (.int (if j > i then j else i)) H) (tCons te (tCons tf tNil))) σ H fun d => ∃ i, d = .int i ∧ p i := fun H1 m s Q q =>
  ha H1 m s _ fun d x H2 m2 s2 ⟨i, hi, p2⟩ t2 => hb H2 (m.trans m2) s2 _ fun e y H3 m3 s3 ⟨j, hj, p3⟩ t3 => by
    subst hi hj
    obtain rfl := t2.int_eq
    obtain rfl := t3.int_eq
    exact ⟨i, j, rfl, q _ _ H3 (m2.trans m3) s3 ⟨_, rfl, hc i j p2 p3⟩ (.int _)⟩
/-- a test draw == 1 -/
theorem es_eq {p1 : Int → Prop} {k : Int} (ha : EvS K a b r te σ H fun d => ∃ i, d = .int i ∧ p1 i) : EvS K a b r (tOp rEq te (tC (.int k))) σ H fun d => ∃ c, d = .bool c := es_op (P2 := fun d => d = .int k) ha (es_int rfl) fun d e x y H1 Q ⟨i, hi, p1⟩ hj t1 t2 q => by
  subst hi hj
  obtain rfl := t1.int_eq
  obtain rfl := t2.int_eq
  exact ⟨rfl, q _ _ ⟨_, rfl⟩ (.bl _)⟩
theorem esa_nil : EvSA K a b r tNil σ H fun ds => ds = [] := fun H1 _ s _ q => q [] [] H1 (Mv.refl a H1) s rfl .nil
theorem esa_cons (h : EvS K a b r te σ H P) (hr : EvSA K a b r tr σ H PA) : EvSA K a b r (tCons te tr) σ H fun ds => ∃ d ds', ds = d :: ds' ∧ P d ∧ PA ds' := fun H1 m s _ q =>
  h H1 m s _ fun d v H2 m2 s2 p2 t2 => hr H2 (m.trans m2) s2 _ fun ds vs H3 m3 s3 p3 t3 => q _ _ H3 (m2.trans m3) s3 ⟨d, ds, rfl, p2, p3⟩ (.cons (t2.kp m3.2) t3)
theorem es_tup (h : EvSA K a b r ta σ H PA) (hp : ∀ ds, PA ds → P (.tuple ds) ∧ ds.length ≤ 100000) : EvS K a b r (tTup ta) σ H P := fun H1 m s _ q =>
  h H1 m s _ fun ds vs H2 m2 s2 p2 t2 => ⟨sz_of (by rw [t2.len]; exact (hp ds p2).2), fun p hp' => q _ _ _ (m2.trans (Mv.of (Evl.Ex.new hp'))) (s2.ex (Evl.Ex.new hp')) (hp ds p2).1 (.tup (st_of upd_same) (t2.ex (Evl.Ex.new hp')))⟩
theorem es_call {PF : List PyData → PyData → Prop} {E : XK} (h : EvSA K a b r ta σ H PA) (hp : ∀ ds, PA ds → ∃ d, PF ds d ∧ P d) : EvS K a b r (tCall (spF K PF) [] E ta) σ H P := fun H1 m s _ q =>
  h H1 m s _ fun ds vs H2 m2 s2 p2 t2 => by
    obtain ⟨d, h1, h2⟩ := hp ds p2
    exact ⟨ds, d, by rw [List.append_nil]; exact t2, h1, fun v H3 e3 t => q d v H3 (m2.trans (Mv.of e3)) (s2.ex e3) h2 t⟩
theorem es_callS {Pre : List PyData → Prop} {R : List PyData → PyData → Prop} {E : XK} {i : Nat} (hs : σ[i]? = some (some (.ref a))) (h : EvSA K a b r ta σ H PA) (hp : ∀ ds, PA ds → Pre ds ∧ ∀ d, R ds d → P d) : EvS K a b r (tCall (spS K Pre R) [] E (tCons (tVar i) ta)) σ H P := fun H1 m s _ q =>
  ⟨_, hs, h H1 m s _ fun ds vs H2 m2 s2 p2 t2 => ⟨a, b, r, vs, ds, by rw [List.append_nil], s2, t2, (hp ds p2).1, fun d v H3 m3 s3 hr t => q d v H3 (m2.trans m3) s3 ((hp ds p2).2 d hr) t⟩⟩
/-- a draw below many -/
def preC : List PyData → Prop := fun ds => ∃ m : Nat, ds = [.int (m : Int)] ∧ 1 ≤ m ∧ m < 1073741824
def resC : List PyData → PyData → Prop := fun ds d => ∃ m n : Nat, ds = [.int (m : Int)] ∧ d = .int (n : Int) ∧ n < m
theorem es_ch {E : XK} {i : Nat} {m : Nat} (hs : σ[i]? = some (some (.ref a))) (h : EvS K a b r te σ H fun d => d = .int (m : Int)) (h1 : 1 ≤ m) (h2 : m < 1073741824) :
    EvS K a b r (tCall (spS K preC resC) [] E (tCons (tVar i) (tCons te tNil))) σ H fun d => ∃ n : Nat, d = .int (n : Int) ∧ n < m := es_callS hs (esa_cons h esa_nil) fun ds ⟨d, ds', e1, e2, e3⟩ => by
  subst e1 e2 e3
  refine ⟨⟨m, rfl, h1, h2⟩, fun d ⟨m', n, e1, e2, e3⟩ => ⟨n, e2, ?_⟩⟩
  injection e1 with e1
  injection e1 with e1
  omega
theorem es_chC {E : XK} {i : Nat} (m : Nat) (hs : σ[i]? = some (some (.ref a))) (h1 : 1 ≤ m := by decide) (h2 : m < 1073741824 := by decide) :
    EvS K a b r (tCall (spS K preC resC) [] E (tCons (tVar i) (tCons (tC (.int (m : Int))) tNil))) σ H fun d => ∃ n : Nat, d = .int (n : Int) ∧ n < m := es_ch hs (es_int rfl) h1 h2
theorem es_chI {E : XK} {i : Nat} (m : Nat) (hs : σ[i]? = some (some (.ref a))) (h1 : 1 ≤ m := by decide) (h2 : m < 1073741824 := by decide) :
    EvS K a b r (tCall (spS K preC resC) [] E (tCons (tVar i) (tCons (tC (.int (m : Int))) tNil))) σ H fun d => ∃ i, d = .int i ∧ 0 ≤ i ∧ i < (m : Int) := (es_chC m hs h1 h2).imp fun d ⟨n, h, k⟩ => ⟨n, h, by omega, by omega⟩
theorem es_cI {i : Int} : EvS K a b r (tC (.int i)) σ H fun d => ∃ j, d = .int j ∧ j = i := es_int ⟨i, rfl, rfl⟩
/-- lists -/
theorem esl_lst (h : EvSA K a b r ta σ H PA) (hp : ∀ ds, PA ds → ds.length ≤ 100000) : EvSL K a b r (tLst ta) σ H PA := fun H1 m s _ q =>
  h H1 m s _ fun ds vs H2 m2 s2 p2 t2 => ⟨sz_of (by rw [t2.len]; exact hp ds p2), fun p hp' => q ds p vs _ (m2.fresh s2 hp').1 (m2.trans (Mv.of (Evl.Ex.new hp'))) (s2.ex (Evl.Ex.new hp')) p2 upd_same (t2.ex (Evl.Ex.new hp'))⟩
theorem not_a {p : Addr} {H1 : Hp} (s : Sq a b r H1) (h : H1 p = none) : p ≠ a := fun e => by
  obtain ⟨i, h1, _⟩ := s
  rw [e, h1] at h
  cases h
theorem es_ixL {n : Nat} (hl : EvSL K a b r tl σ H PA) (hi : EvS K a b r ti σ H fun d => ∃ k : Nat, d = .int (k : Int) ∧ k < n) (hp : ∀ ds, PA ds → ds.length = n ∧ ∀ d ∈ ds, P d) : EvS K a b r (tOp (rIxL K) tl ti) σ H P := fun H1 m s Q q =>
  hl H1 m s _ fun ds p xs H2 hn m2 s2 p2 hx t2 => hi H2 (m.trans m2) s2 _ fun e y H3 m3 s3 ⟨k, hk, hlt⟩ t3 => by
    subst hk
    obtain rfl := t3.int_eq
    obtain ⟨g1, g2⟩ := hp ds p2
    have hd : ds[k]? = some (ds[k]'(by omega)) := List.getElem?_eq_getElem (by omega)
    obtain ⟨w, h1, h2⟩ := t2.get hd
    exact ⟨p, xs, (k : Int), w, rfl, rfl, sq_of (m3.1 p _ (not_a s hn) hx), atI_nat h1, q _ w H3 (m2.trans m3) s3 (g2 _ (List.mem_of_getElem? hd)) (h2.kp m3.2)⟩
/-- a list at a slot -/
theorem es_ixV {n : Nat} {j : Nat} {p : Addr} {xs : List V} {ds : List PyData} (hv : σ[j]? = some (some (.ref p))) (hne : p ≠ a) (hx : H p = some (.lst xs)) (ht : TpAll K H xs ds) (hi : EvS K a b r ti σ H fun d => ∃ k : Nat, d = .int (k : Int) ∧ k < n) (h1 : ds.length = n) (h2 : ∀ d ∈ ds, P d) : EvS K a b r (tOp (rIxL K) (tVar j) ti) σ H P := fun H1 m s Q q =>
  ⟨_, hv, hi H1 m s _ fun e y H3 m3 s3 ⟨k, hk, hlt⟩ t3 => by
    subst hk
    obtain rfl := t3.int_eq
    have hd : ds[k]? = some (ds[k]'(by omega)) := List.getElem?_eq_getElem (by omega)
    obtain ⟨w, g1, g2⟩ := ht.get hd
    exact ⟨p, xs, (k : Int), w, rfl, rfl, sq_of ((m.trans m3).1 p _ hne hx), atI_nat g1, q _ w H3 m3 s3 (h2 _ (List.mem_of_getElem? hd)) (g2.kp (m.trans m3).2)⟩⟩
/-- a sign of a text -/
theorem es_ixS {l : List Nat} {n : Nat} (hl : EvS K a b r tl σ H fun d => d = .str (tx l)) (hi : EvS K a b r ti σ H fun d => ∃ k : Nat, d = .int (k : Int) ∧ k < n) (h1 : l.length = n) (hz : l.length ≤ 100000) : EvS K a b r (tOp rIxS tl ti) σ H fun d => ∃ c ∈ l, d = .str (tx [c]) :=
  es_op hl hi fun d e x y H1 Q hd ⟨k, hk, hlt⟩ t1 t2 q => by
    subst hd hk
    obtain rfl := t1.str_eq
    obtain rfl := t2.int_eq
    have hd : l[k]? = some (l[k]'(by omega)) := List.getElem?_eq_getElem (by omega)
    exact ⟨tx l, (k : Int), l[k]'(by omega), rfl, rfl, by rw [tx_len]; exact sz_of hz, atI_nat (by simpa using hd), q _ _ ⟨_, List.mem_of_getElem? hd, rfl⟩ (.str _)⟩
/-- [e for k in range(n)] -/
theorem esl_lc {j : Nat} {vs : List Nat} {n : Nat} (hn : n ≤ 40000) (h : EvS K a b r ti σ H fun d => ∃ k : Nat, d = .int (k : Int) ∧ k ≤ n) (hw : ∀ x, wipe ((wipe σ vs).set j (some x)) vs = wipe σ vs)
    (he : ∀ (x : V), EvS K a b r te ((wipe σ vs).set j (some x)) H P) : EvSL K a b r (tLc (iRng1 (tCons ti tNil)) (gName j) tYes te vs) σ H fun ds => ds.length ≤ n ∧ ∀ d ∈ ds, P d := fun H0 m0 s0 Q q =>
  h H0 m0 s0 _ fun d v H1 m1 s1 ⟨k, hk, hkn⟩ t1 => by
    subst hk
    obtain rfl := t1.int_eq
    refine ⟨(k : Int), rfl, by omega, by omega, fun L hL => ?_⟩
    have hLa := not_a s1 hL
    refine lc_range (lo := 0) (n := ((k : Int)).toNat) (fun i H' => Mv a H1 H' ∧ Sq a b r H' ∧ ∃ acc ds, H' L = some (.lst acc) ∧ TpAll K H' acc ds ∧ ds.length = i ∧ ∀ d ∈ ds, P d) ⟨Mv.of (Evl.Ex.new hL), s1.ex (Evl.Ex.new hL), [], [], upd_same, .nil, rfl, fun d hd => by cases hd⟩ (fun i H' hi p => ?_) (fun H' p => ?_)
    · obtain ⟨m2, s2, acc, ds, ha, ht, hl, hp⟩ := p
      refine ⟨hw _, ?_⟩
      dsimp only [tYes]
      rw [if_pos rfl]
      refine he _ H' ((m0.trans m1).trans m2) s2 _ fun d y H4 m4 s4 p4 t4 => ⟨acc, m4.1 L _ hLa ha, sz_lt (by rw [ht.len]; omega), ?_⟩
      have hH4 : H4 L = some (.lst acc) := m4.1 L _ hLa ha
      have hk : Kp H4 (upd H4 L (.lst (acc ++ [y]))) := Kp.lst hH4
      refine ⟨⟨fun c o hc e => ?_, (m2.2.trans m4.2).trans hk⟩, ?_, acc ++ [y], ds ++ [d], upd_same, ((ht.kp m4.2).app (.one t4)).kp hk, by simp [hl], fun d' hd => ?_⟩
      · have hcL : c ≠ L := fun e2 => by rw [e2, hL] at e; cases e
        rw [upd_ne hcL]
        exact m4.1 c o hc (m2.1 c o hc e)
      · obtain ⟨i, h1, h2⟩ := s4
        exact ⟨i, by rw [upd_ne (fun e => hLa e.symm)]; exact h1, h2⟩
      · rcases List.mem_append.mp hd with hd | hd
        · exact hp d' hd
        · rw [List.mem_singleton.mp hd]; exact p4
    · obtain ⟨m2, s2, acc, ds, ha, ht, hl, hp⟩ := p
      exact q ds L acc H' (m1.fresh s1 hL).1 (m1.trans m2) s2 ⟨by omega, hp⟩ ha ht
theorem strs_of : ∀ {xs : List V} {ds : List PyData} {k : Nat} {p : Nat → Prop}, TpAll K H xs ds → (∀ d ∈ ds, ∃ t : List Nat, d = .str (tx t) ∧ t.length ≤ k ∧ ∀ c ∈ t, p c) → ∃ ls : List (List Nat), ds = ls.map (fun t => .str (tx t)) ∧ xs = ls.map (fun t => V.str (tx t)) ∧ (∀ c ∈ ls.flatten, p c) ∧ ls.flatten.length ≤ k * ds.length ∧ ((ls.map tx).map (·.length)).sum ≤ k * ds.length
  | _, _, _, _, .nil, _ => ⟨[], rfl, rfl, fun c h => by simp at h, by simp, by simp⟩
  | _, _, k, p, .cons (v := v) (d := d) (ds := ds) h t, hp => by
    obtain ⟨l, rfl, hl, hc⟩ := hp d (List.mem_cons_self ..)
    obtain ⟨ls, e1, e2, e3, e4, e5⟩ := strs_of (k := k) (p := p) t fun d' hd => hp d' (List.mem_cons_of_mem _ hd)
    refine ⟨l :: ls, by rw [e1]; rfl, by rw [h.str_eq, e2]; rfl, fun c hcm => ?_, ?_, ?_⟩
    · rw [List.flatten_cons] at hcm
      rcases List.mem_append.mp hcm with q | q
      · exact hc c q
      · exact e3 c q
    · rw [List.flatten_cons, List.length_append, List.length_cons, Nat.mul_add]
      omega
    · rw [List.map_cons, List.map_cons, List.sum_cons, List.length_cons, Nat.mul_add, tx_len]
      omega
theorem es_join {k n : Nat} {p : Nat → Prop} (hl : EvSL K a b r tl σ H fun ds => ds.length ≤ n ∧ ∀ d ∈ ds, ∃ t : List Nat, d = .str (tx t) ∧ t.length ≤ k ∧ ∀ c ∈ t, p c) (hz : k * n ≤ 10000) :
    EvS K a b r (tM1 (fun x xs H Q => ∃ a p, ∃ ys : List Str, x = .str a ∧ xs = [.ref p] ∧ (SqL K H p (ys.map V.str) ∨ SqT K H p (ys.map V.str)) ∧ (ys.map (·.length)).sum + ys.length * a.length ≤ 16777216 ∧ Q (.str (Txt.join a ys)) H) (tC (.str "")) tl) σ H fun d => ∃ t : List Nat, d = .str (tx t) ∧ t.length ≤ k * n ∧ ∀ c ∈ t, p c := fun H1 m s Q q =>
  ⟨⟨_, rfl⟩, hl H1 m s _ fun ds pp xs H2 hn m2 s2 ⟨g1, g2⟩ hx t2 => by
    obtain ⟨ls, rfl, rfl, e3, e4, e5⟩ := strs_of t2 g2
    have hk : k * (ls.map fun t => PyData.str (tx t)).length ≤ k * n := Nat.mul_le_mul_left k g1
    refine ⟨"", pp, ls.map tx, rfl, rfl, .inl (sq_of (by rw [hx, List.map_map]; rfl)), ?_, ?_⟩
    · have : (Str.ofString "").length = 0 := by decide +kernel
      rw [this]
      omega
    · have ej : Txt.join "" (ls.map tx) = tx ls.flatten := by
        apply TL.ext_tl
        rw [TL.join_eq, TL.tl_join]
        have e0 : TL.tl (Str.ofString "") = [] := by decide +kernel
        rw [e0, List.map_map]
        have : TL.tl ∘ tx = id := rfl
        rw [this, List.map_id]
        show TL.joinL [] ls = ls.flatten
        have : ∀ ls : List (List Nat), TL.joinL [] ls = ls.flatten := by
          intro ls
          induction ls with
          | nil => rfl
          | cons x xs ih =>
            cases xs with
            | nil => simp [TL.joinL]
            | cons y ys =>
              simp only [TL.joinL, List.append_nil] at ih ⊢
              rw [ih]
              simp
        exact this ls
      rw [ej]
      exact q _ _ H2 m2 s2 ⟨ls.flatten, rfl, by omega, e3⟩ (.str _)⟩
/-! ### statements -/
theorem RunS.mono {a : Addr} (h : RunS a b r tz D σ H) (m : Mv a H H') : RunS a b r tz D σ H' := fun H1 m1 s => h H1 (m.trans m1) s
theorem RunS.go (h : RunS a b r tz D σ H) (s : Sq a b r H) : tz D σ H := h H (Mv.refl a H) s
theorem rs_set {i : Nat} (h : EvS K a b r te σ H P) (k : ∀ d v H1, Mv a H H1 → P d → Tp K H1 v d → RunS a b r tz D (σ.set i (some v)) H1) : RunS a b r (tSeq (tAsg te (gName i)) tz) D σ H := fun H1 m s =>
  h H1 m s _ fun d v H2 m2 s2 p t => (k d v H2 (m.trans m2) p t).go s2
theorem rs_setL {i : Nat} (h : EvSL K a b r te σ H PA) (k : ∀ ds p xs H1, Mv a H H1 → H1 p = some (.lst xs) → p ≠ a → PA ds → TpAll K H1 xs ds → RunS a b r tz D (σ.set i (some (.ref p))) H1) : RunS a b r (tSeq (tAsg te (gName i)) tz) D σ H := fun H1 m s =>
  h H1 m s _ fun ds p xs H2 hn m2 s2 pd hx t => (k ds p xs H2 (m.trans m2) hx (not_a s hn) pd t).go s2
theorem es_nx {i : Nat} (h : EvS K a b r te σ H P) (k : ∀ d v H1, Mv a H H1 → Sq a b r H1 → P d → Tp K H1 v d → D.nx (σ.set i (some v)) H1) : RunS a b r (tAsg te (gName i)) D σ H := fun H1 m s =>
  h H1 m s _ fun d v H2 m2 s2 p t => k d v H2 (m.trans m2) s2 p t
theorem rs_if {c : Bool} (h : ∀ H1, Mv a H H1 → Sq a b r H1 → EvT tt σ H1 c) (k1 : c = true → RunS a b r tu { D with nx := tz D } σ H) (k0 : c = false → RunS a b r tz D σ H) : RunS a b r (tSeq (tIfS tt tu tNext) tz) D σ H := fun H1 m s =>
  h H1 m s H1 (Evl.Ex.refl H1) _ fun H2 e2 => by
    cases c with
    | true =>
      show (if true = true then tu { D with nx := tz D } σ H2 else _)
      rw [if_pos rfl]
      exact k1 rfl H2 (m.trans (Mv.of e2)) (s.ex e2)
    | false =>
      show (if false = true then _ else tz D σ H2)
      rw [if_neg Bool.false_ne_true]
      exact k0 rfl H2 (m.trans (Mv.of e2)) (s.ex e2)
theorem rs_ret (h : EvS K a b r te σ H P) (k : ∀ d v H1, Mv a H H1 → Sq a b r H1 → P d → Tp K H1 v d → D.rt v H1) : RunS a b r (tRet te) D σ H := fun H1 m s => h H1 m s _ fun d v H2 m2 s2 p t => k d v H2 (m.trans m2) s2 p t
end
end Ws
end

section
set_option Elab.async false
set_option linter.all false
set_option maxRecDepth 100000
set_option maxHeartbeats 4000000
namespace Ws
open PySem PySem.Spec PyProof.Rows L2 Evl

theorem fm (i : Int) {m : Nat} (h : 0 < m) : ∃ n : Nat, i.fmod (m : Int) = (n : Int) ∧ n < m := by
  rw [Int.fmod_eq_emod_of_nonneg _ (by omega)]
  have h1 := Int.emod_nonneg i (show (m : Int) ≠ 0 by omega)
  have h2 := Int.emod_lt_of_pos i (show (0 : Int) < m by omega)
  exact ⟨(i % (m : Int)).toNat, by omega, by omega⟩
theorem ct_low {i : Int} {b : Nat} (hi : i.natAbs < 10 ^ 40) (h0 : 0 < b) (hb : b < 10 ^ 40) : ctOk (.num (low (i, b)).1 (low (i, b)).2) := by
  have hg0 : 0 < Nat.gcd i.natAbs b := Nat.gcd_pos_of_pos_right _ h0
  have hgi : Nat.gcd i.natAbs b ∣ i.natAbs := Nat.gcd_dvd_left _ _
  have hgb : Nat.gcd i.natAbs b ∣ b := Nat.gcd_dvd_right _ _
  have hd : ((Nat.gcd i.natAbs b : Nat) : Int) ∣ i := Int.natAbs_dvd_natAbs.mp (by simpa using hgi)
  have e : (i / ((Nat.gcd i.natAbs b : Nat) : Int)).natAbs = i.natAbs / Nat.gcd i.natAbs b := by
    have := Int.natAbs_ediv_of_dvd (a := i) (b := ((Nat.gcd i.natAbs b : Nat) : Int)) hd
    simpa using this
  refine ⟨?_, ?_, ?_, ?_⟩
  · show (i / ((Nat.gcd i.natAbs b : Nat) : Int)).natAbs < 10 ^ 40
    rw [e]
    exact Nat.lt_of_le_of_lt (Nat.div_le_self _ _) hi
  · exact Nat.div_pos (Nat.le_of_dvd h0 hgb) hg0
  · exact Nat.lt_of_le_of_lt (Nat.div_le_self _ _) hb
  · show Nat.gcd (i / ((Nat.gcd i.natAbs b : Nat) : Int)).natAbs (b / Nat.gcd i.natAbs b) = 1
    rw [e, Nat.gcd_div hgi hgb]
    exact Nat.div_self hg0
section
variable {K : PySem.W.Frag} {a : Addr} {b : Bool} {r : List V} {σ : S} {H H' : Hp} {te tf tl ti tb : TE} {ta tr : TA} {tt : TT} {P P1 P2 : PyData → Prop} {PA PA1 : List PyData → Prop} {D : Ends} {tz tu tw : TS} {v : V} {d : PyData}
theorem r_setSub {l : Addr} {xs : List V} {j : Nat} (hl : H l = some (.lst xs)) (h : Ev te σ H v) (ho : Ev tf σ H (.ref l)) (hi : Ev tb σ H (.int (j : Int))) (hj : j < xs.length) (k : ∀ H1, Ex H H1 → Run tz D σ (upd H1 l (.lst (xs.set j v)))) :
    Run (tSeq (tAsg te (gSub tf tb rSetL)) tz) D σ H := fun H1 e => q_setL (e _ _ hl) (h.mono e) (ho.mono e) (hi.mono e) hj fun H2 e2 => (k H2 (e.trans e2)).go
theorem v_lenQ {p : Addr} {xs : List V} (ha : Ev te σ H (.ref p)) (hl : SqL K H p xs) : Ev (tCB (fun xs H Q => ∃ p ys, xs = [.ref p] ∧ (SqL K H p ys ∨ SqT K H p ys) ∧ Q (.int ys.length) H) (tCons te tNil)) σ H (.int (xs.length : Int)) :=
  v_cb1 ha fun H1 Q e q => ⟨p, xs, rfl, .inl (ex_l e hl), q⟩
theorem v_I {C : Int → Int → Prop} {g : Int → Int → V} {i j : Int} (ha : Ev te σ H (.int i)) (hb : Ev tf σ H (.int j)) (hc : C i j) : Ev (tOp (rI C g) te tf) σ H (g i j) := ev_op ha hb (rv_I hc)
theorem esn : EvSA K a b r tNil σ H fun ds => ds.length = 0 ∧ ∀ d ∈ ds, P d := fun H1 _ s _ q => q [] [] H1 (Mv.refl a H1) s ⟨rfl, fun d h => by cases h⟩ .nil
theorem esc {n : Nat} (h : EvS K a b r te σ H P) (hr : EvSA K a b r tr σ H fun ds => ds.length = n ∧ ∀ d ∈ ds, P d) : EvSA K a b r (tCons te tr) σ H fun ds => ds.length = n + 1 ∧ ∀ d ∈ ds, P d := fun H1 m s _ q =>
  h H1 m s _ fun d v H2 m2 s2 p2 t2 => hr H2 (m.trans m2) s2 _ fun ds vs H3 m3 s3 ⟨p3, p4⟩ t3 => q _ _ H3 (m2.trans m3) s3 ⟨by simp [p3], fun d' hd => by
    rcases List.mem_cons.mp hd with rfl | hd
    · exact p2
    · exact p4 d' hd⟩ (.cons (t2.kp m3.2) t3)
/-- an item of a list of things each of which is P -/
theorem es_pick {n : Nat} (h : EvSA K a b r ta σ H fun ds => ds.length = n ∧ ∀ d ∈ ds, P d) (hi : EvS K a b r ti σ H fun d => ∃ k : Nat, d = .int (k : Int) ∧ k < n) (hn : n ≤ 100000 := by decide) : EvS K a b r (tOp (rIxL K) (tLst ta) ti) σ H P :=
  es_ixL (esl_lst h fun ds hp => by omega) hi fun ds hp => hp
theorem rs_ifSet {c : Bool} {i : Nat} (h : ∀ H1, Mv a H H1 → Sq a b r H1 → EvT tt σ H1 c) (h1 : c = true → EvS K a b r te σ H P) (h2 : c = false → ∃ d v, σ.set i (some v) = σ ∧ P d ∧ Tp K H v d) (k : ∀ d v H1, Mv a H H1 → P d → Tp K H1 v d → RunS a b r tz D (σ.set i (some v)) H1) :
    RunS a b r (tSeq (tIfS tt (tAsg te (gName i)) tNext) tz) D σ H := by
  refine rs_if h (fun hb => ?_) (fun hb => ?_)
  · exact es_nx (h1 hb) fun d v H1 m s p t => (k d v H1 m p t).go s
  · obtain ⟨d, v, e, p, t⟩ := h2 hb
    have := k d v H (Mv.refl a H) p t
    rw [e] at this
    exact this
end

section
variable {P : Program} {w : World} {K : PySem.W.Frag} {mg : Str → Option Value} {base : Heap} {f : Addr} {fd : FuncData} {aS aL cBF cBN cSE : Addr} {es : Array DictEntry} {nn : Nat}
/-! ### cell_at, state, choice -/
def spCell (K : PySem.W.Frag) : Sp := fun vs H Q _ => ∃ p is, ∃ k : Nat, vs = [V.ref p, .int (k : Int)] ∧ SqL K H p (List.map V.int is) ∧ ∀ i H', Ex H H' → Q (.int i) H'
theorem ok_cell_at2 (M : Md K w mg aS aL cBF cBN cSE es nn) (D : Df K mg "_law_cell_at" s_law_cell_at ["script", "k"] f fd) : FnOk P w K mg base CX0 1 f fd ["script", "k"] (spCell K) := by
  refine D.fn.ok sc_law_cell_at (fun vs H Q E h => ?_) (fun cdv A outer s H vs Q E hr h => ?_)
  · obtain ⟨p, is, k, rfl, _⟩ := h
    rfl
  obtain ⟨p, is, k, rfl, hs, q⟩ := h
  refine ⟨_, (pss_cons (ps_if (pt_cmpR op_lt (pv 1) (pe_callB call_len_seq (by rfl) M.b_len PySem.boot_len (pa_cons (pv 0) pa_nil)) (nomark _)) (pss_one (ps_ret (pe_ix ix_list (pv 0) (pv 1) (fun _ _ => rfl)))) pss_nil)
    (pss_one (ps_ret pe_int))), ?_⟩
  refine Run.go ?_
  have v0 : Ev (tVar 0) [some (.ref p), some (.int (k : Int))] H (.ref p) := ev_var rfl
  have v1 : Ev (tVar 1) [some (.ref p), some (.int (k : Int))] H (.int (k : Int)) := ev_var rfl
  refine r_if (b := decide (k < is.length)) (et_is (et_test (v_lt v1 (v_lenQ (K := K) v0 hs))) (decide_eq_decide.mpr (by simp))) (fun hb => ?_) (fun hb => ?_)
  · have hk := of_decide_eq_true hb
    refine r_ret (K := K) (d_int (i := is[k]) (ev_op v0 v1 (rv_ixL hs (atI_nat (by simp [List.getElem?_eq_getElem hk]))))) fun v H1 e t => ?_
    rw [t.int_eq]
    exact q _ H1 e
  · refine r_ret (K := K) (d_int ev_c) fun v H1 e t => ?_
    rw [t.int_eq]
    exact q _ H1 e
theorem r_cell {K : PySem.W.Frag} {σ : S} {H : Hp} {ta : TA} {p : Addr} {is : List Int} {k j : Nat} {E : XK} {D : Ends} {tz : TS} (h : EvA ta σ H [.ref p, .int (k : Int)]) (hs : SqL K H p (List.map V.int is)) (q : ∀ i H1, Ex H H1 → Run tz D (σ.set j (some (.int i))) H1) : Run (tSeq (tAsg (tCall (spCell K) [] E ta) (gName j)) tz) D σ H := fun H1 e =>
  h H1 e _ fun H2 e2 => ⟨p, is, k, rfl, ex_l (e.trans e2) hs, fun i H3 e3 => (q i H3 ((e.trans e2).trans e3)).go⟩
def spState (K : PySem.W.Frag) : Sp := fun vs H Q _ => ∃ p is, ∃ k : Nat, vs = [V.ref p, .int (k : Int)] ∧ SqL K H p (List.map V.int is) ∧ ∀ q b H', H q = none → Ex H H' → Sq q b [] H' → Q (.ref q) H'
theorem ok_state (M : Md K w mg aS aL cBF cBN cSE es nn) (D : Df K mg "_law_state" s_law_state ["script", "k"] f fd) (c_law_cell_at : Cl P w K mg base CX0 1 "_law_cell_at" (spCell K)) : FnOk P w K mg base CX0 2 f fd ["script", "k"] (spState K) := by
  refine D.fn.ok sc_law_state (fun vs H Q E h => ?_) (fun cdv A outer s H vs Q E hr h => ?_)
  · obtain ⟨p, is, k, rfl, _⟩ := h
    rfl
  obtain ⟨p, is, k, rfl, hs, q⟩ := h
  refine ⟨_, (pss_cons (ps_set (i := 2) sc_law_state.nd rfl (Or.inl rfl) (pe_cl c_law_cell_at hr (by omega) pass0 (pa_cons (pv 0) (pa_cons (pv 1) pa_nil))))
    (pss_cons (ps_if (pt_cmpR op_eq (pe_op op_modN (pv 2) pe_int) pe_int (nomark _)) (pss_one (ps_ret (pe_lst (pa_cons (pe_op op_fdivW (pv 2) pe_int) (pa_cons pe_bl pa_nil))))) pss_nil)
    (pss_one (ps_ret (pe_lst (pa_cons (pe_op op_modN (pe_op op_fdivW (pv 2) pe_int) pe_int) (pa_cons pe_bl pa_nil))))))), ?_⟩
  have v0 : Ev (tVar 0) [some (.ref p), some (.int (k : Int)), none] H (.ref p) := ev_var rfl
  have v1 : Ev (tVar 1) [some (.ref p), some (.int (k : Int)), none] H (.int (k : Int)) := ev_var rfl
  refine Run.go ?_
  refine r_cell (ea_cons v0 (ea_cons v1 ea_nil)) hs fun i H2 e2 => ?_
  have w2 : Ev (tVar 2) [some (.ref p), some (.int (k : Int)), some (.int i)] H2 (.int i) := ev_var rfl
  have dv : Ev (tOp (rI CDivW fun i j => .int (i / j)) (tVar 2) (tC (.int 2))) [some (.ref p), some (.int (k : Int)), some (.int i)] H2 (.int (i / 2)) := v_I w2 ev_c (wide_div (b := 2) (by decide) (by decide) (by decide) (by decide))
  have goL : ∀ (j : Int) (b : Bool) (te : TE), Ev te [some (.ref p), some (.int (k : Int)), some (.int i)] H2 (.int j) → (b = false → 0 ≤ j ∧ j < 2147483647) → ∀ D : Ends, D.rt = Q → Run (tRet (tLst (tCons te (tCons (tC (.bl b)) tNil)))) D [some (.ref p), some (.int (k : Int)), some (.int i)] H2 := fun j b te hj hb D hD H3 e3 => by
    refine dl_lst (K := K) (da_cons (d_int hj) (da_cons (d_bl ev_c) da_nil)) (by simp) H3 e3 _ fun l xs H4 hl e4 hx t => ?_
    rw [hD]
    obtain ⟨x, y, rfl, g1, g2⟩ := t.two_eq
    obtain rfl := g1.int_eq
    obtain rfl := g2.bl_eq
    exact q l b H4 (fresh_back (e2.trans e3) hl) ((e2.trans e3).trans e4) ⟨j, hx, hb⟩
  refine r_if (et_is (t_eqI (v_I (C := fun _ j => j ≠ 0) (g := fun i j => .int (i.fmod j)) w2 ev_c (by decide)) ev_c) rfl) (fun hb => ?_) (fun hb => ?_)
  · exact goL _ true _ dv (fun h => nomatch h) _ rfl
  · refine goL _ false _ (v_I (C := fun _ j => j ≠ 0) (g := fun i j => .int (i.fmod j)) dv ev_c (by decide)) (fun _ => ?_) _ rfl
    obtain ⟨n, h1, h2⟩ := fm (i / 2) (m := 2147483647) (by decide)
    have h1' : (i / 2).fmod 2147483647 = (n : Int) := h1
    rw [h1']
    omega
theorem ok_choice (M : Md K w mg aS aL cBF cBN cSE es nn) (D : Df K mg "_law_choice" s_law_choice ["state", "many"] f fd) : FnOk P w K mg base CX0 1 f fd ["state", "many"] (spS K preC resC) := by
  refine D.fn.ok sc_law_choice (fun vs H Q E h => ?_) (fun cdv A outer s H vs Q E hr h => ?_)
  · obtain ⟨a, b, r, ws, ds, rfl, _, hd, ⟨m, rfl, _⟩, _⟩ := h
    simp [hd.len]
  obtain ⟨a, b, r, ws, ds, rfl, ⟨s0, hs, hb0⟩, hd, ⟨m, rfl, hm1, hm2⟩, q⟩ := h
  obtain ⟨x, rfl, h1⟩ := hd.one_eq
  obtain rfl := h1.int_eq
  have back : ∀ (n : Nat) (s1 : Int) (H1 H2 : Hp) (v : V), n < m → (b = false → 0 ≤ s1 ∧ s1 < 2147483647) → Ex H H1 → Ex (upd H1 a (.lst (.int s1 :: .bl b :: r))) H2 → Tp K H2 v (.int (n : Int)) → Q v H2 := fun n s1 H1 H2 v hn hb e1 e2 t =>
    q (.int (n : Int)) v H2 (((Mv.of e1).trans (Mv.set (e1 _ _ hs))).trans (Mv.of e2)) ⟨s1, e2 _ _ upd_same, hb⟩ ⟨m, n, rfl, rfl, hn⟩ t
  refine ⟨_, (pss_cons (ps_if (pt_val (pe_ix ix_list (pv 0) pe_int (fun _ _ => rfl))) (pss_cons (ps_set (i := 2) sc_law_choice.nd rfl (Or.inl rfl) (pe_op op_modN (pe_ix ix_list (pv 0) pe_int (fun _ _ => rfl)) (pv 1)))
    (pss_cons (ps_asg (pe_op op_fdivW (pe_ix ix_list (pv 0) pe_int (fun _ _ => rfl)) (pv 1)) (pg_sub (pv 0) pe_int set_list))
    (pss_one (ps_ret (pv 2))))) pss_nil)
    (pss_cons (ps_asg (pe_op op_modN (pe_op op_add (pe_op op_mul (pe_ix ix_list (pv 0) pe_int (fun _ _ => rfl)) pe_int) pe_int) pe_int) (pg_sub (pv 0) pe_int set_list))
    (pss_cons (ps_set (i := 3) sc_law_choice.nd rfl (Or.inl rfl) (pe_op op_modN (pe_op op_add (pe_op op_add (pe_op op_mul (pe_ix ix_list (pv 0) pe_int (fun _ _ => rfl)) (pe_ix ix_list (pv 0) pe_int (fun _ _ => rfl))) (pe_op op_mul pe_int (pe_ix ix_list (pv 0) pe_int (fun _ _ => rfl)))) pe_int) pe_int))
    (pss_cons (ps_set (i := 3) sc_law_choice.nd rfl (Or.inl rfl) (pe_op op_modN (pe_op op_add (pe_op op_mul (pv 3) (pv 3)) (pe_op op_mul pe_int (pv 3))) pe_int))
    (pss_one (ps_ret (pe_op op_modN (pe_op op_fdivW (pv 3) pe_int) (pv 1)))))))), ?_⟩
  refine Run.go ?_
  have v0 : Ev (tVar 0) [some (.ref a), some (.int (m : Int)), none, none] H (.ref a) := ev_var rfl
  have v1 : Ev (tVar 1) [some (.ref a), some (.int (m : Int)), none, none] H (.int (m : Int)) := ev_var rfl
  have st : Ev (tOp (rIxL K) (tVar 0) (tC (.int 0))) [some (.ref a), some (.int (m : Int)), none, none] H (.int s0) := v_ixL v0 (ev_c (v := .int 0)) hs (j := 0) rfl
  refine r_if (b := b) (et_B (v_ixL (K := K) v0 (ev_c (v := .int 1)) hs (j := 1) rfl)) (fun hb => ?_) (fun hb => ?_)
  · subst hb
    refine r_set (v_I (C := fun _ j => j ≠ 0) (g := fun i j => .int (i.fmod j)) st v1 (by omega)) ?_
    obtain ⟨n, hn, hlt⟩ := fm s0 (m := m) (by omega)
    rw [hn]
    have w0 : Ev (tVar 0) [some (.ref a), some (.int (m : Int)), some (.int (n : Int)), none] H (.ref a) := ev_var rfl
    have w1 : Ev (tVar 1) [some (.ref a), some (.int (m : Int)), some (.int (n : Int)), none] H (.int (m : Int)) := ev_var rfl
    refine r_setSub (j := 0) hs (v_I (C := CDivW) (g := fun i j => .int (i / j)) (v_ixL w0 (ev_c (v := .int 0)) hs (j := 0) rfl) w1 (wide_div (b := 30) (by omega) (by simp; omega) (by decide) (by decide))) w0 (ev_c (v := .int 0)) (by simp) fun H1 e1 => ?_
    exact r_ret (d_int (ev_var rfl)) fun v H2 e2 t => back n _ H1 H2 v hlt (fun h => nomatch h) e1 e2 t
  · subst hb
    obtain ⟨b1, b2⟩ := hb0 rfl
    refine r_setSub (j := 0) hs (v_I (C := fun _ j => j ≠ 0) (g := fun i j => .int (i.fmod j)) (v_add (v_I (C := CMul) (g := fun i j => .int (i * j)) st ev_c (.inr ⟨by decide, by decide⟩)) ev_c) ev_c (by decide)) v0 (ev_c (v := .int 0)) (by simp) fun H1 e1 => ?_
    obtain ⟨n0, hn0, hl0⟩ := fm (s0 * 48271 + 29) (m := 2147483647) (by decide)
    have hn0' : (s0 * 48271 + 29).fmod 2147483647 = (n0 : Int) := hn0
    rw [hn0']
    show Run _ _ _ (upd H1 a (.lst (.int (n0 : Int) :: .bl false :: r)))
    have hu : (upd H1 a (.lst (.int (n0 : Int) :: .bl false :: r))) a = some (.lst (.int (n0 : Int) :: .bl false :: r)) := upd_same
    have u0 : Ev (tVar 0) [some (.ref a), some (.int (m : Int)), none, none] (upd H1 a (.lst (.int (n0 : Int) :: .bl false :: r))) (.ref a) := ev_var rfl
    have su : Ev (tOp (rIxL K) (tVar 0) (tC (.int 0))) [some (.ref a), some (.int (m : Int)), none, none] (upd H1 a (.lst (.int (n0 : Int) :: .bl false :: r))) (.int (n0 : Int)) := v_ixL u0 (ev_c (v := .int 0)) hu (j := 0) rfl
    refine r_set (v_I (C := fun _ j => j ≠ 0) (g := fun i j => .int (i.fmod j)) (v_add (v_add (v_I (C := CMul) (g := fun i j => .int (i * j)) su su (.inl ⟨by omega, by omega⟩)) (v_I (C := CMul) (g := fun i j => .int (i * j)) ev_c su (.inl ⟨by decide, by decide⟩))) ev_c) ev_c (by decide)) ?_
    obtain ⟨n1, hn1, hl1⟩ := fm ((n0 : Int) * n0 + 39373 * n0 + 7) (m := 2147483629) (by decide)
    have hn1' : ((n0 : Int) * n0 + 39373 * n0 + 7).fmod 2147483629 = (n1 : Int) := hn1
    rw [hn1']
    have x3 : Ev (tVar 3) [some (.ref a), some (.int (m : Int)), none, some (.int (n1 : Int))] (upd H1 a (.lst (.int (n0 : Int) :: .bl false :: r))) (.int (n1 : Int)) := ev_var rfl
    refine r_set (v_I (C := fun _ j => j ≠ 0) (g := fun i j => .int (i.fmod j)) (v_add (v_I (C := CMul) (g := fun i j => .int (i * j)) x3 x3 (.inl ⟨by omega, by omega⟩)) (v_I (C := CMul) (g := fun i j => .int (i * j)) ev_c x3 (.inl ⟨by decide, by decide⟩))) ev_c (by decide)) ?_
    obtain ⟨n2, hn2, hl2⟩ := fm ((n1 : Int) * n1 + 16807 * n1) (m := 2147483587) (by decide)
    have hn2' : ((n1 : Int) * n1 + 16807 * n1).fmod 2147483587 = (n2 : Int) := hn2
    rw [hn2']
    have y3 : Ev (tVar 3) [some (.ref a), some (.int (m : Int)), none, some (.int (n2 : Int))] (upd H1 a (.lst (.int (n0 : Int) :: .bl false :: r))) (.int (n2 : Int)) := ev_var rfl
    have y1 : Ev (tVar 1) [some (.ref a), some (.int (m : Int)), none, some (.int (n2 : Int))] (upd H1 a (.lst (.int (n0 : Int) :: .bl false :: r))) (.int (m : Int)) := ev_var rfl
    obtain ⟨n3, hn3, hl3⟩ := fm ((n2 : Int) / 8) (m := m) (by omega)
    refine r_ret (d_int (ev_is (v_I (C := fun _ j => j ≠ 0) (g := fun i j => .int (i.fmod j)) (v_I (C := CDivW) (g := fun i j => .int (i / j)) y3 ev_c (wide_div (b := 4) (by decide) (by decide) (by decide) (by decide))) y1 (by omega)) (show V.int (((n2 : Int) / 8).fmod (m : Int)) = .int (n3 : Int) by rw [hn3]))) fun v H2 e2 t => back n3 _ H1 H2 v hl3 (fun _ => ⟨by omega, by omega⟩) e1 e2 t
/-! ### lowest, number -/
def pLowest : List PyData → PyData → Prop := fun ds d => ∃ (i : Int) (b : Nat), ds = [.int i, .int (b : Int)] ∧ i.natAbs < BIG ∧ 0 < b ∧ b < BIG ∧ d = fracD (low (i, b)).1 (low (i, b)).2
theorem ok_lowest (M : Md K w mg aS aL cBF cBN cSE es nn) (D : Df K mg "_law_lowest" s_law_lowest ["top", "bottom"] f fd) : FnOk P w K mg base CX0 1 f fd ["top", "bottom"] (spF K pLowest) := by
  refine D.fn.ok sc_law_lowest (fun vs H Q E h => ?_) (fun cdv A outer s H vs Q E hr h => ?_)
  · obtain ⟨ds, d, hd, ⟨i, b, rfl, _⟩, _⟩ := h
    exact hd.len
  obtain ⟨ds, d, hd, ⟨i, b, rfl, hi, h0, hb, rfl⟩, q⟩ := h
  obtain ⟨x, y, rfl, h1, h2⟩ := hd.two_eq
  obtain rfl := h1.int_eq
  obtain rfl := h2.int_eq
  refine ⟨_, (pss_cons (ps_set (i := 2) sc_law_lowest.nd rfl (Or.inl rfl) (pe_callB call_abs (by rfl) M.b_abs (by decide +kernel) (pa_cons (pv 0) pa_nil)))
    (pss_cons (ps_set (i := 3) sc_law_lowest.nd rfl (Or.inl rfl) (pv 1))
    (pss_cons (ps_while PassesOwn.never (pt_cmpR op_gt (pv 3) pe_int (nomark _)) (pss_cons (ps_set (i := 4) sc_law_lowest.nd rfl (Or.inl rfl) (pe_op op_modN (pv 2) (pv 3)))
    (pss_cons (ps_set (i := 2) sc_law_lowest.nd rfl (Or.inl rfl) (pv 3))
    (pss_one (ps_set (i := 3) sc_law_lowest.nd rfl (Or.inl rfl) (pv 4))))))
    (pss_cons (ps_if (PW.pt (pw_or (pt_cmpR op_gt (pe_callB call_len_str (by rfl) M.b_len PySem.boot_len (pa_cons (pe_callTy call_str_int (by rfl) M.b_str (by decide +kernel) (pa_cons (pe_op op_fdivW (pe_callB call_abs (by rfl) M.b_abs (by decide +kernel) (pa_cons (pv 0) pa_nil)) (pv 2)) pa_nil)) pa_nil)) pe_int (nomark _)) (pw_or1 (pt_cmpR op_gt (pe_callB call_len_str (by rfl) M.b_len PySem.boot_len (pa_cons (pe_callTy call_str_int (by rfl) M.b_str (by decide +kernel) (pa_cons (pe_op op_fdivW (pv 1) (pv 2)) pa_nil)) pa_nil)) pe_int (nomark _))))) (pss_one (ps_ret (pe_tup (pa_cons pe_str (pa_cons pe_str pa_nil))))) pss_nil)
    (pss_one (ps_ret (pe_tup (pa_cons pe_str (pa_cons (pe_op op_fdivW (pv 0) (pv 2)) (pa_cons (pe_op op_fdivW (pv 1) (pv 2)) pa_nil)))))))))), ?_⟩
  refine Run.go ?_
  have hg0 : 0 < Nat.gcd i.natAbs b := Nat.gcd_pos_of_pos_right _ h0
  have hgb : Nat.gcd i.natAbs b ≤ b := Nat.gcd_le_right _ h0
  have hgi : Nat.gcd i.natAbs b ∣ i.natAbs := Nat.gcd_dvd_left _ _
  refine r_set (v_abs (ev_var rfl)) ?_
  refine r_set (ev_var rfl) ?_
  refine r_while (fun m σ' H' => Ex H H' ∧ ∃ (c : Nat) (x : Option V), σ' = [some (.int i), some (.int (b : Int)), some (.int (c : Int)), some (.int (m : Int)), x] ∧ Nat.gcd c m = Nat.gcd i.natAbs b) b (fun H1 e => ⟨e, i.natAbs, none, rfl, rfl⟩) ?_
  rintro m σ' H' ⟨e, c, x, rfl, hg⟩
  have v2 : Ev (tVar 2) [some (.int i), some (.int (b : Int)), some (.int (c : Int)), some (.int (m : Int)), x] H' (.int (c : Int)) := ev_var rfl
  have v3 : Ev (tVar 3) [some (.int i), some (.int (b : Int)), some (.int (c : Int)), some (.int (m : Int)), x] H' (.int (m : Int)) := ev_var rfl
  have t := et_test (v_gt v3 (ev_c (v := .int 0)))
  cases m with
  | succ m =>
    refine .inl ⟨et_is t (by simp), ?_⟩
    refine r_set (v_I (C := fun _ j => j ≠ 0) (g := fun i j => .int (i.fmod j)) v2 v3 (by omega)) ?_
    refine r_set (ev_var rfl) ?_
    refine e_set (ev_var rfl) fun H2 e2 => ⟨c % (m + 1), Nat.mod_lt _ (by omega), e.trans e2, m + 1, some (.int ((c : Int).fmod ((m + 1 : Nat) : Int))), ?_, ?_⟩
    · have e3 : Int.fmod (c : Int) ((m + 1 : Nat) : Int) = ((c % (m + 1) : Nat) : Int) := by
        rw [Int.fmod_eq_emod_of_nonneg _ (by omega)]
        rfl
      rw [e3]
      rfl
    · rw [← hg, Nat.gcd_comm c (m + 1), Nat.gcd_rec (m + 1) c, Nat.gcd_comm]
  | zero =>
    refine .inr ⟨et_is t (by simp), ?_⟩
    rw [Nat.gcd_zero_right] at hg
    subst hg
    generalize hg : Nat.gcd i.natAbs b = g at *
    have hlow : low (i, b) = (i / (g : Int), b / g) := by unfold low; simp only [hg]
    rw [hlow] at q
    have cdiv : ∀ j : Int, CDivW j (g : Int) := fun j => wide_div (b := 140) (by omega) (Nat.lt_of_le_of_lt hgb (Nat.lt_trans hb big_lt)) (by decide) (by decide)
    have w0 : Ev (tVar 0) [some (.int i), some (.int (b : Int)), some (.int (g : Int)), some (.int 0), x] H' (.int i) := ev_var rfl
    have w1 : Ev (tVar 1) [some (.int i), some (.int (b : Int)), some (.int (g : Int)), some (.int 0), x] H' (.int (b : Int)) := ev_var rfl
    have w2 : Ev (tVar 2) [some (.int i), some (.int (b : Int)), some (.int (g : Int)), some (.int 0), x] H' (.int (g : Int)) := ev_var rfl
    have q0 : Ev _ _ H' (.int ((i.natAbs / g : Nat) : Int)) := ev_is (v_I (C := CDivW) (g := fun i j => .int (i / j)) (v_abs w0) w2 (cdiv _)) rfl
    have q1 : Ev _ _ H' (.int (i / (g : Int))) := v_I (C := CDivW) (g := fun i j => .int (i / j)) w0 w2 (cdiv _)
    have q2 : Ev _ _ H' (.int ((b / g : Nat) : Int)) := ev_is (v_I (C := CDivW) (g := fun i j => .int (i / j)) w1 w2 (cdiv _)) rfl
    have l0 : i.natAbs / g < 10 ^ 40 := Nat.lt_of_le_of_lt (Nat.div_le_self _ _) hi
    have l2 : b / g < 10 ^ 40 := Nat.lt_of_le_of_lt (Nat.div_le_self _ _) hb
    have k0 := TL.numL_len (k := 40) (by decide) l0
    have k2 := TL.numL_len (k := 40) (by decide) l2
    have big : 10 ^ 40 ≤ 10 ^ 100 := by decide +kernel
    have n0 := v_len (v_toS q0 (Nat.lt_of_lt_of_le l0 big)) (by rw [tx_len]; omega)
    have n2 := v_len (v_toS q2 (Nat.lt_of_lt_of_le l2 big)) (by rw [tx_len]; omega)
    rw [tx_len] at n0 n2
    refine r_no (et_is (et_or (a := false) (b := false) (et_is (et_test (v_gt n0 ev_c)) (decide_eq_false (by omega))) fun _ => et_is (et_test (v_gt n2 ev_c)) (decide_eq_false (by omega))) rfl) ?_
    exact r_ret (d_tup (da_cons (d_str ev_c) (da_cons (d_int q1) (da_cons (d_int q2) da_nil)))) fun v H2 e2 t => q v H2 (e.trans e2) t
def preN : List PyData → Prop := fun ds => ds = []
def resNum : List PyData → PyData → Prop := fun _ d => ∃ i b, d = fracD i b ∧ ctOk (.num i b)
theorem ok_law_number (M : Md K w mg aS aL cBF cBN cSE es nn) (D : Df K mg "_law_number" s_law_number ["state"] f fd) (c_law_choice : Cl P w K mg base CX0 1 "_law_choice" (spS K preC resC)) (c_law_lowest : Cl P w K mg base CX0 1 "_law_lowest" (spF K pLowest)) :
    FnOk P w K mg base CX0 2 f fd ["state"] (spS K preN resNum) := by
  refine D.fn.ok sc_law_number (fun vs H Q E h => ?_) (fun cdv A outer s H vs Q E hr h => ?_)
  · obtain ⟨a, b, r, ws, ds, rfl, _, hd, rfl, _⟩ := h
    simp [hd.len]
  obtain ⟨a, b, r, ws, ds, rfl, hs, hd, rfl, q⟩ := h
  cases hd
  refine ⟨_, (pss_cons (ps_set (i := 1) sc_law_number.nd rfl (Or.inl rfl) (pe_cl c_law_choice hr (by omega) pass0 (pa_cons (pv 0) (pa_cons pe_int pa_nil))))
    (pss_cons (ps_if (pt_cmpR op_eq (pv 1) pe_int (nomark _)) (pss_one (ps_ret (pe_tup (pa_cons pe_str (pa_cons pe_int (pa_cons pe_int pa_nil)))))) pss_nil)
    (pss_cons (ps_if (pt_cmpR op_lt (pv 1) pe_int (nomark _)) (pss_one (ps_ret (pe_cl c_law_lowest hr (by omega) pass0 (pa_cons (pe_op op_sub (pe_cl c_law_choice hr (by omega) pass0 (pa_cons (pv 0) (pa_cons pe_int pa_nil))) pe_int) (pa_cons (pe_op op_add pe_int (pe_cl c_law_choice hr (by omega) pass0 (pa_cons (pv 0) (pa_cons pe_int pa_nil)))) pa_nil))))) pss_nil)
    (pss_cons (ps_set (i := 2) sc_law_number.nd rfl (Or.inl rfl) (pe_op op_sub (pe_ix ix_list (pe_lst (pa_cons (pe_op op_pow pe_int pe_int) (pa_cons (pe_op op_sub (pe_op op_pow pe_int pe_int) pe_int) (pa_cons (pe_op op_pow pe_int pe_int) (pa_cons pe_int pa_nil))))) (pe_cl c_law_choice hr (by omega) pass0 (pa_cons (pv 0) (pa_cons pe_int pa_nil))) (fun _ _ => rfl)) (pe_op op_modN (pe_cl c_law_choice hr (by omega) pass0 (pa_cons (pv 0) (pa_cons pe_int pa_nil))) pe_int)))
    (pss_cons (ps_if (pt_cmpR op_eq (pv 1) pe_int (nomark _)) (pss_one (ps_ret (pe_cl c_law_lowest hr (by omega) pass0 (pa_cons (pv 2) (pa_cons (pe_op op_add pe_int (pe_cl c_law_choice hr (by omega) pass0 (pa_cons (pv 0) (pa_cons pe_int pa_nil)))) pa_nil))))) pss_nil)
    (pss_one (ps_ret (pe_cl c_law_lowest hr (by omega) pass0 (pa_cons (pe_op op_sub (pe_op op_sub pe_int pe_int) (pe_cl c_law_choice hr (by omega) pass0 (pa_cons (pv 0) (pa_cons pe_int pa_nil)))) (pa_cons (pe_callB (call_max2 rfl) (by rfl) M.b_max (by decide +kernel) (pa_cons pe_int (pa_cons (pv 2) pa_nil))) pa_nil)))))))))), ?_⟩
  refine RunS.go ?_ hs
  have low_ : ∀ {te tf : TE} {σ : S} {H : Hp}, EvS K a b r te σ H (fun d => ∃ i, d = .int i ∧ i.natAbs < 10 ^ 40) → EvS K a b r tf σ H (fun d => ∃ i, d = .int i ∧ 0 < i ∧ i < 10 ^ 40) → EvS K a b r (tCall (spF K pLowest) [] E0 (tCons te (tCons tf tNil))) σ H (resNum []) := fun h1 h2 =>
    es_call (esa_cons h1 (esa_cons h2 esa_nil)) fun ds ⟨d1, ds1, e1, ⟨i, e2, hi⟩, d2, ds2, e3, ⟨j, e4, hj⟩, e5⟩ => by
      subst e1 e2 e3 e4 e5
      have hj' : (j.toNat : Int) = j := by omega
      exact ⟨_, ⟨i, j.toNat, by rw [hj'], hi, by omega, show j.toNat < 10 ^ 40 by omega, rfl⟩, _, _, rfl, ct_low hi (by omega) (by omega)⟩
  refine rs_set (es_chC 6 rfl) fun d v H1 m1 ⟨kd, hk, hk6⟩ t1 => ?_
  subst hk
  obtain rfl := t1.int_eq
  refine rs_if (fun H1 _ _ => t_eqI (ev_var rfl) ev_c) (fun hb => ?_) (fun hb => ?_)
  · exact rs_ret (P := resNum []) (es_of (fun _ _ _ => d_tup (da_cons (d_str ev_c) (da_cons (d_int ev_c) (da_cons (d_int ev_c) da_nil)))) ⟨0, 1, rfl, by decide, by decide, by decide, by decide⟩) fun d v H2 m2 s2 p t => q d v H2 (m1.trans m2) s2 p t
  refine rs_if (fun H1 _ _ => et_test (v_lt (ev_var rfl) ev_c)) (fun hb2 => ?_) (fun hb2 => ?_)
  · refine rs_ret (low_ ?_ ?_) fun d v H2 m2 s2 p t => q d v H2 (m1.trans m2) s2 p t
    · exact es_I0 (es_chI 41 rfl) es_cI fun i j h1 h2 => by omega
    · exact es_I0 es_cI (es_chI 9 rfl) fun i j h1 h2 => by omega
  have pw : ∀ {σ : S} {H : Hp} (n : Nat), n ≤ 1000000 → EvS K a b r (tOp (rI CPow fun i j => .int (i ^ j.toNat)) (tC (.int 10)) (tC (.int (n : Int)))) σ H fun d => ∃ i, d = .int i ∧ i = 10 ^ n := fun n hn =>
    es_I es_cI es_cI fun i j h1 h2 => by
      subst h1 h2
      exact ⟨⟨by omega, by omega, by decide⟩, by simp⟩
  refine rs_set (K := K) (P := fun d => ∃ i, d = .int i ∧ 0 < i ∧ i < 10 ^ 40) (es_I0 (p1 := fun i => 7 ≤ i ∧ i < 10 ^ 40) (p2 := fun j => 0 ≤ j ∧ j < 7) ?_ ?_ fun i j h1 h2 => by omega) fun d v H2 m2 ⟨g, hg, g1, g2⟩ t2 => ?_
  · refine es_pick (esc ?_ (esc ?_ (esc ?_ (esc ?_ esn)))) (es_chC 4 rfl)
    · exact (pw 39 (by decide)).imp fun d ⟨i, e, hi⟩ => ⟨i, e, by omega⟩
    · exact es_I0 (pw 40 (by decide)) es_cI fun i j h1 h2 => by omega
    · exact (pw 20 (by decide)).imp fun d ⟨i, e, hi⟩ => ⟨i, e, by omega⟩
    · exact es_int ⟨_, rfl, by omega⟩
  · exact es_I (es_chI 1000 rfl) es_cI fun i j h1 h2 => ⟨by omega, by
      subst h2
      obtain ⟨n, e, hn⟩ := fm i (m := 7) (by decide)
      have e' : i.fmod 7 = (n : Int) := e
      rw [e']
      omega⟩
  subst hg
  obtain rfl := t2.int_eq
  have gv : ∀ {H' : Hp}, EvS K a b r (tVar 2) [some (.ref a), some (.int (kd : Int)), some (.int g)] H' fun d => ∃ i, d = .int i ∧ i = g := es_var rfl (.int g) ⟨g, rfl, rfl⟩
  refine rs_if (fun H1 _ _ => t_eqI (ev_var rfl) ev_c) (fun hb3 => ?_) (fun hb3 => ?_)
  · refine rs_ret (low_ ?_ ?_) fun d v H3 m3 s3 p t => q d v H3 ((m1.trans m2).trans m3) s3 p t
    · exact gv.imp fun d ⟨i, e, hi⟩ => ⟨i, e, by omega⟩
    · exact es_I0 es_cI (es_chI 12 rfl) fun i j h1 h2 => by omega
  · refine rs_ret (low_ ?_ ?_) fun d v H3 m3 s3 p t => q d v H3 ((m1.trans m2).trans m3) s3 p t
    · exact es_I0 (p1 := fun i => i = -1) (es_I0 es_cI es_cI fun i j h1 h2 => by omega) (es_chI 12 rfl) fun i j h1 h2 => by omega
    · exact es_max es_cI gv fun i j h1 h2 => by split <;> omega
end
end Ws
end

section
set_option Elab.async false
set_option linter.all false
set_option maxRecDepth 100000
set_option maxHeartbeats 4000000
namespace Ws
open PySem PySem.Spec PyProof.Rows L2 Evl

theorem lit_t {z : Str} {k : Nat} {p : Nat → Bool} (h : decide ((TL.tl z).length ≤ k) && (TL.tl z).all p = true) : ∃ t : List Nat, PyData.str z = .str (tx t) ∧ t.length ≤ k ∧ ∀ c ∈ t, p c = true := by
  simp only [Bool.and_eq_true, decide_eq_true_eq, List.all_eq_true] at h
  exact ⟨TL.tl z, by rw [tx_tl], h.1, h.2⟩
theorem lit_w {z : Str} {p : Nat → Bool} (h : wordOk p (TL.tl z) = true) : ∃ t : List Nat, PyData.str z = .str (tx t) ∧ wordOk p t = true := ⟨TL.tl z, by rw [tx_tl], h⟩
section
variable {P : Program} {w : World} {K : PySem.W.Frag} {mg : Str → Option Value} {base : Heap} {f : Addr} {fd : FuncData} {aS aL cBF cBN cSE : Addr} {es : Array DictEntry} {nn : Nat}
/-! ### text, words, leaf -/
def resText : List PyData → PyData → Prop := fun _ d => ∃ t : List Nat, d = .str (tx t) ∧ t.length ≤ 60 ∧ ∀ c ∈ t, c < 128
theorem ok_law_text (M : Md K w mg aS aL cBF cBN cSE es nn) (D : Df K mg "_law_text" s_law_text ["state"] f fd) (c_law_choice : Cl P w K mg base CX0 1 "_law_choice" (spS K preC resC)) : FnOk P w K mg base CX0 2 f fd ["state"] (spS K preN resText) := by
  refine D.fn.ok sc_law_text (fun vs H Q E h => ?_) (fun cdv A outer s H vs Q E hr h => ?_)
  · obtain ⟨a, b, r, ws, ds, rfl, _, hd, rfl, _⟩ := h
    simp [hd.len]
  obtain ⟨a, b, r, ws, ds, rfl, hs, hd, rfl, q⟩ := h
  cases hd
  refine ⟨_, (pss_cons (ps_set (i := 1) sc_law_text.nd rfl (Or.inr rfl) pe_str)
    (pss_cons (ps_set (i := 2) sc_law_text.nd rfl (Or.inl rfl) (pe_cl c_law_choice hr (by omega) pass0 (pa_cons (pv 0) (pa_cons pe_int pa_nil))))
    (pss_cons (ps_if (pt_cmpR op_eq (pv 2) pe_int (nomark _)) (pss_one (ps_set (i := 2) sc_law_text.nd rfl (Or.inl rfl) (pe_op op_add pe_int (pe_cl c_law_choice hr (by omega) pass0 (pa_cons (pv 0) (pa_cons pe_int pa_nil)))))) pss_nil)
    (pss_one (ps_ret (pe_join pe_str (pe_lc (own := [("k", 3)]) (g := gName 3) (tt := tYes) rfl sc_law_text.nd (pi_range1 (by rfl) M.b_range (pa_cons (pv 2) pa_nil)) (blkOk_by (N := ["state", "signs", "count", "k"]) (sc := defScope s_law_text) (by decide +kernel)) (fun _ _ _ _ _ => pg_name (i := 3) sc_law_text.nd rfl (Or.inl rfl)) (fun _ _ _ _ _ => pts_nil) (fun _ _ _ _ _ => (pe_ix ix_str (pv 1) (pe_cl c_law_choice hr (by omega) pass0 (pa_cons (pv 0) (pa_cons pe_int pa_nil))) (fun _ _ => rfl)))))))))), ?_⟩
  refine RunS.go ?_ hs
  have hl : ("ab 1\"=/-'&+T.,()A" : Str) = tx [97, 98, 32, 49, 34, 61, 47, 45, 39, 38, 43, 84, 46, 44, 40, 41, 65] := by decide +kernel
  refine rs_set (K := K) (es_str rfl) fun d v H1 m1 hd t1 => ?_
  subst hd
  obtain rfl := t1.str_eq
  refine rs_set (es_chC 7 rfl) fun d v H2 m2 ⟨kd, hk, hk7⟩ t2 => ?_
  subst hk
  obtain rfl := t2.int_eq
  refine rs_ifSet (K := K) (P := fun d => ∃ k : Nat, d = .int (k : Int) ∧ k ≤ 60) (fun H1 _ _ => t_eqI (ev_var rfl) ev_c) (fun hb => ?_) (fun hb => ⟨_, .int (kd : Int), rfl, ⟨kd, rfl, by omega⟩, .int _⟩) fun d v H3 m3 ⟨k3, hk, hk3⟩ t3 => ?_
  · exact (es_I0 (p := fun i => 0 ≤ i ∧ i ≤ 60) es_cI (es_chI 3 rfl) fun i j h1 h2 => by omega).imp fun d ⟨i, e, hi⟩ => ⟨i.toNat, by rw [e]; congr 1; omega, by omega⟩
  subst hk
  obtain rfl := t3.int_eq
  refine rs_ret (es_join (k := 1) (n := 60) (p := fun c => c < 128) (esl_lc (by decide) (es_var rfl (.int _) ⟨k3, rfl, hk3⟩) (fun x => rfl) fun x => ?_) (by decide)) fun d v H4 m4 s4 p t => q d v H4 (((m1.trans m2).trans m3).trans m4) s4 p t
  refine (es_ixS (n := 17) (es_var rfl (.str _) (congrArg PyData.str hl)) (es_chC 17 rfl) rfl (by decide)).imp ?_
  rintro d ⟨c, hc, rfl⟩
  refine ⟨[c], rfl, Nat.le_refl _, fun c' h' => ?_⟩
  rw [List.mem_singleton.mp h']
  have : ∀ x ∈ [97, 98, 32, 49, 34, 61, 47, 45, 39, 38, 43, 84, 46, 44, 40, 41, 65], x < 128 := by decide
  exact this c hc
def resWords : List PyData → PyData → Prop := fun _ d => ∃ t : List Nat, d = .str (tx t) ∧ t.length ≤ 8 ∧ ∀ c ∈ t, isAllowed c = true
theorem ok_law_words (M : Md K w mg aS aL cBF cBN cSE es nn) (D : Df K mg "_law_words" s_law_words ["state"] f fd) (c_law_choice : Cl P w K mg base CX0 1 "_law_choice" (spS K preC resC)) : FnOk P w K mg base CX0 2 f fd ["state"] (spS K preN resWords) := by
  refine D.fn.ok sc_law_words (fun vs H Q E h => ?_) (fun cdv A outer s H vs Q E hr h => ?_)
  · obtain ⟨a, b, r, ws, ds, rfl, _, hd, rfl, _⟩ := h
    simp [hd.len]
  obtain ⟨a, b, r, ws, ds, rfl, hs, hd, rfl, q⟩ := h
  cases hd
  refine ⟨_, (pss_cons (ps_set (i := 1) sc_law_words.nd rfl (Or.inr rfl) (pe_lst (pa_cons pe_str (pa_cons pe_str (pa_cons pe_str (pa_cons pe_str (pa_cons pe_str (pa_cons pe_str (pa_cons pe_str (pa_cons pe_str pa_nil))))))))))
    (pss_one (ps_ret (pe_join pe_str (pe_lc (own := [("k", 2)]) (g := gName 2) (tt := tYes) rfl sc_law_words.nd (pi_range1 (by rfl) M.b_range (pa_cons (pe_cl c_law_choice hr (by omega) pass0 (pa_cons (pv 0) (pa_cons pe_int pa_nil))) pa_nil)) (blkOk_by (N := ["state", "some", "k"]) (sc := defScope s_law_words) (by decide +kernel)) (fun _ _ _ _ _ => pg_name (i := 2) sc_law_words.nd rfl (Or.inl rfl)) (fun _ _ _ _ _ => pts_nil) (fun _ _ _ _ _ => (pe_ix (show IxR _ (rIxL K) from ix_list) (pv 1) (pe_cl c_law_choice hr (by omega) pass0 (pa_cons (pv 0) (pa_cons pe_int pa_nil))) (fun _ _ => rfl)))))))), ?_⟩
  refine RunS.go ?_ hs
  have l1 : ∀ {z : Str} {σ : S} {H : Hp}, (decide ((TL.tl z).length ≤ 2) && (TL.tl z).all isAllowed = true) → EvS K a b r (tC (.str z)) σ H fun d => ∃ t : List Nat, d = .str (tx t) ∧ t.length ≤ 2 ∧ ∀ c ∈ t, isAllowed c = true := fun h => es_str (lit_t h)
  refine rs_setL (K := K) (esl_lst (esc (l1 (by decide +kernel)) (esc (l1 (by decide +kernel)) (esc (l1 (by decide +kernel)) (esc (l1 (by decide +kernel)) (esc (l1 (by decide +kernel)) (esc (l1 (by decide +kernel)) (esc (l1 (by decide +kernel)) (esc (l1 (by decide +kernel)) esn)))))))) fun ds h => by omega) fun ds p xs H1 m1 hx hne hp t1 => ?_
  refine rs_ret (es_join (k := 2) (n := 4) (p := fun c => isAllowed c = true) (esl_lc (by decide) ((es_chC 5 rfl).imp fun d ⟨k, e, h⟩ => ⟨k, e, by omega⟩) (fun x => rfl) fun x => ?_) (by decide)) fun d v H4 m4 s4 p t => q d v H4 (m1.trans m4) s4 p t
  exact es_ixV (n := 8) rfl hne hx t1 (es_chC 8 rfl) hp.1 hp.2
def resLeaf : List PyData → PyData → Prop := fun _ d => ∃ f, d = toD f ∧ good f = true ∧ depth f = 1 ∧ size f = 1
theorem ok_law_leaf (M : Md K w mg aS aL cBF cBN cSE es nn) (D : Df K mg "_law_leaf" s_law_leaf ["state"] f fd) (c_law_choice : Cl P w K mg base CX0 1 "_law_choice" (spS K preC resC)) (c_law_words : Cl P w K mg base CX0 2 "_law_words" (spS K preN resWords)) :
    FnOk P w K mg base CX0 3 f fd ["state"] (spS K preN resLeaf) := by
  refine D.fn.ok sc_law_leaf (fun vs H Q E h => ?_) (fun cdv A outer s H vs Q E hr h => ?_)
  · obtain ⟨a, b, r, ws, ds, rfl, _, hd, rfl, _⟩ := h
    simp [hd.len]
  obtain ⟨a, b, r, ws, ds, rfl, hs, hd, rfl, q⟩ := h
  cases hd
  refine ⟨_, (pss_cons (ps_set (i := 1) sc_law_leaf.nd rfl (Or.inl rfl) (pe_cl c_law_choice hr (by omega) pass0 (pa_cons (pv 0) (pa_cons pe_int pa_nil))))
    (pss_cons (ps_if (pt_cmpR op_eq (pv 1) pe_int (nomark _)) (pss_one (ps_ret (pe_tup (pa_cons pe_str (pa_cons (pe_tup (pa_cons pe_str (pa_cons (pe_ix ix_list (pe_lst (pa_cons pe_int (pa_cons pe_int (pa_cons pe_int (pa_cons pe_int (pa_cons pe_int (pa_cons (pe_op op_sub (pe_op op_pow pe_int pe_int) pe_int) pa_nil))))))) (pe_cl c_law_choice hr (by omega) pass0 (pa_cons (pv 0) (pa_cons pe_int pa_nil))) (fun _ _ => rfl)) (pa_cons pe_int pa_nil)))) pa_nil))))) pss_nil)
    (pss_cons (ps_if (pt_cmpR op_eq (pv 1) pe_int (nomark _)) (pss_one (ps_ret (pe_tup (pa_cons pe_str (pa_cons (pe_tup (pa_cons pe_str (pa_cons (pe_cl c_law_words hr (by omega) pass0 (pa_cons (pv 0) pa_nil)) pa_nil))) pa_nil))))) pss_nil)
    (pss_cons (ps_if (pt_cmpR op_eq (pv 1) pe_int (nomark _)) (pss_one (ps_ret (pe_tup (pa_cons pe_str (pa_cons (pe_tup (pa_cons pe_str (pa_cons (pe_cmpR op_eq (pe_cl c_law_choice hr (by omega) pass0 (pa_cons (pv 0) (pa_cons pe_int pa_nil))) pe_int (nomark _)) pa_nil))) pa_nil))))) pss_nil)
    (pss_cons (ps_if (pt_cmpR op_eq (pv 1) pe_int (nomark _)) (pss_one (ps_ret (pe_tup (pa_cons pe_str pa_nil)))) pss_nil)
    (pss_cons (ps_if (pt_cmpR op_eq (pv 1) pe_int (nomark _)) (pss_one (ps_ret (pe_tup (pa_cons pe_str (pa_cons (pe_ix ix_list (pe_lst (pa_cons pe_str (pa_cons pe_str (pa_cons pe_str (pa_cons pe_str pa_nil))))) (pe_cl c_law_choice hr (by omega) pass0 (pa_cons (pv 0) (pa_cons pe_int pa_nil))) (fun _ _ => rfl)) pa_nil))))) pss_nil)
    (pss_cons (ps_set (i := 2) sc_law_leaf.nd rfl (Or.inl rfl) (pe_cl c_law_choice hr (by omega) pass0 (pa_cons (pv 0) (pa_cons pe_int pa_nil))))
    (pss_cons (ps_set (i := 3) sc_law_leaf.nd rfl (Or.inl rfl) (pe_cl c_law_choice hr (by omega) pass0 (pa_cons (pv 0) (pa_cons pe_int pa_nil))))
    (pss_cons (ps_if (pt_cmpR op_lt (pv 1) pe_int (nomark _)) (pss_one (ps_ret (pe_tup (pa_cons pe_str (pa_cons (pv 2) (pa_cons (pv 3) pa_nil)))))) pss_nil)
    (pss_one (ps_ret (pe_tup (pa_cons pe_str (pa_cons (pv 2) (pa_cons (pv 3) (pa_cons (pe_op op_add (pv 2) (pe_cl c_law_choice hr (by omega) pass0 (pa_cons (pv 0) (pa_cons (pe_op op_sub pe_int (pv 2)) pa_nil)))) (pa_cons (pe_op op_add (pv 3) (pe_cl c_law_choice hr (by omega) pass0 (pa_cons (pv 0) (pa_cons (pe_op op_sub pe_int (pv 3)) pa_nil)))) pa_nil))))))))))))))))), ?_⟩
  refine RunS.go ?_ hs
  refine rs_set (K := K) (es_chC 8 rfl) fun d v H1 m1 ⟨kd, hk, hk8⟩ t1 => ?_
  subst hk
  obtain rfl := t1.int_eq
  have fin : ∀ {te : TE} {σ : S}, EvS K a b r te σ H1 (resLeaf []) → ∀ D : Ends, D.rt = Q → RunS a b r (tRet te) D σ H1 := fun h D hD => rs_ret h fun d v H2 m2 s2 p t => by
    rw [hD]
    exact q d v H2 (m1.trans m2) s2 p t
  refine rs_if (fun H1 _ _ => t_eqI (ev_var rfl) ev_c) (fun hb => fin ?_ _ rfl) (fun hb => ?_)
  · have n1 : ∀ {σ : S} {H : Hp} (n : Int), 0 ≤ n ∧ n < 10 ^ 40 → EvS K a b r (tC (.int n)) σ H fun d => ∃ i, d = .int i ∧ 0 ≤ i ∧ i < 10 ^ 40 := fun n h => es_int ⟨n, rfl, h⟩
    have pw : ∀ {σ : S} {H : Hp} (n : Nat), n ≤ 1000000 → EvS K a b r (tOp (rI CPow fun i j => .int (i ^ j.toNat)) (tC (.int 10)) (tC (.int (n : Int)))) σ H fun d => ∃ i, d = .int i ∧ i = 10 ^ n := fun n hn =>
      es_I es_cI es_cI fun i j h1 h2 => by
        subst h1 h2
        exact ⟨⟨by omega, by omega, by decide⟩, by simp⟩
    refine es_tup (esa_cons (es_str rfl) (esa_cons (P := fun d => ∃ n : Nat, d = .tuple [.str "num", .int (n : Int), .int 1] ∧ n < 10 ^ 40) (es_tup (esa_cons (es_str rfl) (esa_cons (es_pick (esc (n1 0 (by omega)) (esc (n1 1 (by omega)) (esc (n1 2 (by omega)) (esc (n1 7 (by omega)) (esc (n1 10 (by omega)) (esc (es_I0 (p := fun i => 0 ≤ i ∧ i < 10 ^ 40) (pw 40 (by decide)) es_cI fun i j h1 h2 => by omega) esn)))))) (es_chC 6 rfl)) (esa_cons (es_int rfl) esa_nil))) ?_) esa_nil)) ?_
    · rintro ds ⟨d1, ds1, rfl, e1, d2, ds2, rfl, ⟨i, rfl, h1, h2⟩, d3, ds3, rfl, e3, rfl⟩
      subst e1 e3
      have : (i.toNat : Int) = i := by omega
      exact ⟨⟨i.toNat, by rw [this], by omega⟩, by simp⟩
    · rintro ds ⟨d1, ds1, rfl, e1, d2, ds2, rfl, ⟨n, rfl, h2⟩, rfl⟩
      subst e1
      exact ⟨⟨.num n, by simp only [toD], by simp only [good, decide_eq_true_eq]; exact h2, by simp only [depth], by simp only [size]⟩, by simp⟩
  refine rs_if (fun H1 _ _ => t_eqI (ev_var rfl) ev_c) (fun hb => fin ?_ _ rfl) (fun hb => ?_)
  · refine es_tup (esa_cons (es_str rfl) (esa_cons (P := fun d => ∃ t : List Nat, d = .tuple [.str "text", .str (tx t)] ∧ t.length ≤ 8 ∧ ∀ c ∈ t, isAllowed c = true) (es_tup (esa_cons (es_str rfl) (esa_cons (es_callS (Pre := preN) (R := resWords) (P := resWords []) rfl esa_nil fun ds h => ⟨h, fun d h => h⟩) esa_nil)) ?_) esa_nil)) ?_
    · rintro ds ⟨d1, ds1, rfl, e1, d2, ds2, rfl, ⟨t, rfl, h1, h2⟩, rfl⟩
      subst e1
      exact ⟨⟨t, rfl, h1, h2⟩, by simp⟩
    · rintro ds ⟨d1, ds1, rfl, e1, d2, ds2, rfl, ⟨t, rfl, h1, h2⟩, rfl⟩
      subst e1
      exact ⟨⟨.txt t, by simp only [toD], by simp only [good, Bool.and_eq_true, decide_eq_true_eq, List.all_eq_true]; exact ⟨by omega, h2⟩, by simp only [depth], by simp only [size]⟩, by simp⟩
  refine rs_if (fun H1 _ _ => t_eqI (ev_var rfl) ev_c) (fun hb => fin ?_ _ rfl) (fun hb => ?_)
  · refine es_tup (esa_cons (es_str rfl) (esa_cons (P := fun d => ∃ c : Bool, d = .tuple [.str "truth", .bool c]) (es_tup (esa_cons (es_str rfl) (esa_cons (es_eq (es_chI 2 rfl)) esa_nil)) ?_) esa_nil)) ?_
    · rintro ds ⟨d1, ds1, rfl, e1, d2, ds2, rfl, ⟨c, rfl⟩, rfl⟩
      subst e1
      exact ⟨⟨c, rfl⟩, by simp⟩
    · rintro ds ⟨d1, ds1, rfl, e1, d2, ds2, rfl, ⟨c, rfl⟩, rfl⟩
      subst e1
      exact ⟨⟨.tru c, by simp only [toD], by simp only [good], by simp only [depth], by simp only [size]⟩, by simp⟩
  refine rs_if (fun H1 _ _ => t_eqI (ev_var rfl) ev_c) (fun hb => fin ?_ _ rfl) (fun hb => ?_)
  · refine es_of (fun _ _ _ => d_tup (da_cons (d_str ev_c) da_nil)) ⟨.lost, by simp only [toD], by simp only [good], by simp only [depth], by simp only [size]⟩
  refine rs_if (fun H1 _ _ => t_eqI (ev_var rfl) ev_c) (fun hb => fin ?_ _ rfl) (fun hb => ?_)
  · have l1 : ∀ {z : Str} {σ : S} {H : Hp}, wordOk isSmall (TL.tl z) = true → EvS K a b r (tC (.str z)) σ H fun d => ∃ t : List Nat, d = .str (tx t) ∧ wordOk isSmall t = true := fun h => es_str (lit_w h)
    refine es_tup (esa_cons (es_str rfl) (esa_cons (es_pick (esc (l1 (by decide +kernel)) (esc (l1 (by decide +kernel)) (esc (l1 (by decide +kernel)) (esc (l1 (by decide +kernel)) esn)))) (es_chC 4 rfl)) esa_nil)) ?_
    rintro ds ⟨d1, ds1, rfl, e1, d2, ds2, rfl, ⟨t, rfl, h2⟩, rfl⟩
    subst e1
    exact ⟨⟨.word t, by simp only [toD], by simp only [good]; exact h2, by simp only [depth], by simp only [size]⟩, by simp⟩
  refine rs_set (K := K) (es_chC 20 rfl) fun d v H2 m2 ⟨rw, hk, hr20⟩ t2 => ?_
  subst hk
  obtain rfl := t2.int_eq
  refine rs_set (K := K) (es_chC 10 rfl) fun d v H3 m3 ⟨cl, hk, hc10⟩ t3 => ?_
  subst hk
  obtain rfl := t3.int_eq
  refine rs_if (fun H1 _ _ => et_test (v_lt (ev_var rfl) ev_c)) (fun hb => ?_) (fun hb => ?_)
  · refine rs_ret (P := resLeaf []) (es_of (fun _ _ _ => d_tup (da_cons (d_str ev_c) (da_cons (d_int (ev_var rfl)) (da_cons (d_int (ev_var rfl)) da_nil)))) ⟨.at rw cl, by simp only [toD], ?_, by simp only [depth], by simp only [size]⟩) fun d v H4 m4 s4 p t => q d v H4 (((m1.trans m2).trans m3).trans m4) s4 p t
    simp only [good, place, Bool.and_eq_true, decide_eq_true_eq]
    omega
  · have lim : ∀ (i : Nat) (x n : Nat) (hx : x < n) (hn : n ≤ 20), [some (V.ref a), some (.int (kd : Int)), some (.int (rw : Int)), some (.int (cl : Int))][i]? = some (some (.int (x : Int))) → EvS K a b r (tOp (rI0 fun i j => .int (i + j)) (tVar i) (tCall (spS K preC resC) [] E0 (tCons (tVar 0) (tCons (tOp (rI0 fun i j => .int (i - j)) (tC (.int (n : Int))) (tVar i)) tNil)))) [some (V.ref a), some (.int (kd : Int)), some (.int (rw : Int)), some (.int (cl : Int))] H3 fun d => ∃ j, d = .int j ∧ (x : Int) ≤ j ∧ j < n := fun i x n hx hn hv =>
      es_I0 (es_var hv (.int _) ⟨_, rfl, rfl⟩) ((es_ch (m := n - x) rfl (es_of (fun _ _ _ => d_is (d_int (v_sub ev_c (ev_var hv))) (by congr 1; omega)) rfl) (by omega) (by omega)).imp fun d ⟨k, e, h⟩ => (⟨(k : Int), e, by omega, by omega⟩ : ∃ j, d = .int j ∧ 0 ≤ j ∧ j < (n : Int) - x)) fun i j h1 h2 => by omega
    refine rs_ret (P := resLeaf []) (es_tup (esa_cons (es_str rfl) (esa_cons (es_var rfl (.int _) rfl) (esa_cons (es_var rfl (.int _) rfl) (esa_cons (lim 2 rw 20 hr20 (by decide) rfl) (esa_cons (lim 3 cl 10 hc10 (by decide) rfl) esa_nil))))) ?_) fun d v H4 m4 s4 p t => q d v H4 (((m1.trans m2).trans m3).trans m4) s4 p t
    rintro ds ⟨d1, ds1, rfl, e1, d2, ds2, rfl, e2, d3, ds3, rfl, e3, d4, ds4, rfl, ⟨x, rfl, x1, x2⟩, d5, ds5, rfl, ⟨y, rfl, y1, y2⟩, rfl⟩
    subst e1 e2 e3
    have hx : (x.toNat : Int) = x := by omega
    have hy : (y.toNat : Int) = y := by omega
    refine ⟨⟨.box rw cl x.toNat y.toNat, by simp only [toD]; rw [hx, hy], ?_, by simp only [depth], by simp only [size]⟩, by simp⟩
    simp only [good, place, Bool.and_eq_true, decide_eq_true_eq]
    omega
end
end Ws
end

section
set_option Elab.async false
set_option linter.all false
set_option maxRecDepth 100000
set_option maxHeartbeats 4000000
namespace Ws
open PySem PySem.Spec PyProof.Rows L2 Evl

/-! ### a formula drawn: the third item of the state counts down -/
structure Dr (deep : Nat) (c : Int) (f : F) (c' : Int) : Prop where
  gd : good f = true
  dp : depth f ≤ deep
  sz : (size f : Int) = c - c'
  cn : c' ≥ c - 1 ∨ c' ≥ 5 - 2 * (deep : Int)
def spFm (K : PySem.W.Frag) (n : Nat) : Sp := fun vs H Q _ => ∃ (a : Addr) (b : Bool) (c : Int) (deep : Nat), vs = [V.ref a, .int (deep : Int)] ∧ Sq a b [.int c] H ∧ 1 ≤ deep ∧ deep ≤ n ∧ ∀ f c' v H', Mv a H H' → Sq a b [.int c'] H' → Dr deep c f c' → Tp K H' v (toD f) → Q v H'
section
variable {K : PySem.W.Frag} {a : Addr} {b : Bool} {r : List V} {σ : S} {H H' : Hp} {te tf tl ti td : TE} {D : Ends} {tz : TS} {n deep : Nat} {c : Int} {E : XK}
theorem fm_call {Q : VK} {i : Nat} (hs : σ[i]? = some (some (.ref a))) (hd : Ev td σ H (.int (deep : Int))) (s : Sq a b [.int c] H) (h1 : 1 ≤ deep) (h2 : deep ≤ n) (k : ∀ f c' v H', Mv a H H' → Sq a b [.int c'] H' → Dr deep c f c' → Tp K H' v (toD f) → Q v H') :
    tCall (spFm K n) [] E (tCons (tVar i) (tCons td tNil)) σ H Q :=
  ⟨_, hs, hd H (Evl.Ex.refl H) _ fun H2 e2 => ⟨a, b, c, deep, rfl, s.ex e2, h1, h2, fun f c' v H' m s' g t => k f c' v H' ((Mv.of e2).trans m) s' g t⟩⟩
theorem fm_lc {Q : VK} {j i N : Nat} {vs : List Nat} (hN : N ≤ 40000) (h : EvS K a b [.int c] ti σ H fun d => ∃ k : Nat, d = .int (k : Int) ∧ k ≤ N) (hw : ∀ x, wipe ((wipe σ vs).set j (some x)) vs = wipe σ vs) (hv : ∀ x, ((wipe σ vs).set j (some x))[i]? = some (some (.ref a)))
    (hd : ∀ x H1, Ev td ((wipe σ vs).set j (some x)) H1 (.int (deep : Int))) (s : Sq a b [.int c] H) (h1 : 1 ≤ deep) (h2 : deep ≤ n)
    (q : ∀ fs c' p xs H', Mv a H H' → Sq a b [.int c'] H' → H' p = some (.lst xs) → TpAll K H' xs (fs.map toD) → fs.length ≤ N → (∀ f ∈ fs, good f = true ∧ depth f ≤ deep) → (sizes fs : Int) = c - c' → (c' ≥ c - fs.length ∨ c' ≥ 5 - 2 * (deep : Int) - fs.length + 1) → Q (.ref p) H') :
    tLc (iRng1 (tCons ti tNil)) (gName j) tYes (tCall (spFm K n) [] E (tCons (tVar i) (tCons td tNil))) vs σ H Q :=
  h H (Mv.refl a H) s _ fun d v H1 m1 s1 ⟨k, hk, hkn⟩ t1 => by
    subst hk
    obtain rfl := t1.int_eq
    refine ⟨(k : Int), rfl, by omega, by omega, fun L hL => ?_⟩
    have hLa := not_a s1 hL
    refine lc_range (lo := 0) (n := ((k : Int)).toNat) (fun i H' => Mv a H1 H' ∧ ∃ acc fs c', Sq a b [.int c'] H' ∧ H' L = some (.lst acc) ∧ TpAll K H' acc (fs.map toD) ∧ fs.length = i ∧ (∀ f ∈ fs, good f = true ∧ depth f ≤ deep) ∧ (sizes fs : Int) = c - c' ∧ (c' ≥ c - fs.length ∨ c' ≥ 5 - 2 * (deep : Int) - fs.length + 1))
      ⟨Mv.of (Evl.Ex.new hL), [], [], c, s1.ex (Evl.Ex.new hL), upd_same, .nil, rfl, fun d hd => (by cases hd), by simp [sizes], .inl (by simp)⟩ (fun i H' hi p => ?_) (fun H' p => ?_)
    · obtain ⟨m2, acc, fs, c2, s2, ha, ht, hl, hp, hsz, hcn⟩ := p
      refine ⟨hw _, ?_⟩
      dsimp only [tYes]
      rw [if_pos rfl]
      refine fm_call (hv _) (hd _ _) s2 h1 h2 fun f c3 y H4 m4 s4 g t4 => ⟨acc, m4.1 L _ hLa ha, sz_lt (by rw [ht.len]; simp; omega), ?_⟩
      have hH4 : H4 L = some (.lst acc) := m4.1 L _ hLa ha
      have hk : Kp H4 (upd H4 L (.lst (acc ++ [y]))) := Kp.lst hH4
      have hsz2 : (sizes (fs ++ [f]) : Int) = sizes fs + size f := by
        have : ∀ l : List F, sizes (l ++ [f]) = sizes l + size f := by
          intro l
          induction l with
          | nil => simp [sizes]
          | cons x l ih => simp [sizes, ih]; omega
        rw [this]
        omega
      refine ⟨⟨fun d o hd e => ?_, (m2.2.trans m4.2).trans hk⟩, acc ++ [y], fs ++ [f], c3, ?_, upd_same, ?_, by simp [hl], fun f' hf => ?_, ?_, ?_⟩
      · have hcL : d ≠ L := fun e2 => by rw [e2, hL] at e; cases e
        rw [upd_ne hcL]
        exact m4.1 d o hd (m2.1 d o hd e)
      · obtain ⟨i, h1, h2⟩ := s4
        exact ⟨i, by rw [upd_ne (fun e => hLa e.symm)]; exact h1, h2⟩
      · rw [List.map_append]
        exact ((ht.kp m4.2).app (.one t4)).kp hk
      · rcases List.mem_append.mp hf with hf | hf
        · exact hp f' hf
        · rw [List.mem_singleton.mp hf]; exact ⟨g.gd, g.dp⟩
      · rw [hsz2, hsz, g.sz]; omega
      · have := g.cn
        simp only [List.length_append, List.length_cons, List.length_nil]
        omega
    · obtain ⟨m2, acc, fs, c2, s2, ha, ht, hl, hp, hsz, hcn⟩ := p
      exact q fs c2 L acc H' (m1.trans m2) s2 ha ht (by omega) hp hsz hcn
theorem lc_in {r : List V → Hp → VK → Prop} {Q : VK} {wi : TI} {g : TG} {tt : TT} {te : TE} {vs : List Nat} (h : tLc wi g tt te vs σ H (fun v H1 => r [v] H1 Q)) : tCB r (tCons (tLc wi g tt te vs) tNil) σ H Q := h
theorem tup3 {z x : V} {i : Nat} (hx : σ[i]? = some (some x)) (h : te σ H (fun v H1 => 3 ≤ sizeLine ∧ ∀ p, H1 p = none → D.rt (.ref p) (upd H1 p (.tup [z, x, v])))) : tRet (tTup (tCons (tC z) (tCons (tVar i) (tCons te tNil)))) D σ H := ⟨_, hx, h⟩
theorem rs_run (h : RunS a b r tz D σ H) (s : Sq a b r H) : Run tz D σ H := fun H1 e => h H1 (Mv.of e) (s.ex e)
end
section
variable {P : Program} {w : World} {K : PySem.W.Frag} {mg : Str → Option Value} {base : Heap} {f : Addr} {fd : FuncData} {aS aL cBF cBN cSE : Addr} {es : Array DictEntry} {nn : Nat}
theorem ok_law_formula {n : Nat} (M : Md K w mg aS aL cBF cBN cSE es nn) (D : Df K mg "_law_formula" s_law_formula ["state", "deep"] f fd) (c_law_choice : Cl P w K mg base CX0 1 "_law_choice" (spS K preC resC)) (c_law_leaf : Cl P w K mg base CX0 3 "_law_leaf" (spS K preN resLeaf))
    (c_law_formula : Cl P w K mg base CX0 (n + 3) "_law_formula" (spFm K n)) : FnOk P w K mg base CX0 (n + 3 + 1) f fd ["state", "deep"] (spFm K (n + 1)) := by
  refine D.fn.ok sc_law_formula (fun vs H Q E h => ?_) (fun cdv A outer s H vs Q E hr h => ?_)
  · obtain ⟨a, b, c, deep, rfl, _⟩ := h
    rfl
  obtain ⟨a, b, c, deep, rfl, ⟨s0, hs, hb0⟩, hd1, hd2, q⟩ := h
  refine ⟨_, (pss_cons (ps_asg (pe_op op_sub (pe_ix ix_list (pv 0) pe_int (fun _ _ => rfl)) pe_int) (pg_sub (pv 0) pe_int set_list))
    (pss_cons (ps_set (i := 2) sc_law_formula.nd rfl (Or.inl rfl) (pe_cl c_law_choice hr (by omega) pass0 (pa_cons (pv 0) (pa_cons pe_int pa_nil))))
    (pss_cons (ps_if (PW.pt (pw_or (pt_cmpR op_lt (pv 1) pe_int (nomark _)) (pw_or (pt_cmpR op_lt (pe_ix ix_list (pv 0) pe_int (fun _ _ => rfl)) pe_int (nomark _)) (pw_or1 (pt_cmpR op_eq (pv 2) pe_int (nomark _)))))) (pss_one (ps_ret (pe_cl c_law_leaf hr (by omega) pass0 (pa_cons (pv 0) pa_nil)))) pss_nil)
    (pss_cons (ps_if (pt_cmpR op_eq (pv 2) pe_int (nomark _)) (pss_one (ps_ret (pe_tup (pa_cons pe_str (pa_cons (pe_cl c_law_formula hr (by omega) pass0 (pa_cons (pv 0) (pa_cons (pe_op op_sub (pv 1) pe_int) pa_nil))) pa_nil))))) pss_nil)
    (pss_cons (ps_if (pt_cmpR op_eq (pv 2) pe_int (nomark _)) (pss_cons (ps_set (i := 3) sc_law_formula.nd rfl (Or.inl rfl) (pe_ix ix_list (pe_lst (pa_cons pe_str (pa_cons pe_str (pa_cons pe_str (pa_cons pe_str (pa_cons pe_str pa_nil)))))) (pe_cl c_law_choice hr (by omega) pass0 (pa_cons (pv 0) (pa_cons pe_int pa_nil))) (fun _ _ => rfl)))
    (pss_one (ps_ret (pe_tup (pa_cons pe_str (pa_cons (pv 3) (pa_cons (pe_callTy call_tuple_of (by rfl) M.b_tuple (by decide +kernel) (pa_cons (pe_lc (own := [("k", 4)]) (g := gName 4) (tt := tYes) rfl sc_law_formula.nd (pi_range1 (by rfl) M.b_range (pa_cons (pe_cl c_law_choice hr (by omega) pass0 (pa_cons (pv 0) (pa_cons pe_int pa_nil))) pa_nil)) (blkOk_by (N := ["state", "deep", "kind", "name", "k", "sign", "one"]) (sc := defScope s_law_formula) (by decide +kernel)) (fun _ _ _ _ _ => pg_name (i := 4) sc_law_formula.nd rfl (Or.inl rfl)) (fun _ _ _ _ _ => pts_nil) (fun _ _ _ _ _ => (pe_cl c_law_formula hr (by omega) pass0 (pa_cons (pv 0) (pa_cons (pe_op op_sub (pv 1) pe_int) pa_nil))))) pa_nil)) pa_nil))))))) pss_nil)
    (pss_cons (ps_set (i := 5) sc_law_formula.nd rfl (Or.inl rfl) (pe_ix ix_list (pe_lst (pa_cons pe_str (pa_cons pe_str (pa_cons pe_str (pa_cons pe_str (pa_cons pe_str (pa_cons pe_str (pa_cons pe_str (pa_cons pe_str (pa_cons pe_str (pa_cons pe_str (pa_cons pe_str pa_nil)))))))))))) (pe_cl c_law_choice hr (by omega) pass0 (pa_cons (pv 0) (pa_cons pe_int pa_nil))) (fun _ _ => rfl)))
    (pss_cons (ps_set (i := 6) sc_law_formula.nd rfl (Or.inl rfl) (pe_cl c_law_formula hr (by omega) pass0 (pa_cons (pv 0) (pa_cons (pe_op op_sub (pv 1) pe_int) pa_nil))))
    (pss_one (ps_ret (pe_tup (pa_cons pe_str (pa_cons (pv 5) (pa_cons (pv 6) (pa_cons (pe_cl c_law_formula hr (by omega) pass0 (pa_cons (pv 0) (pa_cons (pe_op op_sub (pv 1) pe_int) pa_nil))) pa_nil)))))))))))))), ?_⟩
  refine Run.go ?_
  have v0 : Ev (tVar 0) [some (.ref a), some (.int (deep : Int)), none, none, none, none, none] H (.ref a) := ev_var rfl
  refine r_setSub (j := 2) hs (v_sub (v_ixL (K := K) v0 (ev_c (v := .int 2)) hs (j := 2) rfl) ev_c) v0 (ev_c (v := .int 2)) (by simp) fun H1 e1 => ?_
  have m1 : Mv a H (upd H1 a (.lst [.int s0, .bl b, .int (c - 1)])) := (Mv.of e1).trans (Mv.set (e1 _ _ hs))
  refine rs_run (r := [.int (c - 1)]) ?_ ⟨s0, upd_same, hb0⟩
  refine rs_set (es_chC 5 rfl) fun d v H2 m2 ⟨kd, hk, hk5⟩ t2 => ?_
  subst hk
  obtain rfl := t2.int_eq
  have m12 := m1.trans m2
  refine rs_if (c := decide (deep < 2) || (decide (c - 1 < 4) || decide (kd = 0))) (fun H3 m3 s3 => ?_) (fun hb => ?_) (fun hb => ?_)
  · obtain ⟨s1, hs1, _⟩ := s3
    exact et_or (et_is (et_test (v_lt (ev_var rfl) ev_c)) (decide_eq_decide.mpr (by omega))) fun _ => et_or (et_test (v_lt (v_ixL (K := K) (ev_var rfl) (ev_c (v := .int 2)) hs1 (j := 2) rfl) ev_c)) fun _ => et_is (t_eqI (ev_var rfl) ev_c) (decide_eq_decide.mpr (by omega))
  · refine rs_ret (es_callS (Pre := preN) (R := resLeaf) (P := resLeaf []) rfl esa_nil fun ds h => ⟨h, fun d h => h⟩) fun d v H3 m3 s3 ⟨g, e, g1, g2, g3⟩ t => ?_
    subst e
    exact q g (c - 1) v H3 (m12.trans m3) s3 ⟨g1, by omega, by omega, .inl (Int.le_refl _)⟩ t
  have hb' : ¬ deep < 2 ∧ ¬ (c - 1 < 4) ∧ ¬ kd = 0 := by simpa using hb
  obtain ⟨b1, b2, b3⟩ := hb'
  have dd : ((deep : Int) - 1) = ((deep - 1 : Nat) : Int) := by omega
  refine rs_if (fun H3 _ _ => t_eqI (ev_var rfl) ev_c) (fun hb4 => ?_) (fun hb4 => ?_)
  · refine fun H3 m3 s3 => fm_call (deep := deep - 1) rfl (ev_is (v_sub (ev_var rfl) ev_c) (congrArg V.int dd)) s3 (by omega) (by omega) fun g c' v H4 m4 s4 k t => ⟨sz_of (by simp), fun p hp => ?_⟩
    have e := Evl.Ex.new (o := .tup [V.str "less", v]) hp
    refine q (.less g) c' _ _ (((m12.trans m3).trans m4).trans (Mv.of e)) (s4.ex e) ⟨?_, ?_, ?_, ?_⟩ ?_
    · simp only [good]; exact k.gd
    · have := k.dp; simp only [depth]; omega
    · have := k.sz; simp only [size]; omega
    · have := k.cn; omega
    · simp only [toD]
      exact .tup (st_of upd_same) (.cons (.str _) (.one (t.ex e)))
  refine rs_if (fun H3 _ _ => t_eqI (ev_var rfl) ev_c) (fun hb5 => ?_) (fun hb5 => ?_)
  · have l1 : ∀ {z : Str} {σ : S} {H : Hp}, wordOk isGreat (TL.tl z) = true → EvS K a b [.int (c - 1)] (tC (.str z)) σ H fun d => ∃ t : List Nat, d = .str (tx t) ∧ wordOk isGreat t = true := fun h => es_str (lit_w h)
    refine rs_set (es_pick (esc (l1 (by decide +kernel)) (esc (l1 (by decide +kernel)) (esc (l1 (by decide +kernel)) (esc (l1 (by decide +kernel)) (esc (l1 (by decide +kernel)) esn))))) (es_chC 5 rfl)) fun d v H3 m3 ⟨wd, hwd, hwo⟩ t3 => ?_
    subst hwd
    obtain rfl := t3.str_eq
    refine fun H4 m4 s4 => tup3 rfl (lc_in ?_)
    refine fm_lc (K := K) (n := n) (N := 3) (deep := deep - 1) (by decide) ((es_chC 4 rfl).imp fun d ⟨k, e, h⟩ => ⟨k, e, by omega⟩) (by exact fun x => rfl) (by exact fun x => rfl) (by exact fun x H1 => ev_is (v_sub (ev_var rfl) ev_c) (congrArg V.int dd)) s4 (by omega) (by omega) fun fs c' p xs H5 m5 s5 hx ht hl hp hsz hcn => ?_
    refine ⟨p, xs, rfl, .inl ⟨sq_of hx, fun l hl2 => ⟨sz_of (by simp), fun p2 hp2 => ?_⟩⟩⟩
    have e1 := Evl.Ex.new (o := .tup xs) hl2
    have e2 := Evl.Ex.new (o := .tup [V.str "call", .str (tx wd), .ref l]) hp2
    refine q (.call wd fs) c' _ _ ((((m12.trans m3).trans m4).trans m5).trans (Mv.of (e1.trans e2))) (s5.ex (e1.trans e2)) ⟨?_, ?_, ?_, ?_⟩ ?_
    · simp only [good, Bool.and_eq_true, decide_eq_true_eq, goods_all, List.all_eq_true]
      exact ⟨⟨hwo, by omega⟩, fun f hf => (hp f hf).1⟩
    · have : ∀ l : List F, (∀ f ∈ l, good f = true ∧ depth f ≤ deep - 1) → depths l ≤ deep - 1 := by
        intro l
        induction l with
        | nil => intro _; simp [depths]
        | cons x l ih =>
          intro h
          have h1 := (h x (by simp)).2
          have h2 := ih fun f hf => h f (by simp [hf])
          simp only [depths]
          omega
      have := this fs hp
      simp only [depth]
      omega
    · simp only [size]; omega
    · omega
    · simp only [toD]
      have st : SqT K (upd (upd H5 l (.tup xs)) p2 (.tup [V.str "call", .str (tx wd), .ref l])) l xs := st_of (e2 _ _ upd_same)
      rw [toDs_map]
      exact .tup (st_of upd_same) (.cons (.str _) (.cons (.str _) (.one (.tup st (ht.ex (e1.trans e2))))))
  have l1 : ∀ {z : Str} {σ : S} {H : Hp} (o : Op), z = opS o → EvS K a b [.int (c - 1)] (tC (.str z)) σ H fun d => ∃ o : Op, d = .str (opS o) := fun o h => es_str ⟨o, by rw [h]⟩
  refine rs_set (es_pick (esc (l1 .add rfl) (esc (l1 .sub rfl) (esc (l1 .mul rfl) (esc (l1 .div rfl) (esc (l1 .amp rfl) (esc (l1 .eq rfl) (esc (l1 .ne rfl) (esc (l1 .lt rfl) (esc (l1 .le rfl) (esc (l1 .gt rfl) (esc (l1 .ge rfl) esn))))))))))) (es_chC 11 rfl)) fun d v H3 m3 ⟨o, ho⟩ t3 => ?_
  subst ho
  obtain rfl := t3.str_eq
  refine fun H4 m4 s4 => fm_call (deep := deep - 1) rfl (ev_is (v_sub (ev_var rfl) ev_c) (congrArg V.int dd)) s4 (by omega) (by omega) fun g c1 v H5 m5 s5 k t => ?_
  refine ⟨_, rfl, _, rfl, ?_⟩
  refine fm_call (deep := deep - 1) rfl (ev_is (v_sub (ev_var rfl) ev_c) (congrArg V.int dd)) s5 (by omega) (by omega) fun g2 c2 v2 H6 m6 s6 k2 t2 => ⟨sz_of (by simp), fun p hp => ?_⟩
  have e := Evl.Ex.new (o := .tup [V.str "two", .str (opS o), v, v2]) hp
  refine q (.two o g g2) c2 _ _ (((((m12.trans m3).trans m4).trans m5).trans m6).trans (Mv.of e)) (s6.ex e) ⟨?_, ?_, ?_, ?_⟩ ?_
  · simp only [good, Bool.and_eq_true]; exact ⟨k.gd, k2.gd⟩
  · have := k.dp; have := k2.dp; simp only [depth]; omega
  · have := k.sz; have := k2.sz; simp only [size]; omega
  · have := k.cn; have := k2.cn; omega
  · simp only [toD]
    exact .tup (st_of upd_same) (.cons (.str _) (.cons (.str _) (.cons ((t.kp m6.2).ex e) (.one (t2.ex e)))))
theorem cl_law_formula (M : Md K w mg aS aL cBF cBN cSE es nn) (D : Df K mg "_law_formula" s_law_formula ["state", "deep"] f fd) (c_law_choice : Cl P w K mg base CX0 1 "_law_choice" (spS K preC resC)) (c_law_leaf : Cl P w K mg base CX0 3 "_law_leaf" (spS K preN resLeaf)) :
    ∀ n : Nat, Cl P w K mg base CX0 (n + 3) "_law_formula" (spFm K n)
  | 0 => D.cl ⟨fun vs H Q E ⟨a, b, c, deep, _, _, h1, h2, _⟩ => by omega, fun A outer s H args us vs Q E _ _ _ _ ⟨a, b, c, deep, _, _, h1, h2, _⟩ => by omega⟩
  | n + 1 => by
    have := D.cl (ok_law_formula M D c_law_choice c_law_leaf (cl_law_formula M D c_law_choice c_law_leaf n))
    rw [show n + 1 + 3 = n + 3 + 1 by omega]
    exact this
end
end Ws
end

section
set_option Elab.async false
set_option linter.all false
set_option maxRecDepth 100000
set_option maxHeartbeats 4000000
namespace Ws
open PySem PySem.Spec PyProof.Rows L2 Evl

/-! ### contents as data that can be compared -/
theorem tx_ok {t : List Nat} (h : ∀ c ∈ t, c < 128) : PyData.strOk (tx t) = true := by
  have : (tx t).cps.toList.all (fun c => decide (c < 0x110000)) = true := by
    rw [List.all_eq_true]
    intro c hc
    have := h c hc
    exact decide_eq_true (by omega)
  unfold PyData.strOk
  rw [← Array.all_toList]
  exact this
theorem allowed_lt {c : Nat} (h : isAllowed c = true) : c < 128 := by
  simp only [isAllowed, decide_eq_true_eq, Bool.and_eq_true] at h
  omega
theorem small_lt {c : Nat} (h : isSmall c = true) : c < 128 := by
  simp only [isSmall, decide_eq_true_eq, Bool.and_eq_true] at h
  omega
theorem great_lt {c : Nat} (h : isGreat c = true) : c < 128 := by
  simp only [isGreat, decide_eq_true_eq, Bool.and_eq_true] at h
  omega
theorem word_lt {p : Nat → Bool} (hp : ∀ c, p c = true → c < 128) {t : List Nat} (h : wordOk p t = true) : ∀ c ∈ t, c < 128 := by
  simp only [wordOk, Bool.and_eq_true, decide_eq_true_eq, List.all_eq_true] at h
  exact fun c hc => hp c (h.2 c hc)
theorem lay2 {x y : PyData} : PyData.canLay0 (.tuple [x, y]) = (PyData.canLay0 x && PyData.canLay0 y) := by simp [PyData.canLay0, PyData.canLayAll0]
theorem lay3 {x y z : PyData} : PyData.canLay0 (.tuple [x, y, z]) = (PyData.canLay0 x && (PyData.canLay0 y && PyData.canLay0 z)) := by simp [PyData.canLay0, PyData.canLayAll0]
theorem layS {z : Str} (h : PyData.strOk z = true) : PyData.canLay0 (.str z) = true := by simp only [PyData.canLay0]; exact h
mutual
theorem lay_toD : ∀ f : F, good f = true → PyData.canLay0 (toD f) = true
  | .num n, _ => by simp only [toD, lay2, lay3, Bool.and_eq_true]; exact ⟨layS (by decide +kernel), layS (by decide +kernel), rfl, rfl⟩
  | .txt t, h => by
    simp only [good, Bool.and_eq_true, decide_eq_true_eq, List.all_eq_true] at h
    simp only [toD, lay2, Bool.and_eq_true]
    exact ⟨layS (by decide +kernel), layS (by decide +kernel), layS (tx_ok fun c hc => allowed_lt (h.2 c hc))⟩
  | .tru b, _ => by simp only [toD, lay2, Bool.and_eq_true]; exact ⟨layS (by decide +kernel), layS (by decide +kernel), rfl⟩
  | .at r c, _ => by simp only [toD, lay3, Bool.and_eq_true]; exact ⟨layS (by decide +kernel), rfl, rfl⟩
  | .box r c l f, _ => by
    simp only [toD, PyData.canLay0, PyData.canLayAll0, Bool.and_true]
    decide +kernel
  | .word w, h => by
    simp only [good] at h
    simp only [toD, lay2, Bool.and_eq_true]
    exact ⟨layS (by decide +kernel), layS (tx_ok (word_lt (fun c => small_lt) h))⟩
  | .lost, _ => by
    simp only [toD, PyData.canLay0, PyData.canLayAll0, Bool.and_true]
    decide +kernel
  | .less p, h => by
    simp only [good] at h
    simp only [toD, lay2, Bool.and_eq_true]
    exact ⟨layS (by decide +kernel), lay_toD p h⟩
  | .two o a b, h => by
    simp only [good, Bool.and_eq_true] at h
    simp only [toD, PyData.canLay0, PyData.canLayAll0, Bool.and_true, Bool.and_eq_true]
    exact ⟨by decide +kernel, by cases o <;> decide +kernel, lay_toD a h.1, lay_toD b h.2⟩
  | .call w ps, h => by
    simp only [good, Bool.and_eq_true, decide_eq_true_eq] at h
    simp only [toD, lay3, Bool.and_eq_true]
    exact ⟨layS (by decide +kernel), layS (tx_ok (word_lt (fun c => great_lt) h.1.1)), by simp only [PyData.canLay0]; exact lay_toDs ps h.2⟩
theorem lay_toDs : ∀ ps : List F, goods ps = true → PyData.canLayAll0 (toDs ps) = true
  | [], _ => by simp only [toDs, PyData.canLayAll0]
  | p :: ps, h => by
    simp only [goods, Bool.and_eq_true] at h
    simp only [toDs, PyData.canLayAll0, Bool.and_eq_true]
    exact ⟨lay_toD p h.1, lay_toDs ps h.2⟩
end
mutual
theorem dep_toD : ∀ f : F, PyData.depth (toD f) ≤ 2 * depth f + 1
  | .num n => by simp [toD, PyData.depth, PyData.depthAll, depth]
  | .txt t => by simp [toD, PyData.depth, PyData.depthAll, depth]
  | .tru b => by simp [toD, PyData.depth, PyData.depthAll, depth]
  | .at r c => by simp [toD, PyData.depth, PyData.depthAll, depth]
  | .box r c l f => by simp [toD, PyData.depth, PyData.depthAll, depth]
  | .word w => by simp [toD, PyData.depth, PyData.depthAll, depth]
  | .lost => by simp [toD, PyData.depth, PyData.depthAll, depth]
  | .less p => by
    have := dep_toD p
    simp only [toD, PyData.depth, PyData.depthAll, depth]
    omega
  | .two o a b => by
    have := dep_toD a
    have := dep_toD b
    simp only [toD, PyData.depth, PyData.depthAll, depth]
    omega
  | .call w ps => by
    have := dep_toDs ps
    simp only [toD, PyData.depth, PyData.depthAll, depth]
    omega
theorem dep_toDs : ∀ ps : List F, PyData.depthAll (toDs ps) ≤ 2 * depths ps + 1
  | [] => by simp [toDs, PyData.depthAll]
  | p :: ps => by
    have := dep_toD p
    have := dep_toDs ps
    simp only [toDs, PyData.depthAll, depths]
    omega
end
def ctSh : Ct → Prop
  | .has f => good f = true ∧ depth f ≤ 8
  | .txt t => ∀ c ∈ t, c < 128
  | _ => True
theorem lay_ct {c : Ct} (h : ctSh c) : PyData.canLay0 (ctD c) = true := by
  cases c with
  | none => rfl
  | has f =>
    simp only [ctD, lay2, Bool.and_eq_true]
    exact ⟨layS (by decide +kernel), lay_toD f h.1⟩
  | num i b =>
    simp only [ctD, fracD, lay2, lay3, Bool.and_eq_true]
    exact ⟨layS (by decide +kernel), layS (by decide +kernel), rfl, rfl⟩
  | txt t =>
    simp only [ctD, lay2, Bool.and_eq_true]
    exact ⟨layS (by decide +kernel), layS (by decide +kernel), layS (tx_ok h)⟩
  | tru b =>
    simp only [ctD, lay2, Bool.and_eq_true]
    exact ⟨layS (by decide +kernel), layS (by decide +kernel), rfl⟩
theorem sh_ct {c : Ct} (h : ctSh c) : SeqAt.shaped (ctD c) = true := by
  unfold SeqAt.shaped
  rw [lay_ct h, Bool.true_and]
  apply decide_eq_true
  cases c with
  | none => simp [ctD, PyData.depth]
  | has f =>
    have := dep_toD f
    have := h.2
    simp only [ctD, PyData.depth, PyData.depthAll]
    omega
  | num i b => simp [ctD, fracD, PyData.depth, PyData.depthAll]
  | txt t => simp [ctD, PyData.depth, PyData.depthAll]
  | tru b => simp [ctD, PyData.depth, PyData.depthAll]
theorem eqv_txt {c : Ct} {t : List Nat} : PyData.eqv (ctD c) (ctD (.txt t)) = true ↔ c = .txt t := by
  cases c with
  | none => simp [ctD, PyData.eqv]
  | has f =>
    have e : (Str.ofString "has" == Str.ofString "is") = false := by decide +kernel
    simp [ctD, PyData.eqv, PyData.eqvAll, e]
  | num i b =>
    have e : (Str.ofString "num" == Str.ofString "text") = false := by decide +kernel
    simp [ctD, fracD, PyData.eqv, PyData.eqvAll, e]
  | txt t' =>
    simp only [ctD, PyData.eqv, PyData.eqvAll, Bool.and_true, Bool.and_eq_true, beq_iff_eq, true_and]
    constructor
    · intro h; rw [tx_inj h]
    · intro h; injection h with h; rw [h]
  | tru b =>
    have e : (Str.ofString "truth" == Str.ofString "text") = false := by decide +kernel
    simp [ctD, PyData.eqv, PyData.eqvAll, e]
theorem typed_sh {t : List Nat} {c : Ct} (h : ∀ x ∈ t, x < 128) (e : typedM t = some c) : ctSh c := by
  cases t with
  | nil =>
    injection e with e
    subst e
    exact trivial
  | cons x s =>
    have hs : ∀ y ∈ s, y < 128 := fun y hy => h y (List.mem_cons_of_mem _ hy)
    have tO : ∀ {l : List Nat}, (∀ y ∈ l, y < 128) → textO l = some c → ctSh c := fun hl e => by
      unfold textO at e
      split at e
      · cases e
      · injection e with e
        subst e
        exact hl
    unfold typedM at e
    simp only at e
    split at e
    · cases hr : readO s with
      | none => rw [hr] at e; cases e
      | some f =>
        rw [hr] at e
        injection e with e
        subst e
        have hf : isForm f = true := by
          unfold readO at hr
          split at hr
          · rename_i g hg
            injection hr with hr
            subst hr
            unfold readM at hg
            obtain ⟨p, h1, h2⟩ := bind_is hg
            split at h2
            · cases h2
            · rename_i h3
              injection h2 with h2
              rw [← h2]
              cases q : isForm p.1 with
              | true => rfl
              | false => exact absurd (.inr (.inl q)) h3
          · cases hr
        simp only [isForm, Bool.and_eq_true, decide_eq_true_eq] at hf
        exact ⟨hf.1.1, hf.2⟩
    · split at e
      · exact tO hs e
      · split at e
        · injection e with e
          subst e
          exact trivial
        · split at e
          · injection e with e
            subst e
            exact trivial
          · exact tO h e

section
variable {K : PySem.W.Frag} {σ : S} {H H' : Hp} {ta tb te : TE} {tt : TT} {d e : PyData} {v : V} {D : Ends} {tz tu : TS} {a : Addr} {b : Bool} {r : List V} {ts : TA}
theorem b_neD (ha : EvD K ta σ H d) (hb : EvD K tb σ H e) (sd : SeqAt.shaped d = true) (se : SeqAt.shaped e = true) : Ev (tOp (rNeD K) ta tb) σ H (.bl (!PyData.eqv d e)) := fun H1 e1 Q q =>
  ha H1 e1 _ fun v H2 e2 t2 => hb H2 (e1.trans e2) _ fun w H3 e3 t3 => ⟨d, e, (t2.ex e3).dp, t3.dp, sd, se, q H3 (e2.trans e3)⟩
theorem z_some {C C2 : Addr} {PX : List PyData → Option PyData → Prop} {E : XK} {ds : List PyData} (h : EvDA K ts σ H ds) (hp : PX ds (some d)) : EvD K (tCall (spZ K C C2 PX) [] E ts) σ H d := fun H1 e Q q =>
  z_call (h.mono e) hp (fun d' hd v H2 e2 t => by injection hd with hd; subst hd; exact q v H2 e2 t) fun hr => nomatch hr
theorem pe_clS {X : Cx} {CX : CXT} {j k : Nat} {x : Str} {sp : Sp} {E : S → XK} {e : Expr} {es : List Expr} {t : TA} {p pos : Pos} (c : Cl X.prog X.w X.K X.mg X.base CX k x sp) (hr : Room j X.A) (hk : k ≤ j) (hx : ∀ σ, PassesAt CX X σ (E σ)) (ha : PA X (e :: es) t) (hg : Gl X x := by rfl)
    (hdb : (x == ("__debug__" : Str)) = false := by decide) (he : starEach (e :: es) X.env = (false, eval e X.env) :: starEach es X.env := by rfl) (hpl : (backTo pos (starEach es X.env)).any (·.1) = false := by rfl) :
    PE X (.Call (.Name x p) (e :: es) [] pos) (tCallS sp E t) := by
  obtain ⟨f, fd, ps, g, kp, bd, h⟩ := c
  exact pe_callS h (hr.mono hk) hg g kp bd hx ha hdb he hpl
theorem rs_ifM {c : Bool} (Mid : S → Hp → Prop) (ht : ∀ H1, Mv a H H1 → Sq a b r H1 → EvT tt σ H1 c) (h1 : c = true → ∀ NX : S → Hp → Prop, (∀ σ' H', Sq a b r H' → Mid σ' H' → NX σ' H') → RunS a b r tu { D with nx := NX } σ H) (h0 : c = false → ∀ H1, Mv a H H1 → Mid σ H1)
    (k : ∀ σ' H', Mid σ' H' → RunS a b r tz D σ' H') : RunS a b r (tSeq (tIfS tt tu tNext) tz) D σ H :=
  rs_if ht (fun hb => h1 hb _ fun σ' H' s m => (k σ' H' m).go s) (fun hb H1 m s => (k σ H1 (h0 hb H1 m)).go s)
theorem r_state {ta : TA} {p : Addr} {is : List Int} {k j : Nat} {E : XK} (h : EvA ta σ H [.ref p, .int (k : Int)]) (hs : SqL K H p (List.map V.int is)) (q : ∀ a b H1, Ex H H1 → Sq a b [] H1 → Run tz D (σ.set j (some (.ref a))) H1) : Run (tSeq (tAsg (tCall (spState K) [] E ta) (gName j)) tz) D σ H := fun H1 e =>
  h H1 e _ fun H2 e2 => ⟨p, is, k, rfl, ex_l (e.trans e2) hs, fun a b H3 ha e3 s => (q a b H3 ((e.trans e2).trans e3) s).go⟩
end
section
variable {P : Program} {w : World} {K : PySem.W.Frag} {mg : Str → Option Value} {base : Heap} {f : Addr} {fd : FuncData} {aS aL cBF cBN cSE : Addr} {es : Array DictEntry} {nn : Nat}
def pElse : List PyData → PyData → Prop := fun ds d => ∃ t : List Nat, ds = [.str (tx t)] ∧ t.length ≤ 60 ∧ (∀ c ∈ t, c < 128) ∧ d = .bool (!plain t)
theorem ok_law_else (M : Md K w mg aS aL cBF cBN cSE es nn) (D : Df K mg "_law_else" s_law_else ["text"] f fd) (c_typed : Cl P w K mg base (L2.CX P w) 227 "typed" (spZ K cBF cBN pTyped)) : FnOk P w K mg base CX0 228 f fd ["text"] (spF K pElse) := by
  refine D.fn.ok sc_law_else (fun vs H Q E h => ?_) (fun cdv A outer s H vs Q E hr h => ?_)
  · obtain ⟨ds, d, hd, ⟨t, rfl, _⟩, _⟩ := h
    exact hd.len
  obtain ⟨ds, d, hd, ⟨t, rfl, hz, hc, rfl⟩, q⟩ := h
  obtain ⟨x, rfl, h1⟩ := hd.one_eq
  obtain rfl := h1.str_eq
  refine ⟨_, (pss_cons (ps_set (i := 1) sc_law_else.nd rfl (Or.inl rfl) pe_non)
    (pss_cons (ps_try_only (tb := fun W => tAsg (tCallS (spZ K cBF cBN pTyped) (WE W) (tCons (tVar 0) tNil)) (gName 1)) (ts := fun _ _ _ => tAsg (tC .non) (gName 1)) (Wout := fun _ _ _ _ => False) rfl rfl ⟨rfl, by decide, Or.inl M.gSE⟩ takes0
      (fun W pn xe tk _ => pss_one (ps_set (i := 1) sc_law_else.nd rfl (Or.inl rfl) (pe_clS c_typed hr (by omega) (fun σ => passAt tk σ) (pa_cons (pv 0) pa_nil))))
      (fun _ _ _ _ _ _ _ => pss_one (ps_set (i := 1) sc_law_else.nd rfl (Or.inl rfl) pe_non)))
    (pss_one (ps_ret (pe_cmpR (op_neD hr.units) (pv 1) (pe_tup (pa_cons pe_str (pa_cons (pe_tup (pa_cons pe_str (pa_cons (pv 0) pa_nil))) pa_nil))) (nomark _)))))), ?_⟩
  refine Run.go ?_
  refine r_set (ev_c (v := .non)) ?_
  have fin : ∀ (v : V) (d : PyData) (H1 : Hp), Ex H H1 → Tp K H1 v d → SeqAt.shaped d = true → (!PyData.eqv d (ctD (.txt t))) = (!plain t) → (tRet (tOp (rNeD K) (tVar 1) (tTup (tCons (tC (.str "is")) (tCons (tTup (tCons (tC (.str "text")) (tCons (tVar 0) tNil))) tNil))))) { nx := fun _ H' => Q .non H', rt := Q } [some (.str (tx t)), some v] H1 := fun v d H1 e1 t1 sd he => by
    refine Run.go ?_
    refine r_ret (K := K) (d_is (d_bl (b_neD (d_var rfl t1) (d_tup (da_cons (d_str ev_c) (da_cons (d_tup (da_cons (d_str ev_c) (da_cons (d_str (ev_var rfl)) da_nil))) da_nil))) sd (sh_ct (c := .txt t) hc))) (congrArg PyData.bool he)) fun v H2 e2 t2 => q v H2 (e1.trans e2) t2
  intro H1 e1
  refine ⟨_, rfl, [.str (tx t)], (typedM t).map ctD, .cons (.str _) .nil, ⟨t, rfl, by omega, fun s hs => ends_read (by rw [hs] at hz; simp at hz; show s.length + 155 ≤ 214; omega), rfl⟩, fun d hd2 v H2 e2 t2 => ?_, fun hr2 c hcc H2 e2 => ?_⟩
  · cases hm : typedM t with
    | none => rw [hm] at hd2; cases hd2
    | some c =>
      rw [hm] at hd2
      injection hd2 with hd2
      subst hd2
      refine fin v (ctD c) H2 (e1.trans e2) t2 (sh_ct (typed_sh hc hm)) ?_
      congr 1
      rw [Bool.eq_iff_iff, eqv_txt, ← plain_iff hz, hm]
      exact ⟨fun h => by rw [h], fun h => by injection h⟩
  · have hn : typedM t = none := by
      cases hm : typedM t with
      | none => rfl
      | some c => rw [hm] at hr2; cases hr2
    refine ⟨true, ?_, fun _ a ha => ?_, fun h => nomatch h⟩
    · rcases hcc with rfl | rfl
      · exact M.eBF
      · exact M.eBN
    · refine fin .non .none H2 (e1.trans e2) .non (by decide +kernel) ?_
      have hp : plain t = false := by
        cases q : plain t with
        | false => rfl
        | true =>
          have := (plain_iff hz).mpr q
          rw [hn] at this
          cases this
      rw [hp]
      rfl
end
end Ws
end

section
set_option Elab.async false
set_option linter.all false
set_option maxRecDepth 100000
set_option maxHeartbeats 4000000
namespace Ws
open PySem PySem.Spec PyProof.Rows L2 Evl

theorem to_len {c : Ct} (h : ctOk c) : (typedOf c).length ≤ 10000 := by
  cases c with
  | none => simp [typedOf]
  | has f =>
    obtain ⟨g1, g2⟩ := h
    simp only [isForm, Bool.and_eq_true, decide_eq_true_eq] at g1
    have hl := shown_len f g1.1.1
    simp only [typedOf, List.length_cons]
    omega
  | num i b =>
    have l1 := intT_len (i := i) h.1
    have l2 := TL.numL_len (k := 40) (by decide) h.2.2.1
    simp only [typedOf, numT]
    split
    · omega
    · simp; omega
  | txt t =>
    have h : t.length ≤ 60 := h
    simp only [typedOf]
    split
    · omega
    · simp; omega
  | tru b => cases b <;> decide
theorem to_out {c : Ct} (h : ctOk c) {s : List Nat} (e : typedOf c = 61 :: s) : parse s NF (.level 1) 0 0 ≠ .out := by
  cases c with
  | none => cases e
  | has f =>
    injection e with _ e
    subst e
    obtain ⟨g1, g2⟩ := h
    have hb := back_read (n := NF) g1 (by omega) (by omega) (show 20 * depth f + 10 ≤ 214 by omega)
    intro ho
    unfold readM at hb
    rw [ho] at hb
    cases hb
  | num i b =>
    obtain ⟨x, y, e1, e2, _⟩ := numT_head i b
    have e : numT i b = 61 :: s := e
    rw [e1] at e
    injection e with e
    exact absurd e e2
  | txt t =>
    simp only [typedOf] at e
    split at e
    · rename_i hp
      subst e
      simp [plain] at hp
    · cases e
  | tru b => cases b <;> cases e
theorem to_first {c : Ct} (h : ∀ t, c ≠ .txt t) : (typedOf c).take 1 ≠ [39] := by
  cases c with
  | none => decide
  | has f => simp [typedOf]
  | num i b =>
    obtain ⟨x, y, e1, _, e2, _⟩ := numT_head i b
    simp only [typedOf]
    rw [e1]
    simpa using e2
  | txt t => exact absurd rfl (h t)
  | tru b => cases b <;> decide
def spLaw (K : PySem.W.Frag) : Sp := fun vs H Q _ => ∃ p is, vs = [V.ref p] ∧ SqL K H p (List.map V.int is) ∧ ∀ H', Q (.bl true) H'
section
variable {P : Program} {w : World} {K : PySem.W.Frag} {mg : Str → Option Value} {base : Heap} {f : Addr} {fd : FuncData} {aS aL cBF cBN cSE : Addr} {es : Array DictEntry} {nn : Nat}
theorem v_pick {σ : S} {H : Hp} {te : TE} {b : Bool} {z0 z1 : Str} (h : Ev te σ H (.bl b)) : Ev (tOp (rIxL K) (tLst (tCons (tC (.str z0)) (tCons (tC (.str z1)) tNil))) (tCB (fun xs H Q => (∃ i, xs = [.int i] ∧ Q (.int i) H) ∨ ∃ k, xs = [.bl k] ∧ Q (.int (if k then 1 else 0)) H) (tCons te tNil))) σ H (.str (if b = true then z1 else z0)) :=
  ev_opL1 (el_lst (ea_cons ev_c (ea_cons ev_c ea_nil)) (by simp)) (fun H1 e => v_cb1 (h.mono e) fun H2 Q _ q => .inr ⟨b, rfl, q⟩) fun p H1 hp e => rv_ixL (sq_of hp) (by cases b <;> rfl)
theorem ok_law (M : Md K w mg aS aL cBF cBN cSE es nn) (D : Df K mg "law" s_law ["script"] f fd) (c_law_state : Cl P w K mg base CX0 2 "_law_state" (spState K)) (c_law_choice : Cl P w K mg base CX0 1 "_law_choice" (spS K preC resC)) (c_law_number : Cl P w K mg base CX0 2 "_law_number" (spS K preN resNum))
    (c_law_text : Cl P w K mg base CX0 2 "_law_text" (spS K preN resText)) (c_law_formula : Cl P w K mg base CX0 8 "_law_formula" (spFm K 5)) (c_typed_of : Cl P w K mg base CX0 27 "typed_of" (spF K pTypedOf)) (c_typed : Cl P w K mg base (L2.CX P w) 227 "typed" (spZ K cBF cBN pTyped))
    (c_law_else : Cl P w K mg base CX0 228 "_law_else" (spF K pElse)) : FnOk P w K mg base CX0 229 f fd ["script"] (spLaw K) := by
  refine D.fn.ok sc_law (fun vs H Q E h => ?_) (fun cdv A outer s H vs Q E hr h => ?_)
  · obtain ⟨p, is, rfl, _⟩ := h
    rfl
  obtain ⟨p, is, rfl, hs, q⟩ := h
  refine ⟨_, (pss_cons (ps_set (i := 1) sc_law.nd rfl (Or.inl rfl) (pe_cl c_law_state hr (by omega) pass0 (pa_cons (pv 0) (pa_cons pe_int pa_nil))))
    (pss_cons (ps_set (i := 2) sc_law.nd rfl (Or.inl rfl) (pe_cl c_law_choice hr (by omega) pass0 (pa_cons (pv 1) (pa_cons pe_int pa_nil))))
    (pss_cons (ps_set (i := 3) sc_law.nd rfl (Or.inl rfl) pe_non)
    (pss_cons (ps_if (pt_cmpR op_eq (pv 2) pe_int (nomark _)) (pss_one (ps_set (i := 3) sc_law.nd rfl (Or.inl rfl) (pe_tup (pa_cons pe_str (pa_cons (pe_cl c_law_number hr (by omega) pass0 (pa_cons (pv 1) pa_nil)) pa_nil))))) pss_nil)
    (pss_cons (ps_if (pt_cmpR op_eq (pv 2) pe_int (nomark _)) (pss_cons (ps_set (i := 4) sc_law.nd rfl (Or.inl rfl) (pe_lst (pa_cons (pe_cl c_law_text hr (by omega) pass0 (pa_cons (pv 1) pa_nil)) (pa_cons (pe_ix ix_list (pe_lst (pa_cons pe_str (pa_cons pe_str (pa_cons pe_str (pa_cons pe_str (pa_cons pe_str (pa_cons pe_str (pa_cons pe_str (pa_cons pe_str pa_nil))))))))) (pe_cl c_law_choice hr (by omega) pass0 (pa_cons (pv 1) (pa_cons pe_int pa_nil))) (fun _ _ => rfl)) pa_nil))))
    (pss_one (ps_set (i := 3) sc_law.nd rfl (Or.inl rfl) (pe_tup (pa_cons pe_str (pa_cons (pe_tup (pa_cons pe_str (pa_cons (pe_ix ix_list (pv 4) (pe_cl c_law_choice hr (by omega) pass0 (pa_cons (pv 1) (pa_cons pe_int pa_nil))) (fun _ _ => rfl)) pa_nil))) pa_nil)))))) pss_nil)
    (pss_cons (ps_if (pt_cmpR op_eq (pv 2) pe_int (nomark _)) (pss_one (ps_set (i := 3) sc_law.nd rfl (Or.inl rfl) (pe_tup (pa_cons pe_str (pa_cons (pe_tup (pa_cons pe_str (pa_cons (pe_cmpR op_eq (pe_cl c_law_choice hr (by omega) pass0 (pa_cons (pv 1) (pa_cons pe_int pa_nil))) pe_int (nomark _)) pa_nil))) pa_nil))))) pss_nil)
    (pss_cons (ps_if (pt_cmpR op_eq (pv 2) pe_int (nomark _)) (pss_one (ps_set (i := 3) sc_law.nd rfl (Or.inl rfl) (pe_tup (pa_cons pe_str (pa_cons (pe_cl c_law_formula hr (by omega) pass0 (pa_cons (pe_op op_cat (pv 1) (pe_lst (pa_cons pe_int pa_nil))) (pa_cons pe_int pa_nil))) pa_nil))))) pss_nil)
    (pss_cons (ps_set (i := 5) sc_law.nd rfl (Or.inl rfl) (pe_cl c_typed_of hr (by omega) pass0 (pa_cons (pv 3) pa_nil)))
    (pss_cons (ps_if (PW.pt (pw_or (pt_not (pt_val (pe_callB call_isi (by rfl) M.b_isinstance (by decide +kernel) (pa_cons (pv 5) (pa_cons (pe_bltn (v := .ty "str") (u := .type "str") (by rfl) M.b_str (by decide +kernel) rfl) pa_nil))))) (pw_or1 (pt_cmpR (op_neD hr.units) (pe_cl c_typed hr (by omega) passL (pa_cons (pv 5) pa_nil)) (pv 3) (nomark _))))) (pss_one (ps_ret pe_bl)) pss_nil)
    (pss_cons (ps_if (pt_cmpR op_eq (pv 2) pe_int (nomark _)) (pss_cons (ps_set (i := 4) sc_law.nd rfl (Or.inl rfl) (pe_ix ix_tup (pe_ix ix_tup (pv 3) pe_int (fun _ _ => rfl)) pe_int (fun _ _ => rfl)))
    (pss_one (ps_ret (pe_cmpR op_eq (pv 5) (pe_op op_add_str (pe_ix ix_list (pe_lst (pa_cons pe_str (pa_cons pe_str pa_nil))) (pe_callTy call_int1 (by rfl) M.b_int (by decide +kernel) (pa_cons (pe_cl c_law_else hr (by omega) pass0 (pa_cons (pv 4) pa_nil)) pa_nil)) (fun _ _ => rfl)) (pv 4)) (nomark _))))) pss_nil)
    (pss_one (ps_ret (pe_cmpR op_ne (pe_slice sl_str (pv 5) po_none (po_some pe_int)) pe_str (nomark _)))))))))))))), ?_⟩
  refine Run.go ?_
  refine r_state (k := 0) (ea_cons (ev_var rfl) (ea_cons ev_c ea_nil)) hs fun a b H1 e1 s1 => ?_
  refine rs_run ?_ s1
  refine rs_set (K := K) (es_chC 5 rfl) fun d v H2 m2 ⟨kd, hk, hk5⟩ t2 => ?_
  subst hk
  obtain rfl := t2.int_eq
  refine rs_set (K := K) (P := fun d => d = .none) (es_of (fun _ _ _ => d_non ev_c) rfl) fun d v H3 m3 hd t3 => ?_
  subst hd
  obtain rfl := t3.non_eq
  -- what stands at content
  have tst : ∀ (n : Nat) (v : V) (s4 : Option V) (H' : Hp), EvT (tTest (tOp rEq (tVar 2) (tC (.int (n : Int))))) [some (.ref p), some (.ref a), some (.int (kd : Int)), some v, s4, none] H' (decide (kd = n)) := fun n v s4 H' => et_is (t_eqI (ev_var rfl) ev_c) (decide_eq_decide.mpr (by omega))
  generalize hMid : (fun (G : Ct → Prop) (σ' : S) (H' : Hp) => ∃ c v s4, σ' = [some (V.ref p), some (.ref a), some (.int (kd : Int)), some v, s4, none] ∧ Tp K H' v (ctD c) ∧ ctOk c ∧ ctSh c ∧ G c) = Mid
  have mk : ∀ (G : Ct → Prop) (c : Ct) (v : V) (s4 : Option V) (H' : Hp), Tp K H' v (ctD c) → ctOk c → ctSh c → G c → Mid G [some (V.ref p), some (.ref a), some (.int (kd : Int)), some v, s4, none] H' := fun G c v s4 H' h1 h2 h3 h4 => by
    rw [← hMid]
    exact ⟨c, v, s4, rfl, h1, h2, h3, h4⟩
  have un : ∀ {G : Ct → Prop} {σ' : S} {H' : Hp}, Mid G σ' H' → ∃ c v s4, σ' = [some (V.ref p), some (.ref a), some (.int (kd : Int)), some v, s4, none] ∧ Tp K H' v (ctD c) ∧ ctOk c ∧ ctSh c ∧ G c := fun h => by
    rw [← hMid] at h
    exact h
  clear hMid
  -- kind 1
  refine rs_ifM (Mid fun c => kd ≠ 2 → ∀ t, c ≠ .txt t) (fun H1 _ _ => tst 1 _ _ _) (fun hb NX nx => ?_) (fun hb H1 m => mk _ .none _ _ _ .non trivial trivial fun _ t h => nomatch h) fun σ1 H4 md => ?_
  · refine es_nx (K := K) (P := fun d => ∃ i b, d = ctD (.num i b) ∧ ctOk (.num i b)) (es_tup (esa_cons (es_str rfl) (esa_cons (es_callS (Pre := preN) (R := resNum) (P := resNum []) rfl esa_nil fun ds h => ⟨h, fun d h => h⟩) esa_nil)) ?_) fun d v H5 m5 s5 hp t5 => ?_
    · rintro ds ⟨d1, ds1, rfl, e1, d2, ds2, rfl, ⟨i, b, rfl, h⟩, rfl⟩
      subst e1
      exact ⟨⟨i, b, rfl, h⟩, by simp⟩
    · obtain ⟨i, b, rfl, h⟩ := hp
      exact nx _ _ s5 (mk _ (.num i b) _ _ _ t5 h trivial fun _ t h => nomatch h)
  obtain ⟨c4, v4, x4, rfl, t4, g1, g2, g3⟩ := un md
  clear md
  -- kind 2
  refine rs_ifM (Mid fun c => (kd = 2 → ∃ t, c = .txt t) ∧ (kd ≠ 2 → ∀ t, c ≠ .txt t)) (fun H1 _ _ => tst 2 _ _ _) (fun hb NX nx => ?_) (fun hb H1 m => mk _ c4 _ _ _ (t4.kp m.2) g1 g2 ⟨fun h => absurd h (of_decide_eq_false hb), g3⟩) fun σ1 H5 md => ?_
  · have hk2 := of_decide_eq_true hb
    have l1 : ∀ {z : Str} {σ : S} {H : Hp}, (decide ((TL.tl z).length ≤ 60) && (TL.tl z).all (fun c => decide (c < 128)) = true) → EvS K a b [] (tC (.str z)) σ H (resText []) := fun h => es_str (by
      obtain ⟨t, e, h1, h2⟩ := lit_t h
      exact ⟨t, e, h1, fun c hc => of_decide_eq_true (h2 c hc)⟩)
    refine rs_setL (K := K) (esl_lst (esc (P := resText []) (es_callS (Pre := preN) (R := resText) rfl esa_nil fun ds h => ⟨h, fun d h => h⟩) (esc (es_pick (esc (l1 (by decide +kernel)) (esc (l1 (by decide +kernel)) (esc (l1 (by decide +kernel)) (esc (l1 (by decide +kernel)) (esc (l1 (by decide +kernel)) (esc (l1 (by decide +kernel)) (esc (l1 (by decide +kernel)) (esc (l1 (by decide +kernel)) esn)))))))) (es_chC 8 rfl)) esn)) fun ds h => by omega) fun ds pp xs H6 m6 hx hne hp t6 => ?_
    refine es_nx (K := K) (P := fun d => ∃ t : List Nat, d = ctD (.txt t) ∧ t.length ≤ 60 ∧ ∀ c ∈ t, c < 128) (es_tup (esa_cons (es_str rfl) (esa_cons (P := fun d => ∃ t : List Nat, d = .tuple [.str "text", .str (tx t)] ∧ t.length ≤ 60 ∧ ∀ c ∈ t, c < 128) (es_tup (esa_cons (es_str rfl) (esa_cons (es_ixV (n := 2) (P := resText []) rfl hne hx t6 (es_chC 2 rfl) hp.1 hp.2) esa_nil)) ?_) esa_nil)) ?_) fun d v H7 m7 s7 hp7 t7 => ?_
    · rintro ds ⟨d1, ds1, rfl, e1, d2, ds2, rfl, ⟨t, rfl, h⟩, rfl⟩
      subst e1
      exact ⟨⟨t, rfl, h⟩, by simp⟩
    · rintro ds ⟨d1, ds1, rfl, e1, d2, ds2, rfl, ⟨t, rfl, h⟩, rfl⟩
      subst e1
      exact ⟨⟨t, rfl, h⟩, by simp⟩
    · obtain ⟨t, rfl, h1, h2⟩ := hp7
      exact nx _ _ s7 (mk _ (.txt t) _ _ _ t7 h1 h2 ⟨fun _ => ⟨t, rfl⟩, fun h => absurd hk2 h⟩)
  obtain ⟨c5, v5, x5, rfl, t5, g1, g2, g3⟩ := un md
  clear md
  -- kind 3
  refine rs_ifM (Mid fun c => (kd = 2 → ∃ t, c = .txt t) ∧ (kd ≠ 2 → ∀ t, c ≠ .txt t)) (fun H1 _ _ => tst 3 _ _ _) (fun hb NX nx => ?_) (fun hb H1 m => mk _ c5 _ _ _ (t5.kp m.2) g1 g2 g3) fun σ1 H6 md => ?_
  · have hk3 := of_decide_eq_true hb
    refine es_nx (K := K) (P := fun d => ∃ c : Bool, d = ctD (.tru c)) (es_tup (esa_cons (es_str rfl) (esa_cons (P := fun d => ∃ c : Bool, d = .tuple [.str "truth", .bool c]) (es_tup (esa_cons (es_str rfl) (esa_cons (es_eq (es_chI 2 rfl)) esa_nil)) ?_) esa_nil)) ?_) fun d v H7 m7 s7 hp7 t7 => ?_
    · rintro ds ⟨d1, ds1, rfl, e1, d2, ds2, rfl, ⟨c, rfl⟩, rfl⟩
      subst e1
      exact ⟨⟨c, rfl⟩, by simp⟩
    · rintro ds ⟨d1, ds1, rfl, e1, d2, ds2, rfl, ⟨c, rfl⟩, rfl⟩
      subst e1
      exact ⟨⟨c, rfl⟩, by simp⟩
    · obtain ⟨c, rfl⟩ := hp7
      exact nx _ _ s7 (mk _ (.tru c) _ _ _ t7 trivial trivial ⟨fun h => by omega, fun _ t h => nomatch h⟩)
  obtain ⟨c6, v6, x6, rfl, t6, g1, g2, g3⟩ := un md
  clear md
  -- kind 4
  refine rs_ifM (Mid fun c => (kd = 2 → ∃ t, c = .txt t) ∧ (kd ≠ 2 → ∀ t, c ≠ .txt t)) (fun H1 _ _ => tst 4 _ _ _) (fun hb NX nx => ?_) (fun hb H1 m => mk _ c6 _ _ _ (t6.kp m.2) g1 g2 g3) fun σ1 H7 md => ?_
  · have hk4 := of_decide_eq_true hb
    intro H8 m8 s8
    obtain ⟨s0, hs0, hb0⟩ := s8
    refine ⟨_, rfl, sz_of (by simp), fun p1 hp1 => ⟨a, p1, [.int s0, .bl b], [.int 20], rfl, rfl, ?_, upd_same, sz_of (by simp), fun p2 hp2 => ?_⟩⟩
    · exact Evl.Ex.new hp1 _ _ hs0
    have e12 : Ex H8 (upd (upd H8 p1 (.lst [.int 20])) p2 (.lst [.int s0, .bl b, .int 20])) := (Evl.Ex.new hp1).trans (Evl.Ex.new hp2)
    refine ⟨p2, b, 20, 5, rfl, ⟨s0, upd_same, hb0⟩, by decide, by decide, fun g c' v H9 m9 s9 k t9 => ⟨sz_of (by simp), fun p3 hp3 => ?_⟩⟩
    have e3 := Evl.Ex.new (o := .tup [V.str "has", v]) hp3
    have hap : a ≠ p2 := fun e => by
      rw [← e] at hp2
      have := Evl.Ex.new (o := .lst [.int 20]) hp1 _ _ hs0
      rw [this] at hp2
      cases hp2
    refine nx _ _ (Sq.ex ⟨s0, m9.1 a _ hap (e12 _ _ hs0), hb0⟩ e3) (mk _ (.has g) _ _ _ (.tup (st_of upd_same) (.cons (.str _) (.one (t9.ex e3)))) ?_ ?_ ⟨fun h => by omega, fun _ t h => nomatch h⟩)
    · have := k.sz
      have := k.cn
      have := k.dp
      refine ⟨?_, k.dp⟩
      simp only [isForm, Bool.and_eq_true, decide_eq_true_eq]
      exact ⟨⟨k.gd, by omega⟩, by omega⟩
    · exact ⟨k.gd, by have := k.dp; omega⟩
  obtain ⟨c7, v7, x7, rfl, t7, g1, g2, g3⟩ := un md
  clear md
  -- the end
  intro H8 m8 _
  have t8 := t7.kp m8.2
  refine Run.go (H := H8) ?_
  refine r_set (v_str (d_call (P := pTypedOf) (da_cons (d_var rfl t8) da_nil) ⟨c7, rfl, g1, rfl⟩)) ?_
  have w5 : Ev (tVar 5) [some (V.ref p), some (.ref a), some (.int (kd : Int)), some v7, x7, some (.str (tx (typedOf c7)))] H8 (.str (tx (typedOf c7))) := ev_var rfl
  have w3 : EvD K (tVar 3) [some (V.ref p), some (.ref a), some (.int (kd : Int)), some v7, x7, some (.str (tx (typedOf c7)))] H8 (ctD c7) := d_var rfl t8
  have hlen := to_len g1
  refine r_no (et_is (et_or (a := false) (b := false) (et_not (a := true) (et_B (v_isi w5 (fun _ => .str _)))) fun _ => et_is (et_test (b_neD (z_some (PX := pTyped) (da_cons (d_str w5) da_nil) ⟨typedOf c7, rfl, hlen, fun s hs => to_out g1 hs, by rw [typed_back g1]; rfl⟩) w3 (sh_ct g2) (sh_ct g2))) (by rw [PySem.SeqAt.eqv_refl _ (lay_ct g2)]; rfl)) rfl) ?_
  refine r_if (b := decide (kd = 2)) (et_is (t_eqI (ev_var rfl) ev_c) (decide_eq_decide.mpr (by omega))) (fun hb => ?_) (fun hb => ?_)
  · obtain ⟨t, rfl⟩ := g3.1 (of_decide_eq_true hb)
    simp only [ctD] at w3
    refine r_set (v_str (d_ix1 (d_ix1 w3))) ?_
    have y4 : Ev (tVar 4) [some (V.ref p), some (.ref a), some (.int (kd : Int)), some v7, some (.str (tx t)), some (.str (tx (typedOf (.txt t))))] H8 (.str (tx t)) := ev_var rfl
    have y5 : Ev (tVar 5) [some (V.ref p), some (.ref a), some (.int (kd : Int)), some v7, some (.str (tx t)), some (.str (tx (typedOf (.txt t))))] H8 (.str (tx (typedOf (.txt t)))) := ev_var rfl
    have hz : t.length ≤ 60 := g1
    have pk := v_pick (K := K) (z0 := "") (z1 := "'") (v_bl (d_call (K := K) (E := E0) (P := pElse) (da_cons (d_str y4) da_nil) ⟨t, rfl, hz, g2, rfl⟩))
    have hh : (if (!plain t) = true then ("'" : Str) else "") = tx (if plain t = true then [] else [39]) := by
      cases plain t <;> decide +kernel
    rw [hh] at pk
    refine r_ret (K := K) (d_is (d_bl (b_eqL y5 (v_catL pk y4 (by split <;> simp <;> omega)))) (congrArg PyData.bool (decide_eq_true ?_))) fun v H9 e9 t9 => ?_
    · simp only [typedOf]
      split <;> simp
    · rw [t9.bl_eq]
      exact q H9
  · have hf := to_first (g3.2 (of_decide_eq_false hb))
    refine r_ret (K := K) (d_is (d_bl (ev_is (b_neS (v_take w5 (eo_some ev_c) (by omega) (b := 1)) (v_str_c (s := "'") (l := [39]))) (congrArg V.bl (show (!decide (tx ((typedOf c7).take 1) = tx [39])) = true by rw [tx_eq, decide_eq_false hf]; rfl)))) rfl) fun v H9 e9 t9 => ?_
    rw [t9.bl_eq]
    exact q H9
end
end Ws
end

section
set_option Elab.async false
set_option linter.all false
set_option maxRecDepth 100000
set_option maxHeartbeats 0
namespace Ws
open PySem PySem.Spec PyProof.Rows L2
/-- what is raised is of a class below the one that is caught -/
theorem caught {K : PySem.W.Frag} {A B : Addr} (u : PySem.W.subIn K (.ref A) (.type "BaseException") = some true) (v : PySem.W.isClsIn K A = true) (x : PySem.W.typeIn K (.ref A) = some (.type "type")) (y : PySem.W.subIn K (.ref B) (.ref A) = some true) : PySem.W.exmOne K (.ref B) (.ref A) = some true := by
  unfold PySem.W.exmOne PySem.W.kitCls
  have v' : (PySem.W.clsIn K A).isSome = true := v
  rw [u]
  simp only [v', x, y]
  decide
theorem law_ask {K : PySem.W.Frag} {H : Hp} {a : Addr} {ns : List Int} (hs : SqL K H a (ns.map V.int)) : spLaw K [.ref a] H (fun v _ => v = .bl true) fun _ _ _ => False := ⟨a, ns, rfl, hs, fun _ => rfl⟩
theorem all_mk {P : Program} {w : World} {K : PySem.W.Frag} {h : Heap} {mg : Str → Option Value} {fa : Addr} (KX : K.In h) (G : h.Ns mainGlobals mg) (hfa : mg "law" = some (.ref fa))
    {t_MOST_SIGNS : Tok}
    {t_MOST_ROWS : Tok}
    {t_MOST_COLUMNS : Tok}
    {t_MOST_FORMULAS : Tok}
    {t_MOST_DEEP : Tok}
    {t_MOST_LETTERS : Tok}
    {t_LESS : Tok}
    {t_ATOM : Tok}
    {t_MOST_OPEN : Tok}
    {t_GREAT_values : Tok}
    {t_ALLOWED : Tok}
    {t_COLUMNS : Tok}
    {t_SMALL : Tok}
    {t_GREAT_formulas : Tok}
    {t_FIGURES : Tok}
    {aS aL cBF cBN cSE : Addr} {oS : Obj} {itS : Array Value} {kS : Nat} {es : Array DictEntry} {nn : Nat}
    {tl_eq : Tok}
    {tl_ne : Tok}
    {tl_lt : Tok}
    {tl_le : Tok}
    {tl_gt : Tok}
    {tl_ge : Tok}
    {tl_amp : Tok}
    {tl_add : Tok}
    {tl_sub : Tok}
    {tl_mul : Tok}
    {tl_div : Tok}
    {f_divisor : Addr} {od_divisor an_divisor : Option Addr} {sl_divisor : Array (Option Value)} {oc_divisor kV_divisor dc_divisor pm_divisor cd_divisor ct_divisor : Value}
    {f_is_short : Addr} {od_is_short an_is_short : Option Addr} {sl_is_short : Array (Option Value)} {oc_is_short kV_is_short dc_is_short pm_is_short cd_is_short ct_is_short : Value}
    {f_number : Addr} {od_number an_number : Option Addr} {sl_number : Array (Option Value)} {oc_number kV_number dc_number pm_number cd_number ct_number : Value}
    {f_is_text : Addr} {od_is_text an_is_text : Option Addr} {sl_is_text : Array (Option Value)} {oc_is_text kV_is_text dc_is_text pm_is_text cd_is_text ct_is_text : Value}
    {f_is_whole : Addr} {od_is_whole an_is_whole : Option Addr} {sl_is_whole : Array (Option Value)} {oc_is_whole kV_is_whole dc_is_whole pm_is_whole cd_is_whole ct_is_whole : Value}
    {f_shown_number : Addr} {od_shown_number an_shown_number : Option Addr} {sl_shown_number : Array (Option Value)} {oc_shown_number kV_shown_number dc_shown_number pm_shown_number cd_shown_number ct_shown_number : Value}
    {f_shown_truth : Addr} {od_shown_truth an_shown_truth : Option Addr} {sl_shown_truth : Array (Option Value)} {oc_shown_truth kV_shown_truth dc_shown_truth pm_shown_truth cd_shown_truth ct_shown_truth : Value}
    {f_shown_value : Addr} {od_shown_value an_shown_value : Option Addr} {sl_shown_value : Array (Option Value)} {oc_shown_value kV_shown_value dc_shown_value pm_shown_value cd_shown_value ct_shown_value : Value}
    {f_parts_of : Addr} {od_parts_of an_parts_of : Option Addr} {sl_parts_of : Array (Option Value)} {oc_parts_of kV_parts_of dc_parts_of pm_parts_of cd_parts_of ct_parts_of : Value}
    {f_formula_size : Addr} {od_formula_size an_formula_size : Option Addr} {sl_formula_size : Array (Option Value)} {oc_formula_size kV_formula_size dc_formula_size pm_formula_size cd_formula_size ct_formula_size : Value}
    {f_depth : Addr} {od_depth an_depth : Option Addr} {sl_depth : Array (Option Value)} {oc_depth kV_depth dc_depth pm_depth cd_depth ct_depth : Value}
    {f_is_place : Addr} {od_is_place an_is_place : Option Addr} {sl_is_place : Array (Option Value)} {oc_is_place kV_is_place dc_is_place pm_is_place cd_is_place ct_is_place : Value}
    {f_is_of : Addr} {od_is_of an_is_of : Option Addr} {sl_is_of : Array (Option Value)} {oc_is_of kV_is_of dc_is_of pm_is_of cd_is_of ct_is_of : Value}
    {f_is_put : Addr} {od_is_put an_is_put : Option Addr} {sl_is_put : Array (Option Value)} {oc_is_put kV_is_put dc_is_put pm_is_put cd_is_put ct_is_put : Value}
    {f_is_leaf : Addr} {od_is_leaf an_is_leaf : Option Addr} {sl_is_leaf : Array (Option Value)} {oc_is_leaf kV_is_leaf dc_is_leaf pm_is_leaf cd_is_leaf ct_is_leaf : Value}
    {f_is_sound : Addr} {od_is_sound an_is_sound : Option Addr} {sl_is_sound : Array (Option Value)} {oc_is_sound kV_is_sound dc_is_sound pm_is_sound cd_is_sound ct_is_sound : Value}
    {f_is_formula : Addr} {od_is_formula an_is_formula : Option Addr} {sl_is_formula : Array (Option Value)} {oc_is_formula kV_is_formula dc_is_formula pm_is_formula cd_is_formula ct_is_formula : Value}
    {f_cell_text : Addr} {od_cell_text an_cell_text : Option Addr} {sl_cell_text : Array (Option Value)} {oc_cell_text kV_cell_text dc_cell_text pm_cell_text cd_cell_text ct_cell_text : Value}
    {f_put_text : Addr} {od_put_text an_put_text : Option Addr} {sl_put_text : Array (Option Value)} {oc_put_text kV_put_text dc_put_text pm_put_text cd_put_text ct_put_text : Value}
    {f_level_of : Addr} {od_level_of an_level_of : Option Addr} {sl_level_of : Array (Option Value)} {oc_level_of kV_level_of dc_level_of pm_level_of cd_level_of ct_level_of : Value}
    {f_within : Addr} {od_within an_within : Option Addr} {sl_within : Array (Option Value)} {oc_within kV_within dc_within pm_within cd_within ct_within : Value}
    {f_two_text : Addr} {od_two_text an_two_text : Option Addr} {sl_two_text : Array (Option Value)} {oc_two_text kV_two_text dc_two_text pm_two_text cd_two_text ct_two_text : Value}
    {f_shown : Addr} {od_shown an_shown : Option Addr} {sl_shown : Array (Option Value)} {oc_shown kV_shown dc_shown pm_shown cd_shown ct_shown : Value}
    {f_let_in : Addr} {od_let_in an_let_in : Option Addr} {sl_let_in : Array (Option Value)} {oc_let_in kV_let_in dc_let_in pm_let_in cd_let_in ct_let_in : Value}
    {f_run : Addr} {od_run an_run : Option Addr} {sl_run : Array (Option Value)} {oc_run kV_run dc_run pm_run cd_run ct_run : Value}
    {f_sign_at : Addr} {od_sign_at an_sign_at : Option Addr} {sl_sign_at : Array (Option Value)} {oc_sign_at kV_sign_at dc_sign_at pm_sign_at cd_sign_at ct_sign_at : Value}
    {f_number_at : Addr} {od_number_at an_number_at : Option Addr} {sl_number_at : Array (Option Value)} {oc_number_at kV_number_at dc_number_at pm_number_at cd_number_at ct_number_at : Value}
    {f_text_at : Addr} {od_text_at an_text_at : Option Addr} {sl_text_at : Array (Option Value)} {oc_text_at kV_text_at dc_text_at pm_text_at cd_text_at ct_text_at : Value}
    {f_cell_at : Addr} {od_cell_at an_cell_at : Option Addr} {sl_cell_at : Array (Option Value)} {oc_cell_at kV_cell_at dc_cell_at pm_cell_at cd_cell_at ct_cell_at : Value}
    {f_cells_at : Addr} {od_cells_at an_cells_at : Option Addr} {sl_cells_at : Array (Option Value)} {oc_cells_at kV_cells_at dc_cells_at pm_cells_at cd_cells_at ct_cells_at : Value}
    {f_call_at : Addr} {od_call_at an_call_at : Option Addr} {sl_call_at : Array (Option Value)} {oc_call_at kV_call_at dc_call_at pm_call_at cd_call_at ct_call_at : Value}
    {f_great_at : Addr} {od_great_at an_great_at : Option Addr} {sl_great_at : Array (Option Value)} {oc_great_at kV_great_at dc_great_at pm_great_at cd_great_at ct_great_at : Value}
    {f_atom_at : Addr} {od_atom_at an_atom_at : Option Addr} {sl_atom_at : Array (Option Value)} {oc_atom_at kV_atom_at dc_atom_at pm_atom_at cd_atom_at ct_atom_at : Value}
    {f_less_at : Addr} {od_less_at an_less_at : Option Addr} {sl_less_at : Array (Option Value)} {oc_less_at kV_less_at dc_less_at pm_less_at cd_less_at ct_less_at : Value}
    {f_level_at : Addr} {od_level_at an_level_at : Option Addr} {sl_level_at : Array (Option Value)} {oc_level_at kV_level_at dc_level_at pm_level_at cd_level_at ct_level_at : Value}
    {f_read : Addr} {od_read an_read : Option Addr} {sl_read : Array (Option Value)} {oc_read kV_read dc_read pm_read cd_read ct_read : Value}
    {f_is_figures : Addr} {od_is_figures an_is_figures : Option Addr} {sl_is_figures : Array (Option Value)} {oc_is_figures kV_is_figures dc_is_figures pm_is_figures cd_is_figures ct_is_figures : Value}
    {f_number_of : Addr} {od_number_of an_number_of : Option Addr} {sl_number_of : Array (Option Value)} {oc_number_of kV_number_of dc_number_of pm_number_of cd_number_of ct_number_of : Value}
    {f_text_of : Addr} {od_text_of an_text_of : Option Addr} {sl_text_of : Array (Option Value)} {oc_text_of kV_text_of dc_text_of pm_text_of cd_text_of ct_text_of : Value}
    {f_typed : Addr} {od_typed an_typed : Option Addr} {sl_typed : Array (Option Value)} {oc_typed kV_typed dc_typed pm_typed cd_typed ct_typed : Value}
    {f_is_plain : Addr} {od_is_plain an_is_plain : Option Addr} {sl_is_plain : Array (Option Value)} {oc_is_plain kV_is_plain dc_is_plain pm_is_plain cd_is_plain ct_is_plain : Value}
    {f_typed_of : Addr} {od_typed_of an_typed_of : Option Addr} {sl_typed_of : Array (Option Value)} {oc_typed_of kV_typed_of dc_typed_of pm_typed_of cd_typed_of ct_typed_of : Value}
    {f_law_cell_at : Addr} {od_law_cell_at an_law_cell_at : Option Addr} {sl_law_cell_at : Array (Option Value)} {oc_law_cell_at kV_law_cell_at dc_law_cell_at pm_law_cell_at cd_law_cell_at ct_law_cell_at : Value}
    {f_law_state : Addr} {od_law_state an_law_state : Option Addr} {sl_law_state : Array (Option Value)} {oc_law_state kV_law_state dc_law_state pm_law_state cd_law_state ct_law_state : Value}
    {f_law_choice : Addr} {od_law_choice an_law_choice : Option Addr} {sl_law_choice : Array (Option Value)} {oc_law_choice kV_law_choice dc_law_choice pm_law_choice cd_law_choice ct_law_choice : Value}
    {f_law_lowest : Addr} {od_law_lowest an_law_lowest : Option Addr} {sl_law_lowest : Array (Option Value)} {oc_law_lowest kV_law_lowest dc_law_lowest pm_law_lowest cd_law_lowest ct_law_lowest : Value}
    {f_law_number : Addr} {od_law_number an_law_number : Option Addr} {sl_law_number : Array (Option Value)} {oc_law_number kV_law_number dc_law_number pm_law_number cd_law_number ct_law_number : Value}
    {f_law_text : Addr} {od_law_text an_law_text : Option Addr} {sl_law_text : Array (Option Value)} {oc_law_text kV_law_text dc_law_text pm_law_text cd_law_text ct_law_text : Value}
    {f_law_leaf : Addr} {od_law_leaf an_law_leaf : Option Addr} {sl_law_leaf : Array (Option Value)} {oc_law_leaf kV_law_leaf dc_law_leaf pm_law_leaf cd_law_leaf ct_law_leaf : Value}
    {f_law_words : Addr} {od_law_words an_law_words : Option Addr} {sl_law_words : Array (Option Value)} {oc_law_words kV_law_words dc_law_words pm_law_words cd_law_words ct_law_words : Value}
    {f_law_formula : Addr} {od_law_formula an_law_formula : Option Addr} {sl_law_formula : Array (Option Value)} {oc_law_formula kV_law_formula dc_law_formula pm_law_formula cd_law_formula ct_law_formula : Value}
    {f_law_else : Addr} {od_law_else an_law_else : Option Addr} {sl_law_else : Array (Option Value)} {oc_law_else kV_law_else dc_law_else pm_law_else cd_law_else ct_law_else : Value}
    {f_law : Addr} {od_law an_law : Option Addr} {sl_law : Array (Option Value)} {oc_law kV_law dc_law pm_law cd_law ct_law : Value}
    (i_MOST_SIGNS : PySem.W.nsIn K mainGlobals "MOST_SIGNS" = some (some (.int 60 t_MOST_SIGNS)))
    (i_MOST_ROWS : PySem.W.nsIn K mainGlobals "MOST_ROWS" = some (some (.int 20 t_MOST_ROWS)))
    (i_MOST_COLUMNS : PySem.W.nsIn K mainGlobals "MOST_COLUMNS" = some (some (.int 10 t_MOST_COLUMNS)))
    (i_MOST_FORMULAS : PySem.W.nsIn K mainGlobals "MOST_FORMULAS" = some (some (.int 60 t_MOST_FORMULAS)))
    (i_MOST_DEEP : PySem.W.nsIn K mainGlobals "MOST_DEEP" = some (some (.int 8 t_MOST_DEEP)))
    (i_MOST_LETTERS : PySem.W.nsIn K mainGlobals "MOST_LETTERS" = some (some (.int 8 t_MOST_LETTERS)))
    (i_LESS : PySem.W.nsIn K mainGlobals "LESS" = some (some (.int 5 t_LESS)))
    (i_ATOM : PySem.W.nsIn K mainGlobals "ATOM" = some (some (.int 6 t_ATOM)))
    (i_MOST_OPEN : PySem.W.nsIn K mainGlobals "MOST_OPEN" = some (some (.int 20 t_MOST_OPEN)))
    (i_GREAT_values : PySem.W.nsIn K mainGlobals "GREAT_values" = some (some (.int 10000000000000000000000000000000000000000 t_GREAT_values)))
    (i_ALLOWED : PySem.W.nsIn K mainGlobals "ALLOWED" = some (some (.str " !\"#$&'()*+,-./0123456789:;<=>?@ABCDEFGHIJKLMNOPQRSTUVWXYZ[\\]^_`abcdefghijklmnopqrstuvwxyz{|}~" t_ALLOWED)))
    (i_COLUMNS : PySem.W.nsIn K mainGlobals "COLUMNS" = some (some (.str "ABCDEFGHIJ" t_COLUMNS)))
    (i_SMALL : PySem.W.nsIn K mainGlobals "SMALL" = some (some (.str "abcdefghijklmnopqrstuvwxyz" t_SMALL)))
    (i_GREAT_formulas : PySem.W.nsIn K mainGlobals "GREAT_formulas" = some (some (.str "ABCDEFGHIJKLMNOPQRSTUVWXYZ" t_GREAT_formulas)))
    (i_FIGURES : PySem.W.nsIn K mainGlobals "FIGURES" = some (some (.str "0123456789" t_FIGURES)))
    (i_SIGNS : PySem.W.nsIn K mainGlobals "SIGNS" = some (some (.ref aS)))
    (j_SIGNS : K.lookup aS = some oS)
    (j1_SIGNS : oS.cls = .type "tuple")
    (j2_SIGNS : oS.data = .seq itS kS)
    (j3_SIGNS : itS.size ≤ sizeLine)
    (j4_SIGNS : L2.Vals (ops.map fun o => L2.V.str (opS o)) itS.toList)
    (i_LEVELS : PySem.W.nsIn K mainGlobals "LEVELS" = some (some (.ref aL)))
    (j_LEVELS : K.lookup aL = some ⟨.type "dict", none, .dict es nn, #[]⟩)
    (j2_LEVELS : PySem.W.KeysLit w.params es.toList)
    (j3_LEVELS : (aL == sysModules) = false)
    (lv_eq : PySem.W.nsIn K aL "=" = some (some (.int 1 tl_eq)))
    (lv_ne : PySem.W.nsIn K aL "<>" = some (some (.int 1 tl_ne)))
    (lv_lt : PySem.W.nsIn K aL "<" = some (some (.int 1 tl_lt)))
    (lv_le : PySem.W.nsIn K aL "<=" = some (some (.int 1 tl_le)))
    (lv_gt : PySem.W.nsIn K aL ">" = some (some (.int 1 tl_gt)))
    (lv_ge : PySem.W.nsIn K aL ">=" = some (some (.int 1 tl_ge)))
    (lv_amp : PySem.W.nsIn K aL "&" = some (some (.int 2 tl_amp)))
    (lv_add : PySem.W.nsIn K aL "+" = some (some (.int 3 tl_add)))
    (lv_sub : PySem.W.nsIn K aL "-" = some (some (.int 3 tl_sub)))
    (lv_mul : PySem.W.nsIn K aL "*" = some (some (.int 4 tl_mul)))
    (lv_div : PySem.W.nsIn K aL "/" = some (some (.int 4 tl_div)))
    (b_len : PySem.W.nsIn K mainGlobals "len" = some none)
    (b_abs : PySem.W.nsIn K mainGlobals "abs" = some none)
    (b_sum : PySem.W.nsIn K mainGlobals "sum" = some none)
    (b_all : PySem.W.nsIn K mainGlobals "all" = some none)
    (b_max : PySem.W.nsIn K mainGlobals "max" = some none)
    (b_str : PySem.W.nsIn K mainGlobals "str" = some none)
    (b_int : PySem.W.nsIn K mainGlobals "int" = some none)
    (b_bool : PySem.W.nsIn K mainGlobals "bool" = some none)
    (b_isinstance : PySem.W.nsIn K mainGlobals "isinstance" = some none)
    (b_tuple : PySem.W.nsIn K mainGlobals "tuple" = some none)
    (b_range : PySem.W.nsIn K mainGlobals "range" = some none)
    (gBF : PySem.W.nsIn K mainGlobals "BadFormula" = some (some (.ref cBF)))
    (gBN : PySem.W.nsIn K mainGlobals "BadNote" = some (some (.ref cBN)))
    (gSE : PySem.W.nsIn K mainGlobals "SheetError" = some (some (.ref cSE)))
    (xBF : PySem.W.excIn K cBF [.type "ValueError", .type "Exception", .type "BaseException", .type "object"] "ValueError.__new__" = true)
    (kBF : PySem.W.keepIn K (.ref cBF) = true)
    (sBF : PySem.W.subIn K (.ref cBF) (.type "BaseException") = some true)
    (tBF : PySem.W.typeIn K (.ref cBF) = some (.type "type"))
    (eBF : PySem.W.subIn K (.ref cBF) (.ref cSE) = some true)
    (xBN : PySem.W.excIn K cBN [.type "ValueError", .type "Exception", .type "BaseException", .type "object"] "ValueError.__new__" = true)
    (kBN : PySem.W.keepIn K (.ref cBN) = true)
    (sBN : PySem.W.subIn K (.ref cBN) (.type "BaseException") = some true)
    (tBN : PySem.W.typeIn K (.ref cBN) = some (.type "type"))
    (eBN : PySem.W.subIn K (.ref cBN) (.ref cSE) = some true)
    (sSE : PySem.W.subIn K (.ref cSE) (.type "BaseException") = some true)
    (iSE : PySem.W.isClsIn K cSE = true)
    (tSE : PySem.W.typeIn K (.ref cSE) = some (.type "type"))
    (a_divisor : PySem.W.nsIn K mainGlobals "divisor" = some (some (.ref f_divisor)))
    (l_divisor : K.lookup f_divisor = some ⟨oc_divisor, od_divisor, .func (PySem.W.fnOf "divisor" "divisor" (L2.defArgs s_divisor) (L2.defBody s_divisor) (L2.defScope s_divisor) .none kV_divisor dc_divisor pm_divisor an_divisor cd_divisor ct_divisor), sl_divisor⟩)
    (c_divisor : PySem.W.codeIn K cd_divisor "divisor" = true)
    (k_divisor : PySem.W.keepIn K (.ref f_divisor) = true)
    (a_is_short : PySem.W.nsIn K mainGlobals "is_short" = some (some (.ref f_is_short)))
    (l_is_short : K.lookup f_is_short = some ⟨oc_is_short, od_is_short, .func (PySem.W.fnOf "is_short" "is_short" (L2.defArgs s_is_short) (L2.defBody s_is_short) (L2.defScope s_is_short) .none kV_is_short dc_is_short pm_is_short an_is_short cd_is_short ct_is_short), sl_is_short⟩)
    (c_is_short : PySem.W.codeIn K cd_is_short "is_short" = true)
    (k_is_short : PySem.W.keepIn K (.ref f_is_short) = true)
    (a_number : PySem.W.nsIn K mainGlobals "number" = some (some (.ref f_number)))
    (l_number : K.lookup f_number = some ⟨oc_number, od_number, .func (PySem.W.fnOf "number" "number" (L2.defArgs s_number) (L2.defBody s_number) (L2.defScope s_number) .none kV_number dc_number pm_number an_number cd_number ct_number), sl_number⟩)
    (c_number : PySem.W.codeIn K cd_number "number" = true)
    (k_number : PySem.W.keepIn K (.ref f_number) = true)
    (a_is_text : PySem.W.nsIn K mainGlobals "is_text" = some (some (.ref f_is_text)))
    (l_is_text : K.lookup f_is_text = some ⟨oc_is_text, od_is_text, .func (PySem.W.fnOf "is_text" "is_text" (L2.defArgs s_is_text) (L2.defBody s_is_text) (L2.defScope s_is_text) .none kV_is_text dc_is_text pm_is_text an_is_text cd_is_text ct_is_text), sl_is_text⟩)
    (c_is_text : PySem.W.codeIn K cd_is_text "is_text" = true)
    (k_is_text : PySem.W.keepIn K (.ref f_is_text) = true)
    (a_is_whole : PySem.W.nsIn K mainGlobals "is_whole" = some (some (.ref f_is_whole)))
    (l_is_whole : K.lookup f_is_whole = some ⟨oc_is_whole, od_is_whole, .func (PySem.W.fnOf "is_whole" "is_whole" (L2.defArgs s_is_whole) (L2.defBody s_is_whole) (L2.defScope s_is_whole) .none kV_is_whole dc_is_whole pm_is_whole an_is_whole cd_is_whole ct_is_whole), sl_is_whole⟩)
    (c_is_whole : PySem.W.codeIn K cd_is_whole "is_whole" = true)
    (k_is_whole : PySem.W.keepIn K (.ref f_is_whole) = true)
    (a_shown_number : PySem.W.nsIn K mainGlobals "shown_number" = some (some (.ref f_shown_number)))
    (l_shown_number : K.lookup f_shown_number = some ⟨oc_shown_number, od_shown_number, .func (PySem.W.fnOf "shown_number" "shown_number" (L2.defArgs s_shown_number) (L2.defBody s_shown_number) (L2.defScope s_shown_number) .none kV_shown_number dc_shown_number pm_shown_number an_shown_number cd_shown_number ct_shown_number), sl_shown_number⟩)
    (c_shown_number : PySem.W.codeIn K cd_shown_number "shown_number" = true)
    (k_shown_number : PySem.W.keepIn K (.ref f_shown_number) = true)
    (a_shown_truth : PySem.W.nsIn K mainGlobals "shown_truth" = some (some (.ref f_shown_truth)))
    (l_shown_truth : K.lookup f_shown_truth = some ⟨oc_shown_truth, od_shown_truth, .func (PySem.W.fnOf "shown_truth" "shown_truth" (L2.defArgs s_shown_truth) (L2.defBody s_shown_truth) (L2.defScope s_shown_truth) .none kV_shown_truth dc_shown_truth pm_shown_truth an_shown_truth cd_shown_truth ct_shown_truth), sl_shown_truth⟩)
    (c_shown_truth : PySem.W.codeIn K cd_shown_truth "shown_truth" = true)
    (k_shown_truth : PySem.W.keepIn K (.ref f_shown_truth) = true)
    (a_shown_value : PySem.W.nsIn K mainGlobals "shown_value" = some (some (.ref f_shown_value)))
    (l_shown_value : K.lookup f_shown_value = some ⟨oc_shown_value, od_shown_value, .func (PySem.W.fnOf "shown_value" "shown_value" (L2.defArgs s_shown_value) (L2.defBody s_shown_value) (L2.defScope s_shown_value) .none kV_shown_value dc_shown_value pm_shown_value an_shown_value cd_shown_value ct_shown_value), sl_shown_value⟩)
    (c_shown_value : PySem.W.codeIn K cd_shown_value "shown_value" = true)
    (k_shown_value : PySem.W.keepIn K (.ref f_shown_value) = true)
    (a_parts_of : PySem.W.nsIn K mainGlobals "parts_of" = some (some (.ref f_parts_of)))
    (l_parts_of : K.lookup f_parts_of = some ⟨oc_parts_of, od_parts_of, .func (PySem.W.fnOf "parts_of" "parts_of" (L2.defArgs s_parts_of) (L2.defBody s_parts_of) (L2.defScope s_parts_of) .none kV_parts_of dc_parts_of pm_parts_of an_parts_of cd_parts_of ct_parts_of), sl_parts_of⟩)
    (c_parts_of : PySem.W.codeIn K cd_parts_of "parts_of" = true)
    (k_parts_of : PySem.W.keepIn K (.ref f_parts_of) = true)
    (a_formula_size : PySem.W.nsIn K mainGlobals "formula_size" = some (some (.ref f_formula_size)))
    (l_formula_size : K.lookup f_formula_size = some ⟨oc_formula_size, od_formula_size, .func (PySem.W.fnOf "formula_size" "formula_size" (L2.defArgs s_formula_size) (L2.defBody s_formula_size) (L2.defScope s_formula_size) .none kV_formula_size dc_formula_size pm_formula_size an_formula_size cd_formula_size ct_formula_size), sl_formula_size⟩)
    (c_formula_size : PySem.W.codeIn K cd_formula_size "formula_size" = true)
    (k_formula_size : PySem.W.keepIn K (.ref f_formula_size) = true)
    (a_depth : PySem.W.nsIn K mainGlobals "depth" = some (some (.ref f_depth)))
    (l_depth : K.lookup f_depth = some ⟨oc_depth, od_depth, .func (PySem.W.fnOf "depth" "depth" (L2.defArgs s_depth) (L2.defBody s_depth) (L2.defScope s_depth) .none kV_depth dc_depth pm_depth an_depth cd_depth ct_depth), sl_depth⟩)
    (c_depth : PySem.W.codeIn K cd_depth "depth" = true)
    (k_depth : PySem.W.keepIn K (.ref f_depth) = true)
    (a_is_place : PySem.W.nsIn K mainGlobals "is_place" = some (some (.ref f_is_place)))
    (l_is_place : K.lookup f_is_place = some ⟨oc_is_place, od_is_place, .func (PySem.W.fnOf "is_place" "is_place" (L2.defArgs s_is_place) (L2.defBody s_is_place) (L2.defScope s_is_place) .none kV_is_place dc_is_place pm_is_place an_is_place cd_is_place ct_is_place), sl_is_place⟩)
    (c_is_place : PySem.W.codeIn K cd_is_place "is_place" = true)
    (k_is_place : PySem.W.keepIn K (.ref f_is_place) = true)
    (a_is_of : PySem.W.nsIn K mainGlobals "is_of" = some (some (.ref f_is_of)))
    (l_is_of : K.lookup f_is_of = some ⟨oc_is_of, od_is_of, .func (PySem.W.fnOf "is_of" "is_of" (L2.defArgs s_is_of) (L2.defBody s_is_of) (L2.defScope s_is_of) .none kV_is_of dc_is_of pm_is_of an_is_of cd_is_of ct_is_of), sl_is_of⟩)
    (c_is_of : PySem.W.codeIn K cd_is_of "is_of" = true)
    (k_is_of : PySem.W.keepIn K (.ref f_is_of) = true)
    (a_is_put : PySem.W.nsIn K mainGlobals "is_put" = some (some (.ref f_is_put)))
    (l_is_put : K.lookup f_is_put = some ⟨oc_is_put, od_is_put, .func (PySem.W.fnOf "is_put" "is_put" (L2.defArgs s_is_put) (L2.defBody s_is_put) (L2.defScope s_is_put) .none kV_is_put dc_is_put pm_is_put an_is_put cd_is_put ct_is_put), sl_is_put⟩)
    (c_is_put : PySem.W.codeIn K cd_is_put "is_put" = true)
    (k_is_put : PySem.W.keepIn K (.ref f_is_put) = true)
    (a_is_leaf : PySem.W.nsIn K mainGlobals "is_leaf" = some (some (.ref f_is_leaf)))
    (l_is_leaf : K.lookup f_is_leaf = some ⟨oc_is_leaf, od_is_leaf, .func (PySem.W.fnOf "is_leaf" "is_leaf" (L2.defArgs s_is_leaf) (L2.defBody s_is_leaf) (L2.defScope s_is_leaf) .none kV_is_leaf dc_is_leaf pm_is_leaf an_is_leaf cd_is_leaf ct_is_leaf), sl_is_leaf⟩)
    (c_is_leaf : PySem.W.codeIn K cd_is_leaf "is_leaf" = true)
    (k_is_leaf : PySem.W.keepIn K (.ref f_is_leaf) = true)
    (a_is_sound : PySem.W.nsIn K mainGlobals "is_sound" = some (some (.ref f_is_sound)))
    (l_is_sound : K.lookup f_is_sound = some ⟨oc_is_sound, od_is_sound, .func (PySem.W.fnOf "is_sound" "is_sound" (L2.defArgs s_is_sound) (L2.defBody s_is_sound) (L2.defScope s_is_sound) .none kV_is_sound dc_is_sound pm_is_sound an_is_sound cd_is_sound ct_is_sound), sl_is_sound⟩)
    (c_is_sound : PySem.W.codeIn K cd_is_sound "is_sound" = true)
    (k_is_sound : PySem.W.keepIn K (.ref f_is_sound) = true)
    (a_is_formula : PySem.W.nsIn K mainGlobals "is_formula" = some (some (.ref f_is_formula)))
    (l_is_formula : K.lookup f_is_formula = some ⟨oc_is_formula, od_is_formula, .func (PySem.W.fnOf "is_formula" "is_formula" (L2.defArgs s_is_formula) (L2.defBody s_is_formula) (L2.defScope s_is_formula) .none kV_is_formula dc_is_formula pm_is_formula an_is_formula cd_is_formula ct_is_formula), sl_is_formula⟩)
    (c_is_formula : PySem.W.codeIn K cd_is_formula "is_formula" = true)
    (k_is_formula : PySem.W.keepIn K (.ref f_is_formula) = true)
    (a_cell_text : PySem.W.nsIn K mainGlobals "cell_text" = some (some (.ref f_cell_text)))
    (l_cell_text : K.lookup f_cell_text = some ⟨oc_cell_text, od_cell_text, .func (PySem.W.fnOf "cell_text" "cell_text" (L2.defArgs s_cell_text) (L2.defBody s_cell_text) (L2.defScope s_cell_text) .none kV_cell_text dc_cell_text pm_cell_text an_cell_text cd_cell_text ct_cell_text), sl_cell_text⟩)
    (c_cell_text : PySem.W.codeIn K cd_cell_text "cell_text" = true)
    (k_cell_text : PySem.W.keepIn K (.ref f_cell_text) = true)
    (a_put_text : PySem.W.nsIn K mainGlobals "put_text" = some (some (.ref f_put_text)))
    (l_put_text : K.lookup f_put_text = some ⟨oc_put_text, od_put_text, .func (PySem.W.fnOf "put_text" "put_text" (L2.defArgs s_put_text) (L2.defBody s_put_text) (L2.defScope s_put_text) .none kV_put_text dc_put_text pm_put_text an_put_text cd_put_text ct_put_text), sl_put_text⟩)
    (c_put_text : PySem.W.codeIn K cd_put_text "put_text" = true)
    (k_put_text : PySem.W.keepIn K (.ref f_put_text) = true)
    (a_level_of : PySem.W.nsIn K mainGlobals "level_of" = some (some (.ref f_level_of)))
    (l_level_of : K.lookup f_level_of = some ⟨oc_level_of, od_level_of, .func (PySem.W.fnOf "level_of" "level_of" (L2.defArgs s_level_of) (L2.defBody s_level_of) (L2.defScope s_level_of) .none kV_level_of dc_level_of pm_level_of an_level_of cd_level_of ct_level_of), sl_level_of⟩)
    (c_level_of : PySem.W.codeIn K cd_level_of "level_of" = true)
    (k_level_of : PySem.W.keepIn K (.ref f_level_of) = true)
    (a_within : PySem.W.nsIn K mainGlobals "within" = some (some (.ref f_within)))
    (l_within : K.lookup f_within = some ⟨oc_within, od_within, .func (PySem.W.fnOf "within" "within" (L2.defArgs s_within) (L2.defBody s_within) (L2.defScope s_within) .none kV_within dc_within pm_within an_within cd_within ct_within), sl_within⟩)
    (c_within : PySem.W.codeIn K cd_within "within" = true)
    (k_within : PySem.W.keepIn K (.ref f_within) = true)
    (a_two_text : PySem.W.nsIn K mainGlobals "two_text" = some (some (.ref f_two_text)))
    (l_two_text : K.lookup f_two_text = some ⟨oc_two_text, od_two_text, .func (PySem.W.fnOf "two_text" "two_text" (L2.defArgs s_two_text) (L2.defBody s_two_text) (L2.defScope s_two_text) .none kV_two_text dc_two_text pm_two_text an_two_text cd_two_text ct_two_text), sl_two_text⟩)
    (c_two_text : PySem.W.codeIn K cd_two_text "two_text" = true)
    (k_two_text : PySem.W.keepIn K (.ref f_two_text) = true)
    (a_shown : PySem.W.nsIn K mainGlobals "shown" = some (some (.ref f_shown)))
    (l_shown : K.lookup f_shown = some ⟨oc_shown, od_shown, .func (PySem.W.fnOf "shown" "shown" (L2.defArgs s_shown) (L2.defBody s_shown) (L2.defScope s_shown) .none kV_shown dc_shown pm_shown an_shown cd_shown ct_shown), sl_shown⟩)
    (c_shown : PySem.W.codeIn K cd_shown "shown" = true)
    (k_shown : PySem.W.keepIn K (.ref f_shown) = true)
    (a_let_in : PySem.W.nsIn K mainGlobals "let_in" = some (some (.ref f_let_in)))
    (l_let_in : K.lookup f_let_in = some ⟨oc_let_in, od_let_in, .func (PySem.W.fnOf "let_in" "let_in" (L2.defArgs s_let_in) (L2.defBody s_let_in) (L2.defScope s_let_in) .none kV_let_in dc_let_in pm_let_in an_let_in cd_let_in ct_let_in), sl_let_in⟩)
    (c_let_in : PySem.W.codeIn K cd_let_in "let_in" = true)
    (k_let_in : PySem.W.keepIn K (.ref f_let_in) = true)
    (a_run : PySem.W.nsIn K mainGlobals "run" = some (some (.ref f_run)))
    (l_run : K.lookup f_run = some ⟨oc_run, od_run, .func (PySem.W.fnOf "run" "run" (L2.defArgs s_run) (L2.defBody s_run) (L2.defScope s_run) .none kV_run dc_run pm_run an_run cd_run ct_run), sl_run⟩)
    (c_run : PySem.W.codeIn K cd_run "run" = true)
    (k_run : PySem.W.keepIn K (.ref f_run) = true)
    (a_sign_at : PySem.W.nsIn K mainGlobals "sign_at" = some (some (.ref f_sign_at)))
    (l_sign_at : K.lookup f_sign_at = some ⟨oc_sign_at, od_sign_at, .func (PySem.W.fnOf "sign_at" "sign_at" (L2.defArgs s_sign_at) (L2.defBody s_sign_at) (L2.defScope s_sign_at) .none kV_sign_at dc_sign_at pm_sign_at an_sign_at cd_sign_at ct_sign_at), sl_sign_at⟩)
    (c_sign_at : PySem.W.codeIn K cd_sign_at "sign_at" = true)
    (k_sign_at : PySem.W.keepIn K (.ref f_sign_at) = true)
    (a_number_at : PySem.W.nsIn K mainGlobals "number_at" = some (some (.ref f_number_at)))
    (l_number_at : K.lookup f_number_at = some ⟨oc_number_at, od_number_at, .func (PySem.W.fnOf "number_at" "number_at" (L2.defArgs s_number_at) (L2.defBody s_number_at) (L2.defScope s_number_at) .none kV_number_at dc_number_at pm_number_at an_number_at cd_number_at ct_number_at), sl_number_at⟩)
    (c_number_at : PySem.W.codeIn K cd_number_at "number_at" = true)
    (k_number_at : PySem.W.keepIn K (.ref f_number_at) = true)
    (a_text_at : PySem.W.nsIn K mainGlobals "text_at" = some (some (.ref f_text_at)))
    (l_text_at : K.lookup f_text_at = some ⟨oc_text_at, od_text_at, .func (PySem.W.fnOf "text_at" "text_at" (L2.defArgs s_text_at) (L2.defBody s_text_at) (L2.defScope s_text_at) .none kV_text_at dc_text_at pm_text_at an_text_at cd_text_at ct_text_at), sl_text_at⟩)
    (c_text_at : PySem.W.codeIn K cd_text_at "text_at" = true)
    (k_text_at : PySem.W.keepIn K (.ref f_text_at) = true)
    (a_cell_at : PySem.W.nsIn K mainGlobals "cell_at" = some (some (.ref f_cell_at)))
    (l_cell_at : K.lookup f_cell_at = some ⟨oc_cell_at, od_cell_at, .func (PySem.W.fnOf "cell_at" "cell_at" (L2.defArgs s_cell_at) (L2.defBody s_cell_at) (L2.defScope s_cell_at) .none kV_cell_at dc_cell_at pm_cell_at an_cell_at cd_cell_at ct_cell_at), sl_cell_at⟩)
    (c_cell_at : PySem.W.codeIn K cd_cell_at "cell_at" = true)
    (k_cell_at : PySem.W.keepIn K (.ref f_cell_at) = true)
    (a_cells_at : PySem.W.nsIn K mainGlobals "cells_at" = some (some (.ref f_cells_at)))
    (l_cells_at : K.lookup f_cells_at = some ⟨oc_cells_at, od_cells_at, .func (PySem.W.fnOf "cells_at" "cells_at" (L2.defArgs s_cells_at) (L2.defBody s_cells_at) (L2.defScope s_cells_at) .none kV_cells_at dc_cells_at pm_cells_at an_cells_at cd_cells_at ct_cells_at), sl_cells_at⟩)
    (c_cells_at : PySem.W.codeIn K cd_cells_at "cells_at" = true)
    (k_cells_at : PySem.W.keepIn K (.ref f_cells_at) = true)
    (a_call_at : PySem.W.nsIn K mainGlobals "call_at" = some (some (.ref f_call_at)))
    (l_call_at : K.lookup f_call_at = some ⟨oc_call_at, od_call_at, .func (PySem.W.fnOf "call_at" "call_at" (L2.defArgs s_call_at) (L2.defBody s_call_at) (L2.defScope s_call_at) .none kV_call_at dc_call_at pm_call_at an_call_at cd_call_at ct_call_at), sl_call_at⟩)
    (c_call_at : PySem.W.codeIn K cd_call_at "call_at" = true)
    (k_call_at : PySem.W.keepIn K (.ref f_call_at) = true)
    (a_great_at : PySem.W.nsIn K mainGlobals "great_at" = some (some (.ref f_great_at)))
    (l_great_at : K.lookup f_great_at = some ⟨oc_great_at, od_great_at, .func (PySem.W.fnOf "great_at" "great_at" (L2.defArgs s_great_at) (L2.defBody s_great_at) (L2.defScope s_great_at) .none kV_great_at dc_great_at pm_great_at an_great_at cd_great_at ct_great_at), sl_great_at⟩)
    (c_great_at : PySem.W.codeIn K cd_great_at "great_at" = true)
    (k_great_at : PySem.W.keepIn K (.ref f_great_at) = true)
    (a_atom_at : PySem.W.nsIn K mainGlobals "atom_at" = some (some (.ref f_atom_at)))
    (l_atom_at : K.lookup f_atom_at = some ⟨oc_atom_at, od_atom_at, .func (PySem.W.fnOf "atom_at" "atom_at" (L2.defArgs s_atom_at) (L2.defBody s_atom_at) (L2.defScope s_atom_at) .none kV_atom_at dc_atom_at pm_atom_at an_atom_at cd_atom_at ct_atom_at), sl_atom_at⟩)
    (c_atom_at : PySem.W.codeIn K cd_atom_at "atom_at" = true)
    (k_atom_at : PySem.W.keepIn K (.ref f_atom_at) = true)
    (a_less_at : PySem.W.nsIn K mainGlobals "less_at" = some (some (.ref f_less_at)))
    (l_less_at : K.lookup f_less_at = some ⟨oc_less_at, od_less_at, .func (PySem.W.fnOf "less_at" "less_at" (L2.defArgs s_less_at) (L2.defBody s_less_at) (L2.defScope s_less_at) .none kV_less_at dc_less_at pm_less_at an_less_at cd_less_at ct_less_at), sl_less_at⟩)
    (c_less_at : PySem.W.codeIn K cd_less_at "less_at" = true)
    (k_less_at : PySem.W.keepIn K (.ref f_less_at) = true)
    (a_level_at : PySem.W.nsIn K mainGlobals "level_at" = some (some (.ref f_level_at)))
    (l_level_at : K.lookup f_level_at = some ⟨oc_level_at, od_level_at, .func (PySem.W.fnOf "level_at" "level_at" (L2.defArgs s_level_at) (L2.defBody s_level_at) (L2.defScope s_level_at) .none kV_level_at dc_level_at pm_level_at an_level_at cd_level_at ct_level_at), sl_level_at⟩)
    (c_level_at : PySem.W.codeIn K cd_level_at "level_at" = true)
    (k_level_at : PySem.W.keepIn K (.ref f_level_at) = true)
    (a_read : PySem.W.nsIn K mainGlobals "read" = some (some (.ref f_read)))
    (l_read : K.lookup f_read = some ⟨oc_read, od_read, .func (PySem.W.fnOf "read" "read" (L2.defArgs s_read) (L2.defBody s_read) (L2.defScope s_read) .none kV_read dc_read pm_read an_read cd_read ct_read), sl_read⟩)
    (c_read : PySem.W.codeIn K cd_read "read" = true)
    (k_read : PySem.W.keepIn K (.ref f_read) = true)
    (a_is_figures : PySem.W.nsIn K mainGlobals "is_figures" = some (some (.ref f_is_figures)))
    (l_is_figures : K.lookup f_is_figures = some ⟨oc_is_figures, od_is_figures, .func (PySem.W.fnOf "is_figures" "is_figures" (L2.defArgs s_is_figures) (L2.defBody s_is_figures) (L2.defScope s_is_figures) .none kV_is_figures dc_is_figures pm_is_figures an_is_figures cd_is_figures ct_is_figures), sl_is_figures⟩)
    (c_is_figures : PySem.W.codeIn K cd_is_figures "is_figures" = true)
    (k_is_figures : PySem.W.keepIn K (.ref f_is_figures) = true)
    (a_number_of : PySem.W.nsIn K mainGlobals "number_of" = some (some (.ref f_number_of)))
    (l_number_of : K.lookup f_number_of = some ⟨oc_number_of, od_number_of, .func (PySem.W.fnOf "number_of" "number_of" (L2.defArgs s_number_of) (L2.defBody s_number_of) (L2.defScope s_number_of) .none kV_number_of dc_number_of pm_number_of an_number_of cd_number_of ct_number_of), sl_number_of⟩)
    (c_number_of : PySem.W.codeIn K cd_number_of "number_of" = true)
    (k_number_of : PySem.W.keepIn K (.ref f_number_of) = true)
    (a_text_of : PySem.W.nsIn K mainGlobals "text_of" = some (some (.ref f_text_of)))
    (l_text_of : K.lookup f_text_of = some ⟨oc_text_of, od_text_of, .func (PySem.W.fnOf "text_of" "text_of" (L2.defArgs s_text_of) (L2.defBody s_text_of) (L2.defScope s_text_of) .none kV_text_of dc_text_of pm_text_of an_text_of cd_text_of ct_text_of), sl_text_of⟩)
    (c_text_of : PySem.W.codeIn K cd_text_of "text_of" = true)
    (k_text_of : PySem.W.keepIn K (.ref f_text_of) = true)
    (a_typed : PySem.W.nsIn K mainGlobals "typed" = some (some (.ref f_typed)))
    (l_typed : K.lookup f_typed = some ⟨oc_typed, od_typed, .func (PySem.W.fnOf "typed" "typed" (L2.defArgs s_typed) (L2.defBody s_typed) (L2.defScope s_typed) .none kV_typed dc_typed pm_typed an_typed cd_typed ct_typed), sl_typed⟩)
    (c_typed : PySem.W.codeIn K cd_typed "typed" = true)
    (k_typed : PySem.W.keepIn K (.ref f_typed) = true)
    (a_is_plain : PySem.W.nsIn K mainGlobals "is_plain" = some (some (.ref f_is_plain)))
    (l_is_plain : K.lookup f_is_plain = some ⟨oc_is_plain, od_is_plain, .func (PySem.W.fnOf "is_plain" "is_plain" (L2.defArgs s_is_plain) (L2.defBody s_is_plain) (L2.defScope s_is_plain) .none kV_is_plain dc_is_plain pm_is_plain an_is_plain cd_is_plain ct_is_plain), sl_is_plain⟩)
    (c_is_plain : PySem.W.codeIn K cd_is_plain "is_plain" = true)
    (k_is_plain : PySem.W.keepIn K (.ref f_is_plain) = true)
    (a_typed_of : PySem.W.nsIn K mainGlobals "typed_of" = some (some (.ref f_typed_of)))
    (l_typed_of : K.lookup f_typed_of = some ⟨oc_typed_of, od_typed_of, .func (PySem.W.fnOf "typed_of" "typed_of" (L2.defArgs s_typed_of) (L2.defBody s_typed_of) (L2.defScope s_typed_of) .none kV_typed_of dc_typed_of pm_typed_of an_typed_of cd_typed_of ct_typed_of), sl_typed_of⟩)
    (c_typed_of : PySem.W.codeIn K cd_typed_of "typed_of" = true)
    (k_typed_of : PySem.W.keepIn K (.ref f_typed_of) = true)
    (a_law_cell_at : PySem.W.nsIn K mainGlobals "_law_cell_at" = some (some (.ref f_law_cell_at)))
    (l_law_cell_at : K.lookup f_law_cell_at = some ⟨oc_law_cell_at, od_law_cell_at, .func (PySem.W.fnOf "_law_cell_at" "_law_cell_at" (L2.defArgs s_law_cell_at) (L2.defBody s_law_cell_at) (L2.defScope s_law_cell_at) .none kV_law_cell_at dc_law_cell_at pm_law_cell_at an_law_cell_at cd_law_cell_at ct_law_cell_at), sl_law_cell_at⟩)
    (c_law_cell_at : PySem.W.codeIn K cd_law_cell_at "_law_cell_at" = true)
    (k_law_cell_at : PySem.W.keepIn K (.ref f_law_cell_at) = true)
    (a_law_state : PySem.W.nsIn K mainGlobals "_law_state" = some (some (.ref f_law_state)))
    (l_law_state : K.lookup f_law_state = some ⟨oc_law_state, od_law_state, .func (PySem.W.fnOf "_law_state" "_law_state" (L2.defArgs s_law_state) (L2.defBody s_law_state) (L2.defScope s_law_state) .none kV_law_state dc_law_state pm_law_state an_law_state cd_law_state ct_law_state), sl_law_state⟩)
    (c_law_state : PySem.W.codeIn K cd_law_state "_law_state" = true)
    (k_law_state : PySem.W.keepIn K (.ref f_law_state) = true)
    (a_law_choice : PySem.W.nsIn K mainGlobals "_law_choice" = some (some (.ref f_law_choice)))
    (l_law_choice : K.lookup f_law_choice = some ⟨oc_law_choice, od_law_choice, .func (PySem.W.fnOf "_law_choice" "_law_choice" (L2.defArgs s_law_choice) (L2.defBody s_law_choice) (L2.defScope s_law_choice) .none kV_law_choice dc_law_choice pm_law_choice an_law_choice cd_law_choice ct_law_choice), sl_law_choice⟩)
    (c_law_choice : PySem.W.codeIn K cd_law_choice "_law_choice" = true)
    (k_law_choice : PySem.W.keepIn K (.ref f_law_choice) = true)
    (a_law_lowest : PySem.W.nsIn K mainGlobals "_law_lowest" = some (some (.ref f_law_lowest)))
    (l_law_lowest : K.lookup f_law_lowest = some ⟨oc_law_lowest, od_law_lowest, .func (PySem.W.fnOf "_law_lowest" "_law_lowest" (L2.defArgs s_law_lowest) (L2.defBody s_law_lowest) (L2.defScope s_law_lowest) .none kV_law_lowest dc_law_lowest pm_law_lowest an_law_lowest cd_law_lowest ct_law_lowest), sl_law_lowest⟩)
    (c_law_lowest : PySem.W.codeIn K cd_law_lowest "_law_lowest" = true)
    (k_law_lowest : PySem.W.keepIn K (.ref f_law_lowest) = true)
    (a_law_number : PySem.W.nsIn K mainGlobals "_law_number" = some (some (.ref f_law_number)))
    (l_law_number : K.lookup f_law_number = some ⟨oc_law_number, od_law_number, .func (PySem.W.fnOf "_law_number" "_law_number" (L2.defArgs s_law_number) (L2.defBody s_law_number) (L2.defScope s_law_number) .none kV_law_number dc_law_number pm_law_number an_law_number cd_law_number ct_law_number), sl_law_number⟩)
    (c_law_number : PySem.W.codeIn K cd_law_number "_law_number" = true)
    (k_law_number : PySem.W.keepIn K (.ref f_law_number) = true)
    (a_law_text : PySem.W.nsIn K mainGlobals "_law_text" = some (some (.ref f_law_text)))
    (l_law_text : K.lookup f_law_text = some ⟨oc_law_text, od_law_text, .func (PySem.W.fnOf "_law_text" "_law_text" (L2.defArgs s_law_text) (L2.defBody s_law_text) (L2.defScope s_law_text) .none kV_law_text dc_law_text pm_law_text an_law_text cd_law_text ct_law_text), sl_law_text⟩)
    (c_law_text : PySem.W.codeIn K cd_law_text "_law_text" = true)
    (k_law_text : PySem.W.keepIn K (.ref f_law_text) = true)
    (a_law_leaf : PySem.W.nsIn K mainGlobals "_law_leaf" = some (some (.ref f_law_leaf)))
    (l_law_leaf : K.lookup f_law_leaf = some ⟨oc_law_leaf, od_law_leaf, .func (PySem.W.fnOf "_law_leaf" "_law_leaf" (L2.defArgs s_law_leaf) (L2.defBody s_law_leaf) (L2.defScope s_law_leaf) .none kV_law_leaf dc_law_leaf pm_law_leaf an_law_leaf cd_law_leaf ct_law_leaf), sl_law_leaf⟩)
    (c_law_leaf : PySem.W.codeIn K cd_law_leaf "_law_leaf" = true)
    (k_law_leaf : PySem.W.keepIn K (.ref f_law_leaf) = true)
    (a_law_words : PySem.W.nsIn K mainGlobals "_law_words" = some (some (.ref f_law_words)))
    (l_law_words : K.lookup f_law_words = some ⟨oc_law_words, od_law_words, .func (PySem.W.fnOf "_law_words" "_law_words" (L2.defArgs s_law_words) (L2.defBody s_law_words) (L2.defScope s_law_words) .none kV_law_words dc_law_words pm_law_words an_law_words cd_law_words ct_law_words), sl_law_words⟩)
    (c_law_words : PySem.W.codeIn K cd_law_words "_law_words" = true)
    (k_law_words : PySem.W.keepIn K (.ref f_law_words) = true)
    (a_law_formula : PySem.W.nsIn K mainGlobals "_law_formula" = some (some (.ref f_law_formula)))
    (l_law_formula : K.lookup f_law_formula = some ⟨oc_law_formula, od_law_formula, .func (PySem.W.fnOf "_law_formula" "_law_formula" (L2.defArgs s_law_formula) (L2.defBody s_law_formula) (L2.defScope s_law_formula) .none kV_law_formula dc_law_formula pm_law_formula an_law_formula cd_law_formula ct_law_formula), sl_law_formula⟩)
    (c_law_formula : PySem.W.codeIn K cd_law_formula "_law_formula" = true)
    (k_law_formula : PySem.W.keepIn K (.ref f_law_formula) = true)
    (a_law_else : PySem.W.nsIn K mainGlobals "_law_else" = some (some (.ref f_law_else)))
    (l_law_else : K.lookup f_law_else = some ⟨oc_law_else, od_law_else, .func (PySem.W.fnOf "_law_else" "_law_else" (L2.defArgs s_law_else) (L2.defBody s_law_else) (L2.defScope s_law_else) .none kV_law_else dc_law_else pm_law_else an_law_else cd_law_else ct_law_else), sl_law_else⟩)
    (c_law_else : PySem.W.codeIn K cd_law_else "_law_else" = true)
    (k_law_else : PySem.W.keepIn K (.ref f_law_else) = true)
    (a_law : PySem.W.nsIn K mainGlobals "law" = some (some (.ref f_law)))
    (l_law : K.lookup f_law = some ⟨oc_law, od_law, .func (PySem.W.fnOf "law" "law" (L2.defArgs s_law) (L2.defBody s_law) (L2.defScope s_law) .none kV_law dc_law pm_law an_law cd_law ct_law), sl_law⟩)
    (c_law : PySem.W.codeIn K cd_law "law" = true)
    (k_law : PySem.W.keepIn K (.ref f_law) = true)
    : ∃ fd : FuncData, (∀ (s : Shared) (v : Value), BindsTo s fd ⟨[v], []⟩ [("script", v)]) ∧ ∀ base : Heap, K.In base → base.Ns mainGlobals mg → FnOk P w K mg base CX0 229 fa fd ["script"] (spLaw K) := by
  have eqf := hfa.symm.trans (PySem.W.mg_of KX G a_law)
  cases eqf
  have M : Md K w mg aS aL cBF cBN cSE es nn := {
    c_MOST_SIGNS := ⟨t_MOST_SIGNS, PySem.W.mg_of KX G i_MOST_SIGNS⟩
    c_MOST_ROWS := ⟨t_MOST_ROWS, PySem.W.mg_of KX G i_MOST_ROWS⟩
    c_MOST_COLUMNS := ⟨t_MOST_COLUMNS, PySem.W.mg_of KX G i_MOST_COLUMNS⟩
    c_MOST_FORMULAS := ⟨t_MOST_FORMULAS, PySem.W.mg_of KX G i_MOST_FORMULAS⟩
    c_MOST_DEEP := ⟨t_MOST_DEEP, PySem.W.mg_of KX G i_MOST_DEEP⟩
    c_MOST_LETTERS := ⟨t_MOST_LETTERS, PySem.W.mg_of KX G i_MOST_LETTERS⟩
    c_LESS := ⟨t_LESS, PySem.W.mg_of KX G i_LESS⟩
    c_ATOM := ⟨t_ATOM, PySem.W.mg_of KX G i_ATOM⟩
    c_MOST_OPEN := ⟨t_MOST_OPEN, PySem.W.mg_of KX G i_MOST_OPEN⟩
    c_GREAT_values := ⟨t_GREAT_values, PySem.W.mg_of KX G i_GREAT_values⟩
    c_ALLOWED := ⟨t_ALLOWED, PySem.W.mg_of KX G i_ALLOWED⟩
    c_COLUMNS := ⟨t_COLUMNS, PySem.W.mg_of KX G i_COLUMNS⟩
    c_SMALL := ⟨t_SMALL, PySem.W.mg_of KX G i_SMALL⟩
    c_GREAT_formulas := ⟨t_GREAT_formulas, PySem.W.mg_of KX G i_GREAT_formulas⟩
    c_FIGURES := ⟨t_FIGURES, PySem.W.mg_of KX G i_FIGURES⟩
    c_SIGNS := PySem.W.mg_of KX G i_SIGNS
    signs := ⟨oS, itS, kS, j_SIGNS, j1_SIGNS, j2_SIGNS, j3_SIGNS, j4_SIGNS⟩
    c_LEVELS := PySem.W.mg_of KX G i_LEVELS
    levD := ⟨j_LEVELS, j2_LEVELS, j3_LEVELS⟩
    levV := fun o => match o with
      | .eq => ⟨_, lv_eq⟩
      | .ne => ⟨_, lv_ne⟩
      | .lt => ⟨_, lv_lt⟩
      | .le => ⟨_, lv_le⟩
      | .gt => ⟨_, lv_gt⟩
      | .ge => ⟨_, lv_ge⟩
      | .amp => ⟨_, lv_amp⟩
      | .add => ⟨_, lv_add⟩
      | .sub => ⟨_, lv_sub⟩
      | .mul => ⟨_, lv_mul⟩
      | .div => ⟨_, lv_div⟩
    b_len := PySem.W.mg_none_of KX G b_len
    b_abs := PySem.W.mg_none_of KX G b_abs
    b_sum := PySem.W.mg_none_of KX G b_sum
    b_all := PySem.W.mg_none_of KX G b_all
    b_max := PySem.W.mg_none_of KX G b_max
    b_str := PySem.W.mg_none_of KX G b_str
    b_int := PySem.W.mg_none_of KX G b_int
    b_bool := PySem.W.mg_none_of KX G b_bool
    b_isinstance := PySem.W.mg_none_of KX G b_isinstance
    b_tuple := PySem.W.mg_none_of KX G b_tuple
    b_range := PySem.W.mg_none_of KX G b_range
    gBF := PySem.W.mg_of KX G gBF
    xBF := xBF
    kBF := kBF
    bBF := sBF
    tBF := tBF
    eBF := caught sSE iSE tSE eBF
    gBN := PySem.W.mg_of KX G gBN
    xBN := xBN
    kBN := kBN
    bBN := sBN
    tBN := tBN
    eBN := caught sSE iSE tSE eBN
    gSE := PySem.W.mg_of KX G gSE }
  have F_divisor : Fun K "divisor" "divisor" s_divisor f_divisor _ := fun_mk l_divisor c_divisor k_divisor
  have D_divisor : Df K mg "divisor" s_divisor ["one", "other"] f_divisor _ := ⟨F_divisor, PySem.W.mg_of KX G a_divisor, F_divisor.binds (ps := ["one", "other"]) fun _ _ _ _ _ _ us hl => match us, hl with | [_, _], _ => rfl⟩
  have F_is_short : Fun K "is_short" "is_short" s_is_short f_is_short _ := fun_mk l_is_short c_is_short k_is_short
  have D_is_short : Df K mg "is_short" s_is_short ["whole"] f_is_short _ := ⟨F_is_short, PySem.W.mg_of KX G a_is_short, F_is_short.binds (ps := ["whole"]) fun _ _ _ _ _ _ us hl => match us, hl with | [_], _ => rfl⟩
  have F_number : Fun K "number" "number" s_number f_number _ := fun_mk l_number c_number k_number
  have D_number : Df K mg "number" s_number ["top", "bottom"] f_number _ := ⟨F_number, PySem.W.mg_of KX G a_number, F_number.binds (ps := ["top", "bottom"]) fun _ _ _ _ _ _ us hl => match us, hl with | [_, _], _ => rfl⟩
  have F_is_text : Fun K "is_text" "is_text" s_is_text f_is_text _ := fun_mk l_is_text c_is_text k_is_text
  have D_is_text : Df K mg "is_text" s_is_text ["text"] f_is_text _ := ⟨F_is_text, PySem.W.mg_of KX G a_is_text, F_is_text.binds (ps := ["text"]) fun _ _ _ _ _ _ us hl => match us, hl with | [_], _ => rfl⟩
  have F_is_whole : Fun K "is_whole" "is_whole" s_is_whole f_is_whole _ := fun_mk l_is_whole c_is_whole k_is_whole
  have D_is_whole : Df K mg "is_whole" s_is_whole ["x"] f_is_whole _ := ⟨F_is_whole, PySem.W.mg_of KX G a_is_whole, F_is_whole.binds (ps := ["x"]) fun _ _ _ _ _ _ us hl => match us, hl with | [_], _ => rfl⟩
  have F_shown_number : Fun K "shown_number" "shown_number" s_shown_number f_shown_number _ := fun_mk l_shown_number c_shown_number k_shown_number
  have D_shown_number : Df K mg "shown_number" s_shown_number ["value"] f_shown_number _ := ⟨F_shown_number, PySem.W.mg_of KX G a_shown_number, F_shown_number.binds (ps := ["value"]) fun _ _ _ _ _ _ us hl => match us, hl with | [_], _ => rfl⟩
  have F_shown_truth : Fun K "shown_truth" "shown_truth" s_shown_truth f_shown_truth _ := fun_mk l_shown_truth c_shown_truth k_shown_truth
  have D_shown_truth : Df K mg "shown_truth" s_shown_truth ["truth"] f_shown_truth _ := ⟨F_shown_truth, PySem.W.mg_of KX G a_shown_truth, F_shown_truth.binds (ps := ["truth"]) fun _ _ _ _ _ _ us hl => match us, hl with | [_], _ => rfl⟩
  have F_shown_value : Fun K "shown_value" "shown_value" s_shown_value f_shown_value _ := fun_mk l_shown_value c_shown_value k_shown_value
  have D_shown_value : Df K mg "shown_value" s_shown_value ["value"] f_shown_value _ := ⟨F_shown_value, PySem.W.mg_of KX G a_shown_value, F_shown_value.binds (ps := ["value"]) fun _ _ _ _ _ _ us hl => match us, hl with | [_], _ => rfl⟩
  have F_parts_of : Fun K "parts_of" "parts_of" s_parts_of f_parts_of _ := fun_mk l_parts_of c_parts_of k_parts_of
  have D_parts_of : Df K mg "parts_of" s_parts_of ["formula"] f_parts_of _ := ⟨F_parts_of, PySem.W.mg_of KX G a_parts_of, F_parts_of.binds (ps := ["formula"]) fun _ _ _ _ _ _ us hl => match us, hl with | [_], _ => rfl⟩
  have F_formula_size : Fun K "formula_size" "formula_size" s_formula_size f_formula_size _ := fun_mk l_formula_size c_formula_size k_formula_size
  have D_formula_size : Df K mg "formula_size" s_formula_size ["formula"] f_formula_size _ := ⟨F_formula_size, PySem.W.mg_of KX G a_formula_size, F_formula_size.binds (ps := ["formula"]) fun _ _ _ _ _ _ us hl => match us, hl with | [_], _ => rfl⟩
  have F_depth : Fun K "depth" "depth" s_depth f_depth _ := fun_mk l_depth c_depth k_depth
  have D_depth : Df K mg "depth" s_depth ["formula"] f_depth _ := ⟨F_depth, PySem.W.mg_of KX G a_depth, F_depth.binds (ps := ["formula"]) fun _ _ _ _ _ _ us hl => match us, hl with | [_], _ => rfl⟩
  have F_is_place : Fun K "is_place" "is_place" s_is_place f_is_place _ := fun_mk l_is_place c_is_place k_is_place
  have D_is_place : Df K mg "is_place" s_is_place ["row", "column"] f_is_place _ := ⟨F_is_place, PySem.W.mg_of KX G a_is_place, F_is_place.binds (ps := ["row", "column"]) fun _ _ _ _ _ _ us hl => match us, hl with | [_, _], _ => rfl⟩
  have F_is_of : Fun K "is_of" "is_of" s_is_of f_is_of _ := fun_mk l_is_of c_is_of k_is_of
  have D_is_of : Df K mg "is_of" s_is_of ["word", "letters"] f_is_of _ := ⟨F_is_of, PySem.W.mg_of KX G a_is_of, F_is_of.binds (ps := ["word", "letters"]) fun _ _ _ _ _ _ us hl => match us, hl with | [_, _], _ => rfl⟩
  have F_is_put : Fun K "is_put" "is_put" s_is_put f_is_put _ := fun_mk l_is_put c_is_put k_is_put
  have D_is_put : Df K mg "is_put" s_is_put ["value"] f_is_put _ := ⟨F_is_put, PySem.W.mg_of KX G a_is_put, F_is_put.binds (ps := ["value"]) fun _ _ _ _ _ _ us hl => match us, hl with | [_], _ => rfl⟩
  have F_is_leaf : Fun K "is_leaf" "is_leaf" s_is_leaf f_is_leaf _ := fun_mk l_is_leaf c_is_leaf k_is_leaf
  have D_is_leaf : Df K mg "is_leaf" s_is_leaf ["formula"] f_is_leaf _ := ⟨F_is_leaf, PySem.W.mg_of KX G a_is_leaf, F_is_leaf.binds (ps := ["formula"]) fun _ _ _ _ _ _ us hl => match us, hl with | [_], _ => rfl⟩
  have F_is_sound : Fun K "is_sound" "is_sound" s_is_sound f_is_sound _ := fun_mk l_is_sound c_is_sound k_is_sound
  have D_is_sound : Df K mg "is_sound" s_is_sound ["formula"] f_is_sound _ := ⟨F_is_sound, PySem.W.mg_of KX G a_is_sound, F_is_sound.binds (ps := ["formula"]) fun _ _ _ _ _ _ us hl => match us, hl with | [_], _ => rfl⟩
  have F_is_formula : Fun K "is_formula" "is_formula" s_is_formula f_is_formula _ := fun_mk l_is_formula c_is_formula k_is_formula
  have D_is_formula : Df K mg "is_formula" s_is_formula ["formula"] f_is_formula _ := ⟨F_is_formula, PySem.W.mg_of KX G a_is_formula, F_is_formula.binds (ps := ["formula"]) fun _ _ _ _ _ _ us hl => match us, hl with | [_], _ => rfl⟩
  have F_cell_text : Fun K "cell_text" "cell_text" s_cell_text f_cell_text _ := fun_mk l_cell_text c_cell_text k_cell_text
  have D_cell_text : Df K mg "cell_text" s_cell_text ["row", "column"] f_cell_text _ := ⟨F_cell_text, PySem.W.mg_of KX G a_cell_text, F_cell_text.binds (ps := ["row", "column"]) fun _ _ _ _ _ _ us hl => match us, hl with | [_, _], _ => rfl⟩
  have F_put_text : Fun K "put_text" "put_text" s_put_text f_put_text _ := fun_mk l_put_text c_put_text k_put_text
  have D_put_text : Df K mg "put_text" s_put_text ["value"] f_put_text _ := ⟨F_put_text, PySem.W.mg_of KX G a_put_text, F_put_text.binds (ps := ["value"]) fun _ _ _ _ _ _ us hl => match us, hl with | [_], _ => rfl⟩
  have F_level_of : Fun K "level_of" "level_of" s_level_of f_level_of _ := fun_mk l_level_of c_level_of k_level_of
  have D_level_of : Df K mg "level_of" s_level_of ["formula"] f_level_of _ := ⟨F_level_of, PySem.W.mg_of KX G a_level_of, F_level_of.binds (ps := ["formula"]) fun _ _ _ _ _ _ us hl => match us, hl with | [_], _ => rfl⟩
  have F_within : Fun K "within" "within" s_within f_within _ := fun_mk l_within c_within k_within
  have D_within : Df K mg "within" s_within ["formula", "level"] f_within _ := ⟨F_within, PySem.W.mg_of KX G a_within, F_within.binds (ps := ["formula", "level"]) fun _ _ _ _ _ _ us hl => match us, hl with | [_, _], _ => rfl⟩
  have F_two_text : Fun K "two_text" "two_text" s_two_text f_two_text _ := fun_mk l_two_text c_two_text k_two_text
  have D_two_text : Df K mg "two_text" s_two_text ["formula"] f_two_text _ := ⟨F_two_text, PySem.W.mg_of KX G a_two_text, F_two_text.binds (ps := ["formula"]) fun _ _ _ _ _ _ us hl => match us, hl with | [_], _ => rfl⟩
  have F_shown : Fun K "shown" "shown" s_shown f_shown _ := fun_mk l_shown c_shown k_shown
  have D_shown : Df K mg "shown" s_shown ["formula"] f_shown _ := ⟨F_shown, PySem.W.mg_of KX G a_shown, F_shown.binds (ps := ["formula"]) fun _ _ _ _ _ _ us hl => match us, hl with | [_], _ => rfl⟩
  have F_let_in : Fun K "let_in" "let_in" s_let_in f_let_in _ := fun_mk l_let_in c_let_in k_let_in
  have D_let_in : Df K mg "let_in" s_let_in ["formula"] f_let_in _ := ⟨F_let_in, PySem.W.mg_of KX G a_let_in, F_let_in.binds (ps := ["formula"]) fun _ _ _ _ _ _ us hl => match us, hl with | [_], _ => rfl⟩
  have F_run : Fun K "run" "run" s_run f_run _ := fun_mk l_run c_run k_run
  have D_run : Df K mg "run" s_run ["text", "at", "signs"] f_run _ := ⟨F_run, PySem.W.mg_of KX G a_run, F_run.binds (ps := ["text", "at", "signs"]) fun _ _ _ _ _ _ us hl => match us, hl with | [_, _, _], _ => rfl⟩
  have F_sign_at : Fun K "sign_at" "sign_at" s_sign_at f_sign_at _ := fun_mk l_sign_at c_sign_at k_sign_at
  have D_sign_at : Df K mg "sign_at" s_sign_at ["text", "at"] f_sign_at _ := ⟨F_sign_at, PySem.W.mg_of KX G a_sign_at, F_sign_at.binds (ps := ["text", "at"]) fun _ _ _ _ _ _ us hl => match us, hl with | [_, _], _ => rfl⟩
  have F_number_at : Fun K "number_at" "number_at" s_number_at f_number_at _ := fun_mk l_number_at c_number_at k_number_at
  have D_number_at : Df K mg "number_at" s_number_at ["text", "at"] f_number_at _ := ⟨F_number_at, PySem.W.mg_of KX G a_number_at, F_number_at.binds (ps := ["text", "at"]) fun _ _ _ _ _ _ us hl => match us, hl with | [_, _], _ => rfl⟩
  have F_text_at : Fun K "text_at" "text_at" s_text_at f_text_at _ := fun_mk l_text_at c_text_at k_text_at
  have D_text_at : Df K mg "text_at" s_text_at ["text", "at"] f_text_at _ := ⟨F_text_at, PySem.W.mg_of KX G a_text_at, F_text_at.binds (ps := ["text", "at"]) fun _ _ _ _ _ _ us hl => match us, hl with | [_, _], _ => rfl⟩
  have F_cell_at : Fun K "cell_at" "cell_at" s_cell_at f_cell_at _ := fun_mk l_cell_at c_cell_at k_cell_at
  have D_cell_at : Df K mg "cell_at" s_cell_at ["text", "at"] f_cell_at _ := ⟨F_cell_at, PySem.W.mg_of KX G a_cell_at, F_cell_at.binds (ps := ["text", "at"]) fun _ _ _ _ _ _ us hl => match us, hl with | [_, _], _ => rfl⟩
  have F_cells_at : Fun K "cells_at" "cells_at" s_cells_at f_cells_at _ := fun_mk l_cells_at c_cells_at k_cells_at
  have D_cells_at : Df K mg "cells_at" s_cells_at ["text", "at"] f_cells_at _ := ⟨F_cells_at, PySem.W.mg_of KX G a_cells_at, F_cells_at.binds (ps := ["text", "at"]) fun _ _ _ _ _ _ us hl => match us, hl with | [_, _], _ => rfl⟩
  have F_call_at : Fun K "call_at" "call_at" s_call_at f_call_at _ := fun_mk l_call_at c_call_at k_call_at
  have D_call_at : Df K mg "call_at" s_call_at ["text", "word", "at", "open_ones"] f_call_at _ := ⟨F_call_at, PySem.W.mg_of KX G a_call_at, F_call_at.binds (ps := ["text", "word", "at", "open_ones"]) fun _ _ _ _ _ _ us hl => match us, hl with | [_, _, _, _], _ => rfl⟩
  have F_great_at : Fun K "great_at" "great_at" s_great_at f_great_at _ := fun_mk l_great_at c_great_at k_great_at
  have D_great_at : Df K mg "great_at" s_great_at ["text", "at", "open_ones"] f_great_at _ := ⟨F_great_at, PySem.W.mg_of KX G a_great_at, F_great_at.binds (ps := ["text", "at", "open_ones"]) fun _ _ _ _ _ _ us hl => match us, hl with | [_, _, _], _ => rfl⟩
  have F_atom_at : Fun K "atom_at" "atom_at" s_atom_at f_atom_at _ := fun_mk l_atom_at c_atom_at k_atom_at
  have D_atom_at : Df K mg "atom_at" s_atom_at ["text", "at", "open_ones"] f_atom_at _ := ⟨F_atom_at, PySem.W.mg_of KX G a_atom_at, F_atom_at.binds (ps := ["text", "at", "open_ones"]) fun _ _ _ _ _ _ us hl => match us, hl with | [_, _, _], _ => rfl⟩
  have F_less_at : Fun K "less_at" "less_at" s_less_at f_less_at _ := fun_mk l_less_at c_less_at k_less_at
  have D_less_at : Df K mg "less_at" s_less_at ["text", "at", "open_ones"] f_less_at _ := ⟨F_less_at, PySem.W.mg_of KX G a_less_at, F_less_at.binds (ps := ["text", "at", "open_ones"]) fun _ _ _ _ _ _ us hl => match us, hl with | [_, _, _], _ => rfl⟩
  have F_level_at : Fun K "level_at" "level_at" s_level_at f_level_at _ := fun_mk l_level_at c_level_at k_level_at
  have D_level_at : Df K mg "level_at" s_level_at ["text", "at", "level", "open_ones"] f_level_at _ := ⟨F_level_at, PySem.W.mg_of KX G a_level_at, F_level_at.binds (ps := ["text", "at", "level", "open_ones"]) fun _ _ _ _ _ _ us hl => match us, hl with | [_, _, _, _], _ => rfl⟩
  have F_read : Fun K "read" "read" s_read f_read _ := fun_mk l_read c_read k_read
  have D_read : Df K mg "read" s_read ["text"] f_read _ := ⟨F_read, PySem.W.mg_of KX G a_read, F_read.binds (ps := ["text"]) fun _ _ _ _ _ _ us hl => match us, hl with | [_], _ => rfl⟩
  have F_is_figures : Fun K "is_figures" "is_figures" s_is_figures f_is_figures _ := fun_mk l_is_figures c_is_figures k_is_figures
  have D_is_figures : Df K mg "is_figures" s_is_figures ["word"] f_is_figures _ := ⟨F_is_figures, PySem.W.mg_of KX G a_is_figures, F_is_figures.binds (ps := ["word"]) fun _ _ _ _ _ _ us hl => match us, hl with | [_], _ => rfl⟩
  have F_number_of : Fun K "number_of" "number_of" s_number_of f_number_of _ := fun_mk l_number_of c_number_of k_number_of
  have D_number_of : Df K mg "number_of" s_number_of ["text"] f_number_of _ := ⟨F_number_of, PySem.W.mg_of KX G a_number_of, F_number_of.binds (ps := ["text"]) fun _ _ _ _ _ _ us hl => match us, hl with | [_], _ => rfl⟩
  have F_text_of : Fun K "text_of" "text_of" s_text_of f_text_of _ := fun_mk l_text_of c_text_of k_text_of
  have D_text_of : Df K mg "text_of" s_text_of ["text"] f_text_of _ := ⟨F_text_of, PySem.W.mg_of KX G a_text_of, F_text_of.binds (ps := ["text"]) fun _ _ _ _ _ _ us hl => match us, hl with | [_], _ => rfl⟩
  have F_typed : Fun K "typed" "typed" s_typed f_typed _ := fun_mk l_typed c_typed k_typed
  have D_typed : Df K mg "typed" s_typed ["text"] f_typed _ := ⟨F_typed, PySem.W.mg_of KX G a_typed, F_typed.binds (ps := ["text"]) fun _ _ _ _ _ _ us hl => match us, hl with | [_], _ => rfl⟩
  have F_is_plain : Fun K "is_plain" "is_plain" s_is_plain f_is_plain _ := fun_mk l_is_plain c_is_plain k_is_plain
  have D_is_plain : Df K mg "is_plain" s_is_plain ["text"] f_is_plain _ := ⟨F_is_plain, PySem.W.mg_of KX G a_is_plain, F_is_plain.binds (ps := ["text"]) fun _ _ _ _ _ _ us hl => match us, hl with | [_], _ => rfl⟩
  have F_typed_of : Fun K "typed_of" "typed_of" s_typed_of f_typed_of _ := fun_mk l_typed_of c_typed_of k_typed_of
  have D_typed_of : Df K mg "typed_of" s_typed_of ["content"] f_typed_of _ := ⟨F_typed_of, PySem.W.mg_of KX G a_typed_of, F_typed_of.binds (ps := ["content"]) fun _ _ _ _ _ _ us hl => match us, hl with | [_], _ => rfl⟩
  have F_law_cell_at : Fun K "_law_cell_at" "_law_cell_at" s_law_cell_at f_law_cell_at _ := fun_mk l_law_cell_at c_law_cell_at k_law_cell_at
  have D_law_cell_at : Df K mg "_law_cell_at" s_law_cell_at ["script", "k"] f_law_cell_at _ := ⟨F_law_cell_at, PySem.W.mg_of KX G a_law_cell_at, F_law_cell_at.binds (ps := ["script", "k"]) fun _ _ _ _ _ _ us hl => match us, hl with | [_, _], _ => rfl⟩
  have F_law_state : Fun K "_law_state" "_law_state" s_law_state f_law_state _ := fun_mk l_law_state c_law_state k_law_state
  have D_law_state : Df K mg "_law_state" s_law_state ["script", "k"] f_law_state _ := ⟨F_law_state, PySem.W.mg_of KX G a_law_state, F_law_state.binds (ps := ["script", "k"]) fun _ _ _ _ _ _ us hl => match us, hl with | [_, _], _ => rfl⟩
  have F_law_choice : Fun K "_law_choice" "_law_choice" s_law_choice f_law_choice _ := fun_mk l_law_choice c_law_choice k_law_choice
  have D_law_choice : Df K mg "_law_choice" s_law_choice ["state", "many"] f_law_choice _ := ⟨F_law_choice, PySem.W.mg_of KX G a_law_choice, F_law_choice.binds (ps := ["state", "many"]) fun _ _ _ _ _ _ us hl => match us, hl with | [_, _], _ => rfl⟩
  have F_law_lowest : Fun K "_law_lowest" "_law_lowest" s_law_lowest f_law_lowest _ := fun_mk l_law_lowest c_law_lowest k_law_lowest
  have D_law_lowest : Df K mg "_law_lowest" s_law_lowest ["top", "bottom"] f_law_lowest _ := ⟨F_law_lowest, PySem.W.mg_of KX G a_law_lowest, F_law_lowest.binds (ps := ["top", "bottom"]) fun _ _ _ _ _ _ us hl => match us, hl with | [_, _], _ => rfl⟩
  have F_law_number : Fun K "_law_number" "_law_number" s_law_number f_law_number _ := fun_mk l_law_number c_law_number k_law_number
  have D_law_number : Df K mg "_law_number" s_law_number ["state"] f_law_number _ := ⟨F_law_number, PySem.W.mg_of KX G a_law_number, F_law_number.binds (ps := ["state"]) fun _ _ _ _ _ _ us hl => match us, hl with | [_], _ => rfl⟩
  have F_law_text : Fun K "_law_text" "_law_text" s_law_text f_law_text _ := fun_mk l_law_text c_law_text k_law_text
  have D_law_text : Df K mg "_law_text" s_law_text ["state"] f_law_text _ := ⟨F_law_text, PySem.W.mg_of KX G a_law_text, F_law_text.binds (ps := ["state"]) fun _ _ _ _ _ _ us hl => match us, hl with | [_], _ => rfl⟩
  have F_law_leaf : Fun K "_law_leaf" "_law_leaf" s_law_leaf f_law_leaf _ := fun_mk l_law_leaf c_law_leaf k_law_leaf
  have D_law_leaf : Df K mg "_law_leaf" s_law_leaf ["state"] f_law_leaf _ := ⟨F_law_leaf, PySem.W.mg_of KX G a_law_leaf, F_law_leaf.binds (ps := ["state"]) fun _ _ _ _ _ _ us hl => match us, hl with | [_], _ => rfl⟩
  have F_law_words : Fun K "_law_words" "_law_words" s_law_words f_law_words _ := fun_mk l_law_words c_law_words k_law_words
  have D_law_words : Df K mg "_law_words" s_law_words ["state"] f_law_words _ := ⟨F_law_words, PySem.W.mg_of KX G a_law_words, F_law_words.binds (ps := ["state"]) fun _ _ _ _ _ _ us hl => match us, hl with | [_], _ => rfl⟩
  have F_law_formula : Fun K "_law_formula" "_law_formula" s_law_formula f_law_formula _ := fun_mk l_law_formula c_law_formula k_law_formula
  have D_law_formula : Df K mg "_law_formula" s_law_formula ["state", "deep"] f_law_formula _ := ⟨F_law_formula, PySem.W.mg_of KX G a_law_formula, F_law_formula.binds (ps := ["state", "deep"]) fun _ _ _ _ _ _ us hl => match us, hl with | [_, _], _ => rfl⟩
  have F_law_else : Fun K "_law_else" "_law_else" s_law_else f_law_else _ := fun_mk l_law_else c_law_else k_law_else
  have D_law_else : Df K mg "_law_else" s_law_else ["text"] f_law_else _ := ⟨F_law_else, PySem.W.mg_of KX G a_law_else, F_law_else.binds (ps := ["text"]) fun _ _ _ _ _ _ us hl => match us, hl with | [_], _ => rfl⟩
  have F_law : Fun K "law" "law" s_law fa _ := fun_mk l_law c_law k_law
  have D_law : Df K mg "law" s_law ["script"] fa _ := ⟨F_law, PySem.W.mg_of KX G a_law, F_law.binds (ps := ["script"]) fun _ _ _ _ _ _ us hl => match us, hl with | [_], _ => rfl⟩
  refine ⟨PySem.W.fnOf "law" "law" (L2.defArgs s_law) (L2.defBody s_law) (L2.defScope s_law) .none kV_law dc_law pm_law an_law cd_law ct_law, fun s v => .of_eq rfl, fun base _ _ => ?_⟩
  have C_parts_of : Cl P w K mg base CX0 1 "parts_of" (spF K pParts) := D_parts_of.cl (ok_parts_of D_parts_of)
  have C_formula_size : Cl P w K mg base CX0 10 "formula_size" (spF K (pSize 9)) := cl_formula_size M D_formula_size C_parts_of 9
  have C_depth : Cl P w K mg base CX0 10 "depth" (spF K (pDepth 9)) := cl_depth M D_depth C_parts_of 9
  have C_is_short : Cl P w K mg base CX0 1 "is_short" (spF K pShort) := D_is_short.cl (ok_is_short M D_is_short)
  have C_is_whole : Cl P w K mg base CX0 1 "is_whole" (spF K pWhole) := D_is_whole.cl (ok_is_whole M D_is_whole)
  have C_is_place : Cl P w K mg base CX0 2 "is_place" (spF K pPlace) := D_is_place.cl (ok_is_place M D_is_place C_is_whole)
  have C_is_ofS : Cl P w K mg base CX0 1 "is_of" (spF K (pOf "abcdefghijklmnopqrstuvwxyz" isSmall)) := D_is_of.cl (ok_is_of inSmall M D_is_of)
  have C_is_ofG : Cl P w K mg base CX0 1 "is_of" (spF K (pOf "ABCDEFGHIJKLMNOPQRSTUVWXYZ" isGreat)) := D_is_of.cl (ok_is_of inGreat M D_is_of)
  have C_is_text : Cl P w K mg base CX0 1 "is_text" (spF K pText) := D_is_text.cl (ok_is_text M D_is_text)
  have C_is_put : Cl P w K mg base CX0 2 "is_put" (spF K pPut) := D_is_put.cl (ok_is_put M D_is_put C_is_whole C_is_short C_is_text)
  have C_is_leaf : Cl P w K mg base CX0 3 "is_leaf" (spF K pLeaf) := D_is_leaf.cl (ok_is_leaf M D_is_leaf C_is_put C_is_place C_is_ofS)
  have C_is_sound : Cl P w K mg base CX0 12 "is_sound" (spF K (pSound 9)) := cl_is_sound M D_is_sound C_parts_of C_is_leaf C_is_ofG 9
  have C_is_formula : Cl P w K mg base CX0 13 "is_formula" (spF K pForm) := D_is_formula.cl (ok_is_formula M D_is_formula C_is_sound C_formula_size C_depth)
  have C_cell_text : Cl P w K mg base CX0 1 "cell_text" (spF K pCellT) := D_cell_text.cl (ok_cell_text M D_cell_text)
  have C_shown_truth : Cl P w K mg base CX0 1 "shown_truth" (spF K pTruth) := D_shown_truth.cl (ok_shown_truth D_shown_truth)
  have C_put_text : Cl P w K mg base CX0 2 "put_text" (spF K pPutT) := D_put_text.cl (ok_put_text M D_put_text C_shown_truth)
  have C_level_of : Cl P w K mg base CX0 1 "level_of" (spF K pLevel) := D_level_of.cl (ok_level_of M D_level_of)
  have C_shown : Cl P w K mg base CX0 26 "shown" (spF K (pShown 8)) := cl_shown M D_within D_two_text D_shown C_put_text C_cell_text C_level_of 8
  have C_let_in : Cl P w K mg base (L2.CX P w) 11 "let_in" (spX K cBF pLet) := D_let_in.cl (ok_let_in M D_let_in C_depth)
  have C_runF : Cl P w K mg base CX0 1 "run" (spF K (pRun "0123456789" isFig)) := D_run.cl (ok_run inFig M D_run)
  have C_runS : Cl P w K mg base CX0 1 "run" (spF K (pRun "abcdefghijklmnopqrstuvwxyz" isSmall)) := D_run.cl (ok_run inSmall M D_run)
  have C_runG : Cl P w K mg base CX0 1 "run" (spF K (pRun "ABCDEFGHIJKLMNOPQRSTUVWXYZ" isGreat)) := D_run.cl (ok_run inGreat M D_run)
  have C_sign_at : Cl P w K mg base CX0 1 "sign_at" (spF K pSign) := D_sign_at.cl (ok_sign_at M D_sign_at)
  have C_number_at : Cl P w K mg base (L2.CX P w) 2 "number_at" (spX K cBF pNum) := D_number_at.cl (ok_number_at M D_number_at C_runF)
  have C_text_at : Cl P w K mg base (L2.CX P w) 1 "text_at" (spX K cBF pTextAt) := D_text_at.cl (ok_text_at M D_text_at)
  have C_cell_at : Cl P w K mg base (L2.CX P w) 2 "cell_at" (spX K cBF pCell) := D_cell_at.cl (ok_cell_at M D_cell_at C_runF)
  have C_cells_at : Cl P w K mg base (L2.CX P w) 3 "cells_at" (spX K cBF pCells) := D_cells_at.cl (ok_cells_at D_cells_at C_cell_at)
  have C_level_at : Cl P w K mg base (L2.CX P w) 225 "level_at" (spX K cBF (pLv NF)) := (cl_parse M D_level_at D_less_at D_atom_at D_great_at D_call_at C_let_in C_sign_at C_number_at C_text_at C_cells_at C_runS C_runG NF).lv
  have C_read : Cl P w K mg base (L2.CX P w) 226 "read" (spX K cBF pRead) := D_read.cl (ok_read M D_read C_level_at C_is_formula C_shown)
  have C_divisor : Cl P w K mg base CX0 1 "divisor" (spF K pDiv) := D_divisor.cl (ok_divisor D_divisor)
  have C_number : Cl P w K mg base CX0 2 "number" (spF K pNumber) := D_number.cl (ok_number M D_number C_divisor C_is_short)
  have C_shown_number : Cl P w K mg base CX0 1 "shown_number" (spF K pShNum) := D_shown_number.cl (ok_shown_number M D_shown_number)
  have C_shown_value : Cl P w K mg base CX0 2 "shown_value" (spF K pShVal) := D_shown_value.cl (ok_shown_value D_shown_value C_shown_number C_shown_truth)
  have C_is_figures : Cl P w K mg base CX0 1 "is_figures" (spF K pFigs) := D_is_figures.cl (ok_is_figures M D_is_figures)
  have C_number_of : Cl P w K mg base CX0 3 "number_of" (spF K pNumOf) := D_number_of.cl (ok_number_of M D_number_of C_is_figures C_number)
  have C_text_of : Cl P w K mg base (L2.CX P w) 1 "text_of" (spX K cBN pTextOf) := D_text_of.cl (ok_text_of M D_text_of)
  have C_typed : Cl P w K mg base (L2.CX P w) 227 "typed" (spZ K cBF cBN pTyped) := D_typed.cl (ok_typed M D_typed C_read C_text_of C_number_of)
  have C_is_plain : Cl P w K mg base CX0 4 "is_plain" (spF K pPlain) := D_is_plain.cl (ok_is_plain M D_is_plain C_number_of)
  have C_typed_of : Cl P w K mg base CX0 27 "typed_of" (spF K pTypedOf) := D_typed_of.cl (ok_typed_of D_typed_of C_shown C_is_plain C_shown_value)
  have C_law_cell_at : Cl P w K mg base CX0 1 "_law_cell_at" (spCell K) := D_law_cell_at.cl (ok_cell_at2 M D_law_cell_at)
  have C_law_state : Cl P w K mg base CX0 2 "_law_state" (spState K) := D_law_state.cl (ok_state M D_law_state C_law_cell_at)
  have C_law_choice : Cl P w K mg base CX0 1 "_law_choice" (spS K preC resC) := D_law_choice.cl (ok_choice M D_law_choice)
  have C_law_lowest : Cl P w K mg base CX0 1 "_law_lowest" (spF K pLowest) := D_law_lowest.cl (ok_lowest M D_law_lowest)
  have C_law_number : Cl P w K mg base CX0 2 "_law_number" (spS K preN resNum) := D_law_number.cl (ok_law_number M D_law_number C_law_choice C_law_lowest)
  have C_law_text : Cl P w K mg base CX0 2 "_law_text" (spS K preN resText) := D_law_text.cl (ok_law_text M D_law_text C_law_choice)
  have C_law_words : Cl P w K mg base CX0 2 "_law_words" (spS K preN resWords) := D_law_words.cl (ok_law_words M D_law_words C_law_choice)
  have C_law_leaf : Cl P w K mg base CX0 3 "_law_leaf" (spS K preN resLeaf) := D_law_leaf.cl (ok_law_leaf M D_law_leaf C_law_choice C_law_words)
  have C_law_formula : Cl P w K mg base CX0 8 "_law_formula" (spFm K 5) := cl_law_formula M D_law_formula C_law_choice C_law_leaf 5
  have C_law_else : Cl P w K mg base CX0 228 "_law_else" (spF K pElse) := D_law_else.cl (ok_law_else M D_law_else C_typed)
  exact ok_law M D_law C_law_state C_law_choice C_law_number C_law_text C_law_formula C_typed_of C_typed C_law_else
end Ws
end
open PySem PySem.W PyProof.Rows
set_option maxRecDepth 100000
set_option maxHeartbeats 0
open_top head for PySem.Challenge.rw_whysheet_k07_whole_typed_back
open L2
theorem PySem.Challenge.cw_whysheet_k07_whole_typed_back_holds : PySem.Challenge.rw_whysheet_k07_whole_typed_back.Holds := by
  refine head ?_
  k_fill
  refine L2.walk_ofK (l := PySem.Challenge.rw_whysheet_k07_whole_typed_back) (n := 63) (k := 229) (x := "script") (CX := CX0) (sp := Ws.spLaw) rfl (by decide) rfl ⟨rfl, by decide, by decide⟩ (fun w h Y => PySem.W.kIn_of Y) ?F (fun K H a ns _ _ hs => Ws.law_ask hs) fun _ _ _ _ z => z
  intro w mg fa h KX G hmg
  refine' Ws.all_mk KX G hmg ?i_MOST_SIGNS ?i_MOST_ROWS ?i_MOST_COLUMNS ?i_MOST_FORMULAS ?i_MOST_DEEP ?i_MOST_LETTERS ?i_LESS ?i_ATOM ?i_MOST_OPEN ?i_GREAT_values ?i_ALLOWED ?i_COLUMNS ?i_SMALL ?i_GREAT_formulas ?i_FIGURES ?i_SIGNS ?j_SIGNS ?j1_SIGNS ?j2_SIGNS ?j3_SIGNS ?j4_SIGNS ?i_LEVELS ?j_LEVELS ?j2_LEVELS ?j3_LEVELS ?lv_eq ?lv_ne ?lv_lt ?lv_le ?lv_gt ?lv_ge ?lv_amp ?lv_add ?lv_sub ?lv_mul ?lv_div ?b_len ?b_abs ?b_sum ?b_all ?b_max ?b_str ?b_int ?b_bool ?b_isinstance ?b_tuple ?b_range ?gBF ?gBN ?gSE ?xBF ?kBF ?sBF ?tBF ?eBF ?xBN ?kBN ?sBN ?tBN ?eBN ?sSE ?iSE ?tSE ?a_divisor ?l_divisor ?c_divisor ?k_divisor ?a_is_short ?l_is_short ?c_is_short ?k_is_short ?a_number ?l_number ?c_number ?k_number ?a_is_text ?l_is_text ?c_is_text ?k_is_text ?a_is_whole ?l_is_whole ?c_is_whole ?k_is_whole ?a_shown_number ?l_shown_number ?c_shown_number ?k_shown_number ?a_shown_truth ?l_shown_truth ?c_shown_truth ?k_shown_truth ?a_shown_value ?l_shown_value ?c_shown_value ?k_shown_value ?a_parts_of ?l_parts_of ?c_parts_of ?k_parts_of ?a_formula_size ?l_formula_size ?c_formula_size ?k_formula_size ?a_depth ?l_depth ?c_depth ?k_depth ?a_is_place ?l_is_place ?c_is_place ?k_is_place ?a_is_of ?l_is_of ?c_is_of ?k_is_of ?a_is_put ?l_is_put ?c_is_put ?k_is_put ?a_is_leaf ?l_is_leaf ?c_is_leaf ?k_is_leaf ?a_is_sound ?l_is_sound ?c_is_sound ?k_is_sound ?a_is_formula ?l_is_formula ?c_is_formula ?k_is_formula ?a_cell_text ?l_cell_text ?c_cell_text ?k_cell_text ?a_put_text ?l_put_text ?c_put_text ?k_put_text ?a_level_of ?l_level_of ?c_level_of ?k_level_of ?a_within ?l_within ?c_within ?k_within ?a_two_text ?l_two_text ?c_two_text ?k_two_text ?a_shown ?l_shown ?c_shown ?k_shown ?a_let_in ?l_let_in ?c_let_in ?k_let_in ?a_run ?l_run ?c_run ?k_run ?a_sign_at ?l_sign_at ?c_sign_at ?k_sign_at ?a_number_at ?l_number_at ?c_number_at ?k_number_at ?a_text_at ?l_text_at ?c_text_at ?k_text_at ?a_cell_at ?l_cell_at ?c_cell_at ?k_cell_at ?a_cells_at ?l_cells_at ?c_cells_at ?k_cells_at ?a_call_at ?l_call_at ?c_call_at ?k_call_at ?a_great_at ?l_great_at ?c_great_at ?k_great_at ?a_atom_at ?l_atom_at ?c_atom_at ?k_atom_at ?a_less_at ?l_less_at ?c_less_at ?k_less_at ?a_level_at ?l_level_at ?c_level_at ?k_level_at ?a_read ?l_read ?c_read ?k_read ?a_is_figures ?l_is_figures ?c_is_figures ?k_is_figures ?a_number_of ?l_number_of ?c_number_of ?k_number_of ?a_text_of ?l_text_of ?c_text_of ?k_text_of ?a_typed ?l_typed ?c_typed ?k_typed ?a_is_plain ?l_is_plain ?c_is_plain ?k_is_plain ?a_typed_of ?l_typed_of ?c_typed_of ?k_typed_of ?a_law_cell_at ?l_law_cell_at ?c_law_cell_at ?k_law_cell_at ?a_law_state ?l_law_state ?c_law_state ?k_law_state ?a_law_choice ?l_law_choice ?c_law_choice ?k_law_choice ?a_law_lowest ?l_law_lowest ?c_law_lowest ?k_law_lowest ?a_law_number ?l_law_number ?c_law_number ?k_law_number ?a_law_text ?l_law_text ?c_law_text ?k_law_text ?a_law_leaf ?l_law_leaf ?c_law_leaf ?k_law_leaf ?a_law_words ?l_law_words ?c_law_words ?k_law_words ?a_law_formula ?l_law_formula ?c_law_formula ?k_law_formula ?a_law_else ?l_law_else ?c_law_else ?k_law_else ?a_law ?l_law ?c_law ?k_law
  (case i_MOST_SIGNS => k_is)
  (case i_MOST_ROWS => k_is)
  (case i_MOST_COLUMNS => k_is)
  (case i_MOST_FORMULAS => k_is)
  (case i_MOST_DEEP => k_is)
  (case i_MOST_LETTERS => k_is)
  (case i_LESS => k_is)
  (case i_ATOM => k_is)
  (case i_MOST_OPEN => k_is)
  (case i_GREAT_values => k_is)
  (case i_ALLOWED => k_is)
  (case i_COLUMNS => k_is)
  (case i_SMALL => k_is)
  (case i_GREAT_formulas => k_is)
  (case i_FIGURES => k_is)
  (case i_SIGNS => k_is)
  (case j_SIGNS => k_is)
  (case j1_SIGNS => rfl)
  (case j2_SIGNS => rfl)
  (case j3_SIGNS => decide)
  (case j4_SIGNS => exact (.cons ⟨_, rfl⟩ (.cons ⟨_, rfl⟩ (.cons ⟨_, rfl⟩ (.cons ⟨_, rfl⟩ (.cons ⟨_, rfl⟩ (.cons ⟨_, rfl⟩ (.cons ⟨_, rfl⟩ (.cons ⟨_, rfl⟩ (.cons ⟨_, rfl⟩ (.cons ⟨_, rfl⟩ (.cons ⟨_, rfl⟩ .nil))))))))))))
  (case i_LEVELS => k_is)
  (case j_LEVELS => k_is)
  (case j2_LEVELS => exact ⟨⟨_, _, rfl, rfl⟩, ⟨⟨_, _, rfl, rfl⟩, ⟨⟨_, _, rfl, rfl⟩, ⟨⟨_, _, rfl, rfl⟩, ⟨⟨_, _, rfl, rfl⟩, ⟨⟨_, _, rfl, rfl⟩, ⟨⟨_, _, rfl, rfl⟩, ⟨⟨_, _, rfl, rfl⟩, ⟨⟨_, _, rfl, rfl⟩, ⟨⟨_, _, rfl, rfl⟩, ⟨⟨_, _, rfl, rfl⟩, trivial⟩⟩⟩⟩⟩⟩⟩⟩⟩⟩⟩)
  (case j3_LEVELS => rfl)
  (case lv_eq => k_is)
  (case lv_ne => k_is)
  (case lv_lt => k_is)
  (case lv_le => k_is)
  (case lv_gt => k_is)
  (case lv_ge => k_is)
  (case lv_amp => k_is)
  (case lv_add => k_is)
  (case lv_sub => k_is)
  (case lv_mul => k_is)
  (case lv_div => k_is)
  (case b_len => k_is)
  (case b_abs => k_is)
  (case b_sum => k_is)
  (case b_all => k_is)
  (case b_max => k_is)
  (case b_str => k_is)
  (case b_int => k_is)
  (case b_bool => k_is)
  (case b_isinstance => k_is)
  (case b_tuple => k_is)
  (case b_range => k_is)
  (case gBF => k_is)
  (case gBN => k_is)
  (case gSE => k_is)
  (case xBF => k_exc)
  (case kBF => k_is)
  (case sBF => k_is)
  (case tBF => k_is)
  (case eBF => k_is)
  (case xBN => k_exc)
  (case kBN => k_is)
  (case sBN => k_is)
  (case tBN => k_is)
  (case eBN => k_is)
  (case sSE => k_is)
  (case iSE => k_is)
  (case tSE => k_is)
  (case a_divisor => k_is)
  (case l_divisor => k_is)
  (case c_divisor => k_is)
  (case k_divisor => k_is)
  (case a_is_short => k_is)
  (case l_is_short => k_is)
  (case c_is_short => k_is)
  (case k_is_short => k_is)
  (case a_number => k_is)
  (case l_number => k_is)
  (case c_number => k_is)
  (case k_number => k_is)
  (case a_is_text => k_is)
  (case l_is_text => k_is)
  (case c_is_text => k_is)
  (case k_is_text => k_is)
  (case a_is_whole => k_is)
  (case l_is_whole => k_is)
  (case c_is_whole => k_is)
  (case k_is_whole => k_is)
  (case a_shown_number => k_is)
  (case l_shown_number => k_is)
  (case c_shown_number => k_is)
  (case k_shown_number => k_is)
  (case a_shown_truth => k_is)
  (case l_shown_truth => k_is)
  (case c_shown_truth => k_is)
  (case k_shown_truth => k_is)
  (case a_shown_value => k_is)
  (case l_shown_value => k_is)
  (case c_shown_value => k_is)
  (case k_shown_value => k_is)
  (case a_parts_of => k_is)
  (case l_parts_of => k_is)
  (case c_parts_of => k_is)
  (case k_parts_of => k_is)
  (case a_formula_size => k_is)
  (case l_formula_size => k_is)
  (case c_formula_size => k_is)
  (case k_formula_size => k_is)
  (case a_depth => k_is)
  (case l_depth => k_is)
  (case c_depth => k_is)
  (case k_depth => k_is)
  (case a_is_place => k_is)
  (case l_is_place => k_is)
  (case c_is_place => k_is)
  (case k_is_place => k_is)
  (case a_is_of => k_is)
  (case l_is_of => k_is)
  (case c_is_of => k_is)
  (case k_is_of => k_is)
  (case a_is_put => k_is)
  (case l_is_put => k_is)
  (case c_is_put => k_is)
  (case k_is_put => k_is)
  (case a_is_leaf => k_is)
  (case l_is_leaf => k_is)
  (case c_is_leaf => k_is)
  (case k_is_leaf => k_is)
  (case a_is_sound => k_is)
  (case l_is_sound => k_is)
  (case c_is_sound => k_is)
  (case k_is_sound => k_is)
  (case a_is_formula => k_is)
  (case l_is_formula => k_is)
  (case c_is_formula => k_is)
  (case k_is_formula => k_is)
  (case a_cell_text => k_is)
  (case l_cell_text => k_is)
  (case c_cell_text => k_is)
  (case k_cell_text => k_is)
  (case a_put_text => k_is)
  (case l_put_text => k_is)
  (case c_put_text => k_is)
  (case k_put_text => k_is)
  (case a_level_of => k_is)
  (case l_level_of => k_is)
  (case c_level_of => k_is)
  (case k_level_of => k_is)
  (case a_within => k_is)
  (case l_within => k_is)
  (case c_within => k_is)
  (case k_within => k_is)
  (case a_two_text => k_is)
  (case l_two_text => k_is)
  (case c_two_text => k_is)
  (case k_two_text => k_is)
  (case a_shown => k_is)
  (case l_shown => k_is)
  (case c_shown => k_is)
  (case k_shown => k_is)
  (case a_let_in => k_is)
  (case l_let_in => k_is)
  (case c_let_in => k_is)
  (case k_let_in => k_is)
  (case a_run => k_is)
  (case l_run => k_is)
  (case c_run => k_is)
  (case k_run => k_is)
  (case a_sign_at => k_is)
  (case l_sign_at => k_is)
  (case c_sign_at => k_is)
  (case k_sign_at => k_is)
  (case a_number_at => k_is)
  (case l_number_at => k_is)
  (case c_number_at => k_is)
  (case k_number_at => k_is)
  (case a_text_at => k_is)
  (case l_text_at => k_is)
  (case c_text_at => k_is)
  (case k_text_at => k_is)
  (case a_cell_at => k_is)
  (case l_cell_at => k_is)
  (case c_cell_at => k_is)
  (case k_cell_at => k_is)
  (case a_cells_at => k_is)
  (case l_cells_at => k_is)
  (case c_cells_at => k_is)
  (case k_cells_at => k_is)
  (case a_call_at => k_is)
  (case l_call_at => k_is)
  (case c_call_at => k_is)
  (case k_call_at => k_is)
  (case a_great_at => k_is)
  (case l_great_at => k_is)
  (case c_great_at => k_is)
  (case k_great_at => k_is)
  (case a_atom_at => k_is)
  (case l_atom_at => k_is)
  (case c_atom_at => k_is)
  (case k_atom_at => k_is)
  (case a_less_at => k_is)
  (case l_less_at => k_is)
  (case c_less_at => k_is)
  (case k_less_at => k_is)
  (case a_level_at => k_is)
  (case l_level_at => k_is)
  (case c_level_at => k_is)
  (case k_level_at => k_is)
  (case a_read => k_is)
  (case l_read => k_is)
  (case c_read => k_is)
  (case k_read => k_is)
  (case a_is_figures => k_is)
  (case l_is_figures => k_is)
  (case c_is_figures => k_is)
  (case k_is_figures => k_is)
  (case a_number_of => k_is)
  (case l_number_of => k_is)
  (case c_number_of => k_is)
  (case k_number_of => k_is)
  (case a_text_of => k_is)
  (case l_text_of => k_is)
  (case c_text_of => k_is)
  (case k_text_of => k_is)
  (case a_typed => k_is)
  (case l_typed => k_is)
  (case c_typed => k_is)
  (case k_typed => k_is)
  (case a_is_plain => k_is)
  (case l_is_plain => k_is)
  (case c_is_plain => k_is)
  (case k_is_plain => k_is)
  (case a_typed_of => k_is)
  (case l_typed_of => k_is)
  (case c_typed_of => k_is)
  (case k_typed_of => k_is)
  (case a_law_cell_at => k_is)
  (case l_law_cell_at => k_is)
  (case c_law_cell_at => k_is)
  (case k_law_cell_at => k_is)
  (case a_law_state => k_is)
  (case l_law_state => k_is)
  (case c_law_state => k_is)
  (case k_law_state => k_is)
  (case a_law_choice => k_is)
  (case l_law_choice => k_is)
  (case c_law_choice => k_is)
  (case k_law_choice => k_is)
  (case a_law_lowest => k_is)
  (case l_law_lowest => k_is)
  (case c_law_lowest => k_is)
  (case k_law_lowest => k_is)
  (case a_law_number => k_is)
  (case l_law_number => k_is)
  (case c_law_number => k_is)
  (case k_law_number => k_is)
  (case a_law_text => k_is)
  (case l_law_text => k_is)
  (case c_law_text => k_is)
  (case k_law_text => k_is)
  (case a_law_leaf => k_is)
  (case l_law_leaf => k_is)
  (case c_law_leaf => k_is)
  (case k_law_leaf => k_is)
  (case a_law_words => k_is)
  (case l_law_words => k_is)
  (case c_law_words => k_is)
  (case k_law_words => k_is)
  (case a_law_formula => k_is)
  (case l_law_formula => k_is)
  (case c_law_formula => k_is)
  (case k_law_formula => k_is)
  (case a_law_else => k_is)
  (case l_law_else => k_is)
  (case c_law_else => k_is)
  (case k_law_else => k_is)
  (case a_law => k_is)
  (case l_law => k_is)
  (case c_law => k_is)
  (case k_law => k_is)
