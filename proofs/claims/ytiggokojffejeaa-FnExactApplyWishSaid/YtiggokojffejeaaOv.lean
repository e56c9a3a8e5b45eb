/- Words of this session for the functions that the print does not take: predicates handed to slices' functions. No condition. -/
import Derived.Test.YtiggokojffejeaaProg
import Derived.Test.YtiggokojffejeaaWWords
import Derived.Test.YtiggokojffejeaaWLast
import Derived.Test.YtiggokojffejeaaWMore
import Derived.WalkKit
import Derived.Deep.LoopGhost
import Derived.Shelf.Abstract
namespace Go.Proofs.Ytiggokojffejeaa.Ov
open Go.RowKit Go.Proofs.YtiggokojffejeaaW.PrintWords Go.Proofs.YtiggokojffejeaaW.PrintLast Go.Proofs.YtiggokojffejeaaW.PrintMore

/-- W' is W with new blocks and draws: as the walk spells it. -/
class Ext (W W' : World) : Prop where out : ∀ (w : World), Below w.heap.size w W → Below w.heap.size w W'
instance (W : World) : Ext W W := ⟨fun _ h => h⟩
instance (W W' : World) (o : Obj) [h : Ext W W'] : Ext W (W'.alloc o) := ⟨fun w hb => below_alloc (h.out w hb) o⟩
instance (W W' : World) (q : Nat) [h : Ext W W'] : Ext W (W'.drewN q) := ⟨fun w hb => pw_below_drewN (h.out w hb) q⟩
instance (W W' : World) [h : Ext W W'] : Ext W W'.drew := ⟨fun w hb => below_drew1 (h.out w hb)⟩
theorem bl {w W W' : World} (h : Below w.heap.size w W) [e : Ext W W'] : Below w.heap.size w W' := e.out w h

/-- A predicate on numbers that a function value computes, making nothing. -/
def PredInt (P : Program) (g : Nat) (p : Int → Bool) : Prop := ∀ (W : World) (x : Int), Calls P g #[.int .i64 x] W fun e w' => e = .returned (.bool (p x)) ∧ Drawn0 W w'
def PredIntO (P : Program) (g : Nat) (p : Int → Option Bool) : Prop := ∀ (W : World) (x : Int) (r : Bool), p x = some r → Calls P g #[.int .i64 x] W fun e w' => e = .returned (.bool r) ∧ Drawn0 W w'
def Enters (P : Program) (g : Nat) : Prop := ∀ (args : Array Value) (w : World), (callFunc g args).run P w = .ok (.enter g args) w

def findFrom {α : Type} (p : α → Bool) : List α → Nat → Int
  | [], _ => -1
  | x :: r, i => if p x = true then (i : Int) else findFrom p r (i + 1)
theorem findFrom_drop {α : Type} (p : α → Bool) (l : List α) (k : Nat) (h : k < l.length) : findFrom p (l.drop k) k = if p l[k] = true then (k : Int) else findFrom p (l.drop (k + 1)) (k + 1) := by
  rw [List.drop_eq_getElem_cons h]; rfl
theorem findFrom_nonneg {α : Type} (p : α → Bool) : ∀ (l : List α) (k : Nat), decide (0 ≤ findFrom p l k) = l.any p
  | [], k => by simp [findFrom]
  | x :: r, k => by
    unfold findFrom
    cases h : p x
    · simp [h, findFrom_nonneg p r (k + 1)]
    · simp [h]
theorem rd_eq (l : List Int) (k : Nat) (h : k < l.length) : rd l (k : Int) = l[k] := by
  unfold rd
  rw [Int.toNat_natCast, List.getD_eq_getElem?_getD, List.getElem?_eq_getElem h]; rfl
theorem getD_eq {α : Type} (l : List α) (z : α) (k : Nat) (h : k < l.length) : l.getD (k : Int).toNat z = l[k] := by
  rw [Int.toNat_natCast, List.getD_eq_getElem?_getD, List.getElem?_eq_getElem h]; rfl
theorem not_all_any {α : Type} (p : α → Bool) (l : List α) : (l.any fun n => !p n) = !(l.all p) := by
  rw [List.not_all_eq_any_not]
/-- The first place at which p holds, or -1; nothing where p tells nothing before it. -/
def findO {α : Type} (p : α → Option Bool) : List α → Nat → Option Int
  | [], _ => some (-1)
  | x :: r, i => (p x).bind fun b => if b = true then some (i : Int) else findO p r (i + 1)
def containsO {α : Type} (p : α → Option Bool) (l : List α) : Option Bool := (findO p l 0).bind fun i => some (decide (0 ≤ i))
def notO (b : Option Bool) : Option Bool := b.bind fun x => some (!x)
theorem findO_drop {α : Type} (p : α → Option Bool) (l : List α) (k : Nat) (h : k < l.length) : findO p (l.drop k) k = (p l[k]).bind fun b => if b = true then some (k : Int) else findO p (l.drop (k + 1)) (k + 1) := by
  rw [List.drop_eq_getElem_cons h]; rfl
theorem findO_total {α : Type} (p : α → Option Bool) (P : α → Bool) : ∀ (l : List α) (k : Nat), (∀ x ∈ l, p x = some (P x)) → findO p l k = some (findFrom P l k)
  | [], k, _ => rfl
  | x :: r, k, h => by
    have hx := h x (by simp)
    unfold findO findFrom
    rw [hx, Option.bind_some]
    cases P x
    · simp [findO_total p P r (k + 1) (fun y hy => h y (by simp [hy]))]
    · simp
theorem containsO_total {α : Type} (p : α → Option Bool) (P : α → Bool) (l : List α) (h : ∀ x ∈ l, p x = some (P x)) : containsO p l = some (l.any P) := by
  unfold containsO
  rw [findO_total p P l 0 h, Option.bind_some, findFrom_nonneg]
theorem notContainsO_total {α : Type} (q : α → Option Bool) (Q : α → Bool) (l : List α) (h : ∀ x ∈ l, q x = some (Q x)) : notO (containsO (fun x => notO (q x)) l) = some (l.all Q) := by
  rw [containsO_total _ (fun x => !Q x) l (fun x hx => by unfold notO; rw [h x hx]; rfl), not_all_any]
  simp [notO]
/-- A variable of a block of its own: it reads v, in every later world. -/
structure CapAt (w : World) (B : Nat) (i : Nat) (v : Value) : Prop where mk :: (lt : B < w.heap.size) (cell : w.cell? ⟨B, i, none⟩ = some v)
theorem CapAt.below {w W : World} {B i : Nat} {v : Value} (h : CapAt w B i v) (hb : Below w.heap.size w W) : CapAt W B i v :=
  ⟨Nat.lt_of_lt_of_le h.lt hb.size, (hb.cell (p := ⟨B, i, none⟩) h.lt).trans h.cell⟩
end Go.Proofs.Ytiggokojffejeaa.Ov
