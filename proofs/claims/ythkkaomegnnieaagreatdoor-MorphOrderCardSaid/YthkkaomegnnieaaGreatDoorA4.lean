import Derived.Test.YthkkaomegnnieaaGreatDoorA3
import Derived.Deep.Slices
import Derived.DataReads
import Derived.Test.YthkkaomegnnieaaGreatDoorChecked
import Derived.KernelRfl
/-
  Part 4 of the tool: an abstract machine over the model, proved sound, and what it says of the functions that the law reaches. Condition: none but those that each theorem names.
-/
set_option linter.unusedVariables false
set_option linter.unusedSimpArgs false
section
set_option linter.unusedSimpArgs false
set_option linter.unusedVariables false
set_option linter.defProp false
namespace Go.Am
open Go.RowKit

/-! Go's values as plain Lean ones. -/

abbrev Str := List UInt8
abbrev maxL : Nat := 9223372036854775807
def I64 (n : Int) : Prop := -9223372036854775808 ≤ n ∧ n ≤ 9223372036854775807

/-- A slice: who may append to it, its elements. -/
structure Sl (α : Type) where
  tag : Tag
  l : List α

def Tag.strip : Tag → Tag
  | .own _ => .any
  | t => t
def Sl.strip {α : Type} (s : Sl α) : Sl α := ⟨s.tag.strip, s.l⟩
theorem strip_slice (t : Tag) (n : Nat) (r : List (List AV)) : AV.strip (.slice t n r) = .slice t.strip n r := by cases t <;> rfl
theorem strip_map : (∀ (t : Tag) (n : Nat) (r : List (List AV)), AV.strip (.slice t n r) = .slice t.strip n r) ∧ (∀ (x : AV) (l : List AV), List.map AV.strip (x :: l) = AV.strip x :: List.map AV.strip l) ∧ List.map AV.strip [] = [] ∧ (∀ a b : List AV, List.map AV.strip (a ++ b) = List.map AV.strip a ++ List.map AV.strip b) :=
  ⟨strip_slice, fun _ _ => rfl, rfl, fun _ _ => List.map_append⟩

structure Sl.ok {α : Type} (s : Sl α) (n : Nat) (p : α → Prop) : Prop where
  tag : tagLt n s.tag
  len : s.l.length ≤ maxL
  all : ∀ x ∈ s.l, p x

theorem tagLt.mono {n m : Nat} {t : Tag} (h : tagLt n t) (hn : n ≤ m) : tagLt m t := by
  cases t <;> first | trivial | exact Nat.lt_of_lt_of_le h hn

theorem Sl.ok.mono {α : Type} {s : Sl α} {n m : Nat} {p q : α → Prop} (h : s.ok n p) (hn : n ≤ m) (hp : ∀ x, p x → q x) : s.ok m q :=
  ⟨h.tag.mono hn, h.len, fun x hx => hp x (h.all x hx)⟩

theorem Sl.ok.wk {α : Type} {s : Sl α} {n esz : Nat} {p : α → Prop} {row : α → List AV} (h : s.ok n p) (hr : ∀ x, p x → WkL n (row x) (row x)) : Wk n (.slice s.tag esz (s.l.map row)) (.slice s.tag esz (s.l.map row)) :=
  wk_slice h.tag (by rw [rowsWk_map]; exact fun x hx => hr x (h.all x hx))

theorem Sl.ok.wkAny {α : Type} {s : Sl α} {n esz : Nat} {p : α → Prop} {row : α → List AV} (h : s.ok n p) (hr : ∀ x, p x → WkL n (row x) (row x)) : Wk n (.slice s.tag esz (s.l.map row)) (.slice .any esz (s.l.map row)) :=
  wk_any (by rw [rowsWk_map]; exact fun x hx => hr x (h.all x hx))

theorem wkL_append {n : Nat} : ∀ {a b c d : List AV}, WkL n a b → WkL n c d → WkL n (a ++ c) (b ++ d)
  | [], [], _, _, _, h => h
  | _ :: _, _ :: _, _, _, h, h' => ⟨h.1, wkL_append h.2 h'⟩
  | [], _ :: _, _, _, h, _ => h.elim
  | _ :: _, [], _, _, h, _ => h.elim

def strRow (s : Str) : List AV := [.str s]
def intRow (n : Int) : List AV := [.int .i64 n]
theorem qStr : (∀ s : Str, rload none (strRow s) 0 = some (.str s)) ∧ (∀ n : Int, rload none (intRow n) 0 = some (.int .i64 n)) := ⟨fun _ => rfl, fun _ => rfl⟩

structure Feat where
  name : Str
  value : Str

def Feat.row (x : Feat) : List AV := [.str x.name, .str x.value]
theorem qFeat : (∀ x : Feat, takeO 2 (Feat.row x) = some (Feat.row x)) ∧ (∀ x : Feat, rload none (Feat.row x) 0 = some (.str x.name)) ∧ (∀ x : Feat, rload none (Feat.row x) 1 = some (.str x.value)) ∧ (∀ x : Feat, (Feat.row x).length = 2) ∧ (∀ x : Feat, (Feat.row x).all AV.cell = true) ∧ (∀ x : Feat, ∀ c0 c1 : AV, setRow [c0, c1] 0 (Feat.row x) = Feat.row x) ∧ (∀ x : Feat, ∀ y : Feat, setRow (Feat.row y) 0 (Feat.row x) = Feat.row x) ∧ (∀ x : Feat, ∀ (y : Str), setRow (Feat.row x) 0 [.str y] = Feat.row { x with name := y }) ∧ (∀ x : Feat, ∀ (y : Str), setRow (Feat.row x) 1 [.str y] = Feat.row { x with value := y }) ∧ (∀ x : Feat, (Feat.row x).map AV.strip = Feat.row x) ∧ (∀ x : Feat, (Feat.row x).take 2 = Feat.row x) ∧ (∀ x : Feat, (Feat.row x).drop 2 = []) :=
  ⟨fun x => by intros; first | rfl | (simp only [Feat.row]; rfl) | (simp only [Feat.row, strip_map]; rfl), fun x => by intros; first | rfl | (simp only [Feat.row]; rfl) | (simp only [Feat.row, strip_map]; rfl), fun x => by intros; first | rfl | (simp only [Feat.row]; rfl) | (simp only [Feat.row, strip_map]; rfl), fun x => by intros; first | rfl | (simp only [Feat.row]; rfl) | (simp only [Feat.row, strip_map]; rfl), fun x => by intros; first | rfl | (simp only [Feat.row]; rfl) | (simp only [Feat.row, strip_map]; rfl), fun x => by intros; first | rfl | (simp only [Feat.row]; rfl) | (simp only [Feat.row, strip_map]; rfl), fun x => by intros; first | rfl | (simp only [Feat.row]; rfl) | (simp only [Feat.row, strip_map]; rfl), fun x => by intros; first | rfl | (simp only [Feat.row]; rfl) | (simp only [Feat.row, strip_map]; rfl), fun x => by intros; first | rfl | (simp only [Feat.row]; rfl) | (simp only [Feat.row, strip_map]; rfl), fun x => by intros; first | rfl | (simp only [Feat.row]; rfl) | (simp only [Feat.row, strip_map]; rfl), fun x => by intros; first | rfl | (simp only [Feat.row]; rfl) | (simp only [Feat.row, strip_map]; rfl), fun x => by intros; first | rfl | (simp only [Feat.row]; rfl) | (simp only [Feat.row, strip_map]; rfl)⟩
structure Feat.ok (n : Nat) (x : Feat) : Prop where
  name : x.name.length ≤ maxL
  value : x.value.length ≤ maxL

theorem Feat.ok.mono {n m : Nat} {x : Feat} (h : x.ok n) (hn : n ≤ m) : x.ok m := ⟨h.name, h.value⟩
theorem Feat.ok.wk {n : Nat} {x : Feat} (h : x.ok n) : WkL n x.row x.row := ⟨wk_str _ _, wk_str _ _, trivial⟩

structure Trait where
  name : Str
  values : Sl Str

def Trait.row (x : Trait) : List AV := [.str x.name, .slice x.values.tag 1 (x.values.l.map strRow)]
def Trait.strip (x : Trait) : Trait := { x with values := x.values.strip }
theorem qTrait : (∀ x : Trait, takeO 2 (Trait.row x) = some (Trait.row x)) ∧ (∀ x : Trait, rload none (Trait.row x) 0 = some (.str x.name)) ∧ (∀ x : Trait, rload none (Trait.row x) 1 = some (.slice x.values.tag 1 (x.values.l.map strRow))) ∧ (∀ x : Trait, (Trait.row x).length = 2) ∧ (∀ x : Trait, (Trait.row x).all AV.cell = true) ∧ (∀ x : Trait, ∀ c0 c1 : AV, setRow [c0, c1] 0 (Trait.row x) = Trait.row x) ∧ (∀ x : Trait, ∀ y : Trait, setRow (Trait.row y) 0 (Trait.row x) = Trait.row x) ∧ (∀ x : Trait, ∀ (y : Str), setRow (Trait.row x) 0 [.str y] = Trait.row { x with name := y }) ∧ (∀ x : Trait, ∀ (t : Tag) (l : List Str), setRow (Trait.row x) 1 [.slice t 1 (l.map strRow)] = Trait.row { x with values := ⟨t, l⟩ }) ∧ (∀ x : Trait, (Trait.row x).map AV.strip = Trait.row x.strip) ∧ (∀ x : Trait, (Trait.row x).take 2 = Trait.row x) ∧ (∀ x : Trait, (Trait.row x).drop 2 = []) :=
  ⟨fun x => by intros; first | rfl | (simp only [Trait.row]; rfl) | (simp only [Trait.row, strip_map]; rfl), fun x => by intros; first | rfl | (simp only [Trait.row]; rfl) | (simp only [Trait.row, strip_map]; rfl), fun x => by intros; first | rfl | (simp only [Trait.row]; rfl) | (simp only [Trait.row, strip_map]; rfl), fun x => by intros; first | rfl | (simp only [Trait.row]; rfl) | (simp only [Trait.row, strip_map]; rfl), fun x => by intros; first | rfl | (simp only [Trait.row]; rfl) | (simp only [Trait.row, strip_map]; rfl), fun x => by intros; first | rfl | (simp only [Trait.row]; rfl) | (simp only [Trait.row, strip_map]; rfl), fun x => by intros; first | rfl | (simp only [Trait.row]; rfl) | (simp only [Trait.row, strip_map]; rfl), fun x => by intros; first | rfl | (simp only [Trait.row]; rfl) | (simp only [Trait.row, strip_map]; rfl), fun x => by intros; first | rfl | (simp only [Trait.row]; rfl) | (simp only [Trait.row, strip_map]; rfl), fun x => by intros; first | rfl | (simp only [Trait.row]; rfl) | (simp only [Trait.row, strip_map]; rfl), fun x => by intros; first | rfl | (simp only [Trait.row]; rfl) | (simp only [Trait.row, strip_map]; rfl), fun x => by intros; first | rfl | (simp only [Trait.row]; rfl) | (simp only [Trait.row, strip_map]; rfl)⟩
structure Trait.ok (n : Nat) (x : Trait) : Prop where
  name : x.name.length ≤ maxL
  values : x.values.ok n (fun s => s.length ≤ maxL)

theorem Trait.ok.mono {n m : Nat} {x : Trait} (h : x.ok n) (hn : n ≤ m) : x.ok m := ⟨h.name, h.values.mono hn (fun _ h => h)⟩
theorem Trait.ok.wk {n : Nat} {x : Trait} (h : x.ok n) : WkL n x.row x.row := ⟨wk_str _ _, h.values.wk (fun _ _ => ⟨wk_str _ _, trivial⟩), trivial⟩

structure Slot where
  cut : Int
  pre : Str
  add : Str
  feats : Sl Feat

def Slot.row (x : Slot) : List AV := [.int .i64 x.cut, .str x.pre, .str x.add, .slice x.feats.tag 2 (x.feats.l.map Feat.row)]
def Slot.strip (x : Slot) : Slot := { x with feats := x.feats.strip }
theorem qSlot : (∀ x : Slot, takeO 4 (Slot.row x) = some (Slot.row x)) ∧ (∀ x : Slot, rload none (Slot.row x) 0 = some (.int .i64 x.cut)) ∧ (∀ x : Slot, rload none (Slot.row x) 1 = some (.str x.pre)) ∧ (∀ x : Slot, rload none (Slot.row x) 2 = some (.str x.add)) ∧ (∀ x : Slot, rload none (Slot.row x) 3 = some (.slice x.feats.tag 2 (x.feats.l.map Feat.row))) ∧ (∀ x : Slot, (Slot.row x).length = 4) ∧ (∀ x : Slot, (Slot.row x).all AV.cell = true) ∧ (∀ x : Slot, ∀ c0 c1 c2 c3 : AV, setRow [c0, c1, c2, c3] 0 (Slot.row x) = Slot.row x) ∧ (∀ x : Slot, ∀ y : Slot, setRow (Slot.row y) 0 (Slot.row x) = Slot.row x) ∧ (∀ x : Slot, ∀ (y : Int), setRow (Slot.row x) 0 [.int .i64 y] = Slot.row { x with cut := y }) ∧ (∀ x : Slot, ∀ (y : Str), setRow (Slot.row x) 1 [.str y] = Slot.row { x with pre := y }) ∧ (∀ x : Slot, ∀ (y : Str), setRow (Slot.row x) 2 [.str y] = Slot.row { x with add := y }) ∧ (∀ x : Slot, ∀ (t : Tag) (l : List Feat), setRow (Slot.row x) 3 [.slice t 2 (l.map Feat.row)] = Slot.row { x with feats := ⟨t, l⟩ }) ∧ (∀ x : Slot, (Slot.row x).map AV.strip = Slot.row x.strip) ∧ (∀ x : Slot, (Slot.row x).take 4 = Slot.row x) ∧ (∀ x : Slot, (Slot.row x).drop 4 = []) :=
  ⟨fun x => by intros; first | rfl | (simp only [Slot.row]; rfl) | (simp only [Slot.row, strip_map]; rfl), fun x => by intros; first | rfl | (simp only [Slot.row]; rfl) | (simp only [Slot.row, strip_map]; rfl), fun x => by intros; first | rfl | (simp only [Slot.row]; rfl) | (simp only [Slot.row, strip_map]; rfl), fun x => by intros; first | rfl | (simp only [Slot.row]; rfl) | (simp only [Slot.row, strip_map]; rfl), fun x => by intros; first | rfl | (simp only [Slot.row]; rfl) | (simp only [Slot.row, strip_map]; rfl), fun x => by intros; first | rfl | (simp only [Slot.row]; rfl) | (simp only [Slot.row, strip_map]; rfl), fun x => by intros; first | rfl | (simp only [Slot.row]; rfl) | (simp only [Slot.row, strip_map]; rfl), fun x => by intros; first | rfl | (simp only [Slot.row]; rfl) | (simp only [Slot.row, strip_map]; rfl), fun x => by intros; first | rfl | (simp only [Slot.row]; rfl) | (simp only [Slot.row, strip_map]; rfl), fun x => by intros; first | rfl | (simp only [Slot.row]; rfl) | (simp only [Slot.row, strip_map]; rfl), fun x => by intros; first | rfl | (simp only [Slot.row]; rfl) | (simp only [Slot.row, strip_map]; rfl), fun x => by intros; first | rfl | (simp only [Slot.row]; rfl) | (simp only [Slot.row, strip_map]; rfl), fun x => by intros; first | rfl | (simp only [Slot.row]; rfl) | (simp only [Slot.row, strip_map]; rfl), fun x => by intros; first | rfl | (simp only [Slot.row]; rfl) | (simp only [Slot.row, strip_map]; rfl), fun x => by intros; first | rfl | (simp only [Slot.row]; rfl) | (simp only [Slot.row, strip_map]; rfl), fun x => by intros; first | rfl | (simp only [Slot.row]; rfl) | (simp only [Slot.row, strip_map]; rfl)⟩
structure Slot.ok (n : Nat) (x : Slot) : Prop where
  cut : I64 x.cut
  pre : x.pre.length ≤ maxL
  add : x.add.length ≤ maxL
  feats : x.feats.ok n (Feat.ok n)

theorem Slot.ok.mono {n m : Nat} {x : Slot} (h : x.ok n) (hn : n ≤ m) : x.ok m := ⟨h.cut, h.pre, h.add, h.feats.mono hn (fun _ h => h.mono hn)⟩
theorem Slot.ok.wk {n : Nat} {x : Slot} (h : x.ok n) : WkL n x.row x.row := ⟨wk_int _ _ _, wk_str _ _, wk_str _ _, h.feats.wk (fun _ h => h.wk), trivial⟩

structure Class where
  name : Str
  slots : Sl Slot

def Class.row (x : Class) : List AV := [.str x.name, .slice x.slots.tag 4 (x.slots.l.map Slot.row)]
def Class.strip (x : Class) : Class := { x with slots := x.slots.strip }
theorem qClass : (∀ x : Class, takeO 2 (Class.row x) = some (Class.row x)) ∧ (∀ x : Class, rload none (Class.row x) 0 = some (.str x.name)) ∧ (∀ x : Class, rload none (Class.row x) 1 = some (.slice x.slots.tag 4 (x.slots.l.map Slot.row))) ∧ (∀ x : Class, (Class.row x).length = 2) ∧ (∀ x : Class, (Class.row x).all AV.cell = true) ∧ (∀ x : Class, ∀ c0 c1 : AV, setRow [c0, c1] 0 (Class.row x) = Class.row x) ∧ (∀ x : Class, ∀ y : Class, setRow (Class.row y) 0 (Class.row x) = Class.row x) ∧ (∀ x : Class, ∀ (y : Str), setRow (Class.row x) 0 [.str y] = Class.row { x with name := y }) ∧ (∀ x : Class, ∀ (t : Tag) (l : List Slot), setRow (Class.row x) 1 [.slice t 4 (l.map Slot.row)] = Class.row { x with slots := ⟨t, l⟩ }) ∧ (∀ x : Class, (Class.row x).map AV.strip = Class.row x.strip) ∧ (∀ x : Class, (Class.row x).take 2 = Class.row x) ∧ (∀ x : Class, (Class.row x).drop 2 = []) :=
  ⟨fun x => by intros; first | rfl | (simp only [Class.row]; rfl) | (simp only [Class.row, strip_map]; rfl), fun x => by intros; first | rfl | (simp only [Class.row]; rfl) | (simp only [Class.row, strip_map]; rfl), fun x => by intros; first | rfl | (simp only [Class.row]; rfl) | (simp only [Class.row, strip_map]; rfl), fun x => by intros; first | rfl | (simp only [Class.row]; rfl) | (simp only [Class.row, strip_map]; rfl), fun x => by intros; first | rfl | (simp only [Class.row]; rfl) | (simp only [Class.row, strip_map]; rfl), fun x => by intros; first | rfl | (simp only [Class.row]; rfl) | (simp only [Class.row, strip_map]; rfl), fun x => by intros; first | rfl | (simp only [Class.row]; rfl) | (simp only [Class.row, strip_map]; rfl), fun x => by intros; first | rfl | (simp only [Class.row]; rfl) | (simp only [Class.row, strip_map]; rfl), fun x => by intros; first | rfl | (simp only [Class.row]; rfl) | (simp only [Class.row, strip_map]; rfl), fun x => by intros; first | rfl | (simp only [Class.row]; rfl) | (simp only [Class.row, strip_map]; rfl), fun x => by intros; first | rfl | (simp only [Class.row]; rfl) | (simp only [Class.row, strip_map]; rfl), fun x => by intros; first | rfl | (simp only [Class.row]; rfl) | (simp only [Class.row, strip_map]; rfl)⟩
structure Class.ok (n : Nat) (x : Class) : Prop where
  name : x.name.length ≤ maxL
  slots : x.slots.ok n (Slot.ok n)

theorem Class.ok.mono {n m : Nat} {x : Class} (h : x.ok n) (hn : n ≤ m) : x.ok m := ⟨h.name, h.slots.mono hn (fun _ h => h.mono hn)⟩
theorem Class.ok.wk {n : Nat} {x : Class} (h : x.ok n) : WkL n x.row x.row := ⟨wk_str _ _, h.slots.wk (fun _ h => h.wk), trivial⟩

structure Irreg where
  slot : Int
  word : Str

def Irreg.row (x : Irreg) : List AV := [.int .i64 x.slot, .str x.word]
theorem qIrreg : (∀ x : Irreg, takeO 2 (Irreg.row x) = some (Irreg.row x)) ∧ (∀ x : Irreg, rload none (Irreg.row x) 0 = some (.int .i64 x.slot)) ∧ (∀ x : Irreg, rload none (Irreg.row x) 1 = some (.str x.word)) ∧ (∀ x : Irreg, (Irreg.row x).length = 2) ∧ (∀ x : Irreg, (Irreg.row x).all AV.cell = true) ∧ (∀ x : Irreg, ∀ c0 c1 : AV, setRow [c0, c1] 0 (Irreg.row x) = Irreg.row x) ∧ (∀ x : Irreg, ∀ y : Irreg, setRow (Irreg.row y) 0 (Irreg.row x) = Irreg.row x) ∧ (∀ x : Irreg, ∀ (y : Int), setRow (Irreg.row x) 0 [.int .i64 y] = Irreg.row { x with slot := y }) ∧ (∀ x : Irreg, ∀ (y : Str), setRow (Irreg.row x) 1 [.str y] = Irreg.row { x with word := y }) ∧ (∀ x : Irreg, (Irreg.row x).map AV.strip = Irreg.row x) ∧ (∀ x : Irreg, (Irreg.row x).take 2 = Irreg.row x) ∧ (∀ x : Irreg, (Irreg.row x).drop 2 = []) :=
  ⟨fun x => by intros; first | rfl | (simp only [Irreg.row]; rfl) | (simp only [Irreg.row, strip_map]; rfl), fun x => by intros; first | rfl | (simp only [Irreg.row]; rfl) | (simp only [Irreg.row, strip_map]; rfl), fun x => by intros; first | rfl | (simp only [Irreg.row]; rfl) | (simp only [Irreg.row, strip_map]; rfl), fun x => by intros; first | rfl | (simp only [Irreg.row]; rfl) | (simp only [Irreg.row, strip_map]; rfl), fun x => by intros; first | rfl | (simp only [Irreg.row]; rfl) | (simp only [Irreg.row, strip_map]; rfl), fun x => by intros; first | rfl | (simp only [Irreg.row]; rfl) | (simp only [Irreg.row, strip_map]; rfl), fun x => by intros; first | rfl | (simp only [Irreg.row]; rfl) | (simp only [Irreg.row, strip_map]; rfl), fun x => by intros; first | rfl | (simp only [Irreg.row]; rfl) | (simp only [Irreg.row, strip_map]; rfl), fun x => by intros; first | rfl | (simp only [Irreg.row]; rfl) | (simp only [Irreg.row, strip_map]; rfl), fun x => by intros; first | rfl | (simp only [Irreg.row]; rfl) | (simp only [Irreg.row, strip_map]; rfl), fun x => by intros; first | rfl | (simp only [Irreg.row]; rfl) | (simp only [Irreg.row, strip_map]; rfl), fun x => by intros; first | rfl | (simp only [Irreg.row]; rfl) | (simp only [Irreg.row, strip_map]; rfl)⟩
structure Irreg.ok (n : Nat) (x : Irreg) : Prop where
  slot : I64 x.slot
  word : x.word.length ≤ maxL

theorem Irreg.ok.mono {n m : Nat} {x : Irreg} (h : x.ok n) (hn : n ≤ m) : x.ok m := ⟨h.slot, h.word⟩
theorem Irreg.ok.wk {n : Nat} {x : Irreg} (h : x.ok n) : WkL n x.row x.row := ⟨wk_int _ _ _, wk_str _ _, trivial⟩

structure Entry where
  lem : Str
  cls : Str
  feats : Sl Feat
  forms : Sl Irreg

def Entry.row (x : Entry) : List AV := [.str x.lem, .str x.cls, .slice x.feats.tag 2 (x.feats.l.map Feat.row), .slice x.forms.tag 2 (x.forms.l.map Irreg.row)]
def Entry.strip (x : Entry) : Entry := { x with feats := x.feats.strip, forms := x.forms.strip }
theorem qEntry : (∀ x : Entry, takeO 4 (Entry.row x) = some (Entry.row x)) ∧ (∀ x : Entry, rload none (Entry.row x) 0 = some (.str x.lem)) ∧ (∀ x : Entry, rload none (Entry.row x) 1 = some (.str x.cls)) ∧ (∀ x : Entry, rload none (Entry.row x) 2 = some (.slice x.feats.tag 2 (x.feats.l.map Feat.row))) ∧ (∀ x : Entry, rload none (Entry.row x) 3 = some (.slice x.forms.tag 2 (x.forms.l.map Irreg.row))) ∧ (∀ x : Entry, (Entry.row x).length = 4) ∧ (∀ x : Entry, (Entry.row x).all AV.cell = true) ∧ (∀ x : Entry, ∀ c0 c1 c2 c3 : AV, setRow [c0, c1, c2, c3] 0 (Entry.row x) = Entry.row x) ∧ (∀ x : Entry, ∀ y : Entry, setRow (Entry.row y) 0 (Entry.row x) = Entry.row x) ∧ (∀ x : Entry, ∀ (y : Str), setRow (Entry.row x) 0 [.str y] = Entry.row { x with lem := y }) ∧ (∀ x : Entry, ∀ (y : Str), setRow (Entry.row x) 1 [.str y] = Entry.row { x with cls := y }) ∧ (∀ x : Entry, ∀ (t : Tag) (l : List Feat), setRow (Entry.row x) 2 [.slice t 2 (l.map Feat.row)] = Entry.row { x with feats := ⟨t, l⟩ }) ∧ (∀ x : Entry, ∀ (t : Tag) (l : List Irreg), setRow (Entry.row x) 3 [.slice t 2 (l.map Irreg.row)] = Entry.row { x with forms := ⟨t, l⟩ }) ∧ (∀ x : Entry, (Entry.row x).map AV.strip = Entry.row x.strip) ∧ (∀ x : Entry, (Entry.row x).take 4 = Entry.row x) ∧ (∀ x : Entry, (Entry.row x).drop 4 = []) :=
  ⟨fun x => by intros; first | rfl | (simp only [Entry.row]; rfl) | (simp only [Entry.row, strip_map]; rfl), fun x => by intros; first | rfl | (simp only [Entry.row]; rfl) | (simp only [Entry.row, strip_map]; rfl), fun x => by intros; first | rfl | (simp only [Entry.row]; rfl) | (simp only [Entry.row, strip_map]; rfl), fun x => by intros; first | rfl | (simp only [Entry.row]; rfl) | (simp only [Entry.row, strip_map]; rfl), fun x => by intros; first | rfl | (simp only [Entry.row]; rfl) | (simp only [Entry.row, strip_map]; rfl), fun x => by intros; first | rfl | (simp only [Entry.row]; rfl) | (simp only [Entry.row, strip_map]; rfl), fun x => by intros; first | rfl | (simp only [Entry.row]; rfl) | (simp only [Entry.row, strip_map]; rfl), fun x => by intros; first | rfl | (simp only [Entry.row]; rfl) | (simp only [Entry.row, strip_map]; rfl), fun x => by intros; first | rfl | (simp only [Entry.row]; rfl) | (simp only [Entry.row, strip_map]; rfl), fun x => by intros; first | rfl | (simp only [Entry.row]; rfl) | (simp only [Entry.row, strip_map]; rfl), fun x => by intros; first | rfl | (simp only [Entry.row]; rfl) | (simp only [Entry.row, strip_map]; rfl), fun x => by intros; first | rfl | (simp only [Entry.row]; rfl) | (simp only [Entry.row, strip_map]; rfl), fun x => by intros; first | rfl | (simp only [Entry.row]; rfl) | (simp only [Entry.row, strip_map]; rfl), fun x => by intros; first | rfl | (simp only [Entry.row]; rfl) | (simp only [Entry.row, strip_map]; rfl), fun x => by intros; first | rfl | (simp only [Entry.row]; rfl) | (simp only [Entry.row, strip_map]; rfl), fun x => by intros; first | rfl | (simp only [Entry.row]; rfl) | (simp only [Entry.row, strip_map]; rfl)⟩
structure Entry.ok (n : Nat) (x : Entry) : Prop where
  lem : x.lem.length ≤ maxL
  cls : x.cls.length ≤ maxL
  feats : x.feats.ok n (Feat.ok n)
  forms : x.forms.ok n (Irreg.ok n)

theorem Entry.ok.mono {n m : Nat} {x : Entry} (h : x.ok n) (hn : n ≤ m) : x.ok m := ⟨h.lem, h.cls, h.feats.mono hn (fun _ h => h.mono hn), h.forms.mono hn (fun _ h => h.mono hn)⟩
theorem Entry.ok.wk {n : Nat} {x : Entry} (h : x.ok n) : WkL n x.row x.row := ⟨wk_str _ _, wk_str _ _, h.feats.wk (fun _ h => h.wk), h.forms.wk (fun _ h => h.wk), trivial⟩

structure Spell where
  frm : Str
  to : Str
  left : Str
  right : Str

def Spell.row (x : Spell) : List AV := [.str x.frm, .str x.to, .str x.left, .str x.right]
theorem qSpell : (∀ x : Spell, takeO 4 (Spell.row x) = some (Spell.row x)) ∧ (∀ x : Spell, rload none (Spell.row x) 0 = some (.str x.frm)) ∧ (∀ x : Spell, rload none (Spell.row x) 1 = some (.str x.to)) ∧ (∀ x : Spell, rload none (Spell.row x) 2 = some (.str x.left)) ∧ (∀ x : Spell, rload none (Spell.row x) 3 = some (.str x.right)) ∧ (∀ x : Spell, (Spell.row x).length = 4) ∧ (∀ x : Spell, (Spell.row x).all AV.cell = true) ∧ (∀ x : Spell, ∀ c0 c1 c2 c3 : AV, setRow [c0, c1, c2, c3] 0 (Spell.row x) = Spell.row x) ∧ (∀ x : Spell, ∀ y : Spell, setRow (Spell.row y) 0 (Spell.row x) = Spell.row x) ∧ (∀ x : Spell, ∀ (y : Str), setRow (Spell.row x) 0 [.str y] = Spell.row { x with frm := y }) ∧ (∀ x : Spell, ∀ (y : Str), setRow (Spell.row x) 1 [.str y] = Spell.row { x with to := y }) ∧ (∀ x : Spell, ∀ (y : Str), setRow (Spell.row x) 2 [.str y] = Spell.row { x with left := y }) ∧ (∀ x : Spell, ∀ (y : Str), setRow (Spell.row x) 3 [.str y] = Spell.row { x with right := y }) ∧ (∀ x : Spell, (Spell.row x).map AV.strip = Spell.row x) ∧ (∀ x : Spell, (Spell.row x).take 4 = Spell.row x) ∧ (∀ x : Spell, (Spell.row x).drop 4 = []) :=
  ⟨fun x => by intros; first | rfl | (simp only [Spell.row]; rfl) | (simp only [Spell.row, strip_map]; rfl), fun x => by intros; first | rfl | (simp only [Spell.row]; rfl) | (simp only [Spell.row, strip_map]; rfl), fun x => by intros; first | rfl | (simp only [Spell.row]; rfl) | (simp only [Spell.row, strip_map]; rfl), fun x => by intros; first | rfl | (simp only [Spell.row]; rfl) | (simp only [Spell.row, strip_map]; rfl), fun x => by intros; first | rfl | (simp only [Spell.row]; rfl) | (simp only [Spell.row, strip_map]; rfl), fun x => by intros; first | rfl | (simp only [Spell.row]; rfl) | (simp only [Spell.row, strip_map]; rfl), fun x => by intros; first | rfl | (simp only [Spell.row]; rfl) | (simp only [Spell.row, strip_map]; rfl), fun x => by intros; first | rfl | (simp only [Spell.row]; rfl) | (simp only [Spell.row, strip_map]; rfl), fun x => by intros; first | rfl | (simp only [Spell.row]; rfl) | (simp only [Spell.row, strip_map]; rfl), fun x => by intros; first | rfl | (simp only [Spell.row]; rfl) | (simp only [Spell.row, strip_map]; rfl), fun x => by intros; first | rfl | (simp only [Spell.row]; rfl) | (simp only [Spell.row, strip_map]; rfl), fun x => by intros; first | rfl | (simp only [Spell.row]; rfl) | (simp only [Spell.row, strip_map]; rfl), fun x => by intros; first | rfl | (simp only [Spell.row]; rfl) | (simp only [Spell.row, strip_map]; rfl), fun x => by intros; first | rfl | (simp only [Spell.row]; rfl) | (simp only [Spell.row, strip_map]; rfl), fun x => by intros; first | rfl | (simp only [Spell.row]; rfl) | (simp only [Spell.row, strip_map]; rfl), fun x => by intros; first | rfl | (simp only [Spell.row]; rfl) | (simp only [Spell.row, strip_map]; rfl)⟩
structure Spell.ok (n : Nat) (x : Spell) : Prop where
  frm : x.frm.length ≤ maxL
  to : x.to.length ≤ maxL
  left : x.left.length ≤ maxL
  right : x.right.length ≤ maxL

theorem Spell.ok.mono {n m : Nat} {x : Spell} (h : x.ok n) (hn : n ≤ m) : x.ok m := ⟨h.frm, h.to, h.left, h.right⟩
theorem Spell.ok.wk {n : Nat} {x : Spell} (h : x.ok n) : WkL n x.row x.row := ⟨wk_str _ _, wk_str _ _, wk_str _ _, wk_str _ _, trivial⟩

structure Link where
  cls : Str
  glue : Str
  feats : Sl Feat

def Link.row (x : Link) : List AV := [.str x.cls, .str x.glue, .slice x.feats.tag 2 (x.feats.l.map Feat.row)]
def Link.strip (x : Link) : Link := { x with feats := x.feats.strip }
theorem qLink : (∀ x : Link, takeO 3 (Link.row x) = some (Link.row x)) ∧ (∀ x : Link, rload none (Link.row x) 0 = some (.str x.cls)) ∧ (∀ x : Link, rload none (Link.row x) 1 = some (.str x.glue)) ∧ (∀ x : Link, rload none (Link.row x) 2 = some (.slice x.feats.tag 2 (x.feats.l.map Feat.row))) ∧ (∀ x : Link, (Link.row x).length = 3) ∧ (∀ x : Link, (Link.row x).all AV.cell = true) ∧ (∀ x : Link, ∀ c0 c1 c2 : AV, setRow [c0, c1, c2] 0 (Link.row x) = Link.row x) ∧ (∀ x : Link, ∀ y : Link, setRow (Link.row y) 0 (Link.row x) = Link.row x) ∧ (∀ x : Link, ∀ (y : Str), setRow (Link.row x) 0 [.str y] = Link.row { x with cls := y }) ∧ (∀ x : Link, ∀ (y : Str), setRow (Link.row x) 1 [.str y] = Link.row { x with glue := y }) ∧ (∀ x : Link, ∀ (t : Tag) (l : List Feat), setRow (Link.row x) 2 [.slice t 2 (l.map Feat.row)] = Link.row { x with feats := ⟨t, l⟩ }) ∧ (∀ x : Link, (Link.row x).map AV.strip = Link.row x.strip) ∧ (∀ x : Link, (Link.row x).take 3 = Link.row x) ∧ (∀ x : Link, (Link.row x).drop 3 = []) :=
  ⟨fun x => by intros; first | rfl | (simp only [Link.row]; rfl) | (simp only [Link.row, strip_map]; rfl), fun x => by intros; first | rfl | (simp only [Link.row]; rfl) | (simp only [Link.row, strip_map]; rfl), fun x => by intros; first | rfl | (simp only [Link.row]; rfl) | (simp only [Link.row, strip_map]; rfl), fun x => by intros; first | rfl | (simp only [Link.row]; rfl) | (simp only [Link.row, strip_map]; rfl), fun x => by intros; first | rfl | (simp only [Link.row]; rfl) | (simp only [Link.row, strip_map]; rfl), fun x => by intros; first | rfl | (simp only [Link.row]; rfl) | (simp only [Link.row, strip_map]; rfl), fun x => by intros; first | rfl | (simp only [Link.row]; rfl) | (simp only [Link.row, strip_map]; rfl), fun x => by intros; first | rfl | (simp only [Link.row]; rfl) | (simp only [Link.row, strip_map]; rfl), fun x => by intros; first | rfl | (simp only [Link.row]; rfl) | (simp only [Link.row, strip_map]; rfl), fun x => by intros; first | rfl | (simp only [Link.row]; rfl) | (simp only [Link.row, strip_map]; rfl), fun x => by intros; first | rfl | (simp only [Link.row]; rfl) | (simp only [Link.row, strip_map]; rfl), fun x => by intros; first | rfl | (simp only [Link.row]; rfl) | (simp only [Link.row, strip_map]; rfl), fun x => by intros; first | rfl | (simp only [Link.row]; rfl) | (simp only [Link.row, strip_map]; rfl), fun x => by intros; first | rfl | (simp only [Link.row]; rfl) | (simp only [Link.row, strip_map]; rfl)⟩
structure Link.ok (n : Nat) (x : Link) : Prop where
  cls : x.cls.length ≤ maxL
  glue : x.glue.length ≤ maxL
  feats : x.feats.ok n (Feat.ok n)

theorem Link.ok.mono {n m : Nat} {x : Link} (h : x.ok n) (hn : n ≤ m) : x.ok m := ⟨h.cls, h.glue, h.feats.mono hn (fun _ h => h.mono hn)⟩
theorem Link.ok.wk {n : Nat} {x : Link} (h : x.ok n) : WkL n x.row x.row := ⟨wk_str _ _, wk_str _ _, h.feats.wk (fun _ h => h.wk), trivial⟩

structure Lex where
  vowels : Str
  traits : Sl Trait
  classes : Sl Class
  entries : Sl Entry
  spells : Sl Spell
  links : Sl Link

def Lex.row (x : Lex) : List AV := [.str x.vowels, .slice x.traits.tag 2 (x.traits.l.map Trait.row), .slice x.classes.tag 2 (x.classes.l.map Class.row), .slice x.entries.tag 4 (x.entries.l.map Entry.row), .slice x.spells.tag 4 (x.spells.l.map Spell.row), .slice x.links.tag 3 (x.links.l.map Link.row)]
def Lex.strip (x : Lex) : Lex := { x with traits := x.traits.strip, classes := x.classes.strip, entries := x.entries.strip, spells := x.spells.strip, links := x.links.strip }
theorem qLex : (∀ x : Lex, takeO 6 (Lex.row x) = some (Lex.row x)) ∧ (∀ x : Lex, rload none (Lex.row x) 0 = some (.str x.vowels)) ∧ (∀ x : Lex, rload none (Lex.row x) 1 = some (.slice x.traits.tag 2 (x.traits.l.map Trait.row))) ∧ (∀ x : Lex, rload none (Lex.row x) 2 = some (.slice x.classes.tag 2 (x.classes.l.map Class.row))) ∧ (∀ x : Lex, rload none (Lex.row x) 3 = some (.slice x.entries.tag 4 (x.entries.l.map Entry.row))) ∧ (∀ x : Lex, rload none (Lex.row x) 4 = some (.slice x.spells.tag 4 (x.spells.l.map Spell.row))) ∧ (∀ x : Lex, rload none (Lex.row x) 5 = some (.slice x.links.tag 3 (x.links.l.map Link.row))) ∧ (∀ x : Lex, (Lex.row x).length = 6) ∧ (∀ x : Lex, (Lex.row x).all AV.cell = true) ∧ (∀ x : Lex, ∀ c0 c1 c2 c3 c4 c5 : AV, setRow [c0, c1, c2, c3, c4, c5] 0 (Lex.row x) = Lex.row x) ∧ (∀ x : Lex, ∀ y : Lex, setRow (Lex.row y) 0 (Lex.row x) = Lex.row x) ∧ (∀ x : Lex, ∀ (y : Str), setRow (Lex.row x) 0 [.str y] = Lex.row { x with vowels := y }) ∧ (∀ x : Lex, ∀ (t : Tag) (l : List Trait), setRow (Lex.row x) 1 [.slice t 2 (l.map Trait.row)] = Lex.row { x with traits := ⟨t, l⟩ }) ∧ (∀ x : Lex, ∀ (t : Tag) (l : List Class), setRow (Lex.row x) 2 [.slice t 2 (l.map Class.row)] = Lex.row { x with classes := ⟨t, l⟩ }) ∧ (∀ x : Lex, ∀ (t : Tag) (l : List Entry), setRow (Lex.row x) 3 [.slice t 4 (l.map Entry.row)] = Lex.row { x with entries := ⟨t, l⟩ }) ∧ (∀ x : Lex, ∀ (t : Tag) (l : List Spell), setRow (Lex.row x) 4 [.slice t 4 (l.map Spell.row)] = Lex.row { x with spells := ⟨t, l⟩ }) ∧ (∀ x : Lex, ∀ (t : Tag) (l : List Link), setRow (Lex.row x) 5 [.slice t 3 (l.map Link.row)] = Lex.row { x with links := ⟨t, l⟩ }) ∧ (∀ x : Lex, (Lex.row x).map AV.strip = Lex.row x.strip) ∧ (∀ x : Lex, (Lex.row x).take 6 = Lex.row x) ∧ (∀ x : Lex, (Lex.row x).drop 6 = []) :=
  ⟨fun x => by intros; first | rfl | (simp only [Lex.row]; rfl) | (simp only [Lex.row, strip_map]; rfl), fun x => by intros; first | rfl | (simp only [Lex.row]; rfl) | (simp only [Lex.row, strip_map]; rfl), fun x => by intros; first | rfl | (simp only [Lex.row]; rfl) | (simp only [Lex.row, strip_map]; rfl), fun x => by intros; first | rfl | (simp only [Lex.row]; rfl) | (simp only [Lex.row, strip_map]; rfl), fun x => by intros; first | rfl | (simp only [Lex.row]; rfl) | (simp only [Lex.row, strip_map]; rfl), fun x => by intros; first | rfl | (simp only [Lex.row]; rfl) | (simp only [Lex.row, strip_map]; rfl), fun x => by intros; first | rfl | (simp only [Lex.row]; rfl) | (simp only [Lex.row, strip_map]; rfl), fun x => by intros; first | rfl | (simp only [Lex.row]; rfl) | (simp only [Lex.row, strip_map]; rfl), fun x => by intros; first | rfl | (simp only [Lex.row]; rfl) | (simp only [Lex.row, strip_map]; rfl), fun x => by intros; first | rfl | (simp only [Lex.row]; rfl) | (simp only [Lex.row, strip_map]; rfl), fun x => by intros; first | rfl | (simp only [Lex.row]; rfl) | (simp only [Lex.row, strip_map]; rfl), fun x => by intros; first | rfl | (simp only [Lex.row]; rfl) | (simp only [Lex.row, strip_map]; rfl), fun x => by intros; first | rfl | (simp only [Lex.row]; rfl) | (simp only [Lex.row, strip_map]; rfl), fun x => by intros; first | rfl | (simp only [Lex.row]; rfl) | (simp only [Lex.row, strip_map]; rfl), fun x => by intros; first | rfl | (simp only [Lex.row]; rfl) | (simp only [Lex.row, strip_map]; rfl), fun x => by intros; first | rfl | (simp only [Lex.row]; rfl) | (simp only [Lex.row, strip_map]; rfl), fun x => by intros; first | rfl | (simp only [Lex.row]; rfl) | (simp only [Lex.row, strip_map]; rfl), fun x => by intros; first | rfl | (simp only [Lex.row]; rfl) | (simp only [Lex.row, strip_map]; rfl), fun x => by intros; first | rfl | (simp only [Lex.row]; rfl) | (simp only [Lex.row, strip_map]; rfl), fun x => by intros; first | rfl | (simp only [Lex.row]; rfl) | (simp only [Lex.row, strip_map]; rfl)⟩
structure Lex.ok (n : Nat) (x : Lex) : Prop where
  vowels : x.vowels.length ≤ maxL
  traits : x.traits.ok n (Trait.ok n)
  classes : x.classes.ok n (Class.ok n)
  entries : x.entries.ok n (Entry.ok n)
  spells : x.spells.ok n (Spell.ok n)
  links : x.links.ok n (Link.ok n)

theorem Lex.ok.mono {n m : Nat} {x : Lex} (h : x.ok n) (hn : n ≤ m) : x.ok m := ⟨h.vowels, h.traits.mono hn (fun _ h => h.mono hn), h.classes.mono hn (fun _ h => h.mono hn), h.entries.mono hn (fun _ h => h.mono hn), h.spells.mono hn (fun _ h => h.mono hn), h.links.mono hn (fun _ h => h.mono hn)⟩
theorem Lex.ok.wk {n : Nat} {x : Lex} (h : x.ok n) : WkL n x.row x.row := ⟨wk_str _ _, h.traits.wk (fun _ h => h.wk), h.classes.wk (fun _ h => h.wk), h.entries.wk (fun _ h => h.wk), h.spells.wk (fun _ h => h.wk), h.links.wk (fun _ h => h.wk), trivial⟩

structure First where
  entry : Int
  slot : Int
  link : Int

def First.row (x : First) : List AV := [.int .i64 x.entry, .int .i64 x.slot, .int .i64 x.link]
theorem qFirst : (∀ x : First, takeO 3 (First.row x) = some (First.row x)) ∧ (∀ x : First, rload none (First.row x) 0 = some (.int .i64 x.entry)) ∧ (∀ x : First, rload none (First.row x) 1 = some (.int .i64 x.slot)) ∧ (∀ x : First, rload none (First.row x) 2 = some (.int .i64 x.link)) ∧ (∀ x : First, (First.row x).length = 3) ∧ (∀ x : First, (First.row x).all AV.cell = true) ∧ (∀ x : First, ∀ c0 c1 c2 : AV, setRow [c0, c1, c2] 0 (First.row x) = First.row x) ∧ (∀ x : First, ∀ y : First, setRow (First.row y) 0 (First.row x) = First.row x) ∧ (∀ x : First, ∀ (y : Int), setRow (First.row x) 0 [.int .i64 y] = First.row { x with entry := y }) ∧ (∀ x : First, ∀ (y : Int), setRow (First.row x) 1 [.int .i64 y] = First.row { x with slot := y }) ∧ (∀ x : First, ∀ (y : Int), setRow (First.row x) 2 [.int .i64 y] = First.row { x with link := y }) ∧ (∀ x : First, (First.row x).map AV.strip = First.row x) ∧ (∀ x : First, (First.row x).take 3 = First.row x) ∧ (∀ x : First, (First.row x).drop 3 = []) :=
  ⟨fun x => by intros; first | rfl | (simp only [First.row]; rfl) | (simp only [First.row, strip_map]; rfl), fun x => by intros; first | rfl | (simp only [First.row]; rfl) | (simp only [First.row, strip_map]; rfl), fun x => by intros; first | rfl | (simp only [First.row]; rfl) | (simp only [First.row, strip_map]; rfl), fun x => by intros; first | rfl | (simp only [First.row]; rfl) | (simp only [First.row, strip_map]; rfl), fun x => by intros; first | rfl | (simp only [First.row]; rfl) | (simp only [First.row, strip_map]; rfl), fun x => by intros; first | rfl | (simp only [First.row]; rfl) | (simp only [First.row, strip_map]; rfl), fun x => by intros; first | rfl | (simp only [First.row]; rfl) | (simp only [First.row, strip_map]; rfl), fun x => by intros; first | rfl | (simp only [First.row]; rfl) | (simp only [First.row, strip_map]; rfl), fun x => by intros; first | rfl | (simp only [First.row]; rfl) | (simp only [First.row, strip_map]; rfl), fun x => by intros; first | rfl | (simp only [First.row]; rfl) | (simp only [First.row, strip_map]; rfl), fun x => by intros; first | rfl | (simp only [First.row]; rfl) | (simp only [First.row, strip_map]; rfl), fun x => by intros; first | rfl | (simp only [First.row]; rfl) | (simp only [First.row, strip_map]; rfl), fun x => by intros; first | rfl | (simp only [First.row]; rfl) | (simp only [First.row, strip_map]; rfl), fun x => by intros; first | rfl | (simp only [First.row]; rfl) | (simp only [First.row, strip_map]; rfl)⟩
structure First.ok (n : Nat) (x : First) : Prop where
  entry : I64 x.entry
  slot : I64 x.slot
  link : I64 x.link

theorem First.ok.mono {n m : Nat} {x : First} (h : x.ok n) (hn : n ≤ m) : x.ok m := ⟨h.entry, h.slot, h.link⟩
theorem First.ok.wk {n : Nat} {x : First} (h : x.ok n) : WkL n x.row x.row := ⟨wk_int _ _ _, wk_int _ _ _, wk_int _ _ _, trivial⟩

structure Analysis where
  firsts : Sl First
  entry : Int
  slot : Int

def Analysis.row (x : Analysis) : List AV := [.slice x.firsts.tag 3 (x.firsts.l.map First.row), .int .i64 x.entry, .int .i64 x.slot]
def Analysis.strip (x : Analysis) : Analysis := { x with firsts := x.firsts.strip }
theorem qAnalysis : (∀ x : Analysis, takeO 3 (Analysis.row x) = some (Analysis.row x)) ∧ (∀ x : Analysis, rload none (Analysis.row x) 0 = some (.slice x.firsts.tag 3 (x.firsts.l.map First.row))) ∧ (∀ x : Analysis, rload none (Analysis.row x) 1 = some (.int .i64 x.entry)) ∧ (∀ x : Analysis, rload none (Analysis.row x) 2 = some (.int .i64 x.slot)) ∧ (∀ x : Analysis, (Analysis.row x).length = 3) ∧ (∀ x : Analysis, (Analysis.row x).all AV.cell = true) ∧ (∀ x : Analysis, ∀ c0 c1 c2 : AV, setRow [c0, c1, c2] 0 (Analysis.row x) = Analysis.row x) ∧ (∀ x : Analysis, ∀ y : Analysis, setRow (Analysis.row y) 0 (Analysis.row x) = Analysis.row x) ∧ (∀ x : Analysis, ∀ (t : Tag) (l : List First), setRow (Analysis.row x) 0 [.slice t 3 (l.map First.row)] = Analysis.row { x with firsts := ⟨t, l⟩ }) ∧ (∀ x : Analysis, ∀ (y : Int), setRow (Analysis.row x) 1 [.int .i64 y] = Analysis.row { x with entry := y }) ∧ (∀ x : Analysis, ∀ (y : Int), setRow (Analysis.row x) 2 [.int .i64 y] = Analysis.row { x with slot := y }) ∧ (∀ x : Analysis, (Analysis.row x).map AV.strip = Analysis.row x.strip) ∧ (∀ x : Analysis, (Analysis.row x).take 3 = Analysis.row x) ∧ (∀ x : Analysis, (Analysis.row x).drop 3 = []) :=
  ⟨fun x => by intros; first | rfl | (simp only [Analysis.row]; rfl) | (simp only [Analysis.row, strip_map]; rfl), fun x => by intros; first | rfl | (simp only [Analysis.row]; rfl) | (simp only [Analysis.row, strip_map]; rfl), fun x => by intros; first | rfl | (simp only [Analysis.row]; rfl) | (simp only [Analysis.row, strip_map]; rfl), fun x => by intros; first | rfl | (simp only [Analysis.row]; rfl) | (simp only [Analysis.row, strip_map]; rfl), fun x => by intros; first | rfl | (simp only [Analysis.row]; rfl) | (simp only [Analysis.row, strip_map]; rfl), fun x => by intros; first | rfl | (simp only [Analysis.row]; rfl) | (simp only [Analysis.row, strip_map]; rfl), fun x => by intros; first | rfl | (simp only [Analysis.row]; rfl) | (simp only [Analysis.row, strip_map]; rfl), fun x => by intros; first | rfl | (simp only [Analysis.row]; rfl) | (simp only [Analysis.row, strip_map]; rfl), fun x => by intros; first | rfl | (simp only [Analysis.row]; rfl) | (simp only [Analysis.row, strip_map]; rfl), fun x => by intros; first | rfl | (simp only [Analysis.row]; rfl) | (simp only [Analysis.row, strip_map]; rfl), fun x => by intros; first | rfl | (simp only [Analysis.row]; rfl) | (simp only [Analysis.row, strip_map]; rfl), fun x => by intros; first | rfl | (simp only [Analysis.row]; rfl) | (simp only [Analysis.row, strip_map]; rfl), fun x => by intros; first | rfl | (simp only [Analysis.row]; rfl) | (simp only [Analysis.row, strip_map]; rfl), fun x => by intros; first | rfl | (simp only [Analysis.row]; rfl) | (simp only [Analysis.row, strip_map]; rfl)⟩
structure Analysis.ok (n : Nat) (x : Analysis) : Prop where
  firsts : x.firsts.ok n (First.ok n)
  entry : I64 x.entry
  slot : I64 x.slot

theorem Analysis.ok.mono {n m : Nat} {x : Analysis} (h : x.ok n) (hn : n ≤ m) : x.ok m := ⟨h.firsts.mono hn (fun _ h => h.mono hn), h.entry, h.slot⟩
theorem Analysis.ok.wk {n : Nat} {x : Analysis} (h : x.ok n) : WkL n x.row x.row := ⟨h.firsts.wk (fun _ h => h.wk), wk_int _ _ _, wk_int _ _ _, trivial⟩


/-! Rows -/
theorem ias_row {α : Type} {row : α → List AV} {l : List α} {tag : Tag} {sz : Nat} {k : IntKind} {i : Nat} (h : i < l.length) : rias sz (.slice tag sz (l.map row)) (.int k (i : Int)) = some (.vptr sz (l.map row) i 0) :=
  rias_nat (esz := 0) (by simpa using h)
theorem ias_row0 {α : Type} {row : α → List AV} {l : List α} {tag : Tag} {sz : Nat} {k : IntKind} (h : 0 < l.length) : rias sz (.slice tag sz (l.map row)) (.int k 0) = some (.vptr sz (l.map row) 0 0) :=
  ias_row (i := 0) h
theorem sll_to {α : Type} {row : α → List AV} {l : List α} {tag : Tag} {sz : Nat} {k : IntKind} {i : Nat} (h : i < l.length) : rsll sz (.slice tag sz (l.map row)) none (some (.int k (i : Int))) none = some (.slice .any sz ((l.take i).map row)) := by
  have h0 : l ≠ [] := fun e => by simp [e] at h
  simp [rsll, abound, Nat.le_of_lt h, h0, List.map_take]
theorem sll_from {α : Type} {row : α → List AV} {l : List α} {tag : Tag} {sz : Nat} {k : IntKind} {i : Nat} (h : i ≤ l.length) (h0 : 0 < l.length) : rsll sz (.slice tag sz (l.map row)) (some (.int k (i : Int))) none none = some (.slice .any sz ((l.drop i).map row)) := by
  have h0 : l ≠ [] := fun e => by simp [e] at h0
  simp [rsll, abound, h, h0, List.map_drop]
  rw [← List.map_drop]; exact List.take_of_length_le (by simp)
theorem wrap_s {i n : Nat} (h : i < n) (hn : n ≤ maxL) : IntKind.i64.wrap ((i : Int) + 1) = ((i + 1 : Nat) : Int) := by
  rw [wrap_i64 (by omega) (by simp only [maxL] at hn; omega)]; rfl
theorem wrap_p {i : Nat} (h : i + 1 ≤ maxL) : IntKind.i64.wrap (((i + 1 : Nat) : Int) - 1) = (i : Int) := by
  simp only [maxL] at h
  rw [wrap_i64 (by omega) (by omega)]; omega
theorem wrap_p1 {i : Nat} (h0 : 0 < i) (h : i ≤ maxL) : IntKind.i64.wrap ((i : Int) - 1) = ((i - 1 : Nat) : Int) := by
  simp only [maxL] at h
  rw [wrap_i64 (by omega) (by omega)]; omega
theorem le_app (H L : List AObj) : H.length ≤ (H ++ L).length := by simp
theorem map_getR {α : Type} (row : α → List AV) (l : List α) (i : Nat) : (l.map row)[i]? = (l[i]?).map row := List.getElem?_map ..

/-- One of two by a bool that is not known: as 'sel', its parts looked at after the bool. -/
def slc {α : Type} (b : Bool) (x y : α) : α :=
  match b with
  | true => x
  | false => y
theorem sel_c1 {α : Type} {b b' : Bool} {x y : α} (h : b = b') : sel b x y = sel b' x y := by rw [h]
theorem slc_cong {α : Type} {b b' : Bool} {x x' y y' : α} (hb : b = b') (hx : b' = true → x = x') (hy : b' = false → y = y') : slc b x y = slc b' x' y' := by
  subst hb; cases b
  · exact hy rfl
  · exact hx rfl
theorem slc_true {α : Type} (x y : α) : slc true x y = x := rfl
theorem slc_false {α : Type} (x y : α) : slc false x y = y := rfl
theorem slc_not {α : Type} (b : Bool) (x y : α) : slc (!b) x y = slc b y x := by cases b <;> rfl
theorem amS :
  (∀ (α : Type) (b : Bool) (x y : α), sel b x y = slc b x y) ∧
  (∀ (α : Type) (x y : α), slc true x y = x) ∧ (∀ (α : Type) (x y : α), slc false x y = y) ∧ (∀ (α : Type) (b : Bool) (x y : α), slc (!b) x y = slc b y x) ∧
  (∀ (α : Type) (b : Bool) (x : α), slc b x x = x) ∧
  (∀ (α : Type) (b : Bool) (x y : α), slc b (some x) (some y) = some (slc b x y)) ∧
  (∀ (α β : Type) (b : Bool) (x x' : α) (y y' : β), slc b (x, y) (x', y') = (slc b x x', slc b y y')) ∧
  (∀ (b : Bool) (v v' : AV), slc b (ARes.ret v) (ARes.ret v') = .ret (slc b v v')) ∧
  (∀ (b p q : Bool), slc b (AV.bool p) (AV.bool q) = .bool (slc b p q)) ∧
  (∀ (b : Bool) (k : IntKind) (x y : Int), slc b (AV.int k x) (AV.int k y) = .int k (slc b x y)) ∧
  (∀ (b : Bool) (x y : Str), slc b (AV.str x) (AV.str y) = .str (slc b x y)) ∧
  (∀ (α : Type) (b p : Bool) (x y : α), slc b (slc p x y) y = slc (b && p) x y) ∧
  (∀ b p : Bool, slc b p false = (b && p)) ∧ (∀ b p : Bool, slc b true p = (b || p)) ∧ (∀ b p : Bool, slc b p true = (!b || p)) ∧ (∀ b p : Bool, slc b false p = (!b && p)) ∧
  (∀ (α : Type) (b w : Bool) (v v' : AV) (x u : Option α), gsel (slc b v v') w x u = slc b (gsel v w x u) (gsel v' w x u)) :=
  ⟨fun _ _ _ _ => rfl, fun _ _ _ => rfl, fun _ _ _ => rfl, fun _ => slc_not, fun _ b _ => by cases b <;> rfl, fun _ b _ _ => by cases b <;> rfl, fun _ _ b _ _ _ _ => by cases b <;> rfl, fun b _ _ => by cases b <;> rfl, fun b _ _ => by cases b <;> rfl,
   fun b _ _ _ => by cases b <;> rfl, fun b _ _ => by cases b <;> rfl, fun _ b p _ _ => by cases b <;> cases p <;> rfl, fun b _ => by cases b <;> rfl, fun b _ => by cases b <;> rfl, fun b _ => by cases b <;> rfl, fun b _ => by cases b <;> rfl, fun _ b _ _ _ _ _ => by cases b <;> rfl⟩

/-! Loops that may return -/
/-- A value that is returned, or what comes behind. -/
def orE (o : Option AV) (H : List AObj) (x : Option Out) : Option Out :=
  match o with
  | some v => some (.ret v, H)
  | none => x
def orO {α : Type} (o y : Option α) : Option α :=
  match o with
  | some v => some v
  | none => y
def firstE {α : Type} (F : Nat → α → Option AV) : Nat → List α → Option AV
  | _, [] => none
  | i, x :: l => orO (F i x) (firstE F (i + 1) l)
theorem orE_some (v : AV) (H : List AObj) (x : Option Out) : orE (some v) H x = some (.ret v, H) := rfl
theorem orE_none (H : List AObj) (x : Option Out) : orE none H x = x := rfl
theorem orE_sel (b : Bool) (o o' : Option AV) (H : List AObj) (x : Option Out) : orE (sel b o o') H x = sel b (orE o H x) (orE o' H x) := by cases b <;> rfl
theorem orE_orO (o o' : Option AV) (H : List AObj) (x : Option Out) : orE (orO o o') H x = orE o H (orE o' H x) := by cases o <;> rfl
theorem orO_some {α : Type} (v : α) (y : Option α) : orO (some v) y = some v := rfl
theorem orO_none {α : Type} (y : Option α) : orO none y = y := rfl
theorem orO_sel {α : Type} (b : Bool) (o o' y : Option α) : orO (sel b o o') y = sel b (orO o y) (orO o' y) := by cases b <;> rfl
theorem firstE_nil {α : Type} (F : Nat → α → Option AV) (i : Nat) : firstE F i [] = none := rfl
theorem firstE_cons {α : Type} (F : Nat → α → Option AV) (i : Nat) (x : α) (l : List α) : firstE F i (x :: l) = orO (F i x) (firstE F (i + 1) l) := rfl
theorem len_row {α : Type} (H : List AObj) (t : Tag) (n : Nat) (l : List α) (row : α → List AV) : rlen H .sl (.slice t n (l.map row)) = some (.int .i64 l.length) := by simp [rlen]

theorem take_len {α : Type} {l : List α} {n : Nat} (h : l.length ≤ n) (i : Nat) : (l.take i).length ≤ n := by simp; omega
theorem drop_len {α : Type} {l : List α} {n : Nat} (h : l.length ≤ n) (i : Nat) : (l.drop i).length ≤ n := by simp; omega
theorem cut_more {H0 H : List AObj} (h : CutOk H0 H) (L : List AObj) : CutOk H0 (H ++ L) :=
  ⟨by have := h.1; simp; omega, fun i x hi hx => h.2 i x hi (by
    have := h.1
    rwa [List.getElem?_append_left (by omega)] at hx)⟩
theorem take_more {H0 H : List AObj} (h : CutOk H0 H) (L : List AObj) : (H ++ L).take H0.length = H.take H0.length :=
  List.take_append_of_le_length h.1

/-! Appending -/
theorem rowsOk_one {sz : Nat} {r : List AV} (h1 : r.length = sz) (h2 : r.all AV.cell = true) : rowsOk sz [r] = true := by simp [rowsOk, h1, h2]
theorem ap_own {α : Type} {row : α → List AV} {l : List α} {x : α} {r : List AV} {sz bytes : Nat} {e : TypeId} (H : List AObj) (h1 : r.length = sz) (h2 : r.all AV.cell = true) (h3 : r.map AV.strip = row x)
    (hl : (l.length + 1) * bytes ≤ 140737488355328) (hl2 : l.length + 1 ≤ 4611686018427387904) :
    rap false (H ++ [.tok (l.length * sz) e]) e sz bytes false (.slice (.own H.length) sz (l.map row)) (.slice .full sz [r]) = some (.slice (.own H.length) sz ((l ++ [x]).map row), H ++ [.tok ((l ++ [x]).length * sz) e]) := by
  have hr : (r.length = sz ∧ ∀ x ∈ r, x.cell = true) := ⟨h1, by simpa using h2⟩
  simp only [rap, rapp, rsrc, List.length_map, List.length_cons, List.length_nil, Nat.zero_add, or_true, if_true, hl, hl2, rowsOk_one h1 h2, and_true, true_and, hp_get0, List.getElem?_cons_zero, hp_set0, List.set_cons_zero, List.map_cons, List.map_nil, h3, List.map_append, List.length_append, Nat.add_mul, Nat.one_mul]
  rw [Nat.add_mul, Nat.one_mul] at hl
  rw [if_pos hl]

/-! Filling -/
def afillC (b : Prop) [Decidable b] (pl : Nat → Option (Nat × Nat)) (cs : List AV) (rest : List (Nat × AV)) : Option (List AV) := if b then afill pl cs rest else none
def afillX (pl : Nat → Option (Nat × Nat)) (cs : List AV) (rest : List (Nat × AV)) (o : Option (Nat × Nat)) (c : Option (List AV)) : Option (List AV) :=
  match o, c with
  | some (off, size), some cells => if cells.length = size ∧ off + cells.length ≤ cs.length then afill pl (setRow cs off cells) rest else none
  | _, _ => none
theorem afill_nil (pl : Nat → Option (Nat × Nat)) (cs : List AV) : afill pl cs [] = some cs := rfl
theorem afill_cons (pl : Nat → Option (Nat × Nat)) (cs : List AV) (i : Nat) (v : AV) (rest : List (Nat × AV)) : afill pl cs ((i, v) :: rest) = afillX pl cs rest (pl i) (acells v) := by
  rfl
theorem afillX_some (pl : Nat → Option (Nat × Nat)) (cs : List AV) (rest : List (Nat × AV)) (off size : Nat) (cells : List AV) (h1 : cells.length = size) (h2 : off + size ≤ cs.length) : afillX pl cs rest (some (off, size)) (some cells) = afill pl (setRow cs off cells) rest := by
  subst h1
  rw [afillX]
  exact if_pos ⟨rfl, h2⟩
theorem pmap0 (f : Nat × RX → Nat × AV) : List.map f [] = [] := rfl
theorem pmap1 (f : Nat × RX → Nat × AV) (x : Nat × RX) (l : List (Nat × RX)) : List.map f (x :: l) = f x :: List.map f l := rfl
theorem amF :
  (∀ (pl : Nat → Option (Nat × Nat)) (cs : List AV), afill pl cs [] = some cs) ∧
  (∀ (pl : Nat → Option (Nat × Nat)) (cs : List AV) (i : Nat) (v : AV) (rest : List (Nat × AV)), afill pl cs ((i, v) :: rest) = afillX pl cs rest (pl i) (acells v)) ∧
  (∀ (pl : Nat → Option (Nat × Nat)) (cs : List AV) (rest : List (Nat × AV)) (off size : Nat) (cells : List AV), cells.length = size → off + size ≤ cs.length → afillX pl cs rest (some (off, size)) (some cells) = afill pl (setRow cs off cells) rest) ∧
  (∀ (f : Nat × RX → Nat × AV), List.map f [] = []) ∧
  (∀ (f : Nat × RX → Nat × AV) (x : Nat × RX) (l : List (Nat × RX)), List.map f (x :: l) = f x :: List.map f l) ∧
  (∀ (z : List AV), zrow 0 z = []) ∧
  (∀ (n : Nat) (z : List AV), zrow (n + 1) z = z ++ zrow n z) ∧
  (∀ (n : Nat) (cs : List AV), chunk n 0 cs = []) ∧
  (∀ (n k : Nat) (cs : List AV), chunk n (k + 1) cs = cs.take n :: chunk n k (cs.drop n)) ∧
  (∀ (l : List AV), l.take 0 = []) ∧ (∀ (n : Nat) (x : AV) (l : List AV), (x :: l).take (n + 1) = x :: l.take n) ∧
  (∀ (l : List AV), l.drop 0 = l) ∧ (∀ (n : Nat) (x : AV) (l : List AV), (x :: l).drop (n + 1) = l.drop n) ∧
  (∀ (s : Str), AV.strip (.str s) = .str s) ∧ (∀ (k : IntKind) (n : Int), AV.strip (.int k n) = .int k n) ∧ (∀ (b : Bool), AV.strip (.bool b) = .bool b) ∧ (∀ (f : Fn) (x y : List AV), AV.strip (.fn f x y) = .fn f x y) ∧
  (∀ (t n : Nat) (r : List (List AV)), AV.strip (.slice (.own t) n r) = .slice .any n r) ∧ (∀ (n : Nat) (r : List (List AV)), AV.strip (.slice .any n r) = .slice .any n r) ∧ (∀ (n : Nat) (r : List (List AV)), AV.strip (.slice .nil n r) = .slice .nil n r) ∧ (∀ (n : Nat) (r : List (List AV)), AV.strip (.slice .full n r) = .slice .full n r) ∧
  (∀ (f : AV → AV), List.map f [] = []) ∧ (∀ (f : AV → AV) (x : AV) (l : List AV), List.map f (x :: l) = f x :: List.map f l) ∧
  (∀ (x : Nat × Nat) (l : List (Nat × Nat)), (x :: l)[0]? = some x) ∧ (∀ (x : Nat × Nat) (l : List (Nat × Nat)) (n : Nat), (x :: l)[n + 1]? = l[n]?) :=
  ⟨afill_nil, afill_cons, afillX_some, pmap0, pmap1, fun _ => rfl, fun _ _ => rfl, fun _ _ => rfl, fun _ _ _ => rfl, fun _ => rfl, fun _ _ _ => rfl, fun _ => rfl, fun _ _ _ => rfl, fun _ => rfl, fun _ _ => rfl, fun _ => rfl, fun _ _ _ => rfl, fun _ _ _ => rfl, fun _ _ => rfl, fun _ _ => rfl, fun _ _ => rfl, fun _ => rfl, fun _ _ _ => rfl, fun _ _ => rfl, fun _ _ _ => rfl⟩

theorem amL :
  (∀ (v : AV) (H : List AObj) (x : Option Out), orE (some v) H x = some (.ret v, H)) ∧
  (∀ (H : List AObj) (x : Option Out), orE none H x = x) ∧
  (∀ (b : Bool) (o o' : Option AV) (H : List AObj) (x : Option Out), orE (slc b o o') H x = slc b (orE o H x) (orE o' H x)) ∧
  (∀ (o o' : Option AV) (H : List AObj) (x : Option Out), orE (orO o o') H x = orE o H (orE o' H x)) ∧
  (∀ (v : AV) (y : Option AV), orO (some v) y = some v) ∧
  (∀ (y : Option AV), orO none y = y) ∧
  (∀ (b : Bool) (o o' y : Option AV), orO (slc b o o') y = slc b (orO o y) (orO o' y)) ∧
  (∀ (α : Type) (F : Nat → α → Option AV) (i : Nat), firstE F i [] = none) ∧
  (∀ (α : Type) (F : Nat → α → Option AV) (i : Nat) (x : α) (l : List α), firstE F i (x :: l) = orO (F i x) (firstE F (i + 1) l)) ∧
  (∀ (α : Type) (l : List α) (row : α → List AV), (l.map row).length = l.length) ∧
  (∀ (α : Type) (row : α → List AV) (l : List α) (i : Nat), (l.map row)[i]? = (l[i]?).map row) ∧
  (∀ (α : Type) (f : α → List AV) (x : α), (some x).map f = some (f x)) ∧
  (∀ (H0 H : List AObj), CutOk H0 H → ∀ (L : List AObj), CutOk H0 (H ++ L)) ∧
  (∀ (H0 H : List AObj), CutOk H0 H → ∀ (L : List AObj), (H ++ L).take H0.length = H.take H0.length) :=
  ⟨orE_some, orE_none, orE_sel, orE_orO, orO_some, orO_none, orO_sel, fun _ => firstE_nil, fun _ => firstE_cons, fun _ l row => List.length_map .., fun _ row l i => map_getR row l i, fun _ _ _ => rfl, fun _ _ => cut_more, fun _ _ => take_more⟩

/-! All of them -/
def amA {E : REnv} (M : Mach cdec E) := And.intro (am1 M) (And.intro am2 (And.intro am3 (And.intro am4 (And.intro am5 (And.intro amL amS)))))
def amB := And.intro @beq_true (And.intro @beq_false (And.intro @decide_true (And.intro @decide_false (And.intro and_true (And.intro true_and (And.intro Bool.and_true (And.intro Bool.true_and (And.intro Bool.and_false (And.intro Bool.false_and (And.intro Bool.or_false (And.intro Bool.false_or (And.intro Bool.or_true (And.intro Bool.true_or (And.intro Bool.false_eq_true
  (And.intro @if_false.{1} (And.intro @if_true.{1} (And.intro Bool.not_true (And.intro Bool.not_false (And.intro Nat.le_add_right (And.intro @Nat.le_add_right_of_le (And.intro @Option.map_some.{0, 0} (And.intro @Option.map_none.{0, 0} (And.intro @List.nil_append.{0} (And.intro @List.append_nil.{0} (And.intro @List.map_nil.{0, 0} @rias_nat)))))))))))))))))))))))))
def amG := And.intro amF (And.intro setRow_nil (And.intro setRow_cons (And.intro @List.set_cons_zero.{0} (And.intro @List.length_cons.{0} (And.intro @List.length_nil.{0} (And.intro Nat.zero_add (And.intro Nat.le_refl (And.intro @List.all_cons.{0} (And.intro @List.all_nil.{0} @List.cons_append.{0})))))))))

end Go.Am
end

section
set_option linter.unusedSimpArgs false
set_option linter.unusedVariables false
namespace Go.Am
open Go.RowKit Go.ChangeShapes Go.WideShapes

/-! What a law is called with, as plain values. -/

structure VL (K : Know) (row : List AV) (cs : List Value) : Prop where
  len : row.length = cs.length
  at_ : ∀ (i : Nat) (av : AV), row[i]? = some av → V K av (cs.getD i undef)

theorem VL.nil (K : Know) : VL K [] [] := ⟨rfl, fun i av h => by simp at h⟩
theorem VL.one {K : Know} {a : AV} {v : Value} (h : V K a v) : VL K [a] [v] := ⟨rfl, fun i av hi => by
  cases i with
  | zero => obtain rfl : a = av := by simpa using hi
            simpa using h
  | succ i => simp at hi⟩
theorem VL.append {K : Know} {a b : List AV} {c d : List Value} (h : VL K a c) (h' : VL K b d) : VL K (a ++ b) (c ++ d) := ⟨by simp [h.len, h'.len], fun i av hi => by
  have e := h.len
  by_cases hl : i < a.length
  · rw [List.getElem?_append_left hl] at hi
    have := h.at_ i av hi
    rwa [List.getD_eq_getElem?_getD, List.getElem?_append_left (by omega), ← List.getD_eq_getElem?_getD]
  · rw [List.getElem?_append_right (by omega)] at hi
    have := h'.at_ _ av hi
    rwa [List.getD_eq_getElem?_getD, List.getElem?_append_right (by omega), ← e, ← List.getD_eq_getElem?_getD]⟩
theorem VL.vs {K : Know} {row : List AV} {cs : Array Value} (h : VL K row cs.toList) : Vs K row cs := ⟨by simpa using h.len, fun i av hi => by simpa [Array.getD_eq_getD_getElem?] using h.at_ i av hi⟩
theorem VL.agg {K : Know} {row : List AV} {cs : Array Value} (h : VL K row cs.toList) : V K (.agg row) (.agg cs) := .agg _ _ h.vs.size h.vs.at_

section
variable (P : Program) (W : World) (G : Nat → Option (List AV))

def Opens (t : TypeId) {α : Type} (row : α → List AV) (ok : α → Prop) : Prop :=
  ∀ (H : Type) (enc : TypeId × Value → H) (spare : Nat → Bool) (fuel : Nat) (cs : List Value) (x : DataW H × List MemPlace), DataW.trod enc P W 0 spare true fuel t cs = some x → ∃ a, ok a ∧ VL (Know.start W G) (row a) cs

def OpensF (fl : List (Nat × TypeId)) (off w : Nat) {α : Type} (row : α → List AV) (ok : α → Prop) : Prop :=
  ∀ (H : Type) (enc : TypeId × Value → H) (spare : Nat → Bool) (fuel : Nat) (cs : List Value),
    (∀ (i : Nat) (f : Nat × TypeId), fl[i]? = some f → ∃ x, DataW.trod enc P W 0 spare true fuel f.2 ((cs.drop f.1).take (P.cellsOf f.2)) = some x) → cs.length = off + w → ∃ a, ok a ∧ VL (Know.start W G) (row a) (cs.drop off)

def fieldsOf (t : TypeId) : Option (List (Nat × TypeId)) :=
  match P.underlying t with
  | some (.struct fs) => some (fs.toList.map fun f => (f.offset, f.type))
  | _ => none
end

section
variable {P : Program} {W : World} {G : Nat → Option (List AV)}

theorem opens_str {t : TypeId} (ht : P.underlying t = some .string) : Opens P W G t strRow (fun s => s.length ≤ maxL) := fun H enc spare fuel cs x h => by
  obtain ⟨s, rfl, _, hs⟩ := DataW.trod_string ht h
  exact ⟨s.data.toList, by simpa [maxLen] using hs, VL.one (.str _)⟩
theorem opens_int {t : TypeId} (ht : P.underlying t = some (.int .i64)) : Opens P W G t intRow I64 := fun H enc spare fuel cs x h => by
  obtain ⟨n, rfl, _, hn⟩ := DataW.trod_int ht h
  refine ⟨n, ?_, VL.one (.int _ _)⟩
  simp only [Lit.wf] at hn
  revert hn
  simp [IntKind.has, IntKind.min, IntKind.max, IntKind.bits, IntKind.signed, I64]
theorem opens_k {t : TypeId} {k : IntKind} (ht : P.underlying t = some (.int k)) : Opens P W G t (fun n : Int => [.int k n]) (fun n => k.min ≤ n ∧ n ≤ k.max) := fun H enc spare fuel cs x h => by
  obtain ⟨n, rfl, _, hn⟩ := DataW.trod_int ht h
  exact ⟨n, by simpa [Lit.wf, IntKind.has] using hn, VL.one (.int _ _)⟩
theorem opens_bool {t : TypeId} (ht : P.underlying t = some .bool) : Opens P W G t (fun b : Bool => [.bool b]) (fun _ => True) := fun H enc spare fuel cs x h => by
  obtain ⟨n, rfl, _⟩ := DataW.trod_bool ht h
  exact ⟨n, trivial, VL.one (.bool _)⟩

theorem opensF_nil (off : Nat) : OpensF P W G [] off 0 (fun _ : Unit => []) (fun _ => True) := fun H enc spare fuel cs _ hl => ⟨(), trivial, by
  rw [List.drop_of_length_le (by omega)]; exact VL.nil _⟩
theorem opensF_cons {t : TypeId} {fl : List (Nat × TypeId)} {off w1 w2 : Nat} {α β : Type} {row1 : α → List AV} {row2 : β → List AV} {ok1 : α → Prop} {ok2 : β → Prop}
    (h1 : Opens P W G t row1 ok1) (hw : P.cellsOf t = w1) (h2 : OpensF P W G fl (off + w1) w2 row2 ok2) : OpensF P W G ((off, t) :: fl) off (w1 + w2) (fun a : α × β => row1 a.1 ++ row2 a.2) (fun a => ok1 a.1 ∧ ok2 a.2) := fun H enc spare fuel cs hf hl => by
  obtain ⟨x, hx⟩ := hf 0 (off, t) rfl
  obtain ⟨a, ha, va⟩ := h1 H enc spare fuel _ x hx
  obtain ⟨b, hb, vb⟩ := h2 H enc spare fuel cs (fun i f hi => hf (i + 1) f (by simpa using hi)) (by omega)
  refine ⟨(a, b), ⟨ha, hb⟩, ?_⟩
  have := va.append vb
  simp only [hw] at this
  have e : (cs.drop off).take w1 ++ cs.drop (off + w1) = cs.drop off := by rw [← List.drop_drop, List.take_append_drop]
  rwa [e] at this

theorem opens_struct {t : TypeId} {fl : List (Nat × TypeId)} {w : Nat} {α S : Type} {row : α → List AV} {ok : α → Prop} {rowS : S → List AV} {okS : S → Prop} (hf : fieldsOf P t = some fl) (hw : P.cellsOf t = w)
    (h : OpensF P W G fl 0 w row ok) (φ : α → S) (hr : ∀ a, rowS (φ a) = row a) (ho : ∀ a, ok a → okS (φ a)) : Opens P W G t rowS okS := fun H enc spare fuel cs x hx => by
  unfold fieldsOf at hf
  split at hf
  · rename_i fs ht
    simp only [Option.some.injEq] at hf
    subst hf
    obtain ⟨xs, n, _, _, hl, hxl, hat⟩ := DataW.trod_struct ht hx
    obtain ⟨a, ha, va⟩ := h H enc spare n cs (fun i f hi => by
      rw [List.getElem?_map] at hi
      cases hfi : fs.toList[i]? with
      | none => rw [hfi] at hi; cases hi
      | some g =>
        rw [hfi] at hi
        obtain rfl : (g.offset, g.type) = f := by simpa using hi
        have hg : fs[i]? = some g := by simpa using hfi
        have := hat i g hg
        have hlt : i < xs.length := by rw [hxl]; exact (Array.getElem?_eq_some_iff.1 hg).1
        rw [List.getElem?_eq_getElem hlt] at this
        exact ⟨_, this⟩) (by omega)
    exact ⟨φ a, ho a ha, by rw [hr]; simpa using va⟩
  · cases hf

theorem list_of {α : Type} {p : Nat → α → Prop} : ∀ (n : Nat), (∀ i, i < n → ∃ a, p i a) → ∃ l : List α, l.length = n ∧ ∀ i a, l[i]? = some a → p i a
  | 0, _ => ⟨[], rfl, fun i a h => by simp at h⟩
  | n + 1, h => by
    obtain ⟨l, h1, h2⟩ := list_of n (fun i hi => h i (by omega))
    obtain ⟨a, ha⟩ := h n (by omega)
    refine ⟨l ++ [a], by simp [h1], fun i b hi => ?_⟩
    by_cases hl : i < l.length
    · rw [List.getElem?_append_left hl] at hi; exact h2 i b hi
    · rw [List.getElem?_append_right (by omega)] at hi
      have : i - l.length = 0 := by
        cases hq : i - l.length with
        | zero => rfl
        | succ k => rw [hq] at hi; simp at hi
      rw [this] at hi
      obtain rfl : a = b := by simpa using hi
      have : i = n := by omega
      subst this; exact ha

theorem opens_slice {t e : TypeId} {α : Type} {row : α → List AV} {ok : α → Prop} {sz : Nat} (ht : P.underlying t = some (.slice e)) (hsz : P.cellsOf e = sz) (hpos : 0 < sz) (hrow : ∀ a, (row a).length = sz) (he : Opens P W G e row ok) :
    Opens P W G t (fun s : Sl α => [.slice s.tag sz (s.l.map row)]) (fun s => s.ok 0 ok) := fun H enc spare fuel cs x h => by
  rcases Go.Deep.open_slice ht h with ⟨rfl, _⟩ | ⟨a, len, cap, m, n, D, Pl, rfl, hb, hl, hcap, hm, _, hel⟩
  · exact ⟨⟨.any, []⟩, ⟨trivial, by simp, fun x hx => by cases hx⟩, VL.one (.slice0 _ _ _ (by simp))⟩
  · rw [hsz] at hel
    have hlm : len ≤ m := by rw [hm]; split <;> omega
    obtain ⟨l, hll, hat⟩ := list_of (α := α) (p := fun i a' => ok a' ∧ ∃ cs', W.cells? 0 (a.add (i * sz)) sz = some cs' ∧ VL (Know.start W G) (row a') cs') len (fun i hi => by
      obtain ⟨cs', h1, h2⟩ := hel i (by omega)
      obtain ⟨a', h3, h4⟩ := he H enc spare n cs' _ h2
      exact ⟨a', h3, cs', h1, h4⟩)
    refine ⟨⟨.any, l⟩, ⟨trivial, by rw [hll]; simp only [maxL, maxLen] at *; omega, fun x hx => ?_⟩, VL.one ?_⟩
    · obtain ⟨i, hi⟩ := List.getElem?_of_mem hx
      exact (hat i x hi).1
    · obtain ⟨b, o, spot⟩ := a
      cases l with
      | nil =>
        have : len = 0 := by simpa using hll.symm
        subst this
        exact .sliceAny _ _ _
      | cons a0 l0 =>
        obtain ⟨_, cs0, hc0, hv0⟩ := hat 0 a0 rfl
        obtain ⟨_, hcl, hcat⟩ := World.cells?_some hc0
        have hsp : spot = none := by
          have h0 := hcat 0 hpos
          rw [List.getElem?_eq_getElem (by omega)] at h0
          simpa [Addr.add] using World.cell?_spot h0
        subst hsp
        have hlen : len = ((a0 :: l0).map row).length := by simpa using hll.symm
        rw [hlen]
        have key : ∀ (i : Nat) (r : List AV), ((a0 :: l0).map row)[i]? = some r → ∃ cs', VL (Know.start W G) r cs' ∧ ∀ j, j < sz → W.cell? ⟨b, o + i * sz + j, none⟩ = cs'[j]? := fun i r hi => by
          rw [List.getElem?_map] at hi
          cases hai : (a0 :: l0)[i]? with
          | none => rw [hai] at hi; cases hi
          | some ai =>
            rw [hai] at hi
            obtain rfl : row ai = r := by simpa using hi
            obtain ⟨_, cs', hc, hv⟩ := hat i ai hai
            obtain ⟨_, hcl', hcat'⟩ := World.cells?_some hc
            refine ⟨cs', hv, fun j hj => ?_⟩
            rw [← hcat' j hj]
            congr 1
            unfold Addr.add
            by_cases h1 : i * sz = 0 <;> by_cases h2 : j = 0 <;> simp [h1, h2, Nat.add_assoc]
        refine .slice .any sz _ b o cap (fun i j => (W.cell? ⟨b, o + i * sz + j, none⟩).getD undef) (fun r hr => ?_) (fun i j r av hi hj => ?_) (fun i j r av hi hj => ?_) (by rw [← hlen]; exact hl) trivial
        · obtain ⟨a', _, rfl⟩ := List.mem_map.1 hr
          exact hrow a'
        · obtain ⟨cs', hv, hc⟩ := key i r hi
          have hjl : j < r.length := (List.getElem?_eq_some_iff.1 hj).1
          have hrl : r.length = sz := by
            obtain ⟨a', _, rfl⟩ := List.mem_map.1 (List.mem_of_getElem? hi)
            exact hrow a'
          show W.cell? _ = _
          have hcj := hc j (by omega)
          rw [hcj, List.getElem?_eq_getElem (by rw [← hv.len]; omega)]
          rfl
        · obtain ⟨cs', hv, hc⟩ := key i r hi
          have hjl : j < r.length := (List.getElem?_eq_some_iff.1 hj).1
          have hrl : r.length = sz := by
            obtain ⟨a', _, rfl⟩ := List.mem_map.1 (List.mem_of_getElem? hi)
            exact hrow a'
          have := hv.at_ j av hj
          rw [hc j (by omega), ← List.getD_eq_getElem?_getD]
          exact this

theorem okw_agg {t : TypeId} {fl : List (Nat × TypeId)} {r : Reach} {b : Nat} {v : Value} (hf : fieldsOf P t = some fl) (h : Value.okWide P W r b t v) : ∃ cs, v = .agg cs := by
  unfold fieldsOf at hf
  split at hf
  · rename_i fs ht
    simp only [Value.okWide, ht] at h
    obtain ⟨cs, rfl, _⟩ := h
    exact ⟨cs, rfl⟩
  · cases hf
theorem okw_slice {t e : TypeId} {r : Reach} {b : Nat} {v : Value} (ht : P.underlying t = some (.slice e)) (h : Value.okWide P W r b t v) : ∃ a l c, v = .slice a l c := by
  simp only [Value.okWide, ht, Cell.okWide, Cell.ok] at h
  split at h <;> first | exact ⟨_, _, _, rfl⟩ | (simp_all; done) | cases h
theorem okw_str {t : TypeId} {r : Reach} {b : Nat} {v : Value} (ht : P.underlying t = some .string) (h : Value.okWide P W r b t v) : ∃ s, v = .string s := by
  simp only [Value.okWide, ht, Cell.okWide, Cell.ok] at h
  split at h <;> first | exact ⟨_, rfl⟩ | (simp_all; done) | cases h
theorem okw_int {t : TypeId} {k : IntKind} {r : Reach} {b : Nat} {v : Value} (ht : P.underlying t = some (.int k)) (h : Value.okWide P W r b t v) : ∃ n, v = .int k n := by
  simp only [Value.okWide, ht, Cell.okWide, Cell.ok] at h
  split at h <;> first | (obtain ⟨rfl, _⟩ := h; simp_all; done) | (simp_all; done) | cases h
theorem okw_bool {t : TypeId} {r : Reach} {b : Nat} {v : Value} (ht : P.underlying t = some .bool) (h : Value.okWide P W r b t v) : ∃ n, v = .bool n := by
  simp only [Value.okWide, ht, Cell.okWide, Cell.ok] at h
  split at h <;> first | exact ⟨_, rfl⟩ | (simp_all; done) | cases h
/-- An argument of a law. -/
theorem open_arg {H : Type} {enc : TypeId × Value → H} {spare : Nat → Bool} {t : TypeId} {α : Type} {row : α → List AV} {ok : α → Prop} (ho : Opens P W G t row ok) {v : Value} {d : DataW H} {ps : List MemPlace}
    (h : DataW.Trod enc P W 0 spare true t v d ps) : ∃ a, ok a ∧ VL (Know.start W G) (row a) v.cells.toList := by
  obtain ⟨fuel, hf⟩ := h
  exact ho H enc spare fuel _ _ hf
end
end Go.Am
end

section
namespace Go.Am
open Go.RowKit
def f_truchmanlaw02_MorphUnifies : FuncId := 4
def f_truchmanlaw02_MorphOrder : FuncId := 5
def f_morph_Parse : FuncId := 7
def f_morph_Form : FuncId := 9
def f_morph_Unify : FuncId := 15
def f_morph_Name : FuncId := 16
def f_morph_Word : FuncId := 17
def f_morph_Plain : FuncId := 18
def f_truchmanlaw02_lives : FuncId := 19
def f_truchmanref02_Unify : FuncId := 20
def f_truchmanlaw02_SameFeats : FuncId := 21
def f_morph_Subsumes : FuncId := 22
def f_truchmanref02_Subsumes : FuncId := 23
def f_strings_Split : FuncId := 31
def f_morph_reader_read : FuncId := 32
def f_morph_Check : FuncId := 33
def f_morph_asked : FuncId := 34
def f_morph_language_steps : FuncId := 35
def f_morph_language_form : FuncId := 36
def f_morph_language_slot : FuncId := 40
def f_slices_Contains_string_string : FuncId := 42
def f_morph_all : FuncId := 43
def f_morph_symbol : FuncId := 44
def f_morph_language_spell : FuncId := 45
def f_morph_increasing : FuncId := 46
def f_morph_clash : FuncId := 47
def f_morph_union : FuncId := 48
def f_morph_Name_1 : FuncId := 49
def f_morph_letter : FuncId := 50
def f_morph_Name_2 : FuncId := 51
def f_morph_Word_1 : FuncId := 52
def f_slices_ContainsFunc_api_Feat_api_Feat : FuncId := 53
def f_morph_Subsumes_1 : FuncId := 54
def f_slices_Contains_api_Feat_api_Feat : FuncId := 55
def f_truchmanref02_Check : FuncId := 57
def f_strings_genSplit : FuncId := 62
def f_morph_reader_read_1 : FuncId := 63
def f_morph_kinds : FuncId := 64
def f_morph_demand : FuncId := 65
def f_strings_SplitN : FuncId := 66
def f_morph_first : FuncId := 67
def f_morph_checker_vowels : FuncId := 68
def f_morph_Check_1 : FuncId := 69
def f_morph_each_api_Trait : FuncId := 70
def f_morph_checker_trait : FuncId := 71
def f_morph_Check_2 : FuncId := 72
def f_morph_each_api_Class : FuncId := 73
def f_morph_checker_class : FuncId := 74
def f_morph_Check_3 : FuncId := 75
def f_morph_each_api_Entry : FuncId := 76
def f_morph_checker_entry : FuncId := 77
def f_morph_Check_4 : FuncId := 78
def f_morph_each_api_Spell : FuncId := 79
def f_morph_checker_spell : FuncId := 80
def f_morph_Check_5 : FuncId := 81
def f_morph_each_api_Link : FuncId := 82
def f_morph_checker_link : FuncId := 83
def f_morph_language_underlying : FuncId := 84
def f_strings_ReplaceAll : FuncId := 85
def f_morph_checker_bundle : FuncId := 89
def f_morph_classOf : FuncId := 90
def f_slices_Index_string_string : FuncId := 91
def f_strings_HasPrefix : FuncId := 92
def f_morph_language_left : FuncId := 93
def f_morph_language_right : FuncId := 94
def f_strings_Builder_WriteString : FuncId := 95
def f_strings_Builder_WriteByte : FuncId := 96
def f_strings_Builder_String : FuncId := 97
def f_strings_Builder_Len : FuncId := 98
def f_morph_clash_1 : FuncId := 99
def f_morph_clash_1_1 : FuncId := 100
def f_slices_Concat_api_Feat_api_Feat : FuncId := 101
def f_slices_SortFunc_api_Feat_api_Feat : FuncId := 102
def f_morph_union_1 : FuncId := 103
def f_strings_Compare : FuncId := 104
def f_slices_Compact_api_Feat_api_Feat : FuncId := 105
def f_slices_IndexFunc_api_Feat_api_Feat : FuncId := 106
def f_slices_Index_api_Feat_api_Feat : FuncId := 107
def f_truchmanref02_of : FuncId := 108
def f_truchmanref02_traits : FuncId := 109
def f_truchmanref02_classes : FuncId := 110
def f_truchmanref02_entries : FuncId := 111
def f_truchmanref02_Class : FuncId := 112
def f_truchmanref02_bundle : FuncId := 113
def f_strings_explode : FuncId := 115
def f_strings_Count : FuncId := 116
def f_strings_Index : FuncId := 117
def f_morph_kinds_1 : FuncId := 118
def f_morph_text : FuncId := 119
def f_morph_kinds_2 : FuncId := 120
def f_morph_kinds_3 : FuncId := 121
def f_morph_kinds_4 : FuncId := 122
def f_morph_number : FuncId := 123
def f_morph_feats : FuncId := 124
def f_morph_kinds_5 : FuncId := 125
def f_morph_kinds_6 : FuncId := 126
def f_morph_kinds_7 : FuncId := 127
def f_morph_kinds_8 : FuncId := 128
def f_slices_ContainsFunc_api_Trait_api_Trait : FuncId := 129
def f_morph_checker_trait_1 : FuncId := 130
def f_slices_ContainsFunc_api_Class_api_Class : FuncId := 131
def f_morph_checker_class_1 : FuncId := 132
def f_morph_each_api_Slot : FuncId := 133
def f_morph_checker_class_2 : FuncId := 134
def f_morph_short : FuncId := 135
def f_slices_ContainsFunc_api_Entry_api_Entry : FuncId := 136
def f_morph_checker_entry_1 : FuncId := 137
def f_slices_ContainsFunc_api_Slot_api_Slot : FuncId := 138
def f_morph_checker_entry_2 : FuncId := 139
def f_slices_ContainsFunc_api_Irregular_api_Irregular : FuncId := 140
def f_morph_checker_entry_3 : FuncId := 141
def f_morph_around : FuncId := 142
def f_strings_Replace : FuncId := 143
def f_morph_each_api_Feat : FuncId := 147
def f_morph_checker_bundle_1 : FuncId := 148
def f_slices_IndexFunc_api_Trait_api_Trait : FuncId := 149
def f_morph_checker_bundle_1_1 : FuncId := 150
def f_slices_IndexFunc_api_Class_api_Class : FuncId := 151
def f_morph_classOf_1 : FuncId := 152
def f_internal_stringslite_HasPrefix : FuncId := 153
def f_morph_language_match : FuncId := 154
def f_strings_Builder_copyCheck : FuncId := 155
def f_slices_Grow_api_Feat_api_Feat : FuncId := 156
def f_internal_bytealg_CompareString : FuncId := 159
def f_truchmanref02_Letter : FuncId := 160
def f_truchmanref02_Name : FuncId := 161
def f_truchmanref02_trait : FuncId := 162
def f_truchmanref02_in : FuncId := 163
def f_truchmanref02_Plain : FuncId := 164
def f_unicode_utf8_RuneCountInString : FuncId := 166
def f_unicode_utf8_DecodeRuneInString : FuncId := 167
def f_internal_bytealg_CountString : FuncId := 168
def f_internal_stringslite_Index : FuncId := 169
def f_strconv_Atoi : FuncId := 170
def f_strconv_Itoa : FuncId := 171
def f_strings_Cut : FuncId := 172
def f_slices_IndexFunc_api_Entry_api_Entry : FuncId := 173
def f_slices_IndexFunc_api_Slot_api_Slot : FuncId := 174
def f_slices_IndexFunc_api_Irregular_api_Irregular : FuncId := 175
def f_strings_Builder_Grow : FuncId := 176
def f_strings_IndexByte : FuncId := 178
def f_internal_abi_NoEscape : FuncId := 179
def f_math_bits_Len64 : FuncId := 189
def f_internal_bytealg_abigen_runtime_cmpstring : FuncId := 190
def f_truchmanref02_Word : FuncId := 191
def f_unicode_utf8_decodeRuneInStringSlow : FuncId := 193
def f_internal_stringslite_IndexByte : FuncId := 194
def f_internal_bytealg_IndexString : FuncId := 195
def f_internal_bytealg_Cutover : FuncId := 196
def f_internal_bytealg_IndexRabinKarp_string : FuncId := 197
def f_internal_strconv_Atoi : FuncId := 198
def f_strconv_toError : FuncId := 199
def f_internal_strconv_Itoa : FuncId := 200
def f_internal_stringslite_Cut : FuncId := 201
def f_strings_Builder_grow : FuncId := 202
def f_internal_bytealg_IndexByteString : FuncId := 208
def f_internal_bytealg_hashStr_string : FuncId := 209
def f_internal_strconv_ParseInt : FuncId := 210
def f_strconv_syntaxError : FuncId := 211
def f_strconv_rangeError : FuncId := 212
def f_strconv_baseError : FuncId := 213
def f_strconv_bitSizeError : FuncId := 214
def f_internal_strconv_FormatInt : FuncId := 215
def f_internal_bytealg_MakeNoZero : FuncId := 216
def f_internal_strconv_ParseUint : FuncId := 218
def f_internal_stringslite_Clone : FuncId := 219
def f_errors_New : FuncId := 220
def f_internal_strconv_small : FuncId := 221
def f_internal_strconv_numDigits : FuncId := 222
def f_internal_strconv_formatBase10 : FuncId := 223
def f_internal_strconv_formatBits : FuncId := 224
def f_internal_strconv_lower : FuncId := 225
def f_internal_strconv_underscoreOK : FuncId := 226
def f_internal_strconv_log10Pow2 : FuncId := 227
def f_internal_strconv_bool2_int : FuncId := 228
def f_internal_strconv_isPowerOfTwo : FuncId := 229
def f_math_bits_TrailingZeros : FuncId := 230
def f_math_bits_TrailingZeros32 : FuncId := 231
def f_math_bits_TrailingZeros64 : FuncId := 232
def t_ : TypeId := 0
def t_bool : TypeId := 4
def t_uint8 : TypeId := 5
def t_string : TypeId := 9
def t_api_Lexicon : TypeId := 28
def t_api_Feat : TypeId := 49
def t_sl_api_Feat : TypeId := 50
def t_api_Spell : TypeId := 52
def t_morph_reader : TypeId := 67
def t_morph_language : TypeId := 70
def t_api_Slot : TypeId := 72
def t_api_Entry : TypeId := 82
def t_func_uint8_bool : TypeId := 89
def t_api_Trait : TypeId := 99
def t_api_Class : TypeId := 102
def t_api_Irregular : TypeId := 104
def t_api_Link : TypeId := 106
def t_morph_wrong : TypeId := 114
def t_morph_kind : TypeId := 117
def t_morph_checker : TypeId := 123
def t_strings_Builder : TypeId := 150
def t_utf8_acceptRange : TypeId := 242
def t_strconv_Error : TypeId := 246
def t_p_strconv_NumError : TypeId := 249
def t_strconv_NumError : TypeId := 260
def t_24_uint8 : TypeId := 262
def t_p_errors_errorString : TypeId := 267
def t_errors_errorString : TypeId := 269
def t_65_uint8 : TypeId := 272
end Go.Am
end

section
set_option maxRecDepth 100000
namespace Go.Am
open Go.RowKit Sh
def l_kmorph_Parse_0 : AC :=
  (Q (O [bl 31 30 29]) (Q (C 31 X (.exit 0)) (Q (.block 1 (Q (O [m 32 30, ia 33 1 28 30, ld 34 33, m 7 32, m 8 34]) (Q (Q (O [m 35 8, o 36 (.ar .eql (t 35) (s [])), m 37 36, h 38 37
  (.mv (t 8)), h 39 37 (.ixs (t 38) (i 0)), h 40 37 (.ar .eql (t 39) (u 59)), o 41 (.pk (t 37) T (t 40))]) (C 41 (.exit 1) X)) (Q (O [m 42 8, k 43 (f f_morph_reader_read) [(t 6), (t
  42)], no 44 43]) (C 44 (Q (O [o 45 (.bd [(.str []), (.slice .nil 2 []), (.slice .nil 2 []), (.slice .nil 4 []), (.slice .nil 4 []), (.slice .nil 3 [])] [(0, 1), (1, 1), (2, 1), (3,
  1), (4, 1), (5, 1)] []), m 46 7, ad 47 46, n (.st 6 (t 2) (t 45)), m 3 47, mc 4 (u 4)]) R) X))))) (O [ad 48 30, m 30 48]))))
def kc_morph_Parse : AC :=
  (Q (O [o 2 (.nw [(.str []), (.slice .nil 2 []), (.slice .nil 2 []), (.slice .nil 4 []), (.slice .nil 4 []), (.slice .nil 3 [])] t_api_Lexicon), mc 3 (i 0), mc 4 (u 0)]) (Q (Q (O [m
  10 0, lt 11 10, o 12 (.ar .gtr (t 11) (i 65536))]) (C 12 (Q (O [o 13 (.bd [(.str []), (.slice .nil 2 []), (.slice .nil 2 []), (.slice .nil 4 []), (.slice .nil 4 []), (.slice .nil 3
  [])] [(0, 1), (1, 1), (2, 1), (3, 1), (4, 1), (5, 1)] []), n (.st 6 (t 2) (t 13)), mc 3 (i 0), mc 4 (u 3)]) R) X)) (Q (O [m 14 0, k 15 (f f_strings_Split) [(t 14), (s [10])], m 5
  15]) (Q (Q (O [m 16 5, m 17 5, ls 18 17, o 19 (.ar .sub (t 18) (i 1)), ia 20 1 16 19, ld 21 20, o 22 (.ar .eql (t 21) (s []))]) (C 22 (O [m 23 5, m 24 5, ls 25 24, o 26 (.ar .sub (t
  25) (i 1)), o 27 (.sll 1 (t 23) none (some (t 26)) none), m 5 27]) X)) (Q (O [o 6 (.nw [(.str []), (.slice .nil 2 []), (.slice .nil 2 []), (.slice .nil 4 []), (.slice .nil 4 []),
  (.slice .nil 3 []), (.str []), (.int .i64 0)] t_morph_reader)]) (Q (Q (O [m 28 5, ls 29 28, mc 30 (i 0)]) (.block 0 (.loop ⟨none, [], false⟩ l_kmorph_Parse_0))) (Q (Q (O [fa 49 6 6,
  ld 50 49, o 51 (.ar .eql (t 50) (s []))]) (C 51 (Q (O [o 52 (.bd [(.str []), (.slice .nil 2 []), (.slice .nil 2 []), (.slice .nil 4 []), (.slice .nil 4 []), (.slice .nil 3 [])] [(0,
  1), (1, 1), (2, 1), (3, 1), (4, 1), (5, 1)] []), n (.st 6 (t 2) (t 52)), mc 3 (i 0), mc 4 (u 4)]) R) X)) (Q (Q (O [fa 53 0 6, la 54 6 53, k 55 (f f_morph_Check) [(t 54)], m 9 55])
  (Q (O [m 56 9, o 57 (.ar .neq (t 56) (u 0))]) (C 57 (Q (O [o 58 (.bd [(.str []), (.slice .nil 2 []), (.slice .nil 2 []), (.slice .nil 4 []), (.slice .nil 4 []), (.slice .nil 3 [])]
  [(0, 1), (1, 1), (2, 1), (3, 1), (4, 1), (5, 1)] []), m 59 9, n (.st 6 (t 2) (t 58)), mc 3 (i 0), m 4 59]) R) X))) (Q (O [fa 60 0 6, la 61 6 60, n (.st 6 (t 2) (t 61)), mc 3 (i 0),
  mc 4 (u 0)]) R)))))))))
def ka_morph_Parse : AFn := ⟨kc_morph_Parse, 62, [.cell 2 (some 6), .t 3, .t 4], .keep, [], none⟩
def kc_morph_Form : AC :=
  (Q (O [o 3 (.bx t_api_Lexicon (t 0)), mc 6 (s []), mc 7 (u 0)]) (Q (O [la 13 6 3, m 14 1, m 15 2, k 16 (f f_morph_asked) [(t 13), (t 14), (t 15)], m 12 16, ex 17 12 0, ex 18 12 1,
  ex 19 12 2, o 8 (.nw [(.str []), (.slice .nil 2 []), (.slice .nil 2 []), (.slice .nil 4 []), (.slice .nil 4 []), (.slice .nil 3 [])] t_morph_language), o 9 (.nw [(.int .i64 0),
  (.str []), (.str []), (.slice .nil 2 [])] t_api_Slot), n (.st 6 (t 8) (t 17)), n (.st 4 (t 9) (t 18)), m 10 19]) (Q (Q (O [m 20 10, o 21 (.ar .neq (t 20) (u 0))]) (C 21 (Q (O [m 22
  10, mc 6 (s []), m 7 22]) R) X)) (Q (O [la 23 6 8, m 24 1, m 25 2, k 26 (f f_morph_language_form) [(t 23), (t 24), (t 25)], m 11 26]) (Q (Q (O [m 27 11, o 28 (.ar .eql (t 27) (s
  []))]) (C 28 (Q (O [mc 6 (s []), mc 7 (u 7)]) R) X)) (Q (O [m 29 11, m 6 29, mc 7 (u 0)]) R))))))
def ka_morph_Form : AFn := ⟨kc_morph_Form, 30, [.t 6, .t 7], .keep, [], none⟩
def kc_morph_Name : AC :=
  (Q (O [mc 2 F]) (Q (O [o 3 (.nw [.nilfn] t_func_uint8_bool), n (.st 1 (t 3) (f f_morph_Name_1))]) (Q (D [P (m 4 0), W (lt 5 4), P (o 6 (.ar .geq (t 5) (i 1))), P (m 7 6), P (g 8 7
  (.mv (t 0))), W (g 9 7 (.len .str (t 8))), P (g 10 7 (.ar .leq (t 9) (i 12))), P (o 11 (.pk (t 7) (t 10) F)), P (m 12 11), W (g 13 12 (.ld none (t 3))), P (g 14 12 (.mv (t 0))), P
  (g 15 12 (.ixs (t 14) (i 0))), E (⟨(some 16), (some (12, true)), (.call (.t 13) [(.t 15)])⟩), P (o 17 (.pk (t 12) (t 16) F)), P (m 18 17), P (g 19 18 (.mv (t 0))), P (g 20 18 (.mf
  (.func f_morph_Name_2) [] [(t 3)])), E (⟨(some 21), (some (18, true)), (.call (.c (.fn (.func f_morph_all) [] [])) [(.t 19), (.t 20)])⟩), P (o 22 (.pk (t 18) (t 21) F)), P (m 2
  22)]) R)))
def ka_morph_Name : AFn := ⟨kc_morph_Name, 23, [.t 2], .keep, [], none⟩
def kc_morph_Word : AC :=
  (Q (O [mc 2 F]) (Q (O [m 3 0, lt 4 3, o 5 (.ar .geq (t 4) (i 1)), m 6 5, g 7 6 (.mv (t 0)), g 8 6 (.len .str (t 7)), g 9 6 (.ar .leq (t 8) (i 24)), o 10 (.pk (t 6) (t 9) F), m 11
  10, g 12 11 (.mv (t 0)), ⟨(some 13), (some (11, true)), (.call (.c (.fn (.func f_morph_all) [] [])) [(.t 12), (.c (.fn (.func f_morph_Word_1) [] []))])⟩, o 14 (.pk (t 11) (t 13) F),
  m 2 14]) R))
def ka_morph_Word : AFn := ⟨kc_morph_Word, 15, [.t 2], .keep, [], none⟩
def kc_morph_Plain : AC :=
  (Q (O [mc 2 F]) (Q (O [m 3 0, k 4 (f f_morph_Word) [(t 3)], m 5 4, g 6 5 (.mv (t 0)), ⟨(some 7), (some (5, true)), (.call (.c (.fn (.func f_morph_all) [] [])) [(.t 6), (.c (.fn
  (.func f_morph_letter) [] []))])⟩, o 8 (.pk (t 5) (t 7) F), m 2 8]) R))
def ka_morph_Plain : AFn := ⟨kc_morph_Plain, 9, [.t 2], .keep, [], none⟩
def kc_truchmanlaw02_lives : AC :=
  (Q (O [mc 0 F]) (Q (O [k 7 (f f_morph_Parse) [(s [118, 111, 119, 101, 108, 115, 32, 97, 101, 105, 111, 117, 10, 116, 114, 97, 105, 116, 32, 110, 117, 109, 32, 115, 103, 32, 112,
  108, 10, 99, 108, 97, 115, 115, 32, 110, 111, 117, 110, 10, 115, 108, 111, 116, 32, 48, 32, 45, 32, 45, 32, 110, 117, 109, 61, 115, 103, 10, 115, 108, 111, 116, 32, 48, 32, 45, 32,
  115, 32, 110, 117, 109, 61, 112, 108, 10, 99, 108, 97, 115, 115, 32, 118, 101, 114, 98, 10, 115, 108, 111, 116, 32, 48, 32, 45, 32, 45, 10, 115, 108, 111, 116, 32, 48, 32, 45, 32,
  101, 100, 10, 101, 110, 116, 114, 121, 32, 99, 105, 116, 121, 32, 110, 111, 117, 110, 10, 101, 110, 116, 114, 121, 32, 99, 97, 114, 32, 110, 111, 117, 110, 10, 101, 110, 116, 114,
  121, 32, 98, 117, 115, 32, 110, 111, 117, 110, 10, 102, 111, 114, 109, 32, 49, 32, 98, 117, 115, 101, 115, 10, 101, 110, 116, 114, 121, 32, 112, 108, 97, 110, 32, 118, 101, 114, 98,
  10, 115, 112, 101, 108, 108, 32, 121, 43, 32, 105, 43, 101, 32, 67, 32, 115, 10, 115, 112, 101, 108, 108, 32, 110, 43, 32, 110, 110, 43, 32, 86, 32, 101, 100, 10, 108, 105, 110,
  107, 32, 110, 111, 117, 110, 32, 45, 32, 110, 117, 109, 61, 115, 103, 10])], m 6 7, ex 8 6 0, ex 9 6 1, ex 10 6 2, o 1 (.nw [(.str []), (.slice .nil 2 []), (.slice .nil 2 []),
  (.slice .nil 4 []), (.slice .nil 4 []), (.slice .nil 3 [])] t_api_Lexicon), n (.st 6 (t 1) (t 8)), m 2 9, m 3 10]) (Q (O [la 12 6 1, k 13 (f f_morph_Form) [(t 12), (i 0), (i 1)], m
  11 13, ex 14 11 0, ex 15 11 1, m 4 14, m 5 15]) (Q (O [m 16 3, o 17 (.ar .eql (t 16) (u 0)), m 18 17, g 19 18 (.mv (t 5)), g 20 18 (.ar .eql (t 19) (u 0)), o 21 (.pk (t 18) (t 20)
  F), m 22 21, g 23 22 (.mv (t 4)), g 24 22 (.ar .eql (t 23) (s [99, 105, 116, 105, 101, 115])), o 25 (.pk (t 22) (t 24) F), m 0 25]) R))))
def ka_truchmanlaw02_lives : AFn := ⟨kc_truchmanlaw02_lives, 26, [.t 0], .keep, [], none⟩
def kc_strings_Split : AC :=
  (Q (O [mc 4 (.c (.slice .nil 1 []))]) (Q (O [m 5 0, m 6 1, k 7 (f f_strings_genSplit) [(t 5), (t 6), (i 0), (i (-1))], m 4 7]) R))
def ka_strings_Split : AFn := ⟨kc_strings_Split, 8, [.t 4], .keep, [], none⟩
def l_kmorph_reader_read_0 : AC :=
  (Q (O [bl 26 25 24]) (Q (C 26 X (.exit 0)) (Q (.block 1 (Q (O [ia 27 1 23 25, ld 28 27, m 9 28]) (O [m 29 9, o 30 (.ar .neq (t 29) (s [])), k 31 (f f_morph_demand) [(t 30)]]))) (O
  [ad 32 25, m 25 32]))))
def kb_morph_reader_read : AC :=
  (Q (O [m 11 1, k 12 (f f_strings_Split) [(t 11), (s [32])], m 5 12]) (Q (D [W (k 14 (f f_morph_kinds) []), P (m 15 5), P (o 16 (.ias 1 (t 15) (i 0))), W (ld 17 16), W (o 18 (.lk
  .str (some (.agg [(.int .i64 0), (.int .i64 0), (.bool false), .nilfn])) true (t 14) (t 17))), P (m 13 18), P (ex 19 13 0), P (ex 20 13 1), K (o 6 (.nw [(.int .i64 0), (.int .i64
  0), (.bool false), .nilfn] t_morph_kind)), E (n (.st 4 (t 6) (t 19))), P (m 7 20)]) (Q (O [m 21 7, k 22 (f f_morph_demand) [(t 21)]]) (Q (Q (O [m 23 5, ls 24 23, mc 25 (i 0)])
  (.block 0 (.loop ⟨none, [], false⟩ l_kmorph_reader_read_0))) (Q (O [m 33 5, o 34 (.sll 1 (t 33) (some (i 1)) none none), m 5 34]) (Q (O [m 35 5, ls 36 35, fa 37 1 6, ld 38 37, o 39
  (.ar .geq (t 36) (t 38)), m 40 39, g 41 40 (.fa 2 (t 6)), g 42 40 (.ld none (t 41)), g 43 40 (.mv (t 42)), h 44 43 (.mv (t 5)), h 45 43 (.len .sl (t 44)), h 46 43 (.fa 1 (t 6)), h
  47 43 (.ld none (t 46)), h 48 43 (.ar .eql (t 45) (t 47)), g 49 40 (.pk (t 43) T (t 48)), o 50 (.pk (t 40) (t 49) F), k 51 (f f_morph_demand) [(t 50)]]) (Q (D [P (m 52 0), P (o 53
  (.nc (t 52))), P (fa 54 6 53), W (ld 55 54), P (o 56 (.ar .eql (t 55) (s []))), P (fa 57 0 6), W (ld 58 57), P (o 59 (.ar .eql (t 58) (i 0))), P (o 60 (.eq false .bool (t 56) (t
  59))), P (m 61 60), P (g 62 61 (.fa 0 (t 6))), W (g 63 61 (.ld none (t 62))), P (g 64 61 (.mv (t 0))), P (g 65 61 (.nc (t 64))), P (g 66 61 (.fa 7 (t 65))), W (g 67 61 (.ld none (t
  66))), P (g 68 61 (.ar .geq (t 63) (t 67))), P (o 69 (.pk (t 61) (t 68) F)), E (k 70 (f f_morph_demand) [(t 69)])]) (Q (O [fa 71 3 6, ld 72 71, m 73 0, m 74 5, k 75 (t 72) [(t 73),
  (t 74)]]) (Q (.dops true [] [] [P (m 76 0), P (m 77 0), P (m 78 1), W (k 79 (f f_strings_SplitN) [(t 78), (s [32]), (i 2)]), P (o 80 (.ias 1 (t 79) (i 0))), W (ld 81 80), P (fa 82 0
  6), W (ld 83 82), P (o 84 (.nc (t 76))), P (fa 85 6 84), K (n (.st 1 (t 85) (t 81))), P (o 86 (.nc (t 77))), P (fa 87 7 86), K (n (.st 1 (t 87) (t 83)))]) (Q (O [n (.st 1 (t 4) T)])
  R))))))))))
def kc_morph_reader_read : AC :=
  (O [o 4 (.nw [(.bool false)] t_bool)])
def ka_morph_reader_read : AFn := ⟨kc_morph_reader_read, 88, [.cell 4 none], .keep, [], (some ([⟨(some 10), none, (.op (.mf (.func f_morph_reader_read_1) [] [(.t 4)]))⟩], (.t 10), kb_morph_reader_read))⟩
def kc_morph_Check : AC :=
  (Q (O [o 1 (.bx t_api_Lexicon (t 0)), mc 2 (u 0)]) (Q (O [la 4 6 1, o 5 (.bd [(.str []), (.slice .nil 2 []), (.slice .nil 2 []), (.slice .nil 4 []), (.slice .nil 4 []), (.slice .nil
  3 [])] [(0, 6)] [(0, (t 4))]), o 3 (.nw [(.str []), (.slice .nil 2 []), (.slice .nil 2 []), (.slice .nil 4 []), (.slice .nil 4 []), (.slice .nil 3 [])] t_morph_checker), n (.st 6 (t
  3) (t 5))]) (Q (O [la 6 6 3, o 7 (.mf (.func f_morph_checker_vowels) [(t 6)] []), o 8 (.mf (.func f_morph_Check_1) [] [(t 1), (t 3)]), o 9 (.mf (.func f_morph_Check_2) [] [(t 1), (t
  3)]), o 10 (.mf (.func f_morph_Check_3) [] [(t 1), (t 3)]), o 11 (.mf (.func f_morph_Check_4) [] [(t 1), (t 3)]), o 12 (.mf (.func f_morph_Check_5) [] [(t 1), (t 3)]), o 13 (.bs 1
  [.nilfn] 6 [(0, (t 7)), (1, (t 8)), (2, (t 9)), (3, (t 10)), (4, (t 11)), (5, (t 12))]), k 14 (f f_morph_first) [(t 13)], m 2 14]) R)))
def ka_morph_Check : AFn := ⟨kc_morph_Check, 15, [.t 2], .keep, [], none⟩
def kc_morph_asked : AC :=
  (Q (O [o 3 (.bx t_api_Lexicon (t 0)), o 6 (.nw [(.str []), (.slice .nil 2 []), (.slice .nil 2 []), (.slice .nil 4 []), (.slice .nil 4 []), (.slice .nil 3 [])] t_morph_language), o 7
  (.nw [(.int .i64 0), (.str []), (.str []), (.slice .nil 2 [])] t_api_Slot), mc 8 (u 0)]) (Q (Q (O [la 13 6 3, k 14 (f f_morph_Check) [(t 13)], m 9 14]) (Q (O [m 15 9, o 16 (.ar .neq
  (t 15) (u 0))]) (C 16 (Q (O [o 17 (.bd [(.str []), (.slice .nil 2 []), (.slice .nil 2 []), (.slice .nil 4 []), (.slice .nil 4 []), (.slice .nil 3 [])] [(0, 6)] []), o 18 (.bd [(.int
  .i64 0), (.str []), (.str []), (.slice .nil 2 [])] [(0, 1), (1, 1), (2, 1), (3, 1)] []), m 19 9, n (.st 6 (t 6) (t 17)), n (.st 4 (t 7) (t 18)), m 8 19]) R) X))) (Q (O [la 20 6 3, o
  21 (.bd [(.str []), (.slice .nil 2 []), (.slice .nil 2 []), (.slice .nil 4 []), (.slice .nil 4 []), (.slice .nil 3 [])] [(0, 6)] [(0, (t 20))]), o 10 (.nw [(.str []), (.slice .nil 2
  []), (.slice .nil 2 []), (.slice .nil 4 []), (.slice .nil 4 []), (.slice .nil 3 [])] t_morph_language), n (.st 6 (t 10) (t 21))]) (Q (O [la 23 6 10, m 24 1, m 25 2, k 26 (f
  f_morph_language_slot) [(t 23), (t 24), (t 25)], m 22 26, ex 27 22 0, ex 28 22 1, o 11 (.nw [(.int .i64 0), (.str []), (.str []), (.slice .nil 2 [])] t_api_Slot), n (.st 4 (t 11) (t
  27)), m 12 28]) (Q (Q (O [m 29 12, no 30 29]) (C 30 (Q (O [o 31 (.bd [(.str []), (.slice .nil 2 []), (.slice .nil 2 []), (.slice .nil 4 []), (.slice .nil 4 []), (.slice .nil 3 [])]
  [(0, 6)] []), o 32 (.bd [(.int .i64 0), (.str []), (.str []), (.slice .nil 2 [])] [(0, 1), (1, 1), (2, 1), (3, 1)] []), n (.st 6 (t 6) (t 31)), n (.st 4 (t 7) (t 32)), mc 8 (u 7)])
  R) X)) (Q (.dops true [] [] [W (la 33 6 10), W (la 34 4 11), K (n (.st 6 (t 6) (t 33))), K (n (.st 4 (t 7) (t 34))), P (mc 8 (u 0))]) R))))))
def ka_morph_asked : AFn := ⟨kc_morph_asked, 35, [.cell 6 (some 6), .cell 7 (some 4), .t 8], .keep, [], none⟩
def l_kmorph_language_steps_0 : AC :=
  (Q (O [bl 29 28 27]) (Q (C 29 X (.exit 0)) (Q (.block 1 (Q (O [ia 30 4 26 28, la 31 4 30, o 12 (.nw [(.str []), (.str []), (.str []), (.str [])] t_api_Spell), n (.st 4 (t 12) (t
  31))]) (Q (Q (O [la 33 6 3, la 34 4 12, m 35 8, k 36 (f f_morph_language_spell) [(t 33), (t 34), (t 35)], m 32 36, ex 37 32 0, ex 38 32 1, m 8 37, m 9 38]) (Q (O [m 39 9, no 40 39])
  (C 40 (Q (O [mc 6 (.c (.slice .nil 1 [])), mc 7 F]) R) X))) (O [m 41 10, m 42 8, o 43 (.bs 1 [(.str [])] 1 [(0, (t 42))]), o 44 (.ap false t_string 1 16 false (t 41) (t 43)), m 10
  44])))) (O [ad 45 28, m 28 45]))))
def kc_morph_language_steps : AC :=
  (Q (O [o 3 (.bx t_morph_language (t 0)), o 5 (.bx t_api_Slot (t 2)), mc 6 (.c (.slice .nil 1 [])), mc 7 F]) (Q (O [la 14 6 3, m 15 1, la 16 4 5, k 17 (f f_morph_language_underlying)
  [(t 14), (t 15), (t 16)], m 13 17, ex 18 13 0, ex 19 13 1, m 8 18, m 9 19]) (Q (Q (O [m 20 9, no 21 20]) (C 21 (Q (O [mc 6 (.c (.slice .nil 1 [])), mc 7 F]) R) X)) (Q (O [m 22 8, o
  23 (.bs 1 [(.str [])] 1 [(0, (t 22))]), m 10 23]) (Q (Q (O [fa 24 0 3, fa 25 4 24, ld 26 25, ls 27 26, mc 28 (i 0)]) (.block 0 (.loop ⟨none, [], false⟩ l_kmorph_language_steps_0)))
  (Q (O [m 46 10, m 6 46, mc 7 T]) R))))))
def ka_morph_language_steps : AFn := ⟨kc_morph_language_steps, 47, [.t 6, .t 7], .keep, [], none⟩
def l_kmorph_language_form_0 : AC :=
  (Q (O [bl 23 22 21]) (Q (C 23 X (.exit 0)) (Q (.block 1 (Q (O [ia 24 2 20 22, la 25 2 24, o 8 (.nw [(.int .i64 0), (.str [])] t_api_Irregular), n (.st 2 (t 8) (t 25))]) (Q (O [fa 26
  0 8, ld 27 26, m 28 2, o 29 (.ar .eql (t 27) (t 28))]) (C 29 (Q (O [fa 30 1 8, ld 31 30, m 6 31]) R) X)))) (O [ad 32 22, m 22 32]))))
def kc_morph_language_form : AC :=
  (Q (O [o 3 (.bx t_morph_language (t 0)), mc 6 (s [])]) (Q (Q (O [fa 14 0 3, fa 15 3 14, ld 16 15, m 17 1, ia 18 4 16 17, fa 19 3 18, ld 20 19, ls 21 20, mc 22 (i 0)]) (.block 0
  (.loop ⟨none, [], false⟩ l_kmorph_language_form_0))) (Q (O [la 34 6 3, m 35 1, m 36 2, k 37 (f f_morph_language_slot) [(t 34), (t 35), (t 36)], m 33 37, ex 38 33 0, ex 39 33 1, o 9
  (.nw [(.int .i64 0), (.str []), (.str []), (.slice .nil 2 [])] t_api_Slot), n (.st 4 (t 9) (t 38)), m 10 39]) (Q (O [la 41 6 3, m 42 1, la 43 4 9, k 44 (f f_morph_language_steps)
  [(t 41), (t 42), (t 43)], m 40 44, ex 45 40 0, ex 46 40 1, m 11 45, m 12 46]) (Q (Q (O [m 47 12, no 48 47]) (C 48 (Q (O [mc 6 (s [])]) R) X)) (Q (O [m 49 11, m 50 11, ls 51 50, o 52
  (.ar .sub (t 51) (i 1)), ia 53 1 49 52, ld 54 53, k 55 (f f_strings_ReplaceAll) [(t 54), (s [43]), (s [])], m 13 55]) (Q (Q (O [m 56 13, lt 57 56, o 58 (.ar .gtr (t 57) (i 24))]) (C
  58 (Q (O [mc 6 (s [])]) R) X)) (Q (O [m 59 13, m 6 59]) R))))))))
def ka_morph_language_form : AFn := ⟨kc_morph_language_form, 60, [.t 6], .keep, [], none⟩
def kc_morph_language_slot : AC :=
  (Q (O [o 3 (.bx t_morph_language (t 0)), o 6 (.nw [(.int .i64 0), (.str []), (.str []), (.slice .nil 2 [])] t_api_Slot), mc 7 F]) (Q (Q (O [m 10 1, o 11 (.ar .lss (t 10) (i 0)), m
  12 11, h 13 12 (.mv (t 1)), h 14 12 (.fa 0 (t 3)), h 15 12 (.fa 3 (t 14)), h 16 12 (.ld none (t 15)), h 17 12 (.len .sl (t 16)), h 18 12 (.ar .geq (t 13) (t 17)), o 19 (.pk (t 12) T
  (t 18))]) (C 19 (Q (O [o 20 (.bd [(.int .i64 0), (.str []), (.str []), (.slice .nil 2 [])] [(0, 1), (1, 1), (2, 1), (3, 1)] []), n (.st 4 (t 6) (t 20)), mc 7 F]) R) X)) (Q (D [P (fa
  22 0 3), W (la 23 6 22), P (fa 24 0 3), P (fa 25 3 24), W (ld 26 25), P (m 27 1), P (ia 28 4 26 27), P (fa 29 1 28), W (ld 30 29), W (k 31 (f f_morph_classOf) [(t 23), (t 30)]), P
  (m 21 31), P (ex 32 21 0), P (ex 33 21 1), K (o 8 (.nw [(.str []), (.slice .nil 4 [])] t_api_Class)), E (n (.st 2 (t 8) (t 32))), P (m 9 33)]) (Q (Q (O [m 34 2, o 35 (.ar .lss (t
  34) (i 0)), m 36 35, h 37 36 (.mv (t 2)), h 38 36 (.fa 1 (t 8)), h 39 36 (.ld none (t 38)), h 40 36 (.len .sl (t 39)), h 41 36 (.ar .geq (t 37) (t 40)), o 42 (.pk (t 36) T (t 41))])
  (C 42 (Q (O [o 43 (.bd [(.int .i64 0), (.str []), (.str []), (.slice .nil 2 [])] [(0, 1), (1, 1), (2, 1), (3, 1)] []), n (.st 4 (t 6) (t 43)), mc 7 F]) R) X)) (Q (O [fa 44 1 8, ld
  45 44, m 46 2, ia 47 4 45 46, la 48 4 47, n (.st 4 (t 6) (t 48)), mc 7 T]) R)))))
def ka_morph_language_slot : AFn := ⟨kc_morph_language_slot, 49, [.cell 6 (some 4), .t 7], .keep, [], none⟩
def kc_slices_Contains_string_string : AC :=
  (Q (O [mc 4 F]) (Q (O [m 5 0, m 6 1, k 7 (f f_slices_Index_string_string) [(t 5), (t 6)], o 8 (.ar .geq (t 7) (i 0)), m 4 8]) R))
def ka_slices_Contains_string_string : AFn := ⟨kc_slices_Contains_string_string, 9, [.t 4], .keep, [], none⟩
def l_kmorph_all_0 : AC :=
  (Q (O [bl 9 8 7]) (Q (C 9 X (.exit 0)) (Q (.block 1 (Q (O [m 10 8, m 5 10]) (Q (O [m 11 1, m 12 0, m 13 5, o 14 (.ixs (t 12) (t 13)), k 15 (t 11) [(t 14)], no 16 15]) (C 16 (Q (O
  [mc 4 F]) R) X)))) (O [ad 17 8, m 8 17]))))
def kc_morph_all : AC :=
  (Q (O [mc 4 F]) (Q (Q (O [m 6 0, lt 7 6, mc 8 (i 0)]) (.block 0 (.loop ⟨none, [], false⟩ l_kmorph_all_0))) (Q (O [mc 4 T]) R)))
def ka_morph_all : AFn := ⟨kc_morph_all, 18, [.t 4], .keep, [], none⟩
def kc_morph_symbol : AC :=
  (Q (O [mc 2 F]) (Q (O [m 3 0, k 4 (f f_morph_letter) [(t 3)], m 5 4, h 6 5 (.mv (t 0)), h 7 5 (.ar .eql (t 6) (u 43)), o 8 (.pk (t 5) T (t 7)), m 2 8]) R))
def ka_morph_symbol : AFn := ⟨kc_morph_symbol, 9, [.t 2], .keep, [], none⟩
def l_kmorph_language_spell_0 : AC :=
  (Q (Q (O [m 10 9, m 11 2, lt 12 11, bl 13 10 12]) (C 13 X (.exit 0))) (.block 1 (Q (D [P (m 14 2), P (m 15 9), P (o 16 (.sls (t 14) (some (t 15)) none)), P (fa 17 0 4), W (ld 18
  17), E (k 19 (f f_strings_HasPrefix) [(t 16), (t 18)]), P (m 20 19), W (g 21 20 (.ld (some 6) (t 3))), P (g 22 20 (.fa 2 (t 4))), W (g 23 20 (.ld none (t 22))), P (g 24 20 (.mv (t
  2))), P (g 25 20 (.mv (t 9))), E (⟨(some 26), (some (20, true)), (.call (.c (.fn (.func f_morph_language_left) [] [])) [(.t 21), (.t 23), (.t 24), (.t 25)])⟩), P (o 27 (.pk (t 20)
  (t 26) F)), P (m 28 27), W (g 29 28 (.ld (some 6) (t 3))), P (g 30 28 (.fa 3 (t 4))), W (g 31 28 (.ld none (t 30))), P (g 32 28 (.mv (t 2))), P (g 33 28 (.mv (t 9))), P (g 34 28
  (.fa 0 (t 4))), W (g 35 28 (.ld none (t 34))), W (g 36 28 (.len .str (t 35))), P (g 37 28 (.ar .add (t 33) (t 36))), E (⟨(some 38), (some (28, true)), (.call (.c (.fn (.func
  f_morph_language_right) [] [])) [(.t 29), (.t 31), (.t 32), (.t 37)])⟩), P (o 39 (.pk (t 28) (t 38) F))]) (C 39 (Q (O [fa 40 1 4, ld 41 40, k 42 (f f_strings_Builder_WriteString)
  [(t 8), (t 41)]]) (O [m 43 9, fa 44 0 4, ld 45 44, lt 46 45, o 47 (.ar .add (t 43) (t 46)), m 9 47])) (Q (O [m 48 2, m 49 9, o 50 (.ixs (t 48) (t 49)), k 51 (f
  f_strings_Builder_WriteByte) [(t 8), (t 50)]]) (O [m 52 9, ad 53 52, m 9 53]))))))
def kc_morph_language_spell : AC :=
  (Q (O [o 3 (.bx t_morph_language (t 0)), o 4 (.bx t_api_Spell (t 1)), mc 6 (s []), mc 7 F]) (Q (O [o 8 (.nwb [.nilp, (.slice .nil 1 [])] t_strings_Builder 1 t_uint8)]) (Q (Q (O [mc
  9 (i 0)]) (.block 0 (.loop ⟨none, [], false⟩ l_kmorph_language_spell_0))) (Q (O [k 54 (f f_strings_Builder_String) [(t 8)], k 55 (f f_strings_Builder_Len) [(t 8)], o 56 (.ar .leq (t
  55) (i 512)), m 6 54, m 7 56]) R))))
def ka_morph_language_spell : AFn := ⟨kc_morph_language_spell, 57, [.t 6, .t 7], .keep, [], none⟩
def kc_morph_clash : AC :=
  (Q (O [o 3 (.bx t_sl_api_Feat (t 1)), mc 4 F]) (Q (O [m 5 0, o 6 (.mf (.func f_morph_clash_1) [] [(t 3)]), k 7 (f f_slices_ContainsFunc_api_Feat_api_Feat) [(t 5), (t 6)], m 4 7])
  R))
def ka_morph_clash : AFn := ⟨kc_morph_clash, 8, [.t 4], .keep, [], none⟩
def kc_morph_Name_1 : AC :=
  (Q (O [mc 2 F]) (Q (O [m 3 0, k 4 (f f_morph_letter) [(t 3)], m 5 4, h 6 5 (.mv (t 0)), h 7 5 (.ar .geq (t 6) (u 65)), h 8 5 (.mv (t 7)), g 9 8 (.mv (t 0)), g 10 8 (.ar .leq (t 9)
  (u 90)), h 11 5 (.pk (t 8) (t 10) F), o 12 (.pk (t 5) T (t 11)), m 2 12]) R))
def ka_morph_Name_1 : AFn := ⟨kc_morph_Name_1, 13, [.t 2], .keep, [], none⟩
def kc_morph_letter : AC :=
  (Q (O [mc 2 F]) (Q (O [m 3 0, o 4 (.ar .geq (t 3) (u 97)), m 5 4, g 6 5 (.mv (t 0)), g 7 5 (.ar .leq (t 6) (u 122)), o 8 (.pk (t 5) (t 7) F), m 2 8]) R))
def ka_morph_letter : AFn := ⟨kc_morph_letter, 9, [.t 2], .keep, [], none⟩
def kc_morph_Name_2 : AC :=
  (Q (O [mc 3 F]) (Q (O [ld 4 1, m 5 0, k 6 (t 4) [(t 5)], m 7 6, h 8 7 (.mv (t 0)), h 9 7 (.ar .geq (t 8) (u 48)), h 10 7 (.mv (t 9)), g 11 10 (.mv (t 0)), g 12 10 (.ar .leq (t 11)
  (u 57)), h 13 7 (.pk (t 10) (t 12) F), o 14 (.pk (t 7) T (t 13)), m 15 14, h 16 15 (.mv (t 0)), h 17 15 (.ar .eql (t 16) (u 95)), o 18 (.pk (t 15) T (t 17)), m 3 18]) R))
def ka_morph_Name_2 : AFn := ⟨kc_morph_Name_2, 19, [.t 3], .keep, [], none⟩
def kc_morph_Word_1 : AC :=
  (Q (O [mc 2 F]) (Q (O [m 3 0, o 4 (.ar .geq (t 3) (u 33)), m 5 4, g 6 5 (.mv (t 0)), g 7 5 (.ar .leq (t 6) (u 126)), o 8 (.pk (t 5) (t 7) F), m 2 8]) R))
def ka_morph_Word_1 : AFn := ⟨kc_morph_Word_1, 9, [.t 2], .keep, [], none⟩
def kc_slices_ContainsFunc_api_Feat_api_Feat : AC :=
  (Q (O [mc 4 F]) (Q (O [m 5 0, m 6 1, k 7 (f f_slices_IndexFunc_api_Feat_api_Feat) [(t 5), (t 6)], o 8 (.ar .geq (t 7) (i 0)), m 4 8]) R))
def ka_slices_ContainsFunc_api_Feat_api_Feat : AFn := ⟨kc_slices_ContainsFunc_api_Feat_api_Feat, 9, [.t 4], .keep, [], none⟩
def l_kstrings_genSplit_0 : AC :=
  (Q (Q (O [m 34 10, m 35 3, bl 36 34 35]) (C 36 X (.exit 0))) (.block 1 (Q (O [m 37 0, m 38 1, k 39 (f f_strings_Index) [(t 37), (t 38)], m 11 39]) (Q (Q (O [m 40 11, o 41 (.ar .lss
  (t 40) (i 0))]) (C 41 (.exit 0) X)) (Q (O [m 42 9, m 43 10, m 44 0, m 45 11, m 46 2, o 47 (.ar .add (t 45) (t 46)), o 48 (.sls (t 44) none (some (t 47))), ia 49 1 42 43, n (.st 1 (t
  49) (t 48))]) (Q (O [m 50 0, m 51 11, m 52 1, lt 53 52, o 54 (.ar .add (t 51) (t 53)), o 55 (.sls (t 50) (some (t 54)) none), m 0 55]) (O [m 56 10, ad 57 56, m 10 57])))))))
def kc_strings_genSplit : AC :=
  (Q (O [mc 8 (.c (.slice .nil 1 []))]) (Q (Q (O [m 12 3, o 13 (.ar .eql (t 12) (i 0))]) (C 13 (Q (O [mc 8 (.c (.slice .nil 1 []))]) R) X)) (Q (Q (O [m 14 1, o 15 (.ar .eql (t 14) (s
  []))]) (C 15 (Q (O [m 16 0, m 17 3, k 18 (f f_strings_explode) [(t 16), (t 17)], m 8 18]) R) X)) (Q (Q (O [m 19 3, o 20 (.ar .lss (t 19) (i 0))]) (C 20 (O [m 21 0, m 22 1, k 23 (f
  f_strings_Count) [(t 21), (t 22)], ad 24 23, m 3 24]) X)) (Q (O [m 25 3, m 26 0, lt 27 26, ad 28 27, o 29 (.mn (t 25) (t 28)), m 3 29]) (Q (O [m 30 3, o 31 (.ms t_string 16 [(.str
  [])] (t 30) (t 30)), m 9 31]) (Q (O [m 32 3, o 33 (.ar .sub (t 32) (i 1)), m 3 33]) (Q (O [mc 10 (i 0)]) (Q (.block 0 (.loop ⟨none, [], false⟩ l_kstrings_genSplit_0)) (Q (O [m 58 9,
  m 59 10, m 60 0, ia 61 1 58 59, n (.st 1 (t 61) (t 60))]) (Q (O [m 62 9, m 63 10, ad 64 63, o 65 (.sll 1 (t 62) none (some (t 64)) none), m 8 65]) R)))))))))))
def ka_strings_genSplit : AFn := ⟨kc_strings_genSplit, 66, [.t 8], .keep, [], none⟩
-- FAIL fn63 morph_reader_read_1
def kdc_morph_reader_read_1 : AC :=
  (.block 0 (Q (O [o 6 (.eq false (.ifc true) (t 4) (.c .nilif))]) (C 6 (O [m 1 4]) (Q (O [o 7 (.ta t_morph_wrong (some (.agg [])) true (t 4)), ex 8 7 1, ex 9 7 0]) (C 8 (Q (O [o 2
  (.nw [] t_morph_wrong), n (.st 0 (t 2) (t 9))]) (O [n (.st 1 (t 0) F)])) (Q (O [m 3 4]) (O [m 5 3, ⟨none, none, (.panic (.t 5))⟩])))))))
def kda_morph_reader_read_1 : AFn := ⟨kdc_morph_reader_read_1, 10, [], .keep, [], none⟩
def kc_morph_kinds : AC :=
  (Q (O [mc 0 (.c .nilmap)]) (Q (O [o 1 .mm, o 2 (.bd [(.int .i64 0), (.int .i64 0), (.bool false), .nilfn] [(0, 1), (1, 1), (2, 1), (3, 1)] [(0, (i 0)), (1, (i 1)), (2, F), (3, (f
  f_morph_kinds_1))]), n (.mu .str (t 1) (s [118, 111, 119, 101, 108, 115]) (t 2)), o 3 (.bd [(.int .i64 0), (.int .i64 0), (.bool false), .nilfn] [(0, 1), (1, 1), (2, 1), (3, 1)]
  [(0, (i 1)), (1, (i 1)), (2, T), (3, (f f_morph_kinds_2))]), n (.mu .str (t 1) (s [116, 114, 97, 105, 116]) (t 3)), o 4 (.bd [(.int .i64 0), (.int .i64 0), (.bool false), .nilfn]
  [(0, 1), (1, 1), (2, 1), (3, 1)] [(0, (i 2)), (1, (i 1)), (2, F), (3, (f f_morph_kinds_3))]), n (.mu .str (t 1) (s [99, 108, 97, 115, 115]) (t 4)), o 5 (.bd [(.int .i64 0), (.int
  .i64 0), (.bool false), .nilfn] [(0, 1), (1, 1), (2, 1), (3, 1)] [(0, (i 2)), (1, (i 3)), (2, T), (3, (f f_morph_kinds_4))]), n (.mu .str (t 1) (s [115, 108, 111, 116]) (t 5)), o 6
  (.bd [(.int .i64 0), (.int .i64 0), (.bool false), .nilfn] [(0, 1), (1, 1), (2, 1), (3, 1)] [(0, (i 3)), (1, (i 2)), (2, T), (3, (f f_morph_kinds_5))]), n (.mu .str (t 1) (s [101,
  110, 116, 114, 121]) (t 6)), o 7 (.bd [(.int .i64 0), (.int .i64 0), (.bool false), .nilfn] [(0, 1), (1, 1), (2, 1), (3, 1)] [(0, (i 3)), (1, (i 2)), (2, F), (3, (f
  f_morph_kinds_6))]), n (.mu .str (t 1) (s [102, 111, 114, 109]) (t 7)), o 8 (.bd [(.int .i64 0), (.int .i64 0), (.bool false), .nilfn] [(0, 1), (1, 1), (2, 1), (3, 1)] [(0, (i 4)),
  (1, (i 4)), (2, F), (3, (f f_morph_kinds_7))]), n (.mu .str (t 1) (s [115, 112, 101, 108, 108]) (t 8)), o 9 (.bd [(.int .i64 0), (.int .i64 0), (.bool false), .nilfn] [(0, 1), (1,
  1), (2, 1), (3, 1)] [(0, (i 5)), (1, (i 2)), (2, T), (3, (f f_morph_kinds_8))]), n (.mu .str (t 1) (s [108, 105, 110, 107]) (t 9)), m 10 1, m 0 10]) R))
def ka_morph_kinds : AFn := ⟨kc_morph_kinds, 11, [.t 0], .keep, [], none⟩
def kc_morph_demand : AC :=
  (Q (O [m 2 0, no 3 2]) (C 3 (O [o 4 (.bd [] [] []), o 5 (.mi t_morph_wrong (t 4)), ⟨none, none, (.panic (.t 5))⟩]) X))
def ka_morph_demand : AFn := ⟨kc_morph_demand, 6, [], .keep, [], none⟩
def kc_strings_SplitN : AC :=
  (Q (O [mc 6 (.c (.slice .nil 1 []))]) (Q (O [m 7 0, m 8 1, m 9 2, k 10 (f f_strings_genSplit) [(t 7), (t 8), (i 0), (t 9)], m 6 10]) R))
def ka_strings_SplitN : AFn := ⟨kc_strings_SplitN, 11, [.t 6], .keep, [], none⟩
def l_kmorph_first_0 : AC :=
  (Q (O [bl 9 8 7]) (Q (C 9 X (.exit 0)) (Q (.block 1 (Q (O [ia 10 1 6 8, ld 11 10, m 4 11]) (Q (O [m 12 4, k 13 (t 12) [], m 5 13]) (Q (O [m 14 5, o 15 (.ar .neq (t 14) (u 0))]) (C
  15 (Q (O [m 16 5, m 2 16]) R) X))))) (O [ad 17 8, m 8 17]))))
def kc_morph_first : AC :=
  (Q (O [mc 2 (u 0)]) (Q (Q (O [m 6 0, ls 7 6, mc 8 (i 0)]) (.block 0 (.loop ⟨none, [], false⟩ l_kmorph_first_0))) (Q (O [mc 2 (u 0)]) R)))
def ka_morph_first : AFn := ⟨kc_morph_first, 18, [.t 2], .keep, [], none⟩
def l_kmorph_checker_vowels_0 : AC :=
  (Q (O [bl 11 10 9]) (Q (C 11 X (.exit 0)) (Q (.block 1 (Q (O [m 12 10, m 4 12]) (Q (D [P (m 13 3), P (m 14 4), P (o 15 (.ixs (t 13) (t 14))), E (k 16 (f f_morph_letter) [(t 15)]), P
  (no 17 16), P (m 18 17), P (h 19 18 (.mv (t 4))), P (h 20 18 (.ar .gtr (t 19) (i 0))), P (h 21 18 (.mv (t 20))), P (g 22 21 (.mv (t 3))), P (g 23 21 (.mv (t 4))), P (g 24 21 (.ar
  .sub (t 23) (i 1))), P (g 25 21 (.ixs (t 22) (t 24))), P (g 26 21 (.mv (t 3))), P (g 27 21 (.mv (t 4))), P (g 28 21 (.ixs (t 26) (t 27))), P (g 29 21 (.ar .geq (t 25) (t 28))), P (h
  30 18 (.pk (t 21) (t 29) F)), P (o 31 (.pk (t 18) T (t 30)))]) (C 31 (Q (O [mc 2 (u 1)]) R) X)))) (O [ad 32 10, m 10 32]))))
def kc_morph_checker_vowels : AC :=
  (Q (O [o 1 (.bx t_morph_checker (t 0)), mc 2 (u 0)]) (Q (O [fa 5 0 1, fa 6 0 5, ld 7 6, m 3 7]) (Q (Q (O [m 8 3, lt 9 8, mc 10 (i 0)]) (.block 0 (.loop ⟨none, [], false⟩
  l_kmorph_checker_vowels_0))) (Q (O [mc 2 (u 0)]) R))))
def ka_morph_checker_vowels : AFn := ⟨kc_morph_checker_vowels, 33, [.t 2], .keep, [], none⟩
def kc_morph_Check_1 : AC :=
  (Q (O [mc 2 (u 0)]) (Q (O [fa 3 1 0, ld 4 3, la 5 6 1, o 6 (.mf (.func f_morph_checker_trait) [(t 5)] []), k 7 (f f_morph_each_api_Trait) [(t 4), (i 8), (t 6)], m 2 7]) R))
def ka_morph_Check_1 : AFn := ⟨kc_morph_Check_1, 8, [.t 2], .keep, [], none⟩
def l_kmorph_each_api_Trait_0 : AC :=
  (Q (O [bl 17 16 15]) (Q (C 17 X (.exit 0)) (Q (.block 1 (Q (O [m 18 16, ia 19 2 14 16, la 20 2 19, o 8 (.nw [(.str []), (.slice .nil 1 [])] t_api_Trait), m 7 18, n (.st 2 (t 8) (t
  20))]) (Q (O [m 21 2, m 22 7, la 23 2 8, k 24 (t 21) [(t 22), (t 23)], m 9 24]) (Q (O [m 25 9, o 26 (.ar .neq (t 25) (u 0))]) (C 26 (Q (O [m 27 9, m 6 27]) R) X))))) (O [ad 28 16, m
  16 28]))))
def kc_morph_each_api_Trait : AC :=
  (Q (O [mc 6 (u 0)]) (Q (Q (O [m 10 0, ls 11 10, m 12 1, o 13 (.ar .gtr (t 11) (t 12))]) (C 13 (Q (O [mc 6 (u 3)]) R) X)) (Q (Q (O [m 14 0, ls 15 14, mc 16 (i 0)]) (.block 0 (.loop
  ⟨none, [], false⟩ l_kmorph_each_api_Trait_0))) (Q (O [mc 6 (u 0)]) R))))
def ka_morph_each_api_Trait : AFn := ⟨kc_morph_each_api_Trait, 29, [.t 6], .keep, [], none⟩
def l_kmorph_checker_trait_0 : AC :=
  (Q (O [bl 36 35 34]) (Q (C 36 X (.exit 1)) (Q (.block 2 (Q (O [m 37 35, ia 38 1 33 35, ld 39 38, m 7 37, m 8 39]) (Q (Q (O [m 40 8, k 41 (f f_morph_Name) [(t 40)], no 42 41]) (C 42
  (Q (O [mc 6 (u 5)]) R) X)) (Q (O [fa 43 1 5, ld 44 43, m 45 7, o 46 (.sll 1 (t 44) none (some (t 45)) none), m 47 8, k 48 (f f_slices_Contains_string_string) [(t 46), (t 47)]]) (C
  48 (Q (O [mc 6 (u 6)]) R) X))))) (O [ad 49 35, m 35 49]))))
def kc_morph_checker_trait : AC :=
  (Q (O [o 3 (.bx t_morph_checker (t 0)), o 5 (.bx t_api_Trait (t 2)), mc 6 (u 0)]) (Q (.block 0 (Q (O [fa 10 0 5, ld 11 10, k 12 (f f_morph_Name) [(t 11)], no 13 12, m 9 13]) (C 9 (Q
  (O [mc 6 (u 5)]) R) (Q (O [fa 15 0 3, fa 16 1 15, ld 17 16, m 18 1, o 19 (.sll 2 (t 17) none (some (t 18)) none), o 20 (.mf (.func f_morph_checker_trait_1) [] [(t 5)]), k 21 (f
  f_slices_ContainsFunc_api_Trait_api_Trait) [(t 19), (t 20)], m 14 21]) (C 14 (Q (O [mc 6 (u 6)]) R) (Q (O [fa 23 1 5, ld 24 23, ls 25 24, o 26 (.ar .gtr (t 25) (i 8)), m 22 26]) (C
  22 (Q (O [mc 6 (u 3)]) R) (Q (O [fa 28 1 5, ld 29 28, ls 30 29, o 31 (.ar .eql (t 30) (i 0)), m 27 31]) (C 27 (Q (O [mc 6 (u 1)]) R) X))))))))) (Q (Q (O [fa 32 1 5, ld 33 32, ls 34
  33, mc 35 (i 0)]) (.block 1 (.loop ⟨none, [], false⟩ l_kmorph_checker_trait_0))) (Q (O [mc 6 (u 0)]) R))))
def ka_morph_checker_trait : AFn := ⟨kc_morph_checker_trait, 50, [.t 6], .keep, [], none⟩
def kc_morph_Check_2 : AC :=
  (Q (O [mc 2 (u 0)]) (Q (O [fa 3 2 0, ld 4 3, la 5 6 1, o 6 (.mf (.func f_morph_checker_class) [(t 5)] []), k 7 (f f_morph_each_api_Class) [(t 4), (i 16), (t 6)], m 2 7]) R))
def ka_morph_Check_2 : AFn := ⟨kc_morph_Check_2, 8, [.t 2], .keep, [], none⟩
def l_kmorph_each_api_Class_0 : AC :=
  (Q (O [bl 17 16 15]) (Q (C 17 X (.exit 0)) (Q (.block 1 (Q (O [m 18 16, ia 19 2 14 16, la 20 2 19, o 8 (.nw [(.str []), (.slice .nil 4 [])] t_api_Class), m 7 18, n (.st 2 (t 8) (t
  20))]) (Q (O [m 21 2, m 22 7, la 23 2 8, k 24 (t 21) [(t 22), (t 23)], m 9 24]) (Q (O [m 25 9, o 26 (.ar .neq (t 25) (u 0))]) (C 26 (Q (O [m 27 9, m 6 27]) R) X))))) (O [ad 28 16, m
  16 28]))))
def kc_morph_each_api_Class : AC :=
  (Q (O [mc 6 (u 0)]) (Q (Q (O [m 10 0, ls 11 10, m 12 1, o 13 (.ar .gtr (t 11) (t 12))]) (C 13 (Q (O [mc 6 (u 3)]) R) X)) (Q (Q (O [m 14 0, ls 15 14, mc 16 (i 0)]) (.block 0 (.loop
  ⟨none, [], false⟩ l_kmorph_each_api_Class_0))) (Q (O [mc 6 (u 0)]) R))))
def ka_morph_each_api_Class : AFn := ⟨kc_morph_each_api_Class, 29, [.t 6], .keep, [], none⟩
def kc_morph_checker_class : AC :=
  (Q (O [o 3 (.bx t_morph_checker (t 0)), o 5 (.bx t_api_Class (t 2)), mc 6 (u 0)]) (Q (.block 0 (Q (O [fa 8 0 5, ld 9 8, k 10 (f f_morph_Name) [(t 9)], no 11 10, m 7 11]) (C 7 (Q (O
  [mc 6 (u 5)]) R) (Q (O [fa 13 0 3, fa 14 2 13, ld 15 14, m 16 1, o 17 (.sll 2 (t 15) none (some (t 16)) none), o 18 (.mf (.func f_morph_checker_class_1) [] [(t 5)]), k 19 (f
  f_slices_ContainsFunc_api_Class_api_Class) [(t 17), (t 18)], m 12 19]) (C 12 (Q (O [mc 6 (u 6)]) R) (Q (O [fa 21 1 5, ld 22 21, ls 23 22, o 24 (.ar .gtr (t 23) (i 24)), m 20 24]) (C
  20 (Q (O [mc 6 (u 3)]) R) (Q (O [fa 26 1 5, ld 27 26, ls 28 27, o 29 (.ar .eql (t 28) (i 0)), m 25 29]) (C 25 (Q (O [mc 6 (u 1)]) R) X))))))))) (Q (O [fa 30 1 5, ld 31 30, o 32 (.mf
  (.func f_morph_checker_class_2) [] [(t 3)]), k 33 (f f_morph_each_api_Slot) [(t 31), (i 24), (t 32)], m 6 33]) R)))
def ka_morph_checker_class : AFn := ⟨kc_morph_checker_class, 34, [.t 6], .keep, [], none⟩
def kc_morph_Check_3 : AC :=
  (Q (O [mc 2 (u 0)]) (Q (O [fa 3 3 0, ld 4 3, la 5 6 1, o 6 (.mf (.func f_morph_checker_entry) [(t 5)] []), k 7 (f f_morph_each_api_Entry) [(t 4), (i 128), (t 6)], m 2 7]) R))
def ka_morph_Check_3 : AFn := ⟨kc_morph_Check_3, 8, [.t 2], .keep, [], none⟩
def l_kmorph_each_api_Entry_0 : AC :=
  (Q (O [bl 17 16 15]) (Q (C 17 X (.exit 0)) (Q (.block 1 (Q (O [m 18 16, ia 19 4 14 16, la 20 4 19, o 8 (.nw [(.str []), (.str []), (.slice .nil 2 []), (.slice .nil 2 [])]
  t_api_Entry), m 7 18, n (.st 4 (t 8) (t 20))]) (Q (O [m 21 2, m 22 7, la 23 4 8, k 24 (t 21) [(t 22), (t 23)], m 9 24]) (Q (O [m 25 9, o 26 (.ar .neq (t 25) (u 0))]) (C 26 (Q (O [m
  27 9, m 6 27]) R) X))))) (O [ad 28 16, m 16 28]))))
def kc_morph_each_api_Entry : AC :=
  (Q (O [mc 6 (u 0)]) (Q (Q (O [m 10 0, ls 11 10, m 12 1, o 13 (.ar .gtr (t 11) (t 12))]) (C 13 (Q (O [mc 6 (u 3)]) R) X)) (Q (Q (O [m 14 0, ls 15 14, mc 16 (i 0)]) (.block 0 (.loop
  ⟨none, [], false⟩ l_kmorph_each_api_Entry_0))) (Q (O [mc 6 (u 0)]) R))))
def ka_morph_each_api_Entry : AFn := ⟨kc_morph_each_api_Entry, 29, [.t 6], .keep, [], none⟩
def l_kmorph_checker_entry_0 : AC :=
  (Q (O [bl 51 50 49]) (Q (C 51 X (.exit 1)) (Q (.block 2 (Q (O [m 52 50, ia 53 2 48 50, la 54 2 53, o 11 (.nw [(.int .i64 0), (.str [])] t_api_Irregular), m 10 52, n (.st 2 (t 11) (t
  54))]) (.block 3 (Q (O [fa 56 0 11, ld 57 56, o 58 (.ar .lss (t 57) (i 0)), m 59 58, h 60 59 (.fa 0 (t 11)), h 61 59 (.ld none (t 60)), h 62 59 (.fa 1 (t 7)), h 63 59 (.ld none (t
  62)), h 64 59 (.len .sl (t 63)), h 65 59 (.ar .geq (t 61) (t 64)), o 66 (.pk (t 59) T (t 65)), m 55 66]) (C 55 (Q (O [mc 6 (u 7)]) R) (Q (O [fa 68 3 5, ld 69 68, m 70 10, o 71 (.sll
  2 (t 69) none (some (t 70)) none), o 72 (.mf (.func f_morph_checker_entry_3) [] [(t 11)]), k 73 (f f_slices_ContainsFunc_api_Irregular_api_Irregular) [(t 71), (t 72)], m 67 73]) (C
  67 (Q (O [mc 6 (u 6)]) R) (Q (O [fa 75 1 11, ld 76 75, o 77 (.ar .neq (t 76) (s [])), m 78 77, g 79 78 (.fa 1 (t 11)), g 80 78 (.ld none (t 79)), ⟨(some 81), (some (78, true)),
  (.call (.c (.fn (.func f_morph_Plain) [] [])) [(.t 80)])⟩, g 82 78 (.un .not (t 81)), o 83 (.pk (t 78) (t 82) F), m 74 83]) (C 74 (Q (O [mc 6 (u 1)]) R) X))))))))) (O [ad 84 50, m
  50 84]))))
def kc_morph_checker_entry : AC :=
  (Q (O [o 3 (.bx t_morph_checker (t 0)), o 5 (.bx t_api_Entry (t 2)), mc 6 (u 0)]) (Q (O [fa 13 0 3, la 14 6 13, fa 15 1 5, ld 16 15, k 17 (f f_morph_classOf) [(t 14), (t 16)], m 12
  17, ex 18 12 0, ex 19 12 1, o 7 (.nw [(.str []), (.slice .nil 4 [])] t_api_Class), n (.st 2 (t 7) (t 18)), m 8 19]) (Q (.block 0 (Q (O [fa 21 0 5, ld 22 21, k 23 (f f_morph_Plain)
  [(t 22)], no 24 23, m 20 24]) (C 20 (Q (O [mc 6 (u 1)]) R) (Q (O [m 26 8, no 27 26, m 25 27]) (C 25 (Q (O [mc 6 (u 5)]) R) (Q (O [fa 29 0 3, fa 30 3 29, ld 31 30, m 32 1, o 33 (.sll
  4 (t 31) none (some (t 32)) none), o 34 (.mf (.func f_morph_checker_entry_1) [] [(t 5)]), k 35 (f f_slices_ContainsFunc_api_Entry_api_Entry) [(t 33), (t 34)], m 28 35]) (C 28 (Q (O
  [mc 6 (u 6)]) R) X))))))) (Q (Q (O [la 36 6 3, fa 37 2 5, ld 38 37, k 39 (f f_morph_checker_bundle) [(t 36), (t 38)], m 9 39]) (Q (O [m 40 9, o 41 (.ar .neq (t 40) (u 0))]) (C 41 (Q
  (O [m 42 9, m 6 42]) R) X))) (Q (Q (O [fa 43 1 7, ld 44 43, o 45 (.mf (.func f_morph_checker_entry_2) [] [(t 5)]), k 46 (f f_slices_ContainsFunc_api_Slot_api_Slot) [(t 44), (t
  45)]]) (C 46 (Q (O [mc 6 (u 10)]) R) X)) (Q (Q (O [fa 47 3 5, ld 48 47, ls 49 48, mc 50 (i 0)]) (.block 1 (.loop ⟨none, [], false⟩ l_kmorph_checker_entry_0))) (Q (O [mc 6 (u 0)])
  R)))))))
def ka_morph_checker_entry : AFn := ⟨kc_morph_checker_entry, 85, [.t 6], .keep, [], none⟩
def kc_morph_Check_4 : AC :=
  (Q (O [mc 2 (u 0)]) (Q (O [fa 3 4 0, ld 4 3, la 5 6 1, o 6 (.mf (.func f_morph_checker_spell) [(t 5)] []), k 7 (f f_morph_each_api_Spell) [(t 4), (i 16), (t 6)], m 2 7]) R))
def ka_morph_Check_4 : AFn := ⟨kc_morph_Check_4, 8, [.t 2], .keep, [], none⟩
def l_kmorph_each_api_Spell_0 : AC :=
  (Q (O [bl 17 16 15]) (Q (C 17 X (.exit 0)) (Q (.block 1 (Q (O [m 18 16, ia 19 4 14 16, la 20 4 19, o 8 (.nw [(.str []), (.str []), (.str []), (.str [])] t_api_Spell), m 7 18, n (.st
  4 (t 8) (t 20))]) (Q (O [m 21 2, m 22 7, la 23 4 8, k 24 (t 21) [(t 22), (t 23)], m 9 24]) (Q (O [m 25 9, o 26 (.ar .neq (t 25) (u 0))]) (C 26 (Q (O [m 27 9, m 6 27]) R) X))))) (O
  [ad 28 16, m 16 28]))))
def kc_morph_each_api_Spell : AC :=
  (Q (O [mc 6 (u 0)]) (Q (Q (O [m 10 0, ls 11 10, m 12 1, o 13 (.ar .gtr (t 11) (t 12))]) (C 13 (Q (O [mc 6 (u 3)]) R) X)) (Q (Q (O [m 14 0, ls 15 14, mc 16 (i 0)]) (.block 0 (.loop
  ⟨none, [], false⟩ l_kmorph_each_api_Spell_0))) (Q (O [mc 6 (u 0)]) R))))
def ka_morph_each_api_Spell : AFn := ⟨kc_morph_each_api_Spell, 29, [.t 6], .keep, [], none⟩
def kc_morph_checker_spell : AC :=
  (Q (O [o 3 (.bx t_morph_checker (t 0)), o 5 (.bx t_api_Spell (t 2)), mc 6 (u 0)]) (Q (Q (O [fa 7 0 5, ld 8 7, o 9 (.ar .eql (t 8) (s [])), m 10 9, h 11 10 (.fa 0 (t 5)), h 12 10
  (.ld none (t 11)), ⟨(some 13), (some (10, false)), (.call (.c (.fn (.func f_morph_short) [] [])) [(.t 12), (.c (.fn (.func f_morph_symbol) [] []))])⟩, h 14 10 (.un .not (t 13)), o
  15 (.pk (t 10) T (t 14)), m 16 15, h 17 16 (.fa 1 (t 5)), h 18 16 (.ld none (t 17)), ⟨(some 19), (some (16, false)), (.call (.c (.fn (.func f_morph_short) [] [])) [(.t 18), (.c (.fn
  (.func f_morph_symbol) [] []))])⟩, h 20 16 (.un .not (t 19)), o 21 (.pk (t 16) T (t 20)), m 22 21, h 23 22 (.fa 2 (t 5)), h 24 22 (.ld none (t 23)), ⟨(some 25), (some (22, false)),
  (.call (.c (.fn (.func f_morph_short) [] [])) [(.t 24), (.c (.fn (.func f_morph_around) [] []))])⟩, h 26 22 (.un .not (t 25)), o 27 (.pk (t 22) T (t 26)), m 28 27, h 29 28 (.fa 3 (t
  5)), h 30 28 (.ld none (t 29)), ⟨(some 31), (some (28, false)), (.call (.c (.fn (.func f_morph_short) [] [])) [(.t 30), (.c (.fn (.func f_morph_around) [] []))])⟩, h 32 28 (.un .not
  (t 31)), o 33 (.pk (t 28) T (t 32))]) (C 33 (Q (O [mc 6 (u 1)]) R) X)) (Q (O [mc 6 (u 0)]) R)))
def ka_morph_checker_spell : AFn := ⟨kc_morph_checker_spell, 34, [.t 6], .keep, [], none⟩
def kc_morph_Check_5 : AC :=
  (Q (O [mc 2 (u 0)]) (Q (O [fa 3 5 0, ld 4 3, la 5 6 1, o 6 (.mf (.func f_morph_checker_link) [(t 5)] []), k 7 (f f_morph_each_api_Link) [(t 4), (i 8), (t 6)], m 2 7]) R))
def ka_morph_Check_5 : AFn := ⟨kc_morph_Check_5, 8, [.t 2], .keep, [], none⟩
def l_kmorph_each_api_Link_0 : AC :=
  (Q (O [bl 17 16 15]) (Q (C 17 X (.exit 0)) (Q (.block 1 (Q (O [m 18 16, ia 19 3 14 16, la 20 3 19, o 8 (.nw [(.str []), (.str []), (.slice .nil 2 [])] t_api_Link), m 7 18, n (.st 3
  (t 8) (t 20))]) (Q (O [m 21 2, m 22 7, la 23 3 8, k 24 (t 21) [(t 22), (t 23)], m 9 24]) (Q (O [m 25 9, o 26 (.ar .neq (t 25) (u 0))]) (C 26 (Q (O [m 27 9, m 6 27]) R) X))))) (O [ad
  28 16, m 16 28]))))
def kc_morph_each_api_Link : AC :=
  (Q (O [mc 6 (u 0)]) (Q (Q (O [m 10 0, ls 11 10, m 12 1, o 13 (.ar .gtr (t 11) (t 12))]) (C 13 (Q (O [mc 6 (u 3)]) R) X)) (Q (Q (O [m 14 0, ls 15 14, mc 16 (i 0)]) (.block 0 (.loop
  ⟨none, [], false⟩ l_kmorph_each_api_Link_0))) (Q (O [mc 6 (u 0)]) R))))
def ka_morph_each_api_Link : AFn := ⟨kc_morph_each_api_Link, 29, [.t 6], .keep, [], none⟩
def kc_morph_checker_link : AC :=
  (Q (O [o 3 (.bx t_morph_checker (t 0)), o 5 (.bx t_api_Link (t 2)), mc 6 (u 0)]) (Q (Q (O [fa 10 0 3, la 11 6 10, fa 12 0 5, ld 13 12, k 14 (f f_morph_classOf) [(t 11), (t 13)], m 9
  14, ex 15 9 0, ex 16 9 1, o 7 (.nw [(.str []), (.slice .nil 4 [])] t_api_Class), n (.st 2 (t 7) (t 15)), m 8 16]) (Q (O [m 17 8, no 18 17]) (C 18 (Q (O [mc 6 (u 5)]) R) X))) (Q (Q
  (O [fa 19 1 5, ld 20 19, k 21 (f f_morph_short) [(t 20), (f f_morph_letter)], no 22 21]) (C 22 (Q (O [mc 6 (u 1)]) R) X)) (Q (O [la 23 6 3, fa 24 2 5, ld 25 24, k 26 (f
  f_morph_checker_bundle) [(t 23), (t 25)], m 6 26]) R))))
def ka_morph_checker_link : AFn := ⟨kc_morph_checker_link, 27, [.t 6], .keep, [], none⟩
def kc_morph_language_underlying : AC :=
  (Q (O [o 3 (.bx t_morph_language (t 0)), o 5 (.bx t_api_Slot (t 2)), mc 6 (s []), mc 7 F]) (Q (O [fa 10 0 3, fa 11 3 10, ld 12 11, m 13 1, ia 14 4 12 13, fa 15 0 14, ld 16 15, m 8
  16]) (Q (Q (O [m 17 8, lt 18 17, fa 19 0 5, ld 20 19, bl 21 18 20]) (C 21 (Q (O [mc 6 (s []), mc 7 F]) R) X)) (Q (O [m 22 8, m 23 8, lt 24 23, fa 25 0 5, ld 26 25, o 27 (.ar .sub (t
  24) (t 26)), o 28 (.sls (t 22) none (some (t 27))), m 9 28]) (Q (Q (O [fa 29 1 5, ld 30 29, o 31 (.ar .neq (t 30) (s []))]) (C 31 (O [fa 32 1 5, ld 33 32, o 34 (.ar .add (t 33) (s
  [43])), m 35 9, o 36 (.ar .add (t 34) (t 35)), m 9 36]) X)) (Q (Q (O [fa 37 2 5, ld 38 37, o 39 (.ar .neq (t 38) (s []))]) (C 39 (O [m 40 9, fa 41 2 5, ld 42 41, o 43 (.ar .add (s
  [43]) (t 42)), o 44 (.ar .add (t 40) (t 43)), m 9 44]) X)) (Q (O [m 45 9, m 6 45, mc 7 T]) R)))))))
def ka_morph_language_underlying : AFn := ⟨kc_morph_language_underlying, 46, [.t 6, .t 7], .keep, [], none⟩
def kc_strings_ReplaceAll : AC :=
  (Q (O [mc 6 (s [])]) (Q (O [m 7 0, m 8 1, m 9 2, k 10 (f f_strings_Replace) [(t 7), (t 8), (t 9), (i (-1))], m 6 10]) R))
def ka_strings_ReplaceAll : AFn := ⟨kc_strings_ReplaceAll, 11, [.t 6], .keep, [], none⟩
def kc_morph_checker_bundle : AC :=
  (Q (O [o 2 (.bx t_morph_checker (t 0)), o 3 (.bx t_sl_api_Feat (t 1)), mc 4 (u 0)]) (Q (O [ld 5 3, o 6 (.mf (.func f_morph_checker_bundle_1) [] [(t 2), (t 3)]), k 7 (f
  f_morph_each_api_Feat) [(t 5), (i 8), (t 6)], m 4 7]) R))
def ka_morph_checker_bundle : AFn := ⟨kc_morph_checker_bundle, 8, [.t 4], .keep, [], none⟩
def kc_morph_classOf : AC :=
  (Q (O [o 2 (.bx t_api_Lexicon (t 0)), o 3 (.bx t_string (t 1)), o 4 (.nw [(.str []), (.slice .nil 4 [])] t_api_Class), mc 5 F]) (Q (O [fa 7 2 2, ld 8 7, o 9 (.mf (.func
  f_morph_classOf_1) [] [(t 3)]), k 10 (f f_slices_IndexFunc_api_Class_api_Class) [(t 8), (t 9)], m 6 10]) (Q (Q (O [m 11 6, o 12 (.ar .lss (t 11) (i 0))]) (C 12 (Q (O [o 13 (.bd
  [(.str []), (.slice .nil 4 [])] [(0, 1), (1, 1)] []), n (.st 2 (t 4) (t 13)), mc 5 F]) R) X)) (Q (O [fa 14 2 2, ld 15 14, m 16 6, ia 17 2 15 16, la 18 2 17, n (.st 2 (t 4) (t 18)),
  mc 5 T]) R))))
def ka_morph_classOf : AFn := ⟨kc_morph_classOf, 19, [.cell 4 (some 2), .t 5], .keep, [], none⟩
def l_kslices_Index_string_string_0 : AC :=
  (Q (O [bl 9 8 7]) (Q (C 9 X (.exit 0)) (Q (.block 1 (Q (O [m 10 8, m 5 10]) (Q (O [m 11 1, m 12 0, m 13 5, ia 14 1 12 13, ld 15 14, o 16 (.ar .eql (t 11) (t 15))]) (C 16 (Q (O [m 17
  5, m 4 17]) R) X)))) (O [ad 18 8, m 8 18]))))
def kc_slices_Index_string_string : AC :=
  (Q (O [mc 4 (i 0)]) (Q (Q (O [m 6 0, ls 7 6, mc 8 (i 0)]) (.block 0 (.loop ⟨none, [], false⟩ l_kslices_Index_string_string_0))) (Q (O [mc 4 (i (-1))]) R)))
def ka_slices_Index_string_string : AFn := ⟨kc_slices_Index_string_string, 19, [.t 4], .keep, [], none⟩
def kc_strings_HasPrefix : AC :=
  (Q (O [mc 4 F]) (Q (O [m 5 0, m 6 1, k 7 (f f_internal_stringslite_HasPrefix) [(t 5), (t 6)], m 4 7]) R))
def ka_strings_HasPrefix : AFn := ⟨kc_strings_HasPrefix, 8, [.t 4], .keep, [], none⟩
def l_kmorph_language_left_0 : AC :=
  (Q (O [bl 13 12 11]) (Q (C 13 X (.exit 0)) (Q (.block 1 (Q (O [m 14 12, m 9 14]) (Q (D [W (la 15 6 4), P (m 16 1), P (m 17 1), W (lt 18 17), P (o 19 (.ar .sub (t 18) (i 1))), P (m
  20 9), P (o 21 (.ar .sub (t 19) (t 20))), P (o 22 (.ixs (t 16) (t 21))), P (m 23 2), P (m 24 3), P (o 25 (.ar .sub (t 24) (i 1))), P (m 26 9), P (o 27 (.ar .sub (t 25) (t 26))), E
  (k 28 (f f_morph_language_match) [(t 15), (t 22), (t 23), (t 27)]), P (no 29 28)]) (C 29 (Q (O [mc 8 F]) R) X)))) (O [ad 30 12, m 12 30]))))
def kc_morph_language_left : AC :=
  (Q (O [o 4 (.bx t_morph_language (t 0)), mc 8 F]) (Q (Q (O [m 10 1, lt 11 10, mc 12 (i 0)]) (.block 0 (.loop ⟨none, [], false⟩ l_kmorph_language_left_0))) (Q (O [mc 8 T]) R)))
def ka_morph_language_left : AFn := ⟨kc_morph_language_left, 31, [.t 8], .keep, [], none⟩
def l_kmorph_language_right_0 : AC :=
  (Q (O [bl 13 12 11]) (Q (C 13 X (.exit 0)) (Q (.block 1 (Q (O [m 14 12, m 9 14]) (Q (D [W (la 15 6 4), P (m 16 1), P (m 17 9), P (o 18 (.ixs (t 16) (t 17))), P (m 19 2), P (m 20 3),
  P (m 21 9), P (o 22 (.ar .add (t 20) (t 21))), E (k 23 (f f_morph_language_match) [(t 15), (t 18), (t 19), (t 22)]), P (no 24 23)]) (C 24 (Q (O [mc 8 F]) R) X)))) (O [ad 25 12, m 12
  25]))))
def kc_morph_language_right : AC :=
  (Q (O [o 4 (.bx t_morph_language (t 0)), mc 8 F]) (Q (Q (O [m 10 1, lt 11 10, mc 12 (i 0)]) (.block 0 (.loop ⟨none, [], false⟩ l_kmorph_language_right_0))) (Q (O [mc 8 T]) R)))
def ka_morph_language_right : AFn := ⟨kc_morph_language_right, 26, [.t 8], .keep, [], none⟩
def kc_strings_Builder_WriteString : AC :=
  (Q (O [mc 4 (i 0), mc 5 (.c .nilif)]) (Q (O [m 6 0, k 7 (f f_strings_Builder_copyCheck) [(t 6)]]) (Q (O [m 8 0, m 9 0, o 10 (.nc (t 9)), fa 11 1 10, ld 12 11, m 13 1, o 14 (.ap
  false t_uint8 1 1 true (t 12) (t 13)), o 15 (.nc (t 8)), fa 16 1 15, n (.st 1 (t 16) (t 14))]) (Q (O [m 17 1, lt 18 17, m 4 18, mc 5 (.c .nilif)]) R))))
def ka_strings_Builder_WriteString : AFn := ⟨kc_strings_Builder_WriteString, 19, [.t 4, .t 5], .keep, [], none⟩
def kc_strings_Builder_WriteByte : AC :=
  (Q (O [mc 4 (.c .nilif)]) (Q (O [m 5 0, k 6 (f f_strings_Builder_copyCheck) [(t 5)]]) (Q (O [m 7 0, m 8 0, o 9 (.nc (t 8)), fa 10 1 9, ld 11 10, m 12 1, o 13 (.bs 1 [(.int .u8 0)] 1
  [(0, (t 12))]), o 14 (.ap false t_uint8 1 1 false (t 11) (t 13)), o 15 (.nc (t 7)), fa 16 1 15, n (.st 1 (t 16) (t 14))]) (Q (O [mc 4 (.c .nilif)]) R))))
def ka_strings_Builder_WriteByte : AFn := ⟨kc_strings_Builder_WriteByte, 17, [.t 4], .keep, [], none⟩
def kc_strings_Builder_String : AC :=
  (Q (O [mc 2 (s [])]) (Q (D [P (m 3 0), P (o 4 (.nc (t 3))), P (fa 5 1 4), W (ld 6 5), P (o 7 (.usl (t 6))), P (m 8 0), P (o 9 (.nc (t 8))), P (fa 10 1 9), W (ld 11 10), W (ls 12
  11), E (o 13 (.ust t_uint8 (t 7) (t 12))), P (m 2 13)]) R))
def ka_strings_Builder_String : AFn := ⟨kc_strings_Builder_String, 14, [.t 2], .keep, [], none⟩
def kc_strings_Builder_Len : AC :=
  (Q (O [mc 2 (i 0)]) (Q (O [m 3 0, o 4 (.nc (t 3)), fa 5 1 4, ld 6 5, ls 7 6, m 2 7]) R))
def ka_strings_Builder_Len : AFn := ⟨kc_strings_Builder_Len, 8, [.t 2], .keep, [], none⟩
def kc_morph_clash_1 : AC :=
  (Q (O [o 2 (.bx t_api_Feat (t 0)), mc 3 F]) (Q (O [ld 4 1, o 5 (.mf (.func f_morph_clash_1_1) [] [(t 2)]), k 6 (f f_slices_ContainsFunc_api_Feat_api_Feat) [(t 4), (t 5)], m 3 6])
  R))
def ka_morph_clash_1 : AFn := ⟨kc_morph_clash_1, 7, [.t 3], .keep, [], none⟩
def kc_morph_clash_1_1 : AC :=
  (Q (O [o 2 (.bx t_api_Feat (t 0)), mc 3 F]) (Q (O [fa 4 0 1, ld 5 4, fa 6 0 2, ld 7 6, o 8 (.ar .eql (t 5) (t 7)), m 9 8, g 10 9 (.fa 1 (t 1)), g 11 9 (.ld none (t 10)), g 12 9 (.fa
  1 (t 2)), g 13 9 (.ld none (t 12)), g 14 9 (.ar .neq (t 11) (t 13)), o 15 (.pk (t 9) (t 14) F), m 3 15]) R))
def ka_morph_clash_1_1 : AFn := ⟨kc_morph_clash_1_1, 16, [.t 3], .keep, [], none⟩
def l_kslices_IndexFunc_api_Feat_api_Feat_0 : AC :=
  (Q (O [bl 9 8 7]) (Q (C 9 X (.exit 0)) (Q (.block 1 (Q (O [m 10 8, m 5 10]) (Q (O [m 11 1, m 12 0, m 13 5, ia 14 2 12 13, la 15 2 14, k 16 (t 11) [(t 15)]]) (C 16 (Q (O [m 17 5, m 4
  17]) R) X)))) (O [ad 18 8, m 8 18]))))
def kc_slices_IndexFunc_api_Feat_api_Feat : AC :=
  (Q (O [mc 4 (i 0)]) (Q (Q (O [m 6 0, ls 7 6, mc 8 (i 0)]) (.block 0 (.loop ⟨none, [], false⟩ l_kslices_IndexFunc_api_Feat_api_Feat_0))) (Q (O [mc 4 (i (-1))]) R)))
def ka_slices_IndexFunc_api_Feat_api_Feat : AFn := ⟨kc_slices_IndexFunc_api_Feat_api_Feat, 19, [.t 4], .keep, [], none⟩
def l_kstrings_explode_0 : AC :=
  (Q (Q (O [m 22 7, m 23 1, o 24 (.ar .sub (t 23) (i 1)), bl 25 22 24]) (C 25 X (.exit 0))) (Q (.block 1 (Q (O [m 29 0, k 30 (f f_unicode_utf8_DecodeRuneInString) [(t 29)], m 28 30,
  ex 31 28 0, ex 32 28 1, m 8 31, m 9 32]) (Q (O [m 33 6, m 34 7, m 35 0, m 36 9, o 37 (.sls (t 35) none (some (t 36))), ia 38 1 33 34, n (.st 1 (t 38) (t 37))]) (O [m 39 0, m 40 9, o
  41 (.sls (t 39) (some (t 40)) none), m 0 41])))) (O [m 26 7, ad 27 26, m 7 27])))
def kc_strings_explode : AC :=
  (Q (O [mc 4 (.c (.slice .nil 1 []))]) (Q (O [m 10 0, k 11 (f f_unicode_utf8_RuneCountInString) [(t 10)], m 5 11]) (Q (Q (O [m 12 1, o 13 (.ar .lss (t 12) (i 0)), m 14 13, h 15 14
  (.mv (t 1)), h 16 14 (.mv (t 5)), h 17 14 (.ar .gtr (t 15) (t 16)), o 18 (.pk (t 14) T (t 17))]) (C 18 (O [m 19 5, m 1 19]) X)) (Q (O [m 20 1, o 21 (.ms t_string 16 [(.str [])] (t
  20) (t 20)), m 6 21]) (Q (Q (O [mc 7 (i 0)]) (.block 0 (.loop ⟨none, [], false⟩ l_kstrings_explode_0))) (Q (Q (O [m 42 1, o 43 (.ar .gtr (t 42) (i 0))]) (C 43 (O [m 44 6, m 45 1, o
  46 (.ar .sub (t 45) (i 1)), m 47 0, ia 48 1 44 46, n (.st 1 (t 48) (t 47))]) X)) (Q (O [m 49 6, m 4 49]) R)))))))
def ka_strings_explode : AFn := ⟨kc_strings_explode, 50, [.t 4], .keep, [], none⟩
def l_kstrings_Count_0 : AC :=
  (.block 1 (Q (O [m 20 0, m 21 1, k 22 (f f_strings_Index) [(t 20), (t 21)], m 6 22]) (Q (Q (O [m 23 6, o 24 (.ar .eql (t 23) (i (-1)))]) (C 24 (Q (O [m 25 5, m 4 25]) R) X)) (Q (O
  [m 26 5, ad 27 26, m 5 27]) (O [m 28 0, m 29 6, m 30 1, lt 31 30, o 32 (.ar .add (t 29) (t 31)), o 33 (.sls (t 28) (some (t 32)) none), m 0 33])))))
def kc_strings_Count : AC :=
  (Q (O [mc 4 (i 0)]) (Q (Q (O [m 7 1, lt 8 7, o 9 (.ar .eql (t 8) (i 0))]) (C 9 (Q (O [m 10 0, k 11 (f f_unicode_utf8_RuneCountInString) [(t 10)], ad 12 11, m 4 12]) R) X)) (Q (Q (O
  [m 13 1, lt 14 13, o 15 (.ar .eql (t 14) (i 1))]) (C 15 (Q (O [m 16 0, m 17 1, o 18 (.ixs (t 17) (i 0)), k 19 (f f_internal_bytealg_CountString) [(t 16), (t 18)], m 4 19]) R) X)) (Q
  (O [mc 5 (i 0)]) (.block 0 (.loop ⟨none, [], false⟩ l_kstrings_Count_0))))))
def ka_strings_Count : AFn := ⟨kc_strings_Count, 34, [.t 4], .keep, [], none⟩
def kc_strings_Index : AC :=
  (Q (O [mc 4 (i 0)]) (Q (O [m 5 0, m 6 1, k 7 (f f_internal_stringslite_Index) [(t 5), (t 6)], m 4 7]) R))
def ka_strings_Index : AFn := ⟨kc_strings_Index, 8, [.t 4], .keep, [], none⟩
def kc_morph_kinds_1 : AC :=
  (O [m 4 0, m 5 1, o 6 (.ias 1 (t 5) (i 0)), ld 7 6, k 8 (f f_morph_text) [(t 7)], o 9 (.nc (t 4)), fa 10 0 9, fa 11 0 10, n (.st 1 (t 11) (t 8))])
def ka_morph_kinds_1 : AFn := ⟨kc_morph_kinds_1, 12, [], .keep, [], none⟩
def kc_morph_text : AC :=
  (Q (O [mc 2 (s [])]) (Q (Q (O [m 3 0, o 4 (.ar .eql (t 3) (s [45]))]) (C 4 (Q (O [mc 2 (s [])]) R) X)) (Q (O [m 5 0, m 2 5]) R)))
def ka_morph_text : AFn := ⟨kc_morph_text, 6, [.t 2], .keep, [], none⟩
def kc_morph_kinds_2 : AC :=
  (D [P (m 4 0), P (m 5 0), P (o 6 (.nc (t 5))), P (fa 7 0 6), P (fa 8 1 7), W (ld 9 8), P (m 10 1), P (o 11 (.ias 1 (t 10) (i 0))), W (ld 12 11), P (m 13 1), P (o 14 (.sll 1 (t 13)
  (some (i 1)) none none)), P (o 15 (.bd [(.str []), (.slice .nil 1 [])] [(0, 1), (1, 1)] [(0, (t 12)), (1, (t 14))])), P (o 16 (.bs 2 [(.str []), (.slice .nil 0 [])] 1 [(0, (t
  15))])), E (o 17 (.ap false t_api_Trait 2 40 false (t 9) (t 16))), P (o 18 (.nc (t 4))), P (fa 19 0 18), P (fa 20 1 19), E (n (.st 1 (t 20) (t 17)))])
def ka_morph_kinds_2 : AFn := ⟨kc_morph_kinds_2, 21, [], .keep, [], none⟩
def kc_morph_kinds_3 : AC :=
  (D [P (m 4 0), P (m 5 0), P (o 6 (.nc (t 5))), P (fa 7 0 6), P (fa 8 2 7), W (ld 9 8), P (m 10 1), P (o 11 (.ias 1 (t 10) (i 0))), W (ld 12 11), P (o 13 (.bd [(.str []), (.slice
  .nil 4 [])] [(0, 1), (1, 1)] [(0, (t 12))])), P (o 14 (.bs 2 [(.str []), (.slice .nil 0 [])] 1 [(0, (t 13))])), E (o 15 (.ap true t_api_Class 2 40 false (t 9) (t 14))), P (o 16 (.nc
  (t 4))), P (fa 17 0 16), P (fa 18 2 17), E (n (.st 1 (t 18) (t 15)))])
def ka_morph_kinds_3 : AFn := ⟨kc_morph_kinds_3, 19, [], .keep, [0], none⟩
def kc_morph_kinds_4 : AC :=
  (Q (O [m 5 0, o 6 (.nc (t 5)), fa 7 6 6, ld 8 7, o 9 (.ar .eql (t 8) (s [99, 108, 97, 115, 115])), m 10 9, h 11 10 (.mv (t 0)), h 12 10 (.nc (t 11)), h 13 10 (.fa 6 (t 12)), h 14 10
  (.ld none (t 13)), h 15 10 (.ar .eql (t 14) (s [115, 108, 111, 116])), o 16 (.pk (t 10) T (t 15)), k 17 (f f_morph_demand) [(t 16)]]) (Q (D [P (m 18 0), P (o 19 (.nc (t 18))), P (fa
  20 0 19), P (fa 21 2 20), W (ld 22 21), P (m 23 0), P (o 24 (.nc (t 23))), P (fa 25 0 24), P (fa 26 2 25), W (ld 27 26), W (ls 28 27), P (o 29 (.ar .sub (t 28) (i 1))), P (ia 30 2
  22 29), P (m 4 30)]) (D [P (m 31 4), P (m 32 4), P (o 33 (.nc (t 32))), P (fa 34 1 33), W (ld 35 34), P (m 36 1), P (o 37 (.ias 1 (t 36) (i 0))), W (ld 38 37), P (m 40 1), P (o 41
  (.ias 1 (t 40) (i 1))), W (ld 42 41), P (m 44 1), P (o 45 (.ias 1 (t 44) (i 2))), W (ld 46 45), P (m 48 1), P (o 49 (.sll 1 (t 48) (some (i 3)) none none)), K (k 39 (f
  f_morph_number) [(t 38)]), K (k 43 (f f_morph_text) [(t 42)]), K (k 47 (f f_morph_text) [(t 46)]), K (k 50 (f f_morph_feats) [(t 49)]), P (o 51 (.bd [(.int .i64 0), (.str []), (.str
  []), (.slice .nil 2 [])] [(0, 1), (1, 1), (2, 1), (3, 1)] [(0, (t 39)), (1, (t 43)), (2, (t 47)), (3, (t 50))])), P (o 52 (.bs 4 [(.int .i64 0), (.str []), (.str []), (.slice .nil 0
  [])] 1 [(0, (t 51))])), E (o 53 (.ap false t_api_Slot 4 64 false (t 35) (t 52))), P (o 54 (.nc (t 31))), P (fa 55 1 54), E (n (.st 1 (t 55) (t 53)))])))
def ka_morph_kinds_4 : AFn := ⟨kc_morph_kinds_4, 56, [], .keep, [], none⟩
def kc_morph_number : AC :=
  (Q (O [mc 2 (i 0)]) (Q (O [m 6 0, k 7 (f f_strconv_Atoi) [(t 6)], m 5 7, ex 8 5 0, ex 9 5 1, m 3 8, m 4 9]) (Q (O [m 10 4, o 11 (.eq false (.ifc true) (t 10) (.c .nilif)), m 12 11,
  g 13 12 (.mv (t 3)), g 14 12 (.ar .geq (t 13) (i 0)), o 15 (.pk (t 12) (t 14) F), m 16 15, g 17 16 (.mv (t 3)), g 18 16 (.ar .leq (t 17) (i 999)), o 19 (.pk (t 16) (t 18) F), m 20
  19, g 21 20 (.mv (t 3)), ⟨(some 22), (some (20, true)), (.call (.c (.fn (.func f_strconv_Itoa) [] [])) [(.t 21)])⟩, g 23 20 (.mv (t 0)), g 24 20 (.ar .eql (t 22) (t 23)), o 25 (.pk
  (t 20) (t 24) F), k 26 (f f_morph_demand) [(t 25)]]) (Q (O [m 27 3, m 2 27]) R))))
def ka_morph_number : AFn := ⟨kc_morph_number, 28, [.t 2], .keep, [], none⟩
def l_kmorph_feats_0 : AC :=
  (Q (O [bl 12 11 10]) (Q (C 12 X (.exit 0)) (Q (.block 1 (Q (O [ia 13 1 9 11, ld 14 13, m 5 14]) (Q (O [m 15 5, k 16 (f f_strings_Count) [(t 15), (s [61])], o 17 (.ar .eql (t 16) (i
  1)), k 18 (f f_morph_demand) [(t 17)]]) (Q (O [m 20 5, k 21 (f f_strings_Cut) [(t 20), (s [61])], m 19 21, ex 22 19 0, ex 23 19 1, ex 24 19 2, m 6 22, m 7 23, m 8 24]) (O [m 25 3, m
  26 6, m 27 7, o 28 (.bd [(.str []), (.str [])] [(0, 1), (1, 1)] [(0, (t 26)), (1, (t 27))]), o 29 (.bs 2 [(.str []), (.str [])] 1 [(0, (t 28))]), o 30 (.ap false t_api_Feat 2 32
  false (t 25) (t 29)), m 3 30]))))) (O [ad 31 11, m 11 31]))))
def kc_morph_feats : AC :=
  (Q (O [mc 2 (.c (.slice .nil 2 []))]) (Q (O [mc 3 (.c (.slice .nil 2 []))]) (Q (Q (O [m 9 0, ls 10 9, mc 11 (i 0)]) (.block 0 (.loop ⟨none, [], false⟩ l_kmorph_feats_0))) (Q (O [m
  32 3, m 2 32]) R))))
def ka_morph_feats : AFn := ⟨kc_morph_feats, 33, [.t 2], .keep, [], none⟩
def kc_morph_kinds_5 : AC :=
  (D [P (m 4 0), P (m 5 0), P (o 6 (.nc (t 5))), P (fa 7 0 6), P (fa 8 3 7), W (ld 9 8), P (m 10 1), P (o 11 (.ias 1 (t 10) (i 0))), W (ld 12 11), P (m 13 1), P (o 14 (.ias 1 (t 13)
  (i 1))), W (ld 15 14), P (m 16 1), P (o 17 (.sll 1 (t 16) (some (i 2)) none none)), K (k 18 (f f_morph_feats) [(t 17)]), P (o 19 (.bd [(.str []), (.str []), (.slice .nil 2 []),
  (.slice .nil 2 [])] [(0, 1), (1, 1), (2, 1), (3, 1)] [(0, (t 12)), (1, (t 15)), (2, (t 18))])), P (o 20 (.bs 4 [(.str []), (.str []), (.slice .nil 0 []), (.slice .nil 0 [])] 1 [(0,
  (t 19))])), E (o 21 (.ap true t_api_Entry 4 80 false (t 9) (t 20))), P (o 22 (.nc (t 4))), P (fa 23 0 22), P (fa 24 3 23), E (n (.st 1 (t 24) (t 21)))])
def ka_morph_kinds_5 : AFn := ⟨kc_morph_kinds_5, 25, [], .keep, [0], none⟩
def kc_morph_kinds_6 : AC :=
  (Q (O [m 5 0, o 6 (.nc (t 5)), fa 7 6 6, ld 8 7, o 9 (.ar .eql (t 8) (s [101, 110, 116, 114, 121])), m 10 9, h 11 10 (.mv (t 0)), h 12 10 (.nc (t 11)), h 13 10 (.fa 6 (t 12)), h 14
  10 (.ld none (t 13)), h 15 10 (.ar .eql (t 14) (s [102, 111, 114, 109])), o 16 (.pk (t 10) T (t 15)), k 17 (f f_morph_demand) [(t 16)]]) (Q (D [P (m 18 0), P (o 19 (.nc (t 18))), P
  (fa 20 0 19), P (fa 21 3 20), W (ld 22 21), P (m 23 0), P (o 24 (.nc (t 23))), P (fa 25 0 24), P (fa 26 3 25), W (ld 27 26), W (ls 28 27), P (o 29 (.ar .sub (t 28) (i 1))), P (ia 30
  4 22 29), P (m 4 30)]) (D [P (m 31 4), P (m 32 4), P (o 33 (.nc (t 32))), P (fa 34 3 33), W (ld 35 34), P (m 36 1), P (o 37 (.ias 1 (t 36) (i 0))), W (ld 38 37), P (m 40 1), P (o 41
  (.ias 1 (t 40) (i 1))), W (ld 42 41), K (k 39 (f f_morph_number) [(t 38)]), K (k 43 (f f_morph_text) [(t 42)]), P (o 44 (.bd [(.int .i64 0), (.str [])] [(0, 1), (1, 1)] [(0, (t
  39)), (1, (t 43))])), P (o 45 (.bs 2 [(.int .i64 0), (.str [])] 1 [(0, (t 44))])), E (o 46 (.ap false t_api_Irregular 2 24 false (t 35) (t 45))), P (o 47 (.nc (t 31))), P (fa 48 3
  47), E (n (.st 1 (t 48) (t 46)))])))
def ka_morph_kinds_6 : AFn := ⟨kc_morph_kinds_6, 49, [], .keep, [], none⟩
def kc_morph_kinds_7 : AC :=
  (D [P (m 4 0), P (m 5 0), P (o 6 (.nc (t 5))), P (fa 7 0 6), P (fa 8 4 7), W (ld 9 8), P (m 10 1), P (o 11 (.ias 1 (t 10) (i 0))), W (ld 12 11), P (m 14 1), P (o 15 (.ias 1 (t 14)
  (i 1))), W (ld 16 15), P (m 18 1), P (o 19 (.ias 1 (t 18) (i 2))), W (ld 20 19), P (m 22 1), P (o 23 (.ias 1 (t 22) (i 3))), W (ld 24 23), K (k 13 (f f_morph_text) [(t 12)]), K (k
  17 (f f_morph_text) [(t 16)]), K (k 21 (f f_morph_text) [(t 20)]), K (k 25 (f f_morph_text) [(t 24)]), P (o 26 (.bd [(.str []), (.str []), (.str []), (.str [])] [(0, 1), (1, 1), (2,
  1), (3, 1)] [(0, (t 13)), (1, (t 17)), (2, (t 21)), (3, (t 25))])), P (o 27 (.bs 4 [(.str []), (.str []), (.str []), (.str [])] 1 [(0, (t 26))])), E (o 28 (.ap false t_api_Spell 4
  64 false (t 9) (t 27))), P (o 29 (.nc (t 4))), P (fa 30 0 29), P (fa 31 4 30), E (n (.st 1 (t 31) (t 28)))])
def ka_morph_kinds_7 : AFn := ⟨kc_morph_kinds_7, 32, [], .keep, [], none⟩
def kc_morph_kinds_8 : AC :=
  (D [P (m 4 0), P (m 5 0), P (o 6 (.nc (t 5))), P (fa 7 0 6), P (fa 8 5 7), W (ld 9 8), P (m 10 1), P (o 11 (.ias 1 (t 10) (i 0))), W (ld 12 11), P (m 13 1), P (o 14 (.ias 1 (t 13)
  (i 1))), W (ld 15 14), K (k 16 (f f_morph_text) [(t 15)]), P (m 17 1), P (o 18 (.sll 1 (t 17) (some (i 2)) none none)), K (k 19 (f f_morph_feats) [(t 18)]), P (o 20 (.bd [(.str []),
  (.str []), (.slice .nil 2 [])] [(0, 1), (1, 1), (2, 1)] [(0, (t 12)), (1, (t 16)), (2, (t 19))])), P (o 21 (.bs 3 [(.str []), (.str []), (.slice .nil 0 [])] 1 [(0, (t 20))])), E (o
  22 (.ap false t_api_Link 3 56 false (t 9) (t 21))), P (o 23 (.nc (t 4))), P (fa 24 0 23), P (fa 25 5 24), E (n (.st 1 (t 25) (t 22)))])
def ka_morph_kinds_8 : AFn := ⟨kc_morph_kinds_8, 26, [], .keep, [], none⟩
def kc_slices_ContainsFunc_api_Trait_api_Trait : AC :=
  (Q (O [mc 4 F]) (Q (O [m 5 0, m 6 1, k 7 (f f_slices_IndexFunc_api_Trait_api_Trait) [(t 5), (t 6)], o 8 (.ar .geq (t 7) (i 0)), m 4 8]) R))
def ka_slices_ContainsFunc_api_Trait_api_Trait : AFn := ⟨kc_slices_ContainsFunc_api_Trait_api_Trait, 9, [.t 4], .keep, [], none⟩
def kc_morph_checker_trait_1 : AC :=
  (Q (O [o 2 (.bx t_api_Trait (t 0)), mc 3 F]) (Q (O [fa 4 0 2, ld 5 4, fa 6 0 1, ld 7 6, o 8 (.ar .eql (t 5) (t 7)), m 3 8]) R))
def ka_morph_checker_trait_1 : AFn := ⟨kc_morph_checker_trait_1, 9, [.t 3], .keep, [], none⟩
def kc_slices_ContainsFunc_api_Class_api_Class : AC :=
  (Q (O [mc 4 F]) (Q (O [m 5 0, m 6 1, k 7 (f f_slices_IndexFunc_api_Class_api_Class) [(t 5), (t 6)], o 8 (.ar .geq (t 7) (i 0)), m 4 8]) R))
def ka_slices_ContainsFunc_api_Class_api_Class : AFn := ⟨kc_slices_ContainsFunc_api_Class_api_Class, 9, [.t 4], .keep, [], none⟩
def kc_morph_checker_class_1 : AC :=
  (Q (O [o 2 (.bx t_api_Class (t 0)), mc 3 F]) (Q (O [fa 4 0 2, ld 5 4, fa 6 0 1, ld 7 6, o 8 (.ar .eql (t 5) (t 7)), m 3 8]) R))
def ka_morph_checker_class_1 : AFn := ⟨kc_morph_checker_class_1, 9, [.t 3], .keep, [], none⟩
def l_kmorph_each_api_Slot_0 : AC :=
  (Q (O [bl 17 16 15]) (Q (C 17 X (.exit 0)) (Q (.block 1 (Q (O [m 18 16, ia 19 4 14 16, la 20 4 19, o 8 (.nw [(.int .i64 0), (.str []), (.str []), (.slice .nil 2 [])] t_api_Slot), m
  7 18, n (.st 4 (t 8) (t 20))]) (Q (O [m 21 2, m 22 7, la 23 4 8, k 24 (t 21) [(t 22), (t 23)], m 9 24]) (Q (O [m 25 9, o 26 (.ar .neq (t 25) (u 0))]) (C 26 (Q (O [m 27 9, m 6 27])
  R) X))))) (O [ad 28 16, m 16 28]))))
def kc_morph_each_api_Slot : AC :=
  (Q (O [mc 6 (u 0)]) (Q (Q (O [m 10 0, ls 11 10, m 12 1, o 13 (.ar .gtr (t 11) (t 12))]) (C 13 (Q (O [mc 6 (u 3)]) R) X)) (Q (Q (O [m 14 0, ls 15 14, mc 16 (i 0)]) (.block 0 (.loop
  ⟨none, [], false⟩ l_kmorph_each_api_Slot_0))) (Q (O [mc 6 (u 0)]) R))))
def ka_morph_each_api_Slot : AFn := ⟨kc_morph_each_api_Slot, 29, [.t 6], .keep, [], none⟩
def kc_morph_checker_class_2 : AC :=
  (Q (O [o 4 (.bx t_api_Slot (t 1)), mc 5 (u 0)]) (Q (Q (O [fa 6 0 4, ld 7 6, o 8 (.ar .lss (t 7) (i 0)), m 9 8, h 10 9 (.fa 0 (t 4)), h 11 9 (.ld none (t 10)), h 12 9 (.ar .gtr (t
  11) (i 24)), o 13 (.pk (t 9) T (t 12)), m 14 13, h 15 14 (.fa 1 (t 4)), h 16 14 (.ld none (t 15)), ⟨(some 17), (some (14, false)), (.call (.c (.fn (.func f_morph_short) [] [])) [(.t
  16), (.c (.fn (.func f_morph_letter) [] []))])⟩, h 18 14 (.un .not (t 17)), o 19 (.pk (t 14) T (t 18)), m 20 19, h 21 20 (.fa 2 (t 4)), h 22 20 (.ld none (t 21)), ⟨(some 23), (some
  (20, false)), (.call (.c (.fn (.func f_morph_short) [] [])) [(.t 22), (.c (.fn (.func f_morph_letter) [] []))])⟩, h 24 20 (.un .not (t 23)), o 25 (.pk (t 20) T (t 24))]) (C 25 (Q (O
  [mc 5 (u 1)]) R) X)) (Q (O [la 26 6 2, fa 27 3 4, ld 28 27, k 29 (f f_morph_checker_bundle) [(t 26), (t 28)], m 5 29]) R)))
def ka_morph_checker_class_2 : AFn := ⟨kc_morph_checker_class_2, 30, [.t 5], .keep, [], none⟩
def kc_morph_short : AC :=
  (Q (O [mc 4 F]) (Q (O [m 5 0, lt 6 5, o 7 (.ar .leq (t 6) (i 6)), m 8 7, g 9 8 (.mv (t 0)), g 10 8 (.mv (t 1)), ⟨(some 11), (some (8, true)), (.call (.c (.fn (.func f_morph_all) []
  [])) [(.t 9), (.t 10)])⟩, o 12 (.pk (t 8) (t 11) F), m 4 12]) R))
def ka_morph_short : AFn := ⟨kc_morph_short, 13, [.t 4], .keep, [], none⟩
def kc_slices_ContainsFunc_api_Entry_api_Entry : AC :=
  (Q (O [mc 4 F]) (Q (O [m 5 0, m 6 1, k 7 (f f_slices_IndexFunc_api_Entry_api_Entry) [(t 5), (t 6)], o 8 (.ar .geq (t 7) (i 0)), m 4 8]) R))
def ka_slices_ContainsFunc_api_Entry_api_Entry : AFn := ⟨kc_slices_ContainsFunc_api_Entry_api_Entry, 9, [.t 4], .keep, [], none⟩
def kc_morph_checker_entry_1 : AC :=
  (Q (O [o 2 (.bx t_api_Entry (t 0)), mc 3 F]) (Q (O [fa 4 0 2, ld 5 4, fa 6 0 1, ld 7 6, o 8 (.ar .eql (t 5) (t 7)), m 9 8, g 10 9 (.fa 1 (t 2)), g 11 9 (.ld none (t 10)), g 12 9
  (.fa 1 (t 1)), g 13 9 (.ld none (t 12)), g 14 9 (.ar .eql (t 11) (t 13)), o 15 (.pk (t 9) (t 14) F), m 3 15]) R))
def ka_morph_checker_entry_1 : AFn := ⟨kc_morph_checker_entry_1, 16, [.t 3], .keep, [], none⟩
def kc_slices_ContainsFunc_api_Slot_api_Slot : AC :=
  (Q (O [mc 4 F]) (Q (O [m 5 0, m 6 1, k 7 (f f_slices_IndexFunc_api_Slot_api_Slot) [(t 5), (t 6)], o 8 (.ar .geq (t 7) (i 0)), m 4 8]) R))
def ka_slices_ContainsFunc_api_Slot_api_Slot : AFn := ⟨kc_slices_ContainsFunc_api_Slot_api_Slot, 9, [.t 4], .keep, [], none⟩
def kc_morph_checker_entry_2 : AC :=
  (Q (O [o 2 (.bx t_api_Slot (t 0)), mc 3 F]) (Q (O [fa 4 2 1, ld 5 4, fa 6 3 2, ld 7 6, k 8 (f f_morph_clash) [(t 5), (t 7)], m 3 8]) R))
def ka_morph_checker_entry_2 : AFn := ⟨kc_morph_checker_entry_2, 9, [.t 3], .keep, [], none⟩
def kc_slices_ContainsFunc_api_Irregular_api_Irregular : AC :=
  (Q (O [mc 4 F]) (Q (O [m 5 0, m 6 1, k 7 (f f_slices_IndexFunc_api_Irregular_api_Irregular) [(t 5), (t 6)], o 8 (.ar .geq (t 7) (i 0)), m 4 8]) R))
def ka_slices_ContainsFunc_api_Irregular_api_Irregular : AFn := ⟨kc_slices_ContainsFunc_api_Irregular_api_Irregular, 9, [.t 4], .keep, [], none⟩
def kc_morph_checker_entry_3 : AC :=
  (Q (O [o 2 (.bx t_api_Irregular (t 0)), mc 3 F]) (Q (O [fa 4 0 2, ld 5 4, fa 6 0 1, ld 7 6, o 8 (.ar .eql (t 5) (t 7)), m 3 8]) R))
def ka_morph_checker_entry_3 : AFn := ⟨kc_morph_checker_entry_3, 9, [.t 3], .keep, [], none⟩
def kc_morph_around : AC :=
  (Q (O [mc 2 F]) (Q (O [m 3 0, k 4 (f f_morph_symbol) [(t 3)], m 5 4, h 6 5 (.mv (t 0)), h 7 5 (.ar .eql (t 6) (u 35)), o 8 (.pk (t 5) T (t 7)), m 9 8, h 10 9 (.mv (t 0)), h 11 9
  (.ar .eql (t 10) (u 86)), o 12 (.pk (t 9) T (t 11)), m 13 12, h 14 13 (.mv (t 0)), h 15 13 (.ar .eql (t 14) (u 67)), o 16 (.pk (t 13) T (t 15)), m 2 16]) R))
def ka_morph_around : AFn := ⟨kc_morph_around, 17, [.t 2], .keep, [], none⟩
def l_kstrings_Replace_0 : AC :=
  (Q (O [bl 54 53 52]) (Q (C 54 X (.exit 0)) (Q (.block 1 (Q (O [m 55 11, m 56 0, m 57 11, o 58 (.sls (t 56) (some (t 57)) none), m 59 1, k 60 (f f_strings_Index) [(t 58), (t 59)], o
  61 (.ar .add (t 55) (t 60)), m 12 61]) (Q (O [m 62 0, m 63 11, m 64 12, o 65 (.sls (t 62) (some (t 63)) (some (t 64))), k 66 (f f_strings_Builder_WriteString) [(t 10), (t 65)]]) (Q
  (O [m 67 2, k 68 (f f_strings_Builder_WriteString) [(t 10), (t 67)]]) (O [m 69 12, m 70 1, lt 71 70, o 72 (.ar .add (t 69) (t 71)), m 11 72]))))) (O [ad 73 53, m 53 73]))))
def l_kstrings_Replace_1 : AC :=
  (Q (O [bl 79 78 77]) (Q (C 79 X (.exit 2)) (Q (.block 3 (Q (O [m 81 0, m 82 11, o 83 (.sls (t 81) (some (t 82)) none), k 84 (f f_unicode_utf8_DecodeRuneInString) [(t 83)], m 80 84,
  ex 85 80 0, ex 86 80 1, m 13 85, m 14 86]) (Q (O [m 87 11, m 88 14, o 89 (.ar .add (t 87) (t 88)), m 15 89]) (Q (O [m 90 0, m 91 11, m 92 15, o 93 (.sls (t 90) (some (t 91)) (some
  (t 92))), k 94 (f f_strings_Builder_WriteString) [(t 10), (t 93)]]) (Q (O [m 95 2, k 96 (f f_strings_Builder_WriteString) [(t 10), (t 95)]]) (O [m 97 15, m 11 97])))))) (O [ad 98
  78, m 78 98]))))
def kc_strings_Replace : AC :=
  (Q (O [mc 8 (s [])]) (Q (Q (O [m 16 1, m 17 2, o 18 (.ar .eql (t 16) (t 17)), m 19 18, h 20 19 (.mv (t 3)), h 21 19 (.ar .eql (t 20) (i 0)), o 22 (.pk (t 19) T (t 21))]) (C 22 (Q (O
  [m 23 0, m 8 23]) R) X)) (Q (Q (O [m 24 0, m 25 1, k 26 (f f_strings_Count) [(t 24), (t 25)], m 9 26]) (Q (O [m 27 9, o 28 (.ar .eql (t 27) (i 0))]) (C 28 (Q (O [m 29 0, m 8 29]) R)
  (Q (O [m 30 3, o 31 (.ar .lss (t 30) (i 0)), m 32 31, h 33 32 (.mv (t 9)), h 34 32 (.mv (t 3)), h 35 32 (.ar .lss (t 33) (t 34)), o 36 (.pk (t 32) T (t 35))]) (C 36 (O [m 37 9, m 3
  37]) X))))) (Q (O [o 10 (.nw [.nilp, (.slice .nil 1 [])] t_strings_Builder)]) (Q (O [m 38 0, lt 39 38, m 40 3, m 41 2, lt 42 41, m 43 1, lt 44 43, o 45 (.ar .sub (t 42) (t 44)), o
  46 (.ar .mul (t 40) (t 45)), o 47 (.ar .add (t 39) (t 46)), k 48 (f f_strings_Builder_Grow) [(t 10), (t 47)]]) (Q (O [mc 11 (i 0)]) (Q (Q (O [m 49 1, lt 50 49, o 51 (.ar .gtr (t 50)
  (i 0))]) (C 51 (Q (O [m 52 3, mc 53 (i 0)]) (.block 0 (.loop ⟨none, [], false⟩ l_kstrings_Replace_0))) (Q (O [m 74 2, k 75 (f f_strings_Builder_WriteString) [(t 10), (t 74)]]) (Q (O
  [m 76 3, o 77 (.ar .sub (t 76) (i 1)), mc 78 (i 0)]) (.block 2 (.loop ⟨none, [], false⟩ l_kstrings_Replace_1)))))) (Q (O [m 99 0, m 100 11, o 101 (.sls (t 99) (some (t 100)) none),
  k 102 (f f_strings_Builder_WriteString) [(t 10), (t 101)]]) (Q (O [k 103 (f f_strings_Builder_String) [(t 10)], m 8 103]) R)))))))))
def ka_strings_Replace : AFn := ⟨kc_strings_Replace, 104, [.t 8], .keep, [8], none⟩
def l_kmorph_each_api_Feat_0 : AC :=
  (Q (O [bl 17 16 15]) (Q (C 17 X (.exit 0)) (Q (.block 1 (Q (O [m 18 16, ia 19 2 14 16, la 20 2 19, o 8 (.nw [(.str []), (.str [])] t_api_Feat), m 7 18, n (.st 2 (t 8) (t 20))]) (Q
  (O [m 21 2, m 22 7, la 23 2 8, k 24 (t 21) [(t 22), (t 23)], m 9 24]) (Q (O [m 25 9, o 26 (.ar .neq (t 25) (u 0))]) (C 26 (Q (O [m 27 9, m 6 27]) R) X))))) (O [ad 28 16, m 16
  28]))))
def kc_morph_each_api_Feat : AC :=
  (Q (O [mc 6 (u 0)]) (Q (Q (O [m 10 0, ls 11 10, m 12 1, o 13 (.ar .gtr (t 11) (t 12))]) (C 13 (Q (O [mc 6 (u 3)]) R) X)) (Q (Q (O [m 14 0, ls 15 14, mc 16 (i 0)]) (.block 0 (.loop
  ⟨none, [], false⟩ l_kmorph_each_api_Feat_0))) (Q (O [mc 6 (u 0)]) R))))
def ka_morph_each_api_Feat : AFn := ⟨kc_morph_each_api_Feat, 29, [.t 6], .keep, [], none⟩
def kc_morph_checker_bundle_1 : AC :=
  (Q (O [o 5 (.bx t_api_Feat (t 1)), mc 6 (u 0)]) (Q (O [fa 8 0 2, fa 9 1 8, ld 10 9, o 11 (.mf (.func f_morph_checker_bundle_1_1) [] [(t 5)]), k 12 (f
  f_slices_IndexFunc_api_Trait_api_Trait) [(t 10), (t 11)], m 7 12]) (Q (.block 0 (Q (O [m 14 7, o 15 (.ar .lss (t 14) (i 0)), m 13 15]) (C 13 (Q (O [mc 6 (u 5)]) R) (Q (D [P (fa 17 0
  2), P (fa 18 1 17), W (ld 19 18), P (m 20 7), P (ia 21 2 19 20), P (fa 22 1 21), W (ld 23 22), P (fa 24 1 5), W (ld 25 24), E (k 26 (f f_slices_Contains_string_string) [(t 23), (t
  25)]), P (no 27 26), P (m 16 27)]) (C 16 (Q (O [mc 6 (u 1)]) R) (Q (D [P (m 29 0), P (o 30 (.ar .gtr (t 29) (i 0))), P (m 31 30), W (g 32 31 (.ld none (t 3))), P (g 33 31 (.mv (t
  0))), P (g 34 31 (.ar .sub (t 33) (i 1))), P (g 35 31 (.ias 2 (t 32) (t 34))), P (g 36 31 (.fa 0 (t 35))), W (g 37 31 (.ld none (t 36))), P (g 38 31 (.fa 0 (t 5))), W (g 39 31 (.ld
  none (t 38))), P (g 40 31 (.ar .eql (t 37) (t 39))), P (o 41 (.pk (t 31) (t 40) F)), P (m 28 41)]) (C 28 (Q (O [mc 6 (u 6)]) R) (Q (D [P (m 43 0), P (o 44 (.ar .gtr (t 43) (i 0))),
  P (m 45 44), W (g 46 45 (.ld none (t 3))), P (g 47 45 (.mv (t 0))), P (g 48 45 (.ar .sub (t 47) (i 1))), P (g 49 45 (.ias 2 (t 46) (t 48))), P (g 50 45 (.fa 0 (t 49))), W (g 51 45
  (.ld none (t 50))), P (g 52 45 (.fa 0 (t 5))), W (g 53 45 (.ld none (t 52))), P (g 54 45 (.ar .gtr (t 51) (t 53))), P (o 55 (.pk (t 45) (t 54) F)), P (m 42 55)]) (C 42 (Q (O [mc 6
  (u 1)]) R) X))))))))) (Q (O [mc 6 (u 0)]) R))))
def ka_morph_checker_bundle_1 : AFn := ⟨kc_morph_checker_bundle_1, 56, [.t 6], .keep, [], none⟩
def l_kslices_IndexFunc_api_Trait_api_Trait_0 : AC :=
  (Q (O [bl 9 8 7]) (Q (C 9 X (.exit 0)) (Q (.block 1 (Q (O [m 10 8, m 5 10]) (Q (O [m 11 1, m 12 0, m 13 5, ia 14 2 12 13, la 15 2 14, k 16 (t 11) [(t 15)]]) (C 16 (Q (O [m 17 5, m 4
  17]) R) X)))) (O [ad 18 8, m 8 18]))))
def kc_slices_IndexFunc_api_Trait_api_Trait : AC :=
  (Q (O [mc 4 (i 0)]) (Q (Q (O [m 6 0, ls 7 6, mc 8 (i 0)]) (.block 0 (.loop ⟨none, [], false⟩ l_kslices_IndexFunc_api_Trait_api_Trait_0))) (Q (O [mc 4 (i (-1))]) R)))
def ka_slices_IndexFunc_api_Trait_api_Trait : AFn := ⟨kc_slices_IndexFunc_api_Trait_api_Trait, 19, [.t 4], .keep, [], none⟩
def kc_morph_checker_bundle_1_1 : AC :=
  (Q (O [o 2 (.bx t_api_Trait (t 0)), mc 3 F]) (Q (O [fa 4 0 2, ld 5 4, fa 6 0 1, ld 7 6, o 8 (.ar .eql (t 5) (t 7)), m 3 8]) R))
def ka_morph_checker_bundle_1_1 : AFn := ⟨kc_morph_checker_bundle_1_1, 9, [.t 3], .keep, [], none⟩
def l_kslices_IndexFunc_api_Class_api_Class_0 : AC :=
  (Q (O [bl 9 8 7]) (Q (C 9 X (.exit 0)) (Q (.block 1 (Q (O [m 10 8, m 5 10]) (Q (O [m 11 1, m 12 0, m 13 5, ia 14 2 12 13, la 15 2 14, k 16 (t 11) [(t 15)]]) (C 16 (Q (O [m 17 5, m 4
  17]) R) X)))) (O [ad 18 8, m 8 18]))))
def kc_slices_IndexFunc_api_Class_api_Class : AC :=
  (Q (O [mc 4 (i 0)]) (Q (Q (O [m 6 0, ls 7 6, mc 8 (i 0)]) (.block 0 (.loop ⟨none, [], false⟩ l_kslices_IndexFunc_api_Class_api_Class_0))) (Q (O [mc 4 (i (-1))]) R)))
def ka_slices_IndexFunc_api_Class_api_Class : AFn := ⟨kc_slices_IndexFunc_api_Class_api_Class, 19, [.t 4], .keep, [], none⟩
def kc_morph_classOf_1 : AC :=
  (Q (O [o 2 (.bx t_api_Class (t 0)), mc 3 F]) (Q (O [fa 4 0 2, ld 5 4, ld 6 1, o 7 (.ar .eql (t 5) (t 6)), m 3 7]) R))
def ka_morph_classOf_1 : AFn := ⟨kc_morph_classOf_1, 8, [.t 3], .keep, [], none⟩
def kc_internal_stringslite_HasPrefix : AC :=
  (Q (O [mc 4 F]) (Q (O [m 5 0, lt 6 5, m 7 1, lt 8 7, o 9 (.ar .geq (t 6) (t 8)), m 10 9, g 11 10 (.mv (t 0)), g 12 10 (.mv (t 1)), g 13 10 (.len .str (t 12)), g 14 10 (.sls (t 11)
  none (some (t 13))), g 15 10 (.mv (t 1)), g 16 10 (.ar .eql (t 14) (t 15)), o 17 (.pk (t 10) (t 16) F), m 4 17]) R))
def ka_internal_stringslite_HasPrefix : AFn := ⟨kc_internal_stringslite_HasPrefix, 18, [.t 4], .keep, [], none⟩
def kc_morph_language_match : AC :=
  (Q (O [o 4 (.bx t_morph_language (t 0)), mc 8 F]) (Q (Q (O [m 11 3, o 12 (.ar .lss (t 11) (i 0)), m 13 12, h 14 13 (.mv (t 3)), h 15 13 (.mv (t 2)), h 16 13 (.len .str (t 15)), h 17
  13 (.ar .geq (t 14) (t 16)), o 18 (.pk (t 13) T (t 17))]) (C 18 (Q (O [m 19 1, o 20 (.ar .eql (t 19) (u 35)), m 21 20, g 22 21 (.mv (t 3)), g 23 21 (.ar .eql (t 22) (i (-1))), g 24
  21 (.mv (t 23)), h 25 24 (.mv (t 3)), h 26 24 (.mv (t 2)), h 27 24 (.len .str (t 26)), h 28 24 (.ar .eql (t 25) (t 27)), g 29 21 (.pk (t 24) T (t 28)), o 30 (.pk (t 21) (t 29) F), m
  8 30]) R) X)) (Q (O [m 31 2, m 32 3, o 33 (.ixs (t 31) (t 32)), m 9 33]) (Q (O [fa 34 0 4, fa 35 0 34, ld 36 35, m 37 9, k 38 (f f_strings_IndexByte) [(t 36), (t 37)], o 39 (.ar
  .geq (t 38) (i 0)), m 10 39]) (Q (Q (O [m 40 1]) (.block 0 (Q (.block 2 (Q (.block 1 (Q (Q (Q (O [o 42 (.ar .eql (t 40) (u 67)), m 41 42]) (C 41 (.exit 1) X)) (Q (O [o 44 (.ar .eql
  (t 40) (u 86)), m 43 44]) (C 43 (.exit 2) X))) (.exit 0))) (O [m 45 10, no 46 45, m 10 46]))) (Q (Q (O [m 47 9, k 48 (f f_morph_letter) [(t 47)], m 49 48, g 50 49 (.mv (t 10)), o 51
  (.pk (t 49) (t 50) F), m 8 51]) R) (.exit 0))))) (Q (O [m 52 1, m 53 9, o 54 (.ar .eql (t 52) (t 53)), m 8 54]) R))))))
def ka_morph_language_match : AFn := ⟨kc_morph_language_match, 55, [.t 8], .keep, [], none⟩
def kc_strings_Builder_copyCheck : AC :=
  (Q (O [m 2 0, o 3 (.nc (t 2)), fa 4 0 3, ld 5 4, o 6 (.eq false .ptr (t 5) (.c .nilp))]) (C 6 (O [m 7 0, m 8 0, o 9 (.cvu (t 8)), k 10 (f f_internal_abi_NoEscape) [(t 9)], o 11
  (.cvf t_strings_Builder 2 (t 10)), o 12 (.nc (t 7)), fa 13 0 12, n (.st 1 (t 13) (t 11))]) (Q (O [m 14 0, o 15 (.nc (t 14)), fa 16 0 15, ld 17 16, m 18 0, o 19 (.eq true .ptr (t 17)
  (t 18))]) (C 19 .bad X))))
def ka_strings_Builder_copyCheck : AFn := ⟨kc_strings_Builder_copyCheck, 20, [], .keep, [], none⟩
def l_kunicode_utf8_RuneCountInString_0 : AC :=
  (Q (O [o 5 (.nx (t 4)), ex 6 5 0]) (Q (C 6 X (.exit 0)) (.block 1 (O [m 7 2, ad 8 7, m 2 8]))))
def kc_unicode_utf8_RuneCountInString : AC :=
  (Q (O [mc 2 (i 0)]) (Q (Q (O [m 3 0, o 4 (.rg (t 3))]) (.block 0 (.loop ⟨none, [], false⟩ l_kunicode_utf8_RuneCountInString_0))) (Q (O [m 9 2, m 2 9]) R)))
def ka_unicode_utf8_RuneCountInString : AFn := ⟨kc_unicode_utf8_RuneCountInString, 10, [.t 2], .keep, [], none⟩
def kc_unicode_utf8_DecodeRuneInString : AC :=
  (Q (O [mc 2 (.c (.int .i32 0)), mc 3 (i 0)]) (Q (Q (O [m 4 0, o 5 (.ar .neq (t 4) (s [])), m 6 5, g 7 6 (.mv (t 0)), g 8 6 (.ixs (t 7) (i 0)), g 9 6 (.ar .lss (t 8) (u 128)), o 10
  (.pk (t 6) (t 9) F)]) (C 10 (Q (O [m 11 0, o 12 (.ixs (t 11) (i 0)), o 13 (.cvi .i32 (t 12)), m 2 13, mc 3 (i 1)]) R) (O [m 15 0, k 16 (f f_unicode_utf8_decodeRuneInStringSlow) [(t
  15)], m 14 16, ex 17 14 0, ex 18 14 1, m 2 17, m 3 18]))) R))
def ka_unicode_utf8_DecodeRuneInString : AFn := ⟨kc_unicode_utf8_DecodeRuneInString, 19, [.t 2, .t 3], .keep, [], none⟩
def l_kinternal_stringslite_Index_0 : AC :=
  (Q (Q (O [m 57 8, m 58 9, bl 59 57 58]) (C 59 X (.exit 1))) (.block 2 (Q (Q (O [m 60 0, m 61 8, o 62 (.ixs (t 60) (t 61)), m 63 6, o 64 (.ar .neq (t 62) (t 63))]) (C 64 (Q (O [m 65
  0, m 66 8, ad 67 66, m 68 9, o 69 (.sls (t 65) (some (t 67)) (some (t 68))), m 70 6, k 71 (f f_internal_stringslite_IndexByte) [(t 69), (t 70)], m 11 71]) (Q (Q (O [m 72 11, o 73
  (.ar .lss (t 72) (i 0))]) (C 73 (Q (O [mc 4 (i (-1))]) R) X)) (O [m 74 8, m 75 11, ad 76 75, o 77 (.ar .add (t 74) (t 76)), m 8 77]))) X)) (Q (Q (O [m 78 0, m 79 8, ad 80 79, o 81
  (.ixs (t 78) (t 80)), m 82 7, o 83 (.ar .eql (t 81) (t 82)), m 84 83, g 85 84 (.mv (t 0)), g 86 84 (.mv (t 8)), g 87 84 (.mv (t 8)), g 88 84 (.mv (t 5)), g 89 84 (.ar .add (t 87) (t
  88)), g 90 84 (.sls (t 85) (some (t 86)) (some (t 89))), g 91 84 (.mv (t 1)), g 92 84 (.ar .eql (t 90) (t 91)), o 93 (.pk (t 84) (t 92) F)]) (C 93 (Q (O [m 94 8, m 4 94]) R) X)) (Q
  (O [m 95 8, ad 96 95, m 8 96]) (Q (O [m 97 10, ad 98 97, m 10 98]) (Q (O [m 99 5, o 100 (.ld none (.c .unk)), o 101 (.ar .leq (t 99) (t 100)), m 102 101, g 103 102 (.mv (t 10)), g
  104 102 (.mv (t 8)), ⟨(some 105), (some (102, true)), (.call (.c (.fn (.func f_internal_bytealg_Cutover) [] [])) [(.t 104)])⟩, g 106 102 (.ar .gtr (t 103) (t 105)), o 107 (.pk (t
  102) (t 106) F)]) (C 107 (Q (O [m 108 0, m 109 8, o 110 (.sls (t 108) (some (t 109)) none), m 111 1, k 112 (f f_internal_bytealg_IndexString) [(t 110), (t 111)], m 12 112]) (Q (Q (O
  [m 113 12, o 114 (.ar .geq (t 113) (i 0))]) (C 114 (Q (O [m 115 12, m 116 8, o 117 (.ar .add (t 115) (t 116)), m 4 117]) R) X)) (Q (O [mc 4 (i (-1))]) R))) (Q (O [m 118 5, o 119
  (.ld none (.c .unk)), o 120 (.ar .gtr (t 118) (t 119)), m 121 120, g 122 121 (.mv (t 10)), g 123 121 (.mv (t 8)), g 124 121 (.sh .shr (t 123) (.c (.int .u64 4))), g 125 121 (.ar
  .add (i 4) (t 124)), g 126 121 (.ar .geq (t 122) (t 125)), o 127 (.pk (t 121) (t 126) F), m 128 127, g 129 128 (.mv (t 8)), g 130 128 (.mv (t 9)), g 131 128 (.ar .lss (t 129) (t
  130)), o 132 (.pk (t 128) (t 131) F)]) (C 132 (Q (O [m 133 0, m 134 8, o 135 (.sls (t 133) (some (t 134)) none), m 136 1, k 137 (f f_internal_bytealg_IndexRabinKarp_string) [(t
  135), (t 136)], m 13 137]) (Q (Q (O [m 138 13, o 139 (.ar .lss (t 138) (i 0))]) (C 139 (Q (O [mc 4 (i (-1))]) R) X)) (Q (O [m 140 8, m 141 13, o 142 (.ar .add (t 140) (t 141)), m 4
  142]) R))) X))))))))))
def kc_internal_stringslite_Index : AC :=
  (Q (O [mc 4 (i 0)]) (Q (O [m 14 1, lt 15 14, m 5 15]) (Q (.block 0 (Q (O [m 17 5, o 18 (.ar .eql (t 17) (i 0)), m 19 18, h 20 19 (.mv (t 1)), h 21 19 (.mv (t 0)), h 22 19 (.ar .eql
  (t 20) (t 21)), o 23 (.pk (t 19) T (t 22)), m 16 23]) (C 16 (Q (O [mc 4 (i 0)]) R) (Q (O [m 25 5, o 26 (.ar .eql (t 25) (i 1)), m 24 26]) (C 24 (Q (O [m 27 0, m 28 1, o 29 (.ixs (t
  28) (i 0)), k 30 (f f_internal_stringslite_IndexByte) [(t 27), (t 29)], m 4 30]) R) (Q (O [m 32 5, m 33 0, lt 34 33, o 35 (.ar .geq (t 32) (t 34)), m 31 35]) (C 31 (Q (O [mc 4 (i
  (-1))]) R) (Q (O [m 37 5, o 38 (.ld none (.c .unk)), o 39 (.ar .leq (t 37) (t 38)), m 40 39, g 41 40 (.mv (t 0)), g 42 40 (.len .str (t 41)), g 43 40 (.ar .leq (t 42) (i 64)), o 44
  (.pk (t 40) (t 43) F), m 36 44]) (C 36 (Q (O [m 45 0, m 46 1, k 47 (f f_internal_bytealg_IndexString) [(t 45), (t 46)], m 4 47]) R) X))))))))) (Q (O [m 48 1, o 49 (.ixs (t 48) (i
  0)), m 6 49]) (Q (O [m 50 1, o 51 (.ixs (t 50) (i 1)), m 7 51]) (Q (O [mc 8 (i 0)]) (Q (O [m 52 0, lt 53 52, m 54 5, o 55 (.ar .sub (t 53) (t 54)), ad 56 55, m 9 56]) (Q (O [mc 10
  (i 0)]) (Q (.block 1 (.loop ⟨none, [], false⟩ l_kinternal_stringslite_Index_0)) (Q (O [mc 4 (i (-1))]) R))))))))))
def ka_internal_stringslite_Index : AFn := ⟨kc_internal_stringslite_Index, 143, [.t 4], .keep, [], none⟩
def kc_strconv_Atoi : AC :=
  (Q (O [mc 2 (i 0), mc 3 (.c .nilif)]) (Q (O [m 7 0, k 8 (f f_internal_strconv_Atoi) [(t 7)], m 6 8, ex 9 6 0, ex 10 6 1, m 4 9, m 5 10]) (Q (Q (O [m 11 5, o 12 (.eq true (.ifc true)
  (t 11) (.c .nilif))]) (C 12 (Q (O [m 13 4, m 14 0, m 15 5, k 16 (f f_strconv_toError) [(s [65, 116, 111, 105]), (t 14), (i 0), (i 0), (t 15)], m 2 13, m 3 16]) R) X)) (Q (O [m 17 4,
  m 2 17, mc 3 (.c .nilif)]) R))))
def ka_strconv_Atoi : AFn := ⟨kc_strconv_Atoi, 18, [.t 2, .t 3], .keep, [], none⟩
def kc_strconv_Itoa : AC :=
  (Q (O [mc 2 (s [])]) (Q (O [m 3 0, k 4 (f f_internal_strconv_Itoa) [(t 3)], m 2 4]) R))
def ka_strconv_Itoa : AFn := ⟨kc_strconv_Itoa, 5, [.t 2], .keep, [], none⟩
def kc_strings_Cut : AC :=
  (Q (O [mc 4 (s []), mc 5 (s []), mc 6 F]) (Q (O [m 7 0, m 8 1, k 9 (f f_internal_stringslite_Cut) [(t 7), (t 8)], ex 10 9 0, ex 11 9 1, ex 12 9 2, m 4 10, m 5 11, m 6 12]) R))
def ka_strings_Cut : AFn := ⟨kc_strings_Cut, 13, [.t 4, .t 5, .t 6], .keep, [], none⟩
def l_kslices_IndexFunc_api_Entry_api_Entry_0 : AC :=
  (Q (O [bl 9 8 7]) (Q (C 9 X (.exit 0)) (Q (.block 1 (Q (O [m 10 8, m 5 10]) (Q (O [m 11 1, m 12 0, m 13 5, ia 14 4 12 13, la 15 4 14, k 16 (t 11) [(t 15)]]) (C 16 (Q (O [m 17 5, m 4
  17]) R) X)))) (O [ad 18 8, m 8 18]))))
def kc_slices_IndexFunc_api_Entry_api_Entry : AC :=
  (Q (O [mc 4 (i 0)]) (Q (Q (O [m 6 0, ls 7 6, mc 8 (i 0)]) (.block 0 (.loop ⟨none, [], false⟩ l_kslices_IndexFunc_api_Entry_api_Entry_0))) (Q (O [mc 4 (i (-1))]) R)))
def ka_slices_IndexFunc_api_Entry_api_Entry : AFn := ⟨kc_slices_IndexFunc_api_Entry_api_Entry, 19, [.t 4], .keep, [], none⟩
def l_kslices_IndexFunc_api_Slot_api_Slot_0 : AC :=
  (Q (O [bl 9 8 7]) (Q (C 9 X (.exit 0)) (Q (.block 1 (Q (O [m 10 8, m 5 10]) (Q (O [m 11 1, m 12 0, m 13 5, ia 14 4 12 13, la 15 4 14, k 16 (t 11) [(t 15)]]) (C 16 (Q (O [m 17 5, m 4
  17]) R) X)))) (O [ad 18 8, m 8 18]))))
def kc_slices_IndexFunc_api_Slot_api_Slot : AC :=
  (Q (O [mc 4 (i 0)]) (Q (Q (O [m 6 0, ls 7 6, mc 8 (i 0)]) (.block 0 (.loop ⟨none, [], false⟩ l_kslices_IndexFunc_api_Slot_api_Slot_0))) (Q (O [mc 4 (i (-1))]) R)))
def ka_slices_IndexFunc_api_Slot_api_Slot : AFn := ⟨kc_slices_IndexFunc_api_Slot_api_Slot, 19, [.t 4], .keep, [], none⟩
def l_kslices_IndexFunc_api_Irregular_api_Irregular_0 : AC :=
  (Q (O [bl 9 8 7]) (Q (C 9 X (.exit 0)) (Q (.block 1 (Q (O [m 10 8, m 5 10]) (Q (O [m 11 1, m 12 0, m 13 5, ia 14 2 12 13, la 15 2 14, k 16 (t 11) [(t 15)]]) (C 16 (Q (O [m 17 5, m 4
  17]) R) X)))) (O [ad 18 8, m 8 18]))))
def kc_slices_IndexFunc_api_Irregular_api_Irregular : AC :=
  (Q (O [mc 4 (i 0)]) (Q (Q (O [m 6 0, ls 7 6, mc 8 (i 0)]) (.block 0 (.loop ⟨none, [], false⟩ l_kslices_IndexFunc_api_Irregular_api_Irregular_0))) (Q (O [mc 4 (i (-1))]) R)))
def ka_slices_IndexFunc_api_Irregular_api_Irregular : AFn := ⟨kc_slices_IndexFunc_api_Irregular_api_Irregular, 19, [.t 4], .keep, [], none⟩
def kc_strings_Builder_Grow : AC :=
  (Q (O [m 4 0, k 5 (f f_strings_Builder_copyCheck) [(t 4)]]) (Q (Q (O [m 6 1, o 7 (.ar .lss (t 6) (i 0))]) (C 7 (O [o 8 (.mi t_string (s [115, 116, 114, 105, 110, 103, 115, 46, 66,
  117, 105, 108, 100, 101, 114, 46, 71, 114, 111, 119, 58, 32, 110, 101, 103, 97, 116, 105, 118, 101, 32, 99, 111, 117, 110, 116])), ⟨none, none, (.panic (.t 8))⟩]) X)) (Q (D [P (m 9
  0), P (o 10 (.nc (t 9))), P (fa 11 1 10), W (ld 12 11), P (o 13 (.cap (t 12))), P (m 14 0), P (o 15 (.nc (t 14))), P (fa 16 1 15), W (ld 17 16), W (ls 18 17), P (o 19 (.ar .sub (t
  13) (t 18))), P (m 20 1), P (bl 21 19 20)]) (C 21 (O [m 22 0, m 23 1, k 24 (f f_strings_Builder_grow) [(t 22), (t 23)]]) X))))
def ka_strings_Builder_Grow : AFn := ⟨kc_strings_Builder_Grow, 25, [], .keep, [], none⟩
def kc_strings_IndexByte : AC :=
  (Q (O [mc 4 (i 0)]) (Q (O [m 5 0, m 6 1, k 7 (f f_internal_stringslite_IndexByte) [(t 5), (t 6)], m 4 7]) R))
def ka_strings_IndexByte : AFn := ⟨kc_strings_IndexByte, 8, [.t 4], .keep, [], none⟩
def kc_math_bits_Len64 : AC :=
  (Q (O [mc 2 (i 0)]) (Q (Q (O [m 3 0, o 4 (.ar .geq (t 3) (.c (.int .u64 4294967296)))]) (C 4 (Q (O [m 5 0, o 6 (.sh .shr (t 5) (.c (.int .u64 32))), m 0 6]) (O [mc 2 (i 32)])) X))
  (Q (Q (O [m 7 0, o 8 (.ar .geq (t 7) (.c (.int .u64 65536)))]) (C 8 (Q (O [m 9 0, o 10 (.sh .shr (t 9) (.c (.int .u64 16))), m 0 10]) (O [m 11 2, o 12 (.ar .add (t 11) (i 16)), m 2
  12])) X)) (Q (Q (O [m 13 0, o 14 (.ar .geq (t 13) (.c (.int .u64 256)))]) (C 14 (Q (O [m 15 0, o 16 (.sh .shr (t 15) (.c (.int .u64 8))), m 0 16]) (O [m 17 2, o 18 (.ar .add (t 17)
  (i 8)), m 2 18])) X)) (Q (O [m 19 2, m 20 0, o 21 (.cvi .u8 (t 20)), o 22 (.ixs (s [0, 1, 2, 2, 3, 3, 3, 3, 4, 4, 4, 4, 4, 4, 4, 4, 5, 5, 5, 5, 5, 5, 5, 5, 5, 5, 5, 5, 5, 5, 5, 5,
  6, 6, 6, 6, 6, 6, 6, 6, 6, 6, 6, 6, 6, 6, 6, 6, 6, 6, 6, 6, 6, 6, 6, 6, 6, 6, 6, 6, 6, 6, 6, 6, 7, 7, 7, 7, 7, 7, 7, 7, 7, 7, 7, 7, 7, 7, 7, 7, 7, 7, 7, 7, 7, 7, 7, 7, 7, 7, 7, 7,
  7, 7, 7, 7, 7, 7, 7, 7, 7, 7, 7, 7, 7, 7, 7, 7, 7, 7, 7, 7, 7, 7, 7, 7, 7, 7, 7, 7, 7, 7, 7, 7, 7, 7, 7, 7, 8, 8, 8, 8, 8, 8, 8, 8, 8, 8, 8, 8, 8, 8, 8, 8, 8, 8, 8, 8, 8, 8, 8, 8,
  8, 8, 8, 8, 8, 8, 8, 8, 8, 8, 8, 8, 8, 8, 8, 8, 8, 8, 8, 8, 8, 8, 8, 8, 8, 8, 8, 8, 8, 8, 8, 8, 8, 8, 8, 8, 8, 8, 8, 8, 8, 8, 8, 8, 8, 8, 8, 8, 8, 8, 8, 8, 8, 8, 8, 8, 8, 8, 8, 8,
  8, 8, 8, 8, 8, 8, 8, 8, 8, 8, 8, 8, 8, 8, 8, 8, 8, 8, 8, 8, 8, 8, 8, 8, 8, 8, 8, 8, 8, 8, 8, 8, 8, 8, 8, 8, 8, 8, 8, 8, 8, 8, 8, 8]) (t 21)), o 23 (.cvi .i64 (t 22)), o 24 (.ar .add
  (t 19) (t 23)), m 2 24]) R)))))
def ka_math_bits_Len64 : AFn := ⟨kc_math_bits_Len64, 25, [.t 2], .keep, [], none⟩
def kc_unicode_utf8_decodeRuneInStringSlow : AC :=
  (Q (O [mc 2 (.c (.int .i32 0)), mc 3 (i 0)]) (Q (O [m 13 0, lt 14 13, m 4 14]) (Q (Q (O [m 15 4, o 16 (.ar .lss (t 15) (i 1))]) (C 16 (Q (O [mc 2 (.c (.int .i32 65533)), mc 3 (i
  0)]) R) X)) (Q (O [m 17 0, o 18 (.ixs (t 17) (i 0)), m 5 18]) (Q (O [m 19 5, o 20 (.iaa 256 1 (.c .unk) (t 19)), ld 21 20, m 6 21]) (Q (Q (O [m 22 6, o 23 (.ar .geq (t 22) (u
  240))]) (C 23 (Q (O [m 24 6, o 25 (.cvi .i32 (t 24)), o 26 (.sh .shl (t 25) (.c (.int .u64 31))), o 27 (.sh .shr (t 26) (.c (.int .u64 31))), m 7 27]) (Q (O [m 28 0, o 29 (.ixs (t
  28) (i 0)), o 30 (.cvi .i32 (t 29)), m 31 7, o 32 (.an (t 30) (t 31)), m 33 7, o 34 (.ar .and (.c (.int .i32 65533)) (t 33)), o 35 (.ar .or (t 32) (t 34)), m 2 35, mc 3 (i 1)]) R))
  X)) (Q (O [m 36 6, o 37 (.ar .and (t 36) (u 7)), o 38 (.cvi .i64 (t 37)), m 8 38]) (Q (O [m 39 6, o 40 (.sh .shr (t 39) (.c (.int .u64 4))), o 41 (.iaa 16 2 (.c .unk) (t 40)), la 42
  2 41, o 9 (.nw [(.int .u8 0), (.int .u8 0)] t_utf8_acceptRange), n (.st 2 (t 9) (t 42))]) (Q (Q (O [m 43 4, m 44 8, bl 45 43 44]) (C 45 (Q (O [mc 2 (.c (.int .i32 65533)), mc 3 (i
  1)]) R) X)) (Q (O [m 46 0, o 47 (.ixs (t 46) (i 1)), m 10 47]) (Q (Q (O [m 48 10, fa 49 0 9, ld 50 49, bl 51 48 50, m 52 51, h 53 52 (.fa 1 (t 9)), h 54 52 (.ld none (t 53)), h 55
  52 (.mv (t 10)), h 56 52 (.ar .lss (t 54) (t 55)), o 57 (.pk (t 52) T (t 56))]) (C 57 (Q (O [mc 2 (.c (.int .i32 65533)), mc 3 (i 1)]) R) X)) (Q (Q (O [m 58 8, o 59 (.ar .leq (t 58)
  (i 2))]) (C 59 (Q (O [m 60 5, o 61 (.ar .and (t 60) (u 31)), o 62 (.cvi .i32 (t 61)), o 63 (.sh .shl (t 62) (.c (.int .u64 6))), m 64 10, o 65 (.ar .and (t 64) (u 63)), o 66 (.cvi
  .i32 (t 65)), o 67 (.ar .or (t 63) (t 66)), m 2 67, mc 3 (i 2)]) R) X)) (Q (O [m 68 0, o 69 (.ixs (t 68) (i 2)), m 11 69]) (Q (Q (O [m 70 11, o 71 (.ar .lss (t 70) (u 128)), m 72
  71, h 73 72 (.mv (t 11)), h 74 72 (.ar .lss (u 191) (t 73)), o 75 (.pk (t 72) T (t 74))]) (C 75 (Q (O [mc 2 (.c (.int .i32 65533)), mc 3 (i 1)]) R) X)) (Q (Q (O [m 76 8, o 77 (.ar
  .leq (t 76) (i 3))]) (C 77 (Q (O [m 78 5, o 79 (.ar .and (t 78) (u 15)), o 80 (.cvi .i32 (t 79)), o 81 (.sh .shl (t 80) (.c (.int .u64 12))), m 82 10, o 83 (.ar .and (t 82) (u 63)),
  o 84 (.cvi .i32 (t 83)), o 85 (.sh .shl (t 84) (.c (.int .u64 6))), o 86 (.ar .or (t 81) (t 85)), m 87 11, o 88 (.ar .and (t 87) (u 63)), o 89 (.cvi .i32 (t 88)), o 90 (.ar .or (t
  86) (t 89)), m 2 90, mc 3 (i 3)]) R) X)) (Q (O [m 91 0, o 92 (.ixs (t 91) (i 3)), m 12 92]) (Q (Q (O [m 93 12, o 94 (.ar .lss (t 93) (u 128)), m 95 94, h 96 95 (.mv (t 12)), h 97 95
  (.ar .lss (u 191) (t 96)), o 98 (.pk (t 95) T (t 97))]) (C 98 (Q (O [mc 2 (.c (.int .i32 65533)), mc 3 (i 1)]) R) X)) (Q (O [m 99 5, o 100 (.ar .and (t 99) (u 7)), o 101 (.cvi .i32
  (t 100)), o 102 (.sh .shl (t 101) (.c (.int .u64 18))), m 103 10, o 104 (.ar .and (t 103) (u 63)), o 105 (.cvi .i32 (t 104)), o 106 (.sh .shl (t 105) (.c (.int .u64 12))), o 107
  (.ar .or (t 102) (t 106)), m 108 11, o 109 (.ar .and (t 108) (u 63)), o 110 (.cvi .i32 (t 109)), o 111 (.sh .shl (t 110) (.c (.int .u64 6))), o 112 (.ar .or (t 107) (t 111)), m 113
  12, o 114 (.ar .and (t 113) (u 63)), o 115 (.cvi .i32 (t 114)), o 116 (.ar .or (t 112) (t 115)), m 2 116, mc 3 (i 4)]) R))))))))))))))))))
def ka_unicode_utf8_decodeRuneInStringSlow : AFn := ⟨kc_unicode_utf8_decodeRuneInStringSlow, 117, [.t 2, .t 3], .keep, [], none⟩
def kc_internal_stringslite_IndexByte : AC :=
  (Q (O [mc 4 (i 0)]) (Q (O [m 5 0, m 6 1, k 7 (f f_internal_bytealg_IndexByteString) [(t 5), (t 6)], m 4 7]) R))
def ka_internal_stringslite_IndexByte : AFn := ⟨kc_internal_stringslite_IndexByte, 8, [.t 4], .keep, [], none⟩
def kc_internal_bytealg_Cutover : AC :=
  (Q (O [mc 2 (i 0)]) (Q (O [m 3 0, o 4 (.ar .add (t 3) (i 16)), o 5 (.ar .quo (t 4) (i 8)), m 2 5]) R))
def ka_internal_bytealg_Cutover : AFn := ⟨kc_internal_bytealg_Cutover, 6, [.t 2], .keep, [], none⟩
def l_kinternal_bytealg_IndexRabinKarp_string_0 : AC :=
  (Q (Q (O [m 18 9, m 19 7, bl 20 18 19]) (C 20 X (.exit 0))) (Q (.block 1 (O [m 23 8, o 24 (.ar .mul (t 23) (.c (.int .u32 16777619))), m 25 0, m 26 9, o 27 (.ixs (t 25) (t 26)), o
  28 (.cvi .u32 (t 27)), o 29 (.ar .add (t 24) (t 28)), m 8 29])) (O [m 21 9, ad 22 21, m 9 22])))
def l_kinternal_bytealg_IndexRabinKarp_string_1 : AC :=
  (Q (Q (O [m 41 10, m 42 0, lt 43 42, bl 44 41 43]) (C 44 X (.exit 2))) (.block 3 (Q (O [m 45 8, o 46 (.ar .mul (t 45) (.c (.int .u32 16777619))), m 8 46]) (Q (O [m 47 8, m 48 0, m
  49 10, o 50 (.ixs (t 48) (t 49)), o 51 (.cvi .u32 (t 50)), o 52 (.ar .add (t 47) (t 51)), m 8 52]) (Q (O [m 53 8, m 54 6, m 55 0, m 56 10, m 57 7, o 58 (.ar .sub (t 56) (t 57)), o
  59 (.ixs (t 55) (t 58)), o 60 (.cvi .u32 (t 59)), o 61 (.ar .mul (t 54) (t 60)), o 62 (.ar .sub (t 53) (t 61)), m 8 62]) (Q (O [m 63 10, ad 64 63, m 10 64]) (Q (O [m 65 8, m 66 5, o
  67 (.ar .eql (t 65) (t 66)), m 68 67, g 69 68 (.mv (t 0)), g 70 68 (.mv (t 10)), g 71 68 (.mv (t 7)), g 72 68 (.ar .sub (t 70) (t 71)), g 73 68 (.mv (t 10)), g 74 68 (.sls (t 69)
  (some (t 72)) (some (t 73))), g 75 68 (.mv (t 1)), g 76 68 (.ar .eql (t 74) (t 75)), o 77 (.pk (t 68) (t 76) F)]) (C 77 (Q (O [m 78 10, m 79 7, o 80 (.ar .sub (t 78) (t 79)), m 4
  80]) R) X))))))))
def kc_internal_bytealg_IndexRabinKarp_string : AC :=
  (Q (O [mc 4 (i 0)]) (Q (O [m 12 1, k 13 (f f_internal_bytealg_hashStr_string) [(t 12)], m 11 13, ex 14 11 0, ex 15 11 1, m 5 14, m 6 15]) (Q (O [m 16 1, lt 17 16, m 7 17]) (Q (O [mc
  8 (.c (.int .u32 0))]) (Q (Q (O [mc 9 (i 0)]) (.block 0 (.loop ⟨none, [], false⟩ l_kinternal_bytealg_IndexRabinKarp_string_0))) (Q (Q (O [m 30 8, m 31 5, o 32 (.ar .eql (t 30) (t
  31)), m 33 32, g 34 33 (.mv (t 0)), g 35 33 (.mv (t 7)), g 36 33 (.sls (t 34) none (some (t 35))), g 37 33 (.mv (t 1)), g 38 33 (.ar .eql (t 36) (t 37)), o 39 (.pk (t 33) (t 38)
  F)]) (C 39 (Q (O [mc 4 (i 0)]) R) X)) (Q (Q (O [m 40 7, m 10 40]) (.block 2 (.loop ⟨none, [], false⟩ l_kinternal_bytealg_IndexRabinKarp_string_1))) (Q (O [mc 4 (i (-1))]) R))))))))
def ka_internal_bytealg_IndexRabinKarp_string : AFn := ⟨kc_internal_bytealg_IndexRabinKarp_string, 81, [.t 4], .keep, [], none⟩
def l_kinternal_strconv_Atoi_0 : AC :=
  (Q (O [bl 50 49 48]) (Q (C 50 X (.exit 0)) (Q (.block 1 (Q (O [ia 51 1 47 49, ld 52 51, m 8 52]) (Q (O [m 53 8, o 54 (.ar .sub (t 53) (u 48)), m 8 54]) (Q (Q (O [m 55 8, o 56 (.ar
  .gtr (t 55) (u 9))]) (C 56 (Q (O [o 57 (.mi t_strconv_Error (i 2)), mc 2 (i 0), m 3 57]) R) X)) (O [m 58 6, o 59 (.ar .mul (t 58) (i 10)), m 60 8, o 61 (.cvi .i64 (t 60)), o 62 (.ar
  .add (t 59) (t 61)), m 6 62]))))) (O [ad 63 49, m 49 63]))))
def kc_internal_strconv_Atoi : AC :=
  (Q (O [mc 2 (i 0), mc 3 (.c .nilif)]) (Q (O [m 11 0, lt 12 11, m 4 12]) (Q (Q (O [mc 13 F, g 14 13 (.mv (t 4)), g 15 13 (.ar .lss (i 0) (t 14)), g 16 13 (.mv (t 15)), g 17 16 (.mv
  (t 4)), g 18 16 (.ar .lss (t 17) (i 10)), g 19 13 (.pk (t 16) (t 18) F), o 20 (.pk (t 13) (t 19) F), m 21 20, h 22 21 (.mv T), g 23 22 (.mv (t 4)), g 24 22 (.ar .lss (i 0) (t 23)),
  g 25 22 (.mv (t 24)), g 26 25 (.mv (t 4)), g 27 25 (.ar .lss (t 26) (i 19)), g 28 22 (.pk (t 25) (t 27) F), h 29 21 (.pk (t 22) (t 28) F), o 30 (.pk (t 21) T (t 29))]) (C 30 (Q (O
  [m 31 0, m 5 31]) (Q (Q (O [m 32 0, o 33 (.ixs (t 32) (i 0)), o 34 (.ar .eql (t 33) (u 45)), m 35 34, h 36 35 (.mv (t 0)), h 37 35 (.ixs (t 36) (i 0)), h 38 35 (.ar .eql (t 37) (u
  43)), o 39 (.pk (t 35) T (t 38))]) (C 39 (Q (O [m 40 0, o 41 (.sls (t 40) (some (i 1)) none), m 0 41]) (Q (O [m 42 0, lt 43 42, o 44 (.ar .lss (t 43) (i 1))]) (C 44 (Q (O [o 45 (.mi
  t_strconv_Error (i 2)), mc 2 (i 0), m 3 45]) R) X))) X)) (Q (O [mc 6 (i 0)]) (Q (Q (O [m 46 0, o 47 (.cvsb (t 46)), ls 48 47, mc 49 (i 0)]) (.block 0 (.loop ⟨none, [], false⟩
  l_kinternal_strconv_Atoi_0))) (Q (Q (O [m 64 5, o 65 (.ixs (t 64) (i 0)), o 66 (.ar .eql (t 65) (u 45))]) (C 66 (O [m 67 6, o 68 (.un .neg (t 67)), m 6 68]) X)) (Q (O [m 69 6, m 2
  69, mc 3 (.c .nilif)]) R)))))) X)) (Q (O [m 71 0, k 72 (f f_internal_strconv_ParseInt) [(t 71), (i 10), (i 0)], m 70 72, ex 73 70 0, ex 74 70 1, m 9 73, m 10 74]) (Q (O [m 75 9, m
  76 10, m 2 75, m 3 76]) R)))))
def ka_internal_strconv_Atoi : AFn := ⟨kc_internal_strconv_Atoi, 77, [.t 2, .t 3], .keep, [], none⟩
def kc_strconv_toError : AC :=
  (Q (O [mc 10 (.c .nilif)]) (Q (Q (O [m 11 4]) (.block 0 (Q (O [o 13 (.mi t_strconv_Error (i 2)), o 14 (.eq false (.ifc false) (t 11) (t 13)), m 12 14]) (C 12 (Q (O [m 15 0, m 16 1,
  k 17 (f f_strconv_syntaxError) [(t 15), (t 16)], o 18 (.mi t_p_strconv_NumError (t 17)), m 10 18]) R) (Q (O [o 20 (.mi t_strconv_Error (i 1)), o 21 (.eq false (.ifc false) (t 11) (t
  20)), m 19 21]) (C 19 (Q (O [m 22 0, m 23 1, k 24 (f f_strconv_rangeError) [(t 22), (t 23)], o 25 (.mi t_p_strconv_NumError (t 24)), m 10 25]) R) (Q (O [o 27 (.mi t_strconv_Error (i
  3)), o 28 (.eq false (.ifc false) (t 11) (t 27)), m 26 28]) (C 26 (Q (O [m 29 0, m 30 1, m 31 2, k 32 (f f_strconv_baseError) [(t 29), (t 30), (t 31)], o 33 (.mi
  t_p_strconv_NumError (t 32)), m 10 33]) R) (Q (O [o 35 (.mi t_strconv_Error (i 4)), o 36 (.eq false (.ifc false) (t 11) (t 35)), m 34 36]) (C 34 (Q (O [m 37 0, m 38 1, m 39 3, k 40
  (f f_strconv_bitSizeError) [(t 37), (t 38), (t 39)], o 41 (.mi t_p_strconv_NumError (t 40)), m 10 41]) R) X)))))))))) (Q (O [m 42 4, m 10 42]) R)))
def ka_strconv_toError : AFn := ⟨kc_strconv_toError, 43, [.t 10], .keep, [], none⟩
def kc_internal_strconv_Itoa : AC :=
  (Q (O [mc 2 (s [])]) (Q (O [m 3 0, k 4 (f f_internal_strconv_FormatInt) [(t 3), (i 10)], m 2 4]) R))
def ka_internal_strconv_Itoa : AFn := ⟨kc_internal_strconv_Itoa, 5, [.t 2], .keep, [], none⟩
def kc_internal_stringslite_Cut : AC :=
  (Q (O [mc 4 (s []), mc 5 (s []), mc 6 F]) (Q (Q (O [m 8 0, m 9 1, k 10 (f f_internal_stringslite_Index) [(t 8), (t 9)], m 7 10]) (Q (O [m 11 7, o 12 (.ar .geq (t 11) (i 0))]) (C 12
  (Q (D [P (m 13 0), P (m 14 7), P (o 15 (.sls (t 13) none (some (t 14)))), P (m 16 0), P (m 17 7), P (m 18 1), W (lt 19 18), P (o 20 (.ar .add (t 17) (t 19))), P (o 21 (.sls (t 16)
  (some (t 20)) none)), P (m 4 15), P (m 5 21), P (mc 6 T)]) R) X))) (Q (O [m 22 0, m 4 22, mc 5 (s []), mc 6 F]) R)))
def ka_internal_stringslite_Cut : AFn := ⟨kc_internal_stringslite_Cut, 23, [.t 4, .t 5, .t 6], .keep, [], none⟩
def kc_strings_Builder_grow : AC :=
  (Q (D [P (m 5 0), P (o 6 (.nc (t 5))), P (fa 7 1 6), W (ld 8 7), P (o 9 (.cap (t 8))), P (o 10 (.ar .mul (i 2) (t 9))), P (m 11 1), P (o 12 (.ar .add (t 10) (t 11))), P (m 14 0), P
  (o 15 (.nc (t 14))), P (fa 16 1 15), W (ld 17 16), W (ls 18 17), K (k 13 (f f_internal_bytealg_MakeNoZero) [(t 12)]), P (o 19 (.sll 1 (t 13) none (some (t 18)) none)), P (m 4 19)])
  (Q (O [m 20 4, m 21 0, o 22 (.nc (t 21)), fa 23 1 22, ld 24 23, o 25 (.cp 1 false (t 20) (t 24))]) (O [m 26 0, m 27 4, o 28 (.nc (t 26)), fa 29 1 28, n (.st 1 (t 29) (t 27))])))
def ka_strings_Builder_grow : AFn := ⟨kc_strings_Builder_grow, 30, [], .keep, [], none⟩
def l_kinternal_bytealg_hashStr_string_0 : AC :=
  (Q (Q (O [m 9 5, m 10 0, lt 11 10, bl 12 9 11]) (C 12 X (.exit 0))) (Q (.block 1 (O [m 15 4, o 16 (.ar .mul (t 15) (.c (.int .u32 16777619))), m 17 0, m 18 5, o 19 (.ixs (t 17) (t
  18)), o 20 (.cvi .u32 (t 19)), o 21 (.ar .add (t 16) (t 20)), m 4 21])) (O [m 13 5, ad 14 13, m 5 14])))
def l_kinternal_bytealg_hashStr_string_1 : AC :=
  (Q (Q (O [m 24 8, o 25 (.ar .gtr (t 24) (i 0))]) (C 25 X (.exit 2))) (Q (.block 3 (Q (Q (O [m 28 8, o 29 (.ar .and (t 28) (i 1)), o 30 (.ar .neq (t 29) (i 0))]) (C 30 (O [m 31 6, m
  32 7, o 33 (.ar .mul (t 31) (t 32)), m 6 33]) X)) (O [m 34 7, m 35 7, o 36 (.ar .mul (t 34) (t 35)), m 7 36]))) (O [m 26 8, o 27 (.sh .shr (t 26) (.c (.int .u64 1))), m 8 27])))
def kc_internal_bytealg_hashStr_string : AC :=
  (Q (O [mc 2 (.c (.int .u32 0)), mc 3 (.c (.int .u32 0))]) (Q (O [mc 4 (.c (.int .u32 0))]) (Q (Q (O [mc 5 (i 0)]) (.block 0 (.loop ⟨none, [], false⟩
  l_kinternal_bytealg_hashStr_string_0))) (Q (O [mc 6 (.c (.int .u32 1)), mc 7 (.c (.int .u32 16777619))]) (Q (Q (O [m 22 0, lt 23 22, m 8 23]) (.block 2 (.loop ⟨none, [], false⟩
  l_kinternal_bytealg_hashStr_string_1))) (Q (O [m 37 4, m 38 6, m 2 37, m 3 38]) R))))))
def ka_internal_bytealg_hashStr_string : AFn := ⟨kc_internal_bytealg_hashStr_string, 39, [.t 2, .t 3], .keep, [], none⟩
def kc_internal_strconv_ParseInt : AC :=
  (Q (O [mc 6 (i 0), mc 7 (.c .nilif)]) (Q (Q (O [m 12 0, o 13 (.ar .eql (t 12) (s []))]) (C 13 (Q (O [o 14 (.mi t_strconv_Error (i 2)), mc 6 (i 0), m 7 14]) R) X)) (Q (O [mc 8 F]) (Q
  (Q (O [m 15 0, o 16 (.ixs (t 15) (i 0))]) (.block 0 (Q (O [o 18 (.ar .eql (t 16) (u 43)), m 17 18]) (C 17 (O [m 19 0, o 20 (.sls (t 19) (some (i 1)) none), m 0 20]) (Q (O [o 22 (.ar
  .eql (t 16) (u 45)), m 21 22]) (C 21 (Q (O [m 23 0, o 24 (.sls (t 23) (some (i 1)) none), m 0 24]) (O [mc 8 T])) X)))))) (Q (O [mc 9 (.c (.int .u64 0))]) (Q (O [m 26 0, m 27 1, m 28
  2, k 29 (f f_internal_strconv_ParseUint) [(t 26), (t 27), (t 28)], m 25 29, ex 30 25 0, ex 31 25 1, m 9 30, m 7 31]) (Q (Q (O [m 32 7, o 33 (.eq true (.ifc true) (t 32) (.c
  .nilif)), m 34 33, g 35 34 (.mv (t 7)), g 36 34 (.mi t_strconv_Error (i 1)), g 37 34 (.eq true (.ifc false) (t 35) (t 36)), o 38 (.pk (t 34) (t 37) F)]) (C 38 (Q (O [m 39 7, mc 6 (i
  0), m 7 39]) R) X)) (Q (Q (O [m 40 2, o 41 (.ar .eql (t 40) (i 0))]) (C 41 (O [mc 2 (i 64)]) X)) (Q (O [m 42 2, o 43 (.ar .sub (t 42) (i 1)), o 44 (.cvi .u64 (t 43)), o 45 (.sh .shl
  (.c (.int .u64 1)) (t 44)), m 10 45]) (Q (Q (O [m 46 8, no 47 46, m 48 47, g 49 48 (.mv (t 9)), g 50 48 (.mv (t 10)), g 51 48 (.ar .geq (t 49) (t 50)), o 52 (.pk (t 48) (t 51) F)])
  (C 52 (Q (O [m 53 10, o 54 (.ar .sub (t 53) (.c (.int .u64 1))), o 55 (.cvi .i64 (t 54)), o 56 (.mi t_strconv_Error (i 1)), m 6 55, m 7 56]) R) X)) (Q (Q (O [m 57 8, m 58 57, g 59
  58 (.mv (t 9)), g 60 58 (.mv (t 10)), g 61 58 (.ar .gtr (t 59) (t 60)), o 62 (.pk (t 58) (t 61) F)]) (C 62 (Q (O [m 63 10, o 64 (.cvi .i64 (t 63)), o 65 (.un .neg (t 64)), o 66 (.mi
  t_strconv_Error (i 1)), m 6 65, m 7 66]) R) X)) (Q (O [m 67 9, o 68 (.cvi .i64 (t 67)), m 11 68]) (Q (Q (O [m 69 8]) (C 69 (O [m 70 11, o 71 (.un .neg (t 70)), m 11 71]) X)) (Q (O
  [m 72 11, m 6 72, mc 7 (.c .nilif)]) R))))))))))))))
def ka_internal_strconv_ParseInt : AFn := ⟨kc_internal_strconv_ParseInt, 73, [.t 6, .t 7], .keep, [], none⟩
def kc_strconv_syntaxError : AC :=
  (Q (O [mc 4 (.c .nilp)]) (Q (D [P (m 5 0), P (m 6 1), W (o 8 (.ld none (.c .unk))), K (k 7 (f f_internal_stringslite_Clone) [(t 6)]), P (o 9 (.bd [(.str []), (.str []), .nilif] [(0,
  1), (1, 1), (2, 1)] [(0, (t 5)), (1, (t 7)), (2, (t 8))])), K (o 10 (.bx t_strconv_NumError (t 9))), P (m 4 10)]) R))
def ka_strconv_syntaxError : AFn := ⟨kc_strconv_syntaxError, 11, [.t 4], .keep, [], none⟩
def kc_strconv_rangeError : AC :=
  (Q (O [mc 4 (.c .nilp)]) (Q (D [P (m 5 0), P (m 6 1), W (o 8 (.ld none (.c .unk))), K (k 7 (f f_internal_stringslite_Clone) [(t 6)]), P (o 9 (.bd [(.str []), (.str []), .nilif] [(0,
  1), (1, 1), (2, 1)] [(0, (t 5)), (1, (t 7)), (2, (t 8))])), K (o 10 (.bx t_strconv_NumError (t 9))), P (m 4 10)]) R))
def ka_strconv_rangeError : AFn := ⟨kc_strconv_rangeError, 11, [.t 4], .keep, [], none⟩
def kc_strconv_baseError : AC :=
  (Q (O [mc 6 (.c .nilp)]) (Q (O [m 7 0, m 8 1, k 9 (f f_internal_stringslite_Clone) [(t 8)], m 10 2, k 11 (f f_strconv_Itoa) [(t 10)], o 12 (.ar .add (s [105, 110, 118, 97, 108, 105,
  100, 32, 98, 97, 115, 101, 32]) (t 11)), k 13 (f f_errors_New) [(t 12)], o 14 (.bd [(.str []), (.str []), .nilif] [(0, 1), (1, 1), (2, 1)] [(0, (t 7)), (1, (t 9)), (2, (t 13))]), o
  15 (.bx t_strconv_NumError (t 14)), m 6 15]) R))
def ka_strconv_baseError : AFn := ⟨kc_strconv_baseError, 16, [.t 6], .keep, [], none⟩
def kc_strconv_bitSizeError : AC :=
  (Q (O [mc 6 (.c .nilp)]) (Q (O [m 7 0, m 8 1, k 9 (f f_internal_stringslite_Clone) [(t 8)], m 10 2, k 11 (f f_strconv_Itoa) [(t 10)], o 12 (.ar .add (s [105, 110, 118, 97, 108, 105,
  100, 32, 98, 105, 116, 32, 115, 105, 122, 101, 32]) (t 11)), k 13 (f f_errors_New) [(t 12)], o 14 (.bd [(.str []), (.str []), .nilif] [(0, 1), (1, 1), (2, 1)] [(0, (t 7)), (1, (t
  9)), (2, (t 13))]), o 15 (.bx t_strconv_NumError (t 14)), m 6 15]) R))
def ka_strconv_bitSizeError : AFn := ⟨kc_strconv_bitSizeError, 16, [.t 6], .keep, [], none⟩
def kc_internal_strconv_FormatInt : AC :=
  (Q (O [mc 4 (s [])]) (Q (Q (O [m 10 1, o 11 (.ar .eql (t 10) (i 10))]) (C 11 (Q (Q (O [m 12 0, o 13 (.ar .leq (i 0) (t 12)), m 14 13, g 15 14 (.mv (t 0)), g 16 14 (.ar .lss (t 15)
  (i 100)), o 17 (.pk (t 14) (t 16) F)]) (C 17 (Q (O [m 18 0, k 19 (f f_internal_strconv_small) [(t 18)], m 4 19]) R) X)) (Q (O [o 5 (.nw [(.int .u8 0), (.int .u8 0), (.int .u8 0),
  (.int .u8 0), (.int .u8 0), (.int .u8 0), (.int .u8 0), (.int .u8 0), (.int .u8 0), (.int .u8 0), (.int .u8 0), (.int .u8 0), (.int .u8 0), (.int .u8 0), (.int .u8 0), (.int .u8 0),
  (.int .u8 0), (.int .u8 0), (.int .u8 0), (.int .u8 0), (.int .u8 0), (.int .u8 0), (.int .u8 0), (.int .u8 0)] t_24_uint8)]) (Q (O [m 20 0, o 21 (.cvi .u64 (t 20)), m 6 21]) (Q (Q
  (O [m 22 0, o 23 (.ar .lss (t 22) (i 0))]) (C 23 (O [m 24 6, o 25 (.un .neg (t 24)), m 6 25]) X)) (Q (O [m 26 6, k 27 (f f_internal_strconv_numDigits) [(t 26)], m 7 27]) (Q (O [m 28
  7, o 29 (.ar .add (i 1) (t 28)), o 30 (.sla 24 1 (t 5) (some (i 1)) (some (t 29))), m 31 6, k 32 (f f_internal_strconv_formatBase10) [(t 30), (t 31)]]) (Q (Q (O [m 33 0, o 34 (.ar
  .lss (t 33) (i 0))]) (C 34 (Q (O [o 35 (.iaa 24 1 (t 5) (i 0)), n (.st 1 (t 35) (u 45))]) (Q (O [m 36 7, o 37 (.ar .add (i 1) (t 36)), o 38 (.sla 24 1 (t 5) none (some (t 37))), o
  39 (.cvbs (t 38)), m 4 39]) R)) X)) (Q (O [m 40 7, o 41 (.ar .add (i 1) (t 40)), o 42 (.sla 24 1 (t 5) (some (i 1)) (some (t 41))), o 43 (.cvbs (t 42)), m 4 43]) R)))))))) X)) (Q (O
  [m 45 0, o 46 (.cvi .u64 (t 45)), m 47 1, m 48 0, o 49 (.ar .lss (t 48) (i 0)), k 50 (f f_internal_strconv_formatBits) [(.c (.slice .nil 1 [])), (t 46), (t 47), (t 49), F], m 44 50,
  ex 51 44 0, ex 52 44 1, m 8 51, m 9 52]) (Q (O [m 53 9, m 4 53]) R))))
def ka_internal_strconv_FormatInt : AFn := ⟨kc_internal_strconv_FormatInt, 54, [.t 4], .keep, [], none⟩
def l_kinternal_strconv_ParseUint_0 : AC :=
  (Q (O [bl 102 101 100]) (Q (C 102 X (.exit 3)) (Q (.block 4 (Q (O [ia 103 1 99 101, ld 104 103, m 15 104]) (Q (O [mc 16 (u 0)]) (Q (.block 5 (Q (O [m 107 15, o 108 (.ar .eql (t 107)
  (u 95)), m 109 108, g 110 109 (.mv (t 8)), o 111 (.pk (t 109) (t 110) F), m 106 111]) (C 106 (Q (O [mc 12 T]) (.exit 4)) (Q (O [m 113 15, o 114 (.ar .leq (u 48) (t 113)), m 115 114,
  g 116 115 (.mv (t 15)), g 117 115 (.ar .leq (t 116) (u 57)), o 118 (.pk (t 115) (t 117) F), m 112 118]) (C 112 (O [m 119 15, o 120 (.ar .sub (t 119) (u 48)), m 16 120]) (Q (O [m 122
  15, k 123 (f f_internal_strconv_lower) [(t 122)], o 124 (.ar .leq (u 97) (t 123)), m 125 124, g 126 125 (.mv (t 15)), ⟨(some 127), (some (125, true)), (.call (.c (.fn (.func
  f_internal_strconv_lower) [] [])) [(.t 126)])⟩, g 128 125 (.ar .leq (t 127) (u 122)), o 129 (.pk (t 125) (t 128) F), m 121 129]) (C 121 (O [m 130 15, k 131 (f
  f_internal_strconv_lower) [(t 130)], o 132 (.ar .sub (t 131) (u 97)), o 133 (.ar .add (t 132) (u 10)), m 16 133]) (Q (O [o 105 (.mi t_strconv_Error (i 2)), mc 6 (.c (.int .u64 0)),
  m 7 105]) R)))))))) (Q (Q (O [m 134 16, m 135 1, o 136 (.cvi .u8 (t 135)), o 137 (.ar .geq (t 134) (t 136))]) (C 137 (Q (O [o 138 (.mi t_strconv_Error (i 2)), mc 6 (.c (.int .u64
  0)), m 7 138]) R) X)) (Q (Q (O [m 139 13, m 140 10, o 141 (.ar .geq (t 139) (t 140))]) (C 141 (Q (O [m 142 11, o 143 (.mi t_strconv_Error (i 1)), m 6 142, m 7 143]) R) X)) (Q (O [m
  144 13, m 145 1, o 146 (.cvi .u64 (t 145)), o 147 (.ar .mul (t 144) (t 146)), m 13 147]) (Q (O [m 148 13, m 149 16, o 150 (.cvi .u64 (t 149)), o 151 (.ar .add (t 148) (t 150)), m 17
  151]) (Q (Q (O [m 152 17, m 153 13, bl 154 152 153, m 155 154, h 156 155 (.mv (t 17)), h 157 155 (.mv (t 11)), h 158 155 (.ar .gtr (t 156) (t 157)), o 159 (.pk (t 155) T (t 158))])
  (C 159 (Q (O [m 160 11, o 161 (.mi t_strconv_Error (i 1)), m 6 160, m 7 161]) R) X)) (O [m 162 17, m 13 162])))))))))) (O [ad 163 101, m 101 163]))))
def kc_internal_strconv_ParseUint : AC :=
  (Q (O [mc 6 (.c (.int .u64 0)), mc 7 (.c .nilif)]) (Q (Q (O [m 18 0, o 19 (.ar .eql (t 18) (s []))]) (C 19 (Q (O [o 20 (.mi t_strconv_Error (i 2)), mc 6 (.c (.int .u64 0)), m 7 20])
  R) X)) (Q (O [m 21 1, o 22 (.ar .eql (t 21) (i 0)), m 8 22]) (Q (O [m 23 0, m 9 23]) (Q (.block 0 (Q (O [m 26 1, o 27 (.ar .leq (i 2) (t 26)), m 28 27, g 29 28 (.mv (t 1)), g 30 28
  (.ar .leq (t 29) (i 36)), o 31 (.pk (t 28) (t 30) F), m 25 31]) (C 25 X (Q (O [m 33 1, o 34 (.ar .eql (t 33) (i 0)), m 32 34]) (C 32 (Q (O [mc 1 (i 10)]) (Q (O [m 35 0, o 36 (.ixs
  (t 35) (i 0)), o 37 (.ar .eql (t 36) (u 48))]) (C 37 (.block 1 (Q (O [m 41 0, lt 42 41, o 43 (.ar .geq (t 42) (i 3)), m 44 43, g 45 44 (.mv (t 0)), g 46 44 (.ixs (t 45) (i 1)),
  ⟨(some 47), (some (44, true)), (.call (.c (.fn (.func f_internal_strconv_lower) [] [])) [(.t 46)])⟩, g 48 44 (.ar .eql (t 47) (u 98)), o 49 (.pk (t 44) (t 48) F), m 40 49]) (C 40 (Q
  (O [mc 1 (i 2)]) (O [m 50 0, o 51 (.sls (t 50) (some (i 2)) none), m 0 51])) (Q (O [m 53 0, lt 54 53, o 55 (.ar .geq (t 54) (i 3)), m 56 55, g 57 56 (.mv (t 0)), g 58 56 (.ixs (t
  57) (i 1)), ⟨(some 59), (some (56, true)), (.call (.c (.fn (.func f_internal_strconv_lower) [] [])) [(.t 58)])⟩, g 60 56 (.ar .eql (t 59) (u 111)), o 61 (.pk (t 56) (t 60) F), m 52
  61]) (C 52 (Q (O [mc 1 (i 8)]) (O [m 62 0, o 63 (.sls (t 62) (some (i 2)) none), m 0 63])) (Q (O [m 65 0, lt 66 65, o 67 (.ar .geq (t 66) (i 3)), m 68 67, g 69 68 (.mv (t 0)), g 70
  68 (.ixs (t 69) (i 1)), ⟨(some 71), (some (68, true)), (.call (.c (.fn (.func f_internal_strconv_lower) [] [])) [(.t 70)])⟩, g 72 68 (.ar .eql (t 71) (u 120)), o 73 (.pk (t 68) (t
  72) F), m 64 73]) (C 64 (Q (O [mc 1 (i 16)]) (O [m 74 0, o 75 (.sls (t 74) (some (i 2)) none), m 0 75])) (Q (O [mc 1 (i 8)]) (O [m 38 0, o 39 (.sls (t 38) (some (i 1)) none), m 0
  39]))))))))) X))) (Q (O [o 24 (.mi t_strconv_Error (i 3)), mc 6 (.c (.int .u64 0)), m 7 24]) R)))))) (Q (Q (O [m 76 2, o 77 (.ar .eql (t 76) (i 0))]) (C 77 (O [mc 2 (i 64)]) (Q (O
  [m 78 2, o 79 (.ar .lss (t 78) (i 0)), m 80 79, h 81 80 (.mv (t 2)), h 82 80 (.ar .gtr (t 81) (i 64)), o 83 (.pk (t 80) T (t 82))]) (C 83 (Q (O [o 84 (.mi t_strconv_Error (i 4)), mc
  6 (.c (.int .u64 0)), m 7 84]) R) X)))) (Q (O [mc 10 (.c (.int .u64 0))]) (Q (Q (O [m 85 1]) (.block 2 (Q (O [o 91 (.ar .eql (t 85) (i 10)), m 90 91]) (C 90 (O [mc 10 (.c (.int .u64
  1844674407370955162))]) (Q (O [o 93 (.ar .eql (t 85) (i 16)), m 92 93]) (C 92 (O [mc 10 (.c (.int .u64 1152921504606846976))]) (O [m 86 1, o 87 (.cvi .u64 (t 86)), o 88 (.ar .quo
  (.c (.int .u64 18446744073709551615)) (t 87)), o 89 (.ar .add (t 88) (.c (.int .u64 1))), m 10 89]))))))) (Q (O [m 94 2, o 95 (.cvi .u64 (t 94)), o 96 (.sh .shl (.c (.int .u64 1))
  (t 95)), o 97 (.ar .sub (t 96) (.c (.int .u64 1))), m 11 97]) (Q (O [mc 12 F]) (Q (O [mc 13 (.c (.int .u64 0))]) (Q (Q (O [m 98 0, o 99 (.cvsb (t 98)), ls 100 99, mc 101 (i 0)])
  (.block 3 (.loop ⟨none, [], false⟩ l_kinternal_strconv_ParseUint_0))) (Q (Q (O [m 164 12, m 165 164, g 166 165 (.mv (t 9)), ⟨(some 167), (some (165, true)), (.call (.c (.fn (.func
  f_internal_strconv_underscoreOK) [] [])) [(.t 166)])⟩, g 168 165 (.un .not (t 167)), o 169 (.pk (t 165) (t 168) F)]) (C 169 (Q (O [o 170 (.mi t_strconv_Error (i 2)), mc 6 (.c (.int
  .u64 0)), m 7 170]) R) X)) (Q (O [m 171 13, m 6 171, mc 7 (.c .nilif)]) R))))))))))))))
def ka_internal_strconv_ParseUint : AFn := ⟨kc_internal_strconv_ParseUint, 172, [.t 6, .t 7], .keep, [], none⟩
def kc_internal_stringslite_Clone : AC :=
  (Q (O [mc 2 (s [])]) (Q (Q (O [m 4 0, lt 5 4, o 6 (.ar .eql (t 5) (i 0))]) (C 6 (Q (O [mc 2 (s [])]) R) X)) (Q (O [m 7 0, lt 8 7, o 9 (.ms t_uint8 1 [(.int .u8 0)] (t 8) (t 8)), m 3
  9]) (Q (O [m 10 3, m 11 0, o 12 (.cp 1 true (t 10) (t 11))]) (Q (O [m 13 3, o 14 (.ias 1 (t 13) (i 0)), m 15 3, ls 16 15, o 17 (.ust t_uint8 (t 14) (t 16)), m 2 17]) R)))))
def ka_internal_stringslite_Clone : AFn := ⟨kc_internal_stringslite_Clone, 18, [.t 2], .keep, [], none⟩
def kc_errors_New : AC :=
  (Q (O [mc 2 (.c .nilif)]) (Q (O [m 3 0, o 4 (.bd [(.str [])] [(0, 1)] [(0, (t 3))]), o 5 (.bx t_errors_errorString (t 4)), o 6 (.mi t_p_errors_errorString (t 5)), m 2 6]) R))
def ka_errors_New : AFn := ⟨kc_errors_New, 7, [.t 2], .keep, [], none⟩
def kc_internal_strconv_small : AC :=
  (Q (O [mc 2 (s [])]) (Q (Q (O [m 3 0, o 4 (.ar .lss (t 3) (i 10))]) (C 4 (Q (O [m 5 0, m 6 0, ad 7 6, o 8 (.sls (s [48, 49, 50, 51, 52, 53, 54, 55, 56, 57, 97, 98, 99, 100, 101,
  102, 103, 104, 105, 106, 107, 108, 109, 110, 111, 112, 113, 114, 115, 116, 117, 118, 119, 120, 121, 122]) (some (t 5)) (some (t 7))), m 2 8]) R) X)) (Q (O [m 9 0, o 10 (.ar .mul (t
  9) (i 2)), m 11 0, o 12 (.ar .mul (t 11) (i 2)), o 13 (.ar .add (t 12) (i 2)), o 14 (.sls (s [48, 48, 48, 49, 48, 50, 48, 51, 48, 52, 48, 53, 48, 54, 48, 55, 48, 56, 48, 57, 49, 48,
  49, 49, 49, 50, 49, 51, 49, 52, 49, 53, 49, 54, 49, 55, 49, 56, 49, 57, 50, 48, 50, 49, 50, 50, 50, 51, 50, 52, 50, 53, 50, 54, 50, 55, 50, 56, 50, 57, 51, 48, 51, 49, 51, 50, 51,
  51, 51, 52, 51, 53, 51, 54, 51, 55, 51, 56, 51, 57, 52, 48, 52, 49, 52, 50, 52, 51, 52, 52, 52, 53, 52, 54, 52, 55, 52, 56, 52, 57, 53, 48, 53, 49, 53, 50, 53, 51, 53, 52, 53, 53,
  53, 54, 53, 55, 53, 56, 53, 57, 54, 48, 54, 49, 54, 50, 54, 51, 54, 52, 54, 53, 54, 54, 54, 55, 54, 56, 54, 57, 55, 48, 55, 49, 55, 50, 55, 51, 55, 52, 55, 53, 55, 54, 55, 55, 55,
  56, 55, 57, 56, 48, 56, 49, 56, 50, 56, 51, 56, 52, 56, 53, 56, 54, 56, 55, 56, 56, 56, 57, 57, 48, 57, 49, 57, 50, 57, 51, 57, 52, 57, 53, 57, 54, 57, 55, 57, 56, 57, 57]) (some (t
  10)) (some (t 13))), m 2 14]) R)))
def ka_internal_strconv_small : AFn := ⟨kc_internal_strconv_small, 15, [.t 2], .keep, [], none⟩
def kc_internal_strconv_numDigits : AC :=
  (Q (O [mc 2 (i 0)]) (Q (O [m 4 0, k 5 (f f_math_bits_Len64) [(t 4)], k 6 (f f_internal_strconv_log10Pow2) [(t 5)], m 3 6]) (Q (O [m 7 3, m 8 0, m 9 3, o 10 (.iaa 20 1 (.c .unk) (t
  9)), ld 11 10, o 12 (.ar .geq (t 8) (t 11)), k 13 (f f_internal_strconv_bool2_int) [(t 12)], o 14 (.ar .add (t 7) (t 13)), m 2 14]) R)))
def ka_internal_strconv_numDigits : AFn := ⟨kc_internal_strconv_numDigits, 15, [.t 2], .keep, [], none⟩
def l_kinternal_strconv_formatBase10_0 : AC :=
  (Q (Q (O [m 19 4, o 20 (.ar .geq (t 19) (i 8))]) (C 20 X (.exit 0))) (.block 1 (Q (O [m 21 1, o 22 (.ar .rem (t 21) (.c (.int .u64 100000000))), o 23 (.cvi .u32 (t 22)), m 5 23]) (Q
  (O [m 24 1, o 25 (.ar .quo (t 24) (.c (.int .u64 100000000))), m 1 25]) (Q (O [m 26 5, o 27 (.ar .quo (t 26) (.c (.int .u32 10000))), m 28 5, o 29 (.ar .rem (t 28) (.c (.int .u32
  10000))), m 6 27, m 7 29]) (Q (O [m 30 7, o 31 (.ar .quo (t 30) (.c (.int .u32 100))), o 32 (.ar .mul (t 31) (.c (.int .u32 2))), m 33 7, o 34 (.ar .rem (t 33) (.c (.int .u32
  100))), o 35 (.ar .mul (t 34) (.c (.int .u32 2))), m 8 32, m 9 35]) (Q (O [m 36 6, o 37 (.ar .quo (t 36) (.c (.int .u32 100))), o 38 (.ar .mul (t 37) (.c (.int .u32 2))), m 39 6, o
  40 (.ar .rem (t 39) (.c (.int .u32 100))), o 41 (.ar .mul (t 40) (.c (.int .u32 2))), m 10 38, m 11 41]) (Q (D [P (m 42 0), P (m 43 4), P (o 44 (.ar .sub (t 43) (i 1))), P (m 45 0),
  P (m 46 4), P (o 47 (.ar .sub (t 46) (i 2))), P (m 48 9), P (o 49 (.ar .add (t 48) (.c (.int .u32 1)))), P (o 50 (.ixs (s [48, 48, 48, 49, 48, 50, 48, 51, 48, 52, 48, 53, 48, 54,
  48, 55, 48, 56, 48, 57, 49, 48, 49, 49, 49, 50, 49, 51, 49, 52, 49, 53, 49, 54, 49, 55, 49, 56, 49, 57, 50, 48, 50, 49, 50, 50, 50, 51, 50, 52, 50, 53, 50, 54, 50, 55, 50, 56, 50,
  57, 51, 48, 51, 49, 51, 50, 51, 51, 51, 52, 51, 53, 51, 54, 51, 55, 51, 56, 51, 57, 52, 48, 52, 49, 52, 50, 52, 51, 52, 52, 52, 53, 52, 54, 52, 55, 52, 56, 52, 57, 53, 48, 53, 49,
  53, 50, 53, 51, 53, 52, 53, 53, 53, 54, 53, 55, 53, 56, 53, 57, 54, 48, 54, 49, 54, 50, 54, 51, 54, 52, 54, 53, 54, 54, 54, 55, 54, 56, 54, 57, 55, 48, 55, 49, 55, 50, 55, 51, 55,
  52, 55, 53, 55, 54, 55, 55, 55, 56, 55, 57, 56, 48, 56, 49, 56, 50, 56, 51, 56, 52, 56, 53, 56, 54, 56, 55, 56, 56, 56, 57, 57, 48, 57, 49, 57, 50, 57, 51, 57, 52, 57, 53, 57, 54,
  57, 55, 57, 56, 57, 57]) (t 49))), P (m 51 9), P (o 52 (.ixs (s [48, 48, 48, 49, 48, 50, 48, 51, 48, 52, 48, 53, 48, 54, 48, 55, 48, 56, 48, 57, 49, 48, 49, 49, 49, 50, 49, 51, 49,
  52, 49, 53, 49, 54, 49, 55, 49, 56, 49, 57, 50, 48, 50, 49, 50, 50, 50, 51, 50, 52, 50, 53, 50, 54, 50, 55, 50, 56, 50, 57, 51, 48, 51, 49, 51, 50, 51, 51, 51, 52, 51, 53, 51, 54,
  51, 55, 51, 56, 51, 57, 52, 48, 52, 49, 52, 50, 52, 51, 52, 52, 52, 53, 52, 54, 52, 55, 52, 56, 52, 57, 53, 48, 53, 49, 53, 50, 53, 51, 53, 52, 53, 53, 53, 54, 53, 55, 53, 56, 53,
  57, 54, 48, 54, 49, 54, 50, 54, 51, 54, 52, 54, 53, 54, 54, 54, 55, 54, 56, 54, 57, 55, 48, 55, 49, 55, 50, 55, 51, 55, 52, 55, 53, 55, 54, 55, 55, 55, 56, 55, 57, 56, 48, 56, 49,
  56, 50, 56, 51, 56, 52, 56, 53, 56, 54, 56, 55, 56, 56, 56, 57, 57, 48, 57, 49, 57, 50, 57, 51, 57, 52, 57, 53, 57, 54, 57, 55, 57, 56, 57, 57]) (t 51))), P (ia 53 1 42 44), E (n
  (.st 1 (t 53) (t 50))), P (ia 54 1 45 47), E (n (.st 1 (t 54) (t 52)))]) (Q (D [P (m 55 0), P (m 56 4), P (o 57 (.ar .sub (t 56) (i 3))), P (m 58 0), P (m 59 4), P (o 60 (.ar .sub
  (t 59) (i 4))), P (m 61 8), P (o 62 (.ar .add (t 61) (.c (.int .u32 1)))), P (o 63 (.ixs (s [48, 48, 48, 49, 48, 50, 48, 51, 48, 52, 48, 53, 48, 54, 48, 55, 48, 56, 48, 57, 49, 48,
  49, 49, 49, 50, 49, 51, 49, 52, 49, 53, 49, 54, 49, 55, 49, 56, 49, 57, 50, 48, 50, 49, 50, 50, 50, 51, 50, 52, 50, 53, 50, 54, 50, 55, 50, 56, 50, 57, 51, 48, 51, 49, 51, 50, 51,
  51, 51, 52, 51, 53, 51, 54, 51, 55, 51, 56, 51, 57, 52, 48, 52, 49, 52, 50, 52, 51, 52, 52, 52, 53, 52, 54, 52, 55, 52, 56, 52, 57, 53, 48, 53, 49, 53, 50, 53, 51, 53, 52, 53, 53,
  53, 54, 53, 55, 53, 56, 53, 57, 54, 48, 54, 49, 54, 50, 54, 51, 54, 52, 54, 53, 54, 54, 54, 55, 54, 56, 54, 57, 55, 48, 55, 49, 55, 50, 55, 51, 55, 52, 55, 53, 55, 54, 55, 55, 55,
  56, 55, 57, 56, 48, 56, 49, 56, 50, 56, 51, 56, 52, 56, 53, 56, 54, 56, 55, 56, 56, 56, 57, 57, 48, 57, 49, 57, 50, 57, 51, 57, 52, 57, 53, 57, 54, 57, 55, 57, 56, 57, 57]) (t
  62))), P (m 64 8), P (o 65 (.ixs (s [48, 48, 48, 49, 48, 50, 48, 51, 48, 52, 48, 53, 48, 54, 48, 55, 48, 56, 48, 57, 49, 48, 49, 49, 49, 50, 49, 51, 49, 52, 49, 53, 49, 54, 49, 55,
  49, 56, 49, 57, 50, 48, 50, 49, 50, 50, 50, 51, 50, 52, 50, 53, 50, 54, 50, 55, 50, 56, 50, 57, 51, 48, 51, 49, 51, 50, 51, 51, 51, 52, 51, 53, 51, 54, 51, 55, 51, 56, 51, 57, 52,
  48, 52, 49, 52, 50, 52, 51, 52, 52, 52, 53, 52, 54, 52, 55, 52, 56, 52, 57, 53, 48, 53, 49, 53, 50, 53, 51, 53, 52, 53, 53, 53, 54, 53, 55, 53, 56, 53, 57, 54, 48, 54, 49, 54, 50,
  54, 51, 54, 52, 54, 53, 54, 54, 54, 55, 54, 56, 54, 57, 55, 48, 55, 49, 55, 50, 55, 51, 55, 52, 55, 53, 55, 54, 55, 55, 55, 56, 55, 57, 56, 48, 56, 49, 56, 50, 56, 51, 56, 52, 56,
  53, 56, 54, 56, 55, 56, 56, 56, 57, 57, 48, 57, 49, 57, 50, 57, 51, 57, 52, 57, 53, 57, 54, 57, 55, 57, 56, 57, 57]) (t 64))), P (ia 66 1 55 57), E (n (.st 1 (t 66) (t 63))), P (ia
  67 1 58 60), E (n (.st 1 (t 67) (t 65)))]) (Q (D [P (m 68 0), P (m 69 4), P (o 70 (.ar .sub (t 69) (i 5))), P (m 71 0), P (m 72 4), P (o 73 (.ar .sub (t 72) (i 6))), P (m 74 11), P
  (o 75 (.ar .add (t 74) (.c (.int .u32 1)))), P (o 76 (.ixs (s [48, 48, 48, 49, 48, 50, 48, 51, 48, 52, 48, 53, 48, 54, 48, 55, 48, 56, 48, 57, 49, 48, 49, 49, 49, 50, 49, 51, 49,
  52, 49, 53, 49, 54, 49, 55, 49, 56, 49, 57, 50, 48, 50, 49, 50, 50, 50, 51, 50, 52, 50, 53, 50, 54, 50, 55, 50, 56, 50, 57, 51, 48, 51, 49, 51, 50, 51, 51, 51, 52, 51, 53, 51, 54,
  51, 55, 51, 56, 51, 57, 52, 48, 52, 49, 52, 50, 52, 51, 52, 52, 52, 53, 52, 54, 52, 55, 52, 56, 52, 57, 53, 48, 53, 49, 53, 50, 53, 51, 53, 52, 53, 53, 53, 54, 53, 55, 53, 56, 53,
  57, 54, 48, 54, 49, 54, 50, 54, 51, 54, 52, 54, 53, 54, 54, 54, 55, 54, 56, 54, 57, 55, 48, 55, 49, 55, 50, 55, 51, 55, 52, 55, 53, 55, 54, 55, 55, 55, 56, 55, 57, 56, 48, 56, 49,
  56, 50, 56, 51, 56, 52, 56, 53, 56, 54, 56, 55, 56, 56, 56, 57, 57, 48, 57, 49, 57, 50, 57, 51, 57, 52, 57, 53, 57, 54, 57, 55, 57, 56, 57, 57]) (t 75))), P (m 77 11), P (o 78 (.ixs
  (s [48, 48, 48, 49, 48, 50, 48, 51, 48, 52, 48, 53, 48, 54, 48, 55, 48, 56, 48, 57, 49, 48, 49, 49, 49, 50, 49, 51, 49, 52, 49, 53, 49, 54, 49, 55, 49, 56, 49, 57, 50, 48, 50, 49,
  50, 50, 50, 51, 50, 52, 50, 53, 50, 54, 50, 55, 50, 56, 50, 57, 51, 48, 51, 49, 51, 50, 51, 51, 51, 52, 51, 53, 51, 54, 51, 55, 51, 56, 51, 57, 52, 48, 52, 49, 52, 50, 52, 51, 52,
  52, 52, 53, 52, 54, 52, 55, 52, 56, 52, 57, 53, 48, 53, 49, 53, 50, 53, 51, 53, 52, 53, 53, 53, 54, 53, 55, 53, 56, 53, 57, 54, 48, 54, 49, 54, 50, 54, 51, 54, 52, 54, 53, 54, 54,
  54, 55, 54, 56, 54, 57, 55, 48, 55, 49, 55, 50, 55, 51, 55, 52, 55, 53, 55, 54, 55, 55, 55, 56, 55, 57, 56, 48, 56, 49, 56, 50, 56, 51, 56, 52, 56, 53, 56, 54, 56, 55, 56, 56, 56,
  57, 57, 48, 57, 49, 57, 50, 57, 51, 57, 52, 57, 53, 57, 54, 57, 55, 57, 56, 57, 57]) (t 77))), P (ia 79 1 68 70), E (n (.st 1 (t 79) (t 76))), P (ia 80 1 71 73), E (n (.st 1 (t 80)
  (t 78)))]) (Q (D [P (m 81 0), P (m 82 4), P (o 83 (.ar .sub (t 82) (i 7))), P (m 84 0), P (m 85 4), P (o 86 (.ar .sub (t 85) (i 8))), P (m 87 10), P (o 88 (.ar .add (t 87) (.c (.int
  .u32 1)))), P (o 89 (.ixs (s [48, 48, 48, 49, 48, 50, 48, 51, 48, 52, 48, 53, 48, 54, 48, 55, 48, 56, 48, 57, 49, 48, 49, 49, 49, 50, 49, 51, 49, 52, 49, 53, 49, 54, 49, 55, 49, 56,
  49, 57, 50, 48, 50, 49, 50, 50, 50, 51, 50, 52, 50, 53, 50, 54, 50, 55, 50, 56, 50, 57, 51, 48, 51, 49, 51, 50, 51, 51, 51, 52, 51, 53, 51, 54, 51, 55, 51, 56, 51, 57, 52, 48, 52,
  49, 52, 50, 52, 51, 52, 52, 52, 53, 52, 54, 52, 55, 52, 56, 52, 57, 53, 48, 53, 49, 53, 50, 53, 51, 53, 52, 53, 53, 53, 54, 53, 55, 53, 56, 53, 57, 54, 48, 54, 49, 54, 50, 54, 51,
  54, 52, 54, 53, 54, 54, 54, 55, 54, 56, 54, 57, 55, 48, 55, 49, 55, 50, 55, 51, 55, 52, 55, 53, 55, 54, 55, 55, 55, 56, 55, 57, 56, 48, 56, 49, 56, 50, 56, 51, 56, 52, 56, 53, 56,
  54, 56, 55, 56, 56, 56, 57, 57, 48, 57, 49, 57, 50, 57, 51, 57, 52, 57, 53, 57, 54, 57, 55, 57, 56, 57, 57]) (t 88))), P (m 90 10), P (o 91 (.ixs (s [48, 48, 48, 49, 48, 50, 48, 51,
  48, 52, 48, 53, 48, 54, 48, 55, 48, 56, 48, 57, 49, 48, 49, 49, 49, 50, 49, 51, 49, 52, 49, 53, 49, 54, 49, 55, 49, 56, 49, 57, 50, 48, 50, 49, 50, 50, 50, 51, 50, 52, 50, 53, 50,
  54, 50, 55, 50, 56, 50, 57, 51, 48, 51, 49, 51, 50, 51, 51, 51, 52, 51, 53, 51, 54, 51, 55, 51, 56, 51, 57, 52, 48, 52, 49, 52, 50, 52, 51, 52, 52, 52, 53, 52, 54, 52, 55, 52, 56,
  52, 57, 53, 48, 53, 49, 53, 50, 53, 51, 53, 52, 53, 53, 53, 54, 53, 55, 53, 56, 53, 57, 54, 48, 54, 49, 54, 50, 54, 51, 54, 52, 54, 53, 54, 54, 54, 55, 54, 56, 54, 57, 55, 48, 55,
  49, 55, 50, 55, 51, 55, 52, 55, 53, 55, 54, 55, 55, 55, 56, 55, 57, 56, 48, 56, 49, 56, 50, 56, 51, 56, 52, 56, 53, 56, 54, 56, 55, 56, 56, 56, 57, 57, 48, 57, 49, 57, 50, 57, 51,
  57, 52, 57, 53, 57, 54, 57, 55, 57, 56, 57, 57]) (t 90))), P (ia 92 1 81 83), E (n (.st 1 (t 92) (t 89))), P (ia 93 1 84 86), E (n (.st 1 (t 93) (t 91)))]) (O [m 94 4, o 95 (.ar
  .sub (t 94) (i 8)), m 4 95]))))))))))))
def kc_internal_strconv_formatBase10 : AC :=
  (Q (O [m 17 0, ls 18 17, m 4 18]) (Q (.block 0 (.loop ⟨none, [], false⟩ l_kinternal_strconv_formatBase10_0)) (Q (O [m 96 1, o 97 (.cvi .u32 (t 96)), m 12 97]) (Q (Q (O [m 98 4, o 99
  (.ar .geq (t 98) (i 4))]) (C 99 (Q (O [m 100 12, o 101 (.ar .rem (t 100) (.c (.int .u32 10000))), m 13 101]) (Q (O [m 102 12, o 103 (.ar .quo (t 102) (.c (.int .u32 10000))), m 12
  103]) (Q (O [m 104 13, o 105 (.ar .quo (t 104) (.c (.int .u32 100))), o 106 (.ar .mul (t 105) (.c (.int .u32 2))), m 107 13, o 108 (.ar .rem (t 107) (.c (.int .u32 100))), o 109
  (.ar .mul (t 108) (.c (.int .u32 2))), m 14 106, m 15 109]) (Q (D [P (m 110 0), P (m 111 4), P (o 112 (.ar .sub (t 111) (i 1))), P (m 113 0), P (m 114 4), P (o 115 (.ar .sub (t 114)
  (i 2))), P (m 116 15), P (o 117 (.ar .add (t 116) (.c (.int .u32 1)))), P (o 118 (.ixs (s [48, 48, 48, 49, 48, 50, 48, 51, 48, 52, 48, 53, 48, 54, 48, 55, 48, 56, 48, 57, 49, 48,
  49, 49, 49, 50, 49, 51, 49, 52, 49, 53, 49, 54, 49, 55, 49, 56, 49, 57, 50, 48, 50, 49, 50, 50, 50, 51, 50, 52, 50, 53, 50, 54, 50, 55, 50, 56, 50, 57, 51, 48, 51, 49, 51, 50, 51,
  51, 51, 52, 51, 53, 51, 54, 51, 55, 51, 56, 51, 57, 52, 48, 52, 49, 52, 50, 52, 51, 52, 52, 52, 53, 52, 54, 52, 55, 52, 56, 52, 57, 53, 48, 53, 49, 53, 50, 53, 51, 53, 52, 53, 53,
  53, 54, 53, 55, 53, 56, 53, 57, 54, 48, 54, 49, 54, 50, 54, 51, 54, 52, 54, 53, 54, 54, 54, 55, 54, 56, 54, 57, 55, 48, 55, 49, 55, 50, 55, 51, 55, 52, 55, 53, 55, 54, 55, 55, 55,
  56, 55, 57, 56, 48, 56, 49, 56, 50, 56, 51, 56, 52, 56, 53, 56, 54, 56, 55, 56, 56, 56, 57, 57, 48, 57, 49, 57, 50, 57, 51, 57, 52, 57, 53, 57, 54, 57, 55, 57, 56, 57, 57]) (t
  117))), P (m 119 15), P (o 120 (.ixs (s [48, 48, 48, 49, 48, 50, 48, 51, 48, 52, 48, 53, 48, 54, 48, 55, 48, 56, 48, 57, 49, 48, 49, 49, 49, 50, 49, 51, 49, 52, 49, 53, 49, 54, 49,
  55, 49, 56, 49, 57, 50, 48, 50, 49, 50, 50, 50, 51, 50, 52, 50, 53, 50, 54, 50, 55, 50, 56, 50, 57, 51, 48, 51, 49, 51, 50, 51, 51, 51, 52, 51, 53, 51, 54, 51, 55, 51, 56, 51, 57,
  52, 48, 52, 49, 52, 50, 52, 51, 52, 52, 52, 53, 52, 54, 52, 55, 52, 56, 52, 57, 53, 48, 53, 49, 53, 50, 53, 51, 53, 52, 53, 53, 53, 54, 53, 55, 53, 56, 53, 57, 54, 48, 54, 49, 54,
  50, 54, 51, 54, 52, 54, 53, 54, 54, 54, 55, 54, 56, 54, 57, 55, 48, 55, 49, 55, 50, 55, 51, 55, 52, 55, 53, 55, 54, 55, 55, 55, 56, 55, 57, 56, 48, 56, 49, 56, 50, 56, 51, 56, 52,
  56, 53, 56, 54, 56, 55, 56, 56, 56, 57, 57, 48, 57, 49, 57, 50, 57, 51, 57, 52, 57, 53, 57, 54, 57, 55, 57, 56, 57, 57]) (t 119))), P (ia 121 1 110 112), E (n (.st 1 (t 121) (t
  118))), P (ia 122 1 113 115), E (n (.st 1 (t 122) (t 120)))]) (Q (D [P (m 123 0), P (m 124 4), P (o 125 (.ar .sub (t 124) (i 3))), P (m 126 0), P (m 127 4), P (o 128 (.ar .sub (t
  127) (i 4))), P (m 129 14), P (o 130 (.ar .add (t 129) (.c (.int .u32 1)))), P (o 131 (.ixs (s [48, 48, 48, 49, 48, 50, 48, 51, 48, 52, 48, 53, 48, 54, 48, 55, 48, 56, 48, 57, 49,
  48, 49, 49, 49, 50, 49, 51, 49, 52, 49, 53, 49, 54, 49, 55, 49, 56, 49, 57, 50, 48, 50, 49, 50, 50, 50, 51, 50, 52, 50, 53, 50, 54, 50, 55, 50, 56, 50, 57, 51, 48, 51, 49, 51, 50,
  51, 51, 51, 52, 51, 53, 51, 54, 51, 55, 51, 56, 51, 57, 52, 48, 52, 49, 52, 50, 52, 51, 52, 52, 52, 53, 52, 54, 52, 55, 52, 56, 52, 57, 53, 48, 53, 49, 53, 50, 53, 51, 53, 52, 53,
  53, 53, 54, 53, 55, 53, 56, 53, 57, 54, 48, 54, 49, 54, 50, 54, 51, 54, 52, 54, 53, 54, 54, 54, 55, 54, 56, 54, 57, 55, 48, 55, 49, 55, 50, 55, 51, 55, 52, 55, 53, 55, 54, 55, 55,
  55, 56, 55, 57, 56, 48, 56, 49, 56, 50, 56, 51, 56, 52, 56, 53, 56, 54, 56, 55, 56, 56, 56, 57, 57, 48, 57, 49, 57, 50, 57, 51, 57, 52, 57, 53, 57, 54, 57, 55, 57, 56, 57, 57]) (t
  130))), P (m 132 14), P (o 133 (.ixs (s [48, 48, 48, 49, 48, 50, 48, 51, 48, 52, 48, 53, 48, 54, 48, 55, 48, 56, 48, 57, 49, 48, 49, 49, 49, 50, 49, 51, 49, 52, 49, 53, 49, 54, 49,
  55, 49, 56, 49, 57, 50, 48, 50, 49, 50, 50, 50, 51, 50, 52, 50, 53, 50, 54, 50, 55, 50, 56, 50, 57, 51, 48, 51, 49, 51, 50, 51, 51, 51, 52, 51, 53, 51, 54, 51, 55, 51, 56, 51, 57,
  52, 48, 52, 49, 52, 50, 52, 51, 52, 52, 52, 53, 52, 54, 52, 55, 52, 56, 52, 57, 53, 48, 53, 49, 53, 50, 53, 51, 53, 52, 53, 53, 53, 54, 53, 55, 53, 56, 53, 57, 54, 48, 54, 49, 54,
  50, 54, 51, 54, 52, 54, 53, 54, 54, 54, 55, 54, 56, 54, 57, 55, 48, 55, 49, 55, 50, 55, 51, 55, 52, 55, 53, 55, 54, 55, 55, 55, 56, 55, 57, 56, 48, 56, 49, 56, 50, 56, 51, 56, 52,
  56, 53, 56, 54, 56, 55, 56, 56, 56, 57, 57, 48, 57, 49, 57, 50, 57, 51, 57, 52, 57, 53, 57, 54, 57, 55, 57, 56, 57, 57]) (t 132))), P (ia 134 1 123 125), E (n (.st 1 (t 134) (t
  131))), P (ia 135 1 126 128), E (n (.st 1 (t 135) (t 133)))]) (O [m 136 4, o 137 (.ar .sub (t 136) (i 4)), m 4 137])))))) X)) (Q (Q (O [m 138 4, o 139 (.ar .geq (t 138) (i 2))]) (C
  139 (Q (O [m 140 12, o 141 (.ar .rem (t 140) (.c (.int .u32 100))), o 142 (.ar .mul (t 141) (.c (.int .u32 2))), m 16 142]) (Q (O [m 143 12, o 144 (.ar .quo (t 143) (.c (.int .u32
  100))), m 12 144]) (Q (D [P (m 145 0), P (m 146 4), P (o 147 (.ar .sub (t 146) (i 1))), P (m 148 0), P (m 149 4), P (o 150 (.ar .sub (t 149) (i 2))), P (m 151 16), P (o 152 (.ar
  .add (t 151) (.c (.int .u32 1)))), P (o 153 (.ixs (s [48, 48, 48, 49, 48, 50, 48, 51, 48, 52, 48, 53, 48, 54, 48, 55, 48, 56, 48, 57, 49, 48, 49, 49, 49, 50, 49, 51, 49, 52, 49, 53,
  49, 54, 49, 55, 49, 56, 49, 57, 50, 48, 50, 49, 50, 50, 50, 51, 50, 52, 50, 53, 50, 54, 50, 55, 50, 56, 50, 57, 51, 48, 51, 49, 51, 50, 51, 51, 51, 52, 51, 53, 51, 54, 51, 55, 51,
  56, 51, 57, 52, 48, 52, 49, 52, 50, 52, 51, 52, 52, 52, 53, 52, 54, 52, 55, 52, 56, 52, 57, 53, 48, 53, 49, 53, 50, 53, 51, 53, 52, 53, 53, 53, 54, 53, 55, 53, 56, 53, 57, 54, 48,
  54, 49, 54, 50, 54, 51, 54, 52, 54, 53, 54, 54, 54, 55, 54, 56, 54, 57, 55, 48, 55, 49, 55, 50, 55, 51, 55, 52, 55, 53, 55, 54, 55, 55, 55, 56, 55, 57, 56, 48, 56, 49, 56, 50, 56,
  51, 56, 52, 56, 53, 56, 54, 56, 55, 56, 56, 56, 57, 57, 48, 57, 49, 57, 50, 57, 51, 57, 52, 57, 53, 57, 54, 57, 55, 57, 56, 57, 57]) (t 152))), P (m 154 16), P (o 155 (.ixs (s [48,
  48, 48, 49, 48, 50, 48, 51, 48, 52, 48, 53, 48, 54, 48, 55, 48, 56, 48, 57, 49, 48, 49, 49, 49, 50, 49, 51, 49, 52, 49, 53, 49, 54, 49, 55, 49, 56, 49, 57, 50, 48, 50, 49, 50, 50,
  50, 51, 50, 52, 50, 53, 50, 54, 50, 55, 50, 56, 50, 57, 51, 48, 51, 49, 51, 50, 51, 51, 51, 52, 51, 53, 51, 54, 51, 55, 51, 56, 51, 57, 52, 48, 52, 49, 52, 50, 52, 51, 52, 52, 52,
  53, 52, 54, 52, 55, 52, 56, 52, 57, 53, 48, 53, 49, 53, 50, 53, 51, 53, 52, 53, 53, 53, 54, 53, 55, 53, 56, 53, 57, 54, 48, 54, 49, 54, 50, 54, 51, 54, 52, 54, 53, 54, 54, 54, 55,
  54, 56, 54, 57, 55, 48, 55, 49, 55, 50, 55, 51, 55, 52, 55, 53, 55, 54, 55, 55, 55, 56, 55, 57, 56, 48, 56, 49, 56, 50, 56, 51, 56, 52, 56, 53, 56, 54, 56, 55, 56, 56, 56, 57, 57,
  48, 57, 49, 57, 50, 57, 51, 57, 52, 57, 53, 57, 54, 57, 55, 57, 56, 57, 57]) (t 154))), P (ia 156 1 145 147), E (n (.st 1 (t 156) (t 153))), P (ia 157 1 148 150), E (n (.st 1 (t
  157) (t 155)))]) (O [m 158 4, o 159 (.ar .sub (t 158) (i 2)), m 4 159])))) X)) (Q (O [m 160 4, o 161 (.ar .gtr (t 160) (i 0))]) (C 161 (O [m 162 0, m 163 12, o 164 (.ar .add (.c
  (.int .u32 48)) (t 163)), o 165 (.cvi .u8 (t 164)), o 166 (.ias 1 (t 162) (i 0)), n (.st 1 (t 166) (t 165))]) X)))))))
def ka_internal_strconv_formatBase10 : AFn := ⟨kc_internal_strconv_formatBase10, 167, [], .keep, [], none⟩
def l_kinternal_strconv_formatBits_0 : AC :=
  (Q (Q (O [m 44 1, m 45 15, o 46 (.ar .geq (t 44) (t 45))]) (C 46 X (.exit 0))) (.block 1 (Q (O [m 47 13, o 48 (.ar .sub (t 47) (i 1)), m 13 48]) (Q (O [m 49 13, m 50 1, m 51 16, o
  52 (.ar .and (t 50) (t 51)), o 53 (.ixs (s [48, 49, 50, 51, 52, 53, 54, 55, 56, 57, 97, 98, 99, 100, 101, 102, 103, 104, 105, 106, 107, 108, 109, 110, 111, 112, 113, 114, 115, 116,
  117, 118, 119, 120, 121, 122]) (t 52)), o 54 (.iaa 65 1 (t 12) (t 49)), n (.st 1 (t 54) (t 53))]) (O [m 55 1, m 56 14, o 57 (.sh .shr (t 55) (t 56)), m 1 57])))))
def l_kinternal_strconv_formatBits_1 : AC :=
  (Q (Q (O [m 66 1, m 67 17, o 68 (.ar .geq (t 66) (t 67))]) (C 68 X (.exit 2))) (.block 3 (Q (O [m 69 13, o 70 (.ar .sub (t 69) (i 1)), m 13 70]) (Q (O [m 71 1, m 72 17, o 73 (.ar
  .quo (t 71) (t 72)), m 18 73]) (Q (O [m 74 13, m 75 1, m 76 18, m 77 17, o 78 (.ar .mul (t 76) (t 77)), o 79 (.ar .sub (t 75) (t 78)), o 80 (.ixs (s [48, 49, 50, 51, 52, 53, 54, 55,
  56, 57, 97, 98, 99, 100, 101, 102, 103, 104, 105, 106, 107, 108, 109, 110, 111, 112, 113, 114, 115, 116, 117, 118, 119, 120, 121, 122]) (t 79)), o 81 (.iaa 65 1 (t 12) (t 74)), n
  (.st 1 (t 81) (t 80))]) (O [m 82 18, m 1 82]))))))
def kc_internal_strconv_formatBits : AC :=
  (Q (O [mc 10 (.c (.slice .nil 1 [])), mc 11 (s [])]) (Q (Q (O [m 19 2, o 20 (.ar .lss (t 19) (i 2)), m 21 20, h 22 21 (.mv (t 2)), h 23 21 (.ar .eql (t 22) (i 10)), o 24 (.pk (t 21)
  T (t 23)), m 25 24, h 26 25 (.mv (t 2)), h 27 25 (.ar .gtr (t 26) (i 36)), o 28 (.pk (t 25) T (t 27))]) (C 28 (O [o 29 (.mi t_string (s [115, 116, 114, 99, 111, 110, 118, 58, 32,
  105, 108, 108, 101, 103, 97, 108, 32, 65, 112, 112, 101, 110, 100, 73, 110, 116, 47, 70, 111, 114, 109, 97, 116, 73, 110, 116, 32, 98, 97, 115, 101])), ⟨none, none, (.panic (.t
  29))⟩]) X)) (Q (O [o 12 (.nw [(.int .u8 0), (.int .u8 0), (.int .u8 0), (.int .u8 0), (.int .u8 0), (.int .u8 0), (.int .u8 0), (.int .u8 0), (.int .u8 0), (.int .u8 0), (.int .u8
  0), (.int .u8 0), (.int .u8 0), (.int .u8 0), (.int .u8 0), (.int .u8 0), (.int .u8 0), (.int .u8 0), (.int .u8 0), (.int .u8 0), (.int .u8 0), (.int .u8 0), (.int .u8 0), (.int .u8
  0), (.int .u8 0), (.int .u8 0), (.int .u8 0), (.int .u8 0), (.int .u8 0), (.int .u8 0), (.int .u8 0), (.int .u8 0), (.int .u8 0), (.int .u8 0), (.int .u8 0), (.int .u8 0), (.int .u8
  0), (.int .u8 0), (.int .u8 0), (.int .u8 0), (.int .u8 0), (.int .u8 0), (.int .u8 0), (.int .u8 0), (.int .u8 0), (.int .u8 0), (.int .u8 0), (.int .u8 0), (.int .u8 0), (.int .u8
  0), (.int .u8 0), (.int .u8 0), (.int .u8 0), (.int .u8 0), (.int .u8 0), (.int .u8 0), (.int .u8 0), (.int .u8 0), (.int .u8 0), (.int .u8 0), (.int .u8 0), (.int .u8 0), (.int .u8
  0), (.int .u8 0), (.int .u8 0)] t_65_uint8)]) (Q (O [mc 13 (i 65)]) (Q (Q (O [m 30 3]) (C 30 (O [m 31 1, o 32 (.un .neg (t 31)), m 1 32]) X)) (Q (Q (O [m 33 2, k 34 (f
  f_internal_strconv_isPowerOfTwo) [(t 33)]]) (C 34 (Q (O [m 35 2, o 36 (.cvi .u64 (t 35)), k 37 (f f_math_bits_TrailingZeros) [(t 36)], o 38 (.cvi .u64 (t 37)), m 14 38]) (Q (O [m 39
  2, o 40 (.cvi .u64 (t 39)), m 15 40]) (Q (O [m 41 2, o 42 (.cvi .u64 (t 41)), o 43 (.ar .sub (t 42) (.c (.int .u64 1))), m 16 43]) (Q (.block 0 (.loop ⟨none, [], false⟩
  l_kinternal_strconv_formatBits_0)) (Q (O [m 58 13, o 59 (.ar .sub (t 58) (i 1)), m 13 59]) (O [m 60 13, m 61 1, o 62 (.ixs (s [48, 49, 50, 51, 52, 53, 54, 55, 56, 57, 97, 98, 99,
  100, 101, 102, 103, 104, 105, 106, 107, 108, 109, 110, 111, 112, 113, 114, 115, 116, 117, 118, 119, 120, 121, 122]) (t 61)), o 63 (.iaa 65 1 (t 12) (t 60)), n (.st 1 (t 63) (t
  62))])))))) (Q (O [m 64 2, o 65 (.cvi .u64 (t 64)), m 17 65]) (Q (.block 2 (.loop ⟨none, [], false⟩ l_kinternal_strconv_formatBits_1)) (Q (O [m 83 13, o 84 (.ar .sub (t 83) (i 1)),
  m 13 84]) (O [m 85 13, m 86 1, o 87 (.ixs (s [48, 49, 50, 51, 52, 53, 54, 55, 56, 57, 97, 98, 99, 100, 101, 102, 103, 104, 105, 106, 107, 108, 109, 110, 111, 112, 113, 114, 115,
  116, 117, 118, 119, 120, 121, 122]) (t 86)), o 88 (.iaa 65 1 (t 12) (t 85)), n (.st 1 (t 88) (t 87))])))))) (Q (Q (O [m 89 3]) (C 89 (Q (O [m 90 13, o 91 (.ar .sub (t 90) (i 1)), m
  13 91]) (O [m 92 13, o 93 (.iaa 65 1 (t 12) (t 92)), n (.st 1 (t 93) (u 45))])) X)) (Q (Q (O [m 94 4]) (C 94 (Q (O [m 95 0, m 96 13, o 97 (.sla 65 1 (t 12) (some (t 96)) none), o 98
  (.ap false t_uint8 1 1 false (t 95) (t 97)), m 10 98]) R) X)) (Q (O [m 99 13, o 100 (.sla 65 1 (t 12) (some (t 99)) none), o 101 (.cvbs (t 100)), m 11 101]) R)))))))))
def ka_internal_strconv_formatBits : AFn := ⟨kc_internal_strconv_formatBits, 102, [.t 10, .t 11], .keep, [], none⟩
def kc_internal_strconv_lower : AC :=
  (Q (O [mc 2 (u 0)]) (Q (O [m 3 0, o 4 (.ar .or (t 3) (u 32)), m 2 4]) R))
def ka_internal_strconv_lower : AFn := ⟨kc_internal_strconv_lower, 5, [.t 2], .keep, [], none⟩
def l_kinternal_strconv_underscoreOK_0 : AC :=
  (Q (Q (O [m 51 4, m 52 0, lt 53 52, bl 54 51 53]) (C 54 X (.exit 0))) (Q (.block 1 (Q (Q (O [m 57 0, m 58 4, o 59 (.ixs (t 57) (t 58)), o 60 (.ar .leq (u 48) (t 59)), m 61 60, g 62
  61 (.mv (t 0)), g 63 61 (.mv (t 4)), g 64 61 (.ixs (t 62) (t 63)), g 65 61 (.ar .leq (t 64) (u 57)), o 66 (.pk (t 61) (t 65) F), m 67 66, h 68 67 (.mv (t 5)), h 69 67 (.mv (t 68)),
  g 70 69 (.mv (t 0)), g 71 69 (.mv (t 4)), g 72 69 (.ixs (t 70) (t 71)), ⟨(some 73), (some (69, true)), (.call (.c (.fn (.func f_internal_strconv_lower) [] [])) [(.t 72)])⟩, g 74 69
  (.ar .leq (u 97) (t 73)), h 75 67 (.pk (t 69) (t 74) F), h 76 67 (.mv (t 75)), g 77 76 (.mv (t 0)), g 78 76 (.mv (t 4)), g 79 76 (.ixs (t 77) (t 78)), ⟨(some 80), (some (76, true)),
  (.call (.c (.fn (.func f_internal_strconv_lower) [] [])) [(.t 79)])⟩, g 81 76 (.ar .leq (t 80) (u 102)), h 82 67 (.pk (t 76) (t 81) F), o 83 (.pk (t 67) T (t 82))]) (C 83 (Q (O [mc
  3 (.c (.int .i32 48))]) (.exit 1)) X)) (Q (Q (O [m 84 0, m 85 4, o 86 (.ixs (t 84) (t 85)), o 87 (.ar .eql (t 86) (u 95))]) (C 87 (Q (Q (O [m 88 3, o 89 (.ar .neq (t 88) (.c (.int
  .i32 48)))]) (C 89 (Q (O [mc 2 F]) R) X)) (Q (O [mc 3 (.c (.int .i32 95))]) (.exit 1))) X)) (Q (Q (O [m 90 3, o 91 (.ar .eql (t 90) (.c (.int .i32 95)))]) (C 91 (Q (O [mc 2 F]) R)
  X)) (O [mc 3 (.c (.int .i32 33))]))))) (O [m 55 4, ad 56 55, m 4 56])))
def kc_internal_strconv_underscoreOK : AC :=
  (Q (O [mc 2 F]) (Q (O [mc 3 (.c (.int .i32 94))]) (Q (O [mc 4 (i 0)]) (Q (Q (O [m 6 0, lt 7 6, o 8 (.ar .geq (t 7) (i 1)), m 9 8, g 10 9 (.mv (t 0)), g 11 9 (.ixs (t 10) (i 0)), g
  12 9 (.ar .eql (t 11) (u 45)), g 13 9 (.mv (t 12)), h 14 13 (.mv (t 0)), h 15 13 (.ixs (t 14) (i 0)), h 16 13 (.ar .eql (t 15) (u 43)), g 17 9 (.pk (t 13) T (t 16)), o 18 (.pk (t 9)
  (t 17) F)]) (C 18 (O [m 19 0, o 20 (.sls (t 19) (some (i 1)) none), m 0 20]) X)) (Q (O [mc 5 F]) (Q (Q (O [m 21 0, lt 22 21, o 23 (.ar .geq (t 22) (i 2)), m 24 23, g 25 24 (.mv (t
  0)), g 26 24 (.ixs (t 25) (i 0)), g 27 24 (.ar .eql (t 26) (u 48)), o 28 (.pk (t 24) (t 27) F), m 29 28, g 30 29 (.mv (t 0)), g 31 29 (.ixs (t 30) (i 1)), ⟨(some 32), (some (29,
  true)), (.call (.c (.fn (.func f_internal_strconv_lower) [] [])) [(.t 31)])⟩, g 33 29 (.ar .eql (t 32) (u 98)), g 34 29 (.mv (t 33)), h 35 34 (.mv (t 0)), h 36 34 (.ixs (t 35) (i
  1)), ⟨(some 37), (some (34, false)), (.call (.c (.fn (.func f_internal_strconv_lower) [] [])) [(.t 36)])⟩, h 38 34 (.ar .eql (t 37) (u 111)), g 39 29 (.pk (t 34) T (t 38)), g 40 29
  (.mv (t 39)), h 41 40 (.mv (t 0)), h 42 40 (.ixs (t 41) (i 1)), ⟨(some 43), (some (40, false)), (.call (.c (.fn (.func f_internal_strconv_lower) [] [])) [(.t 42)])⟩, h 44 40 (.ar
  .eql (t 43) (u 120)), g 45 29 (.pk (t 40) T (t 44)), o 46 (.pk (t 29) (t 45) F)]) (C 46 (Q (O [mc 4 (i 2)]) (Q (O [mc 3 (.c (.int .i32 48))]) (O [m 47 0, o 48 (.ixs (t 47) (i 1)), k
  49 (f f_internal_strconv_lower) [(t 48)], o 50 (.ar .eql (t 49) (u 120)), m 5 50]))) X)) (Q (.block 0 (.loop ⟨none, [], false⟩ l_kinternal_strconv_underscoreOK_0)) (Q (O [m 92 3, o
  93 (.ar .neq (t 92) (.c (.int .i32 95))), m 2 93]) R))))))))
def ka_internal_strconv_underscoreOK : AFn := ⟨kc_internal_strconv_underscoreOK, 94, [.t 2], .keep, [], none⟩
def kc_internal_strconv_log10Pow2 : AC :=
  (Q (O [mc 2 (i 0)]) (Q (O [m 3 0, o 4 (.ar .mul (t 3) (i 78913)), o 5 (.sh .shr (t 4) (.c (.int .u64 18))), m 2 5]) R))
def ka_internal_strconv_log10Pow2 : AFn := ⟨kc_internal_strconv_log10Pow2, 6, [.t 2], .keep, [], none⟩
def kc_internal_strconv_bool2_int : AC :=
  (Q (O [mc 2 (i 0)]) (Q (Q (O [m 3 0]) (C 3 (Q (O [mc 2 (i 1)]) R) X)) (Q (O [mc 2 (i 0)]) R)))
def ka_internal_strconv_bool2_int : AFn := ⟨kc_internal_strconv_bool2_int, 4, [.t 2], .keep, [], none⟩
def kc_internal_strconv_isPowerOfTwo : AC :=
  (Q (O [mc 2 F]) (Q (O [m 3 0, m 4 0, o 5 (.ar .sub (t 4) (i 1)), o 6 (.ar .and (t 3) (t 5)), o 7 (.ar .eql (t 6) (i 0)), m 2 7]) R))
def ka_internal_strconv_isPowerOfTwo : AFn := ⟨kc_internal_strconv_isPowerOfTwo, 8, [.t 2], .keep, [], none⟩
def kc_math_bits_TrailingZeros : AC :=
  (Q (O [mc 2 (i 0)]) (Q (.cond (.c (.bool false)) (Q (O [m 3 0, o 4 (.cvi .u32 (t 3)), k 5 (f f_math_bits_TrailingZeros32) [(t 4)], m 2 5]) R) X) (Q (O [m 6 0, k 7 (f
  f_math_bits_TrailingZeros64) [(t 6)], m 2 7]) R)))
def ka_math_bits_TrailingZeros : AFn := ⟨kc_math_bits_TrailingZeros, 8, [.t 2], .keep, [], none⟩
def kc_math_bits_TrailingZeros32 : AC :=
  (Q (O [mc 2 (i 0)]) (Q (Q (O [m 3 0, o 4 (.ar .eql (t 3) (.c (.int .u32 0)))]) (C 4 (Q (O [mc 2 (i 32)]) R) X)) (Q (O [m 5 0, m 6 0, o 7 (.un .neg (t 6)), o 8 (.ar .and (t 5) (t
  7)), o 9 (.ar .mul (t 8) (.c (.int .u32 125613361))), o 10 (.sh .shr (t 9) (.c (.int .u64 27))), o 11 (.iaa 32 1 (.c .unk) (t 10)), ld 12 11, o 13 (.cvi .i64 (t 12)), m 2 13]) R)))
def ka_math_bits_TrailingZeros32 : AFn := ⟨kc_math_bits_TrailingZeros32, 14, [.t 2], .keep, [], none⟩
def kc_math_bits_TrailingZeros64 : AC :=
  (Q (O [mc 2 (i 0)]) (Q (Q (O [m 3 0, o 4 (.ar .eql (t 3) (.c (.int .u64 0)))]) (C 4 (Q (O [mc 2 (i 64)]) R) X)) (Q (O [m 5 0, m 6 0, o 7 (.un .neg (t 6)), o 8 (.ar .and (t 5) (t
  7)), o 9 (.ar .mul (t 8) (.c (.int .u64 285870213051353865))), o 10 (.sh .shr (t 9) (.c (.int .u64 58))), o 11 (.iaa 64 1 (.c .unk) (t 10)), ld 12 11, o 13 (.cvi .i64 (t 12)), m 2
  13]) R)))
def ka_math_bits_TrailingZeros64 : AFn := ⟨kc_math_bits_TrailingZeros64, 14, [.t 2], .keep, [], none⟩
def ktab (f : FuncId) : Option AFn := (bif Nat.blt f 126 then (bif Nat.blt f 75 then (bif Nat.blt f 47 then (bif Nat.blt f 33 then (bif Nat.blt f 18 then (bif Nat.blt f 16 then (bif Nat.blt f 9 then (bif Nat.beq f 7 then some ka_morph_Parse else none) else (bif Nat.beq f 9 then some ka_morph_Form else none)) else (bif Nat.blt f 17 then (bif Nat.beq f 16 then some ka_morph_Name else none) else (bif Nat.beq f 17 then some ka_morph_Word else none))) else (bif Nat.blt f 31 then (bif Nat.blt f 19 then (bif Nat.beq f 18 then some ka_morph_Plain else none) else (bif Nat.beq f 19 then some ka_truchmanlaw02_lives else none)) else (bif Nat.blt f 32 then (bif Nat.beq f 31 then some ka_strings_Split else none) else (bif Nat.beq f 32 then some ka_morph_reader_read else none)))) else (bif Nat.blt f 40 then (bif Nat.blt f 35 then (bif Nat.blt f 34 then (bif Nat.beq f 33 then some ka_morph_Check else none) else (bif Nat.beq f 34 then some ka_morph_asked else none)) else (bif Nat.blt f 36 then (bif Nat.beq f 35 then some ka_morph_language_steps else none) else (bif Nat.beq f 36 then some ka_morph_language_form else none))) else (bif Nat.blt f 43 then (bif Nat.blt f 42 then (bif Nat.beq f 40 then some ka_morph_language_slot else none) else (bif Nat.beq f 42 then some ka_slices_Contains_string_string else none)) else (bif Nat.blt f 44 then (bif Nat.beq f 43 then some ka_morph_all else none) else (bif Nat.blt f 45 then (bif Nat.beq f 44 then some ka_morph_symbol else none) else (bif Nat.beq f 45 then some ka_morph_language_spell else none)))))) else (bif Nat.blt f 66 then (bif Nat.blt f 52 then (bif Nat.blt f 50 then (bif Nat.blt f 49 then (bif Nat.beq f 47 then some ka_morph_clash else none) else (bif Nat.beq f 49 then some ka_morph_Name_1 else none)) else (bif Nat.blt f 51 then (bif Nat.beq f 50 then some ka_morph_letter else none) else (bif Nat.beq f 51 then some ka_morph_Name_2 else none))) else (bif Nat.blt f 62 then (bif Nat.blt f 53 then (bif Nat.beq f 52 then some ka_morph_Word_1 else none) else (bif Nat.beq f 53 then some ka_slices_ContainsFunc_api_Feat_api_Feat else none)) else (bif Nat.blt f 64 then (bif Nat.beq f 62 then some ka_strings_genSplit else none) else (bif Nat.blt f 65 then (bif Nat.beq f 64 then some ka_morph_kinds else none) else (bif Nat.beq f 65 then some ka_morph_demand else none))))) else (bif Nat.blt f 70 then (bif Nat.blt f 68 then (bif Nat.blt f 67 then (bif Nat.beq f 66 then some ka_strings_SplitN else none) else (bif Nat.beq f 67 then some ka_morph_first else none)) else (bif Nat.blt f 69 then (bif Nat.beq f 68 then some ka_morph_checker_vowels else none) else (bif Nat.beq f 69 then some ka_morph_Check_1 else none))) else (bif Nat.blt f 72 then (bif Nat.blt f 71 then (bif Nat.beq f 70 then some ka_morph_each_api_Trait else none) else (bif Nat.beq f 71 then some ka_morph_checker_trait else none)) else (bif Nat.blt f 73 then (bif Nat.beq f 72 then some ka_morph_Check_2 else none) else (bif Nat.blt f 74 then (bif Nat.beq f 73 then some ka_morph_each_api_Class else none) else (bif Nat.beq f 74 then some ka_morph_checker_class else none))))))) else (bif Nat.blt f 95 then (bif Nat.blt f 83 then (bif Nat.blt f 79 then (bif Nat.blt f 77 then (bif Nat.blt f 76 then (bif Nat.beq f 75 then some ka_morph_Check_3 else none) else (bif Nat.beq f 76 then some ka_morph_each_api_Entry else none)) else (bif Nat.blt f 78 then (bif Nat.beq f 77 then some ka_morph_checker_entry else none) else (bif Nat.beq f 78 then some ka_morph_Check_4 else none))) else (bif Nat.blt f 81 then (bif Nat.blt f 80 then (bif Nat.beq f 79 then some ka_morph_each_api_Spell else none) else (bif Nat.beq f 80 then some ka_morph_checker_spell else none)) else (bif Nat.blt f 82 then (bif Nat.beq f 81 then some ka_morph_Check_5 else none) else (bif Nat.beq f 82 then some ka_morph_each_api_Link else none)))) else (bif Nat.blt f 90 then (bif Nat.blt f 85 then (bif Nat.blt f 84 then (bif Nat.beq f 83 then some ka_morph_checker_link else none) else (bif Nat.beq f 84 then some ka_morph_language_underlying else none)) else (bif Nat.blt f 89 then (bif Nat.beq f 85 then some ka_strings_ReplaceAll else none) else (bif Nat.beq f 89 then some ka_morph_checker_bundle else none))) else (bif Nat.blt f 92 then (bif Nat.blt f 91 then (bif Nat.beq f 90 then some ka_morph_classOf else none) else (bif Nat.beq f 91 then some ka_slices_Index_string_string else none)) else (bif Nat.blt f 93 then (bif Nat.beq f 92 then some ka_strings_HasPrefix else none) else (bif Nat.blt f 94 then (bif Nat.beq f 93 then some ka_morph_language_left else none) else (bif Nat.beq f 94 then some ka_morph_language_right else none)))))) else (bif Nat.blt f 117 then (bif Nat.blt f 99 then (bif Nat.blt f 97 then (bif Nat.blt f 96 then (bif Nat.beq f 95 then some ka_strings_Builder_WriteString else none) else (bif Nat.beq f 96 then some ka_strings_Builder_WriteByte else none)) else (bif Nat.blt f 98 then (bif Nat.beq f 97 then some ka_strings_Builder_String else none) else (bif Nat.beq f 98 then some ka_strings_Builder_Len else none))) else (bif Nat.blt f 106 then (bif Nat.blt f 100 then (bif Nat.beq f 99 then some ka_morph_clash_1 else none) else (bif Nat.beq f 100 then some ka_morph_clash_1_1 else none)) else (bif Nat.blt f 115 then (bif Nat.beq f 106 then some ka_slices_IndexFunc_api_Feat_api_Feat else none) else (bif Nat.blt f 116 then (bif Nat.beq f 115 then some ka_strings_explode else none) else (bif Nat.beq f 116 then some ka_strings_Count else none))))) else (bif Nat.blt f 121 then (bif Nat.blt f 119 then (bif Nat.blt f 118 then (bif Nat.beq f 117 then some ka_strings_Index else none) else (bif Nat.beq f 118 then some ka_morph_kinds_1 else none)) else (bif Nat.blt f 120 then (bif Nat.beq f 119 then some ka_morph_text else none) else (bif Nat.beq f 120 then some ka_morph_kinds_2 else none))) else (bif Nat.blt f 123 then (bif Nat.blt f 122 then (bif Nat.beq f 121 then some ka_morph_kinds_3 else none) else (bif Nat.beq f 122 then some ka_morph_kinds_4 else none)) else (bif Nat.blt f 124 then (bif Nat.beq f 123 then some ka_morph_number else none) else (bif Nat.blt f 125 then (bif Nat.beq f 124 then some ka_morph_feats else none) else (bif Nat.beq f 125 then some ka_morph_kinds_5 else none)))))))) else (bif Nat.blt f 175 then (bif Nat.blt f 143 then (bif Nat.blt f 134 then (bif Nat.blt f 130 then (bif Nat.blt f 128 then (bif Nat.blt f 127 then (bif Nat.beq f 126 then some ka_morph_kinds_6 else none) else (bif Nat.beq f 127 then some ka_morph_kinds_7 else none)) else (bif Nat.blt f 129 then (bif Nat.beq f 128 then some ka_morph_kinds_8 else none) else (bif Nat.beq f 129 then some ka_slices_ContainsFunc_api_Trait_api_Trait else none))) else (bif Nat.blt f 132 then (bif Nat.blt f 131 then (bif Nat.beq f 130 then some ka_morph_checker_trait_1 else none) else (bif Nat.beq f 131 then some ka_slices_ContainsFunc_api_Class_api_Class else none)) else (bif Nat.blt f 133 then (bif Nat.beq f 132 then some ka_morph_checker_class_1 else none) else (bif Nat.beq f 133 then some ka_morph_each_api_Slot else none)))) else (bif Nat.blt f 138 then (bif Nat.blt f 136 then (bif Nat.blt f 135 then (bif Nat.beq f 134 then some ka_morph_checker_class_2 else none) else (bif Nat.beq f 135 then some ka_morph_short else none)) else (bif Nat.blt f 137 then (bif Nat.beq f 136 then some ka_slices_ContainsFunc_api_Entry_api_Entry else none) else (bif Nat.beq f 137 then some ka_morph_checker_entry_1 else none))) else (bif Nat.blt f 140 then (bif Nat.blt f 139 then (bif Nat.beq f 138 then some ka_slices_ContainsFunc_api_Slot_api_Slot else none) else (bif Nat.beq f 139 then some ka_morph_checker_entry_2 else none)) else (bif Nat.blt f 141 then (bif Nat.beq f 140 then some ka_slices_ContainsFunc_api_Irregular_api_Irregular else none) else (bif Nat.blt f 142 then (bif Nat.beq f 141 then some ka_morph_checker_entry_3 else none) else (bif Nat.beq f 142 then some ka_morph_around else none)))))) else (bif Nat.blt f 155 then (bif Nat.blt f 150 then (bif Nat.blt f 148 then (bif Nat.blt f 147 then (bif Nat.beq f 143 then some ka_strings_Replace else none) else (bif Nat.beq f 147 then some ka_morph_each_api_Feat else none)) else (bif Nat.blt f 149 then (bif Nat.beq f 148 then some ka_morph_checker_bundle_1 else none) else (bif Nat.beq f 149 then some ka_slices_IndexFunc_api_Trait_api_Trait else none))) else (bif Nat.blt f 152 then (bif Nat.blt f 151 then (bif Nat.beq f 150 then some ka_morph_checker_bundle_1_1 else none) else (bif Nat.beq f 151 then some ka_slices_IndexFunc_api_Class_api_Class else none)) else (bif Nat.blt f 153 then (bif Nat.beq f 152 then some ka_morph_classOf_1 else none) else (bif Nat.blt f 154 then (bif Nat.beq f 153 then some ka_internal_stringslite_HasPrefix else none) else (bif Nat.beq f 154 then some ka_morph_language_match else none))))) else (bif Nat.blt f 170 then (bif Nat.blt f 167 then (bif Nat.blt f 166 then (bif Nat.beq f 155 then some ka_strings_Builder_copyCheck else none) else (bif Nat.beq f 166 then some ka_unicode_utf8_RuneCountInString else none)) else (bif Nat.blt f 169 then (bif Nat.beq f 167 then some ka_unicode_utf8_DecodeRuneInString else none) else (bif Nat.beq f 169 then some ka_internal_stringslite_Index else none))) else (bif Nat.blt f 172 then (bif Nat.blt f 171 then (bif Nat.beq f 170 then some ka_strconv_Atoi else none) else (bif Nat.beq f 171 then some ka_strconv_Itoa else none)) else (bif Nat.blt f 173 then (bif Nat.beq f 172 then some ka_strings_Cut else none) else (bif Nat.blt f 174 then (bif Nat.beq f 173 then some ka_slices_IndexFunc_api_Entry_api_Entry else none) else (bif Nat.beq f 174 then some ka_slices_IndexFunc_api_Slot_api_Slot else none))))))) else (bif Nat.blt f 213 then (bif Nat.blt f 198 then (bif Nat.blt f 193 then (bif Nat.blt f 178 then (bif Nat.blt f 176 then (bif Nat.beq f 175 then some ka_slices_IndexFunc_api_Irregular_api_Irregular else none) else (bif Nat.beq f 176 then some ka_strings_Builder_Grow else none)) else (bif Nat.blt f 189 then (bif Nat.beq f 178 then some ka_strings_IndexByte else none) else (bif Nat.beq f 189 then some ka_math_bits_Len64 else none))) else (bif Nat.blt f 196 then (bif Nat.blt f 194 then (bif Nat.beq f 193 then some ka_unicode_utf8_decodeRuneInStringSlow else none) else (bif Nat.beq f 194 then some ka_internal_stringslite_IndexByte else none)) else (bif Nat.blt f 197 then (bif Nat.beq f 196 then some ka_internal_bytealg_Cutover else none) else (bif Nat.beq f 197 then some ka_internal_bytealg_IndexRabinKarp_string else none)))) else (bif Nat.blt f 202 then (bif Nat.blt f 200 then (bif Nat.blt f 199 then (bif Nat.beq f 198 then some ka_internal_strconv_Atoi else none) else (bif Nat.beq f 199 then some ka_strconv_toError else none)) else (bif Nat.blt f 201 then (bif Nat.beq f 200 then some ka_internal_strconv_Itoa else none) else (bif Nat.beq f 201 then some ka_internal_stringslite_Cut else none))) else (bif Nat.blt f 210 then (bif Nat.blt f 209 then (bif Nat.beq f 202 then some ka_strings_Builder_grow else none) else (bif Nat.beq f 209 then some ka_internal_bytealg_hashStr_string else none)) else (bif Nat.blt f 211 then (bif Nat.beq f 210 then some ka_internal_strconv_ParseInt else none) else (bif Nat.blt f 212 then (bif Nat.beq f 211 then some ka_strconv_syntaxError else none) else (bif Nat.beq f 212 then some ka_strconv_rangeError else none)))))) else (bif Nat.blt f 224 then (bif Nat.blt f 219 then (bif Nat.blt f 215 then (bif Nat.blt f 214 then (bif Nat.beq f 213 then some ka_strconv_baseError else none) else (bif Nat.beq f 214 then some ka_strconv_bitSizeError else none)) else (bif Nat.blt f 218 then (bif Nat.beq f 215 then some ka_internal_strconv_FormatInt else none) else (bif Nat.beq f 218 then some ka_internal_strconv_ParseUint else none))) else (bif Nat.blt f 221 then (bif Nat.blt f 220 then (bif Nat.beq f 219 then some ka_internal_stringslite_Clone else none) else (bif Nat.beq f 220 then some ka_errors_New else none)) else (bif Nat.blt f 222 then (bif Nat.beq f 221 then some ka_internal_strconv_small else none) else (bif Nat.blt f 223 then (bif Nat.beq f 222 then some ka_internal_strconv_numDigits else none) else (bif Nat.beq f 223 then some ka_internal_strconv_formatBase10 else none))))) else (bif Nat.blt f 228 then (bif Nat.blt f 226 then (bif Nat.blt f 225 then (bif Nat.beq f 224 then some ka_internal_strconv_formatBits else none) else (bif Nat.beq f 225 then some ka_internal_strconv_lower else none)) else (bif Nat.blt f 227 then (bif Nat.beq f 226 then some ka_internal_strconv_underscoreOK else none) else (bif Nat.beq f 227 then some ka_internal_strconv_log10Pow2 else none))) else (bif Nat.blt f 230 then (bif Nat.blt f 229 then (bif Nat.beq f 228 then some ka_internal_strconv_bool2_int else none) else (bif Nat.beq f 229 then some ka_internal_strconv_isPowerOfTwo else none)) else (bif Nat.blt f 231 then (bif Nat.beq f 230 then some ka_math_bits_TrailingZeros else none) else (bif Nat.blt f 232 then (bif Nat.beq f 231 then some ka_math_bits_TrailingZeros32 else none) else (bif Nat.beq f 232 then some ka_math_bits_TrailingZeros64 else none)))))))))

def kdtab (f : FuncId) : Option (Nat × AFn) := (bif Nat.beq f 63 then some (4, kda_morph_reader_read_1) else none)

end Go.Am
end

section
set_option maxRecDepth 1000000
namespace Go.Am
open Go.RowKit Go.Proofs
def G0 : Nat → Option (List AV) := fun _ => none
theorem ok_ka_morph_Parse : CompOk Tryz.prog G0 7 ka_morph_Parse := by unfold CompOk; kernel_rfl
theorem ok_ka_morph_Form : CompOk Tryz.prog G0 9 ka_morph_Form := by unfold CompOk; kernel_rfl
theorem ok_ka_morph_Name : CompOk Tryz.prog G0 16 ka_morph_Name := by unfold CompOk; kernel_rfl
theorem ok_ka_morph_Word : CompOk Tryz.prog G0 17 ka_morph_Word := by unfold CompOk; kernel_rfl
theorem ok_ka_morph_Plain : CompOk Tryz.prog G0 18 ka_morph_Plain := by unfold CompOk; kernel_rfl
theorem ok_ka_truchmanlaw02_lives : CompOk Tryz.prog G0 19 ka_truchmanlaw02_lives := by unfold CompOk; kernel_rfl
theorem ok_ka_strings_Split : CompOk Tryz.prog G0 31 ka_strings_Split := by unfold CompOk; kernel_rfl
theorem ok_ka_morph_reader_read : CompOk Tryz.prog G0 32 ka_morph_reader_read := by unfold CompOk; kernel_rfl
theorem ok_ka_morph_Check : CompOk Tryz.prog G0 33 ka_morph_Check := by unfold CompOk; kernel_rfl
theorem ok_ka_morph_asked : CompOk Tryz.prog G0 34 ka_morph_asked := by unfold CompOk; kernel_rfl
theorem ok_ka_morph_language_steps : CompOk Tryz.prog G0 35 ka_morph_language_steps := by unfold CompOk; kernel_rfl
theorem ok_ka_morph_language_form : CompOk Tryz.prog G0 36 ka_morph_language_form := by unfold CompOk; kernel_rfl
theorem ok_ka_morph_language_slot : CompOk Tryz.prog G0 40 ka_morph_language_slot := by unfold CompOk; kernel_rfl
theorem ok_ka_slices_Contains_string_string : CompOk Tryz.prog G0 42 ka_slices_Contains_string_string := by unfold CompOk; kernel_rfl
theorem ok_ka_morph_all : CompOk Tryz.prog G0 43 ka_morph_all := by unfold CompOk; kernel_rfl
theorem ok_ka_morph_symbol : CompOk Tryz.prog G0 44 ka_morph_symbol := by unfold CompOk; kernel_rfl
theorem ok_ka_morph_language_spell : CompOk Tryz.prog G0 45 ka_morph_language_spell := by unfold CompOk; kernel_rfl
theorem ok_ka_morph_clash : CompOk Tryz.prog G0 47 ka_morph_clash := by unfold CompOk; kernel_rfl
theorem ok_ka_morph_Name_1 : CompOk Tryz.prog G0 49 ka_morph_Name_1 := by unfold CompOk; kernel_rfl
theorem ok_ka_morph_letter : CompOk Tryz.prog G0 50 ka_morph_letter := by unfold CompOk; kernel_rfl
theorem ok_ka_morph_Name_2 : CompOk Tryz.prog G0 51 ka_morph_Name_2 := by unfold CompOk; kernel_rfl
theorem ok_ka_morph_Word_1 : CompOk Tryz.prog G0 52 ka_morph_Word_1 := by unfold CompOk; kernel_rfl
theorem ok_ka_slices_ContainsFunc_api_Feat_api_Feat : CompOk Tryz.prog G0 53 ka_slices_ContainsFunc_api_Feat_api_Feat := by unfold CompOk; kernel_rfl
theorem ok_ka_strings_genSplit : CompOk Tryz.prog G0 62 ka_strings_genSplit := by unfold CompOk; kernel_rfl
theorem ok_ka_morph_kinds : CompOk Tryz.prog G0 64 ka_morph_kinds := by unfold CompOk; kernel_rfl
theorem ok_ka_morph_demand : CompOk Tryz.prog G0 65 ka_morph_demand := by unfold CompOk; kernel_rfl
theorem ok_ka_strings_SplitN : CompOk Tryz.prog G0 66 ka_strings_SplitN := by unfold CompOk; kernel_rfl
theorem ok_ka_morph_first : CompOk Tryz.prog G0 67 ka_morph_first := by unfold CompOk; kernel_rfl
theorem ok_ka_morph_checker_vowels : CompOk Tryz.prog G0 68 ka_morph_checker_vowels := by unfold CompOk; kernel_rfl
theorem ok_ka_morph_Check_1 : CompOk Tryz.prog G0 69 ka_morph_Check_1 := by unfold CompOk; kernel_rfl
theorem ok_ka_morph_each_api_Trait : CompOk Tryz.prog G0 70 ka_morph_each_api_Trait := by unfold CompOk; kernel_rfl
theorem ok_ka_morph_checker_trait : CompOk Tryz.prog G0 71 ka_morph_checker_trait := by unfold CompOk; kernel_rfl
theorem ok_ka_morph_Check_2 : CompOk Tryz.prog G0 72 ka_morph_Check_2 := by unfold CompOk; kernel_rfl
theorem ok_ka_morph_each_api_Class : CompOk Tryz.prog G0 73 ka_morph_each_api_Class := by unfold CompOk; kernel_rfl
theorem ok_ka_morph_checker_class : CompOk Tryz.prog G0 74 ka_morph_checker_class := by unfold CompOk; kernel_rfl
theorem ok_ka_morph_Check_3 : CompOk Tryz.prog G0 75 ka_morph_Check_3 := by unfold CompOk; kernel_rfl
theorem ok_ka_morph_each_api_Entry : CompOk Tryz.prog G0 76 ka_morph_each_api_Entry := by unfold CompOk; kernel_rfl
theorem ok_ka_morph_checker_entry : CompOk Tryz.prog G0 77 ka_morph_checker_entry := by unfold CompOk; kernel_rfl
theorem ok_ka_morph_Check_4 : CompOk Tryz.prog G0 78 ka_morph_Check_4 := by unfold CompOk; kernel_rfl
theorem ok_ka_morph_each_api_Spell : CompOk Tryz.prog G0 79 ka_morph_each_api_Spell := by unfold CompOk; kernel_rfl
theorem ok_ka_morph_checker_spell : CompOk Tryz.prog G0 80 ka_morph_checker_spell := by unfold CompOk; kernel_rfl
theorem ok_ka_morph_Check_5 : CompOk Tryz.prog G0 81 ka_morph_Check_5 := by unfold CompOk; kernel_rfl
theorem ok_ka_morph_each_api_Link : CompOk Tryz.prog G0 82 ka_morph_each_api_Link := by unfold CompOk; kernel_rfl
theorem ok_ka_morph_checker_link : CompOk Tryz.prog G0 83 ka_morph_checker_link := by unfold CompOk; kernel_rfl
theorem ok_ka_morph_language_underlying : CompOk Tryz.prog G0 84 ka_morph_language_underlying := by unfold CompOk; kernel_rfl
theorem ok_ka_strings_ReplaceAll : CompOk Tryz.prog G0 85 ka_strings_ReplaceAll := by unfold CompOk; kernel_rfl
theorem ok_ka_morph_checker_bundle : CompOk Tryz.prog G0 89 ka_morph_checker_bundle := by unfold CompOk; kernel_rfl
theorem ok_ka_morph_classOf : CompOk Tryz.prog G0 90 ka_morph_classOf := by unfold CompOk; kernel_rfl
theorem ok_ka_slices_Index_string_string : CompOk Tryz.prog G0 91 ka_slices_Index_string_string := by unfold CompOk; kernel_rfl
theorem ok_ka_strings_HasPrefix : CompOk Tryz.prog G0 92 ka_strings_HasPrefix := by unfold CompOk; kernel_rfl
theorem ok_ka_morph_language_left : CompOk Tryz.prog G0 93 ka_morph_language_left := by unfold CompOk; kernel_rfl
theorem ok_ka_morph_language_right : CompOk Tryz.prog G0 94 ka_morph_language_right := by unfold CompOk; kernel_rfl
theorem ok_ka_strings_Builder_WriteString : CompOk Tryz.prog G0 95 ka_strings_Builder_WriteString := by unfold CompOk; kernel_rfl
theorem ok_ka_strings_Builder_WriteByte : CompOk Tryz.prog G0 96 ka_strings_Builder_WriteByte := by unfold CompOk; kernel_rfl
theorem ok_ka_strings_Builder_String : CompOk Tryz.prog G0 97 ka_strings_Builder_String := by unfold CompOk; kernel_rfl
theorem ok_ka_strings_Builder_Len : CompOk Tryz.prog G0 98 ka_strings_Builder_Len := by unfold CompOk; kernel_rfl
theorem ok_ka_morph_clash_1 : CompOk Tryz.prog G0 99 ka_morph_clash_1 := by unfold CompOk; kernel_rfl
theorem ok_ka_morph_clash_1_1 : CompOk Tryz.prog G0 100 ka_morph_clash_1_1 := by unfold CompOk; kernel_rfl
theorem ok_ka_slices_IndexFunc_api_Feat_api_Feat : CompOk Tryz.prog G0 106 ka_slices_IndexFunc_api_Feat_api_Feat := by unfold CompOk; kernel_rfl
theorem ok_ka_strings_explode : CompOk Tryz.prog G0 115 ka_strings_explode := by unfold CompOk; kernel_rfl
theorem ok_ka_strings_Count : CompOk Tryz.prog G0 116 ka_strings_Count := by unfold CompOk; kernel_rfl
theorem ok_ka_strings_Index : CompOk Tryz.prog G0 117 ka_strings_Index := by unfold CompOk; kernel_rfl
theorem ok_ka_morph_kinds_1 : CompOk Tryz.prog G0 118 ka_morph_kinds_1 := by unfold CompOk; kernel_rfl
theorem ok_ka_morph_text : CompOk Tryz.prog G0 119 ka_morph_text := by unfold CompOk; kernel_rfl
theorem ok_ka_morph_kinds_2 : CompOk Tryz.prog G0 120 ka_morph_kinds_2 := by unfold CompOk; kernel_rfl
theorem ok_ka_morph_kinds_3 : CompOk Tryz.prog G0 121 ka_morph_kinds_3 := by unfold CompOk; kernel_rfl
theorem ok_ka_morph_kinds_4 : CompOk Tryz.prog G0 122 ka_morph_kinds_4 := by unfold CompOk; kernel_rfl
theorem ok_ka_morph_number : CompOk Tryz.prog G0 123 ka_morph_number := by unfold CompOk; kernel_rfl
theorem ok_ka_morph_feats : CompOk Tryz.prog G0 124 ka_morph_feats := by unfold CompOk; kernel_rfl
theorem ok_ka_morph_kinds_5 : CompOk Tryz.prog G0 125 ka_morph_kinds_5 := by unfold CompOk; kernel_rfl
theorem ok_ka_morph_kinds_6 : CompOk Tryz.prog G0 126 ka_morph_kinds_6 := by unfold CompOk; kernel_rfl
theorem ok_ka_morph_kinds_7 : CompOk Tryz.prog G0 127 ka_morph_kinds_7 := by unfold CompOk; kernel_rfl
theorem ok_ka_morph_kinds_8 : CompOk Tryz.prog G0 128 ka_morph_kinds_8 := by unfold CompOk; kernel_rfl
theorem ok_ka_slices_ContainsFunc_api_Trait_api_Trait : CompOk Tryz.prog G0 129 ka_slices_ContainsFunc_api_Trait_api_Trait := by unfold CompOk; kernel_rfl
theorem ok_ka_morph_checker_trait_1 : CompOk Tryz.prog G0 130 ka_morph_checker_trait_1 := by unfold CompOk; kernel_rfl
theorem ok_ka_slices_ContainsFunc_api_Class_api_Class : CompOk Tryz.prog G0 131 ka_slices_ContainsFunc_api_Class_api_Class := by unfold CompOk; kernel_rfl
theorem ok_ka_morph_checker_class_1 : CompOk Tryz.prog G0 132 ka_morph_checker_class_1 := by unfold CompOk; kernel_rfl
theorem ok_ka_morph_each_api_Slot : CompOk Tryz.prog G0 133 ka_morph_each_api_Slot := by unfold CompOk; kernel_rfl
theorem ok_ka_morph_checker_class_2 : CompOk Tryz.prog G0 134 ka_morph_checker_class_2 := by unfold CompOk; kernel_rfl
theorem ok_ka_morph_short : CompOk Tryz.prog G0 135 ka_morph_short := by unfold CompOk; kernel_rfl
theorem ok_ka_slices_ContainsFunc_api_Entry_api_Entry : CompOk Tryz.prog G0 136 ka_slices_ContainsFunc_api_Entry_api_Entry := by unfold CompOk; kernel_rfl
theorem ok_ka_morph_checker_entry_1 : CompOk Tryz.prog G0 137 ka_morph_checker_entry_1 := by unfold CompOk; kernel_rfl
theorem ok_ka_slices_ContainsFunc_api_Slot_api_Slot : CompOk Tryz.prog G0 138 ka_slices_ContainsFunc_api_Slot_api_Slot := by unfold CompOk; kernel_rfl
theorem ok_ka_morph_checker_entry_2 : CompOk Tryz.prog G0 139 ka_morph_checker_entry_2 := by unfold CompOk; kernel_rfl
theorem ok_ka_slices_ContainsFunc_api_Irregular_api_Irregular : CompOk Tryz.prog G0 140 ka_slices_ContainsFunc_api_Irregular_api_Irregular := by unfold CompOk; kernel_rfl
theorem ok_ka_morph_checker_entry_3 : CompOk Tryz.prog G0 141 ka_morph_checker_entry_3 := by unfold CompOk; kernel_rfl
theorem ok_ka_morph_around : CompOk Tryz.prog G0 142 ka_morph_around := by unfold CompOk; kernel_rfl
theorem ok_ka_strings_Replace : CompOk Tryz.prog G0 143 ka_strings_Replace := by unfold CompOk; kernel_rfl
theorem ok_ka_morph_each_api_Feat : CompOk Tryz.prog G0 147 ka_morph_each_api_Feat := by unfold CompOk; kernel_rfl
theorem ok_ka_morph_checker_bundle_1 : CompOk Tryz.prog G0 148 ka_morph_checker_bundle_1 := by unfold CompOk; kernel_rfl
theorem ok_ka_slices_IndexFunc_api_Trait_api_Trait : CompOk Tryz.prog G0 149 ka_slices_IndexFunc_api_Trait_api_Trait := by unfold CompOk; kernel_rfl
theorem ok_ka_morph_checker_bundle_1_1 : CompOk Tryz.prog G0 150 ka_morph_checker_bundle_1_1 := by unfold CompOk; kernel_rfl
theorem ok_ka_slices_IndexFunc_api_Class_api_Class : CompOk Tryz.prog G0 151 ka_slices_IndexFunc_api_Class_api_Class := by unfold CompOk; kernel_rfl
theorem ok_ka_morph_classOf_1 : CompOk Tryz.prog G0 152 ka_morph_classOf_1 := by unfold CompOk; kernel_rfl
theorem ok_ka_internal_stringslite_HasPrefix : CompOk Tryz.prog G0 153 ka_internal_stringslite_HasPrefix := by unfold CompOk; kernel_rfl
theorem ok_ka_morph_language_match : CompOk Tryz.prog G0 154 ka_morph_language_match := by unfold CompOk; kernel_rfl
theorem ok_ka_strings_Builder_copyCheck : CompOk Tryz.prog G0 155 ka_strings_Builder_copyCheck := by unfold CompOk; kernel_rfl
theorem ok_ka_unicode_utf8_RuneCountInString : CompOk Tryz.prog G0 166 ka_unicode_utf8_RuneCountInString := by unfold CompOk; kernel_rfl
theorem ok_ka_unicode_utf8_DecodeRuneInString : CompOk Tryz.prog G0 167 ka_unicode_utf8_DecodeRuneInString := by unfold CompOk; kernel_rfl
theorem ok_ka_internal_stringslite_Index : CompOk Tryz.prog G0 169 ka_internal_stringslite_Index := by unfold CompOk; kernel_rfl
theorem ok_ka_strconv_Atoi : CompOk Tryz.prog G0 170 ka_strconv_Atoi := by unfold CompOk; kernel_rfl
theorem ok_ka_strconv_Itoa : CompOk Tryz.prog G0 171 ka_strconv_Itoa := by unfold CompOk; kernel_rfl
theorem ok_ka_strings_Cut : CompOk Tryz.prog G0 172 ka_strings_Cut := by unfold CompOk; kernel_rfl
theorem ok_ka_slices_IndexFunc_api_Entry_api_Entry : CompOk Tryz.prog G0 173 ka_slices_IndexFunc_api_Entry_api_Entry := by unfold CompOk; kernel_rfl
theorem ok_ka_slices_IndexFunc_api_Slot_api_Slot : CompOk Tryz.prog G0 174 ka_slices_IndexFunc_api_Slot_api_Slot := by unfold CompOk; kernel_rfl
theorem ok_ka_slices_IndexFunc_api_Irregular_api_Irregular : CompOk Tryz.prog G0 175 ka_slices_IndexFunc_api_Irregular_api_Irregular := by unfold CompOk; kernel_rfl
theorem ok_ka_strings_Builder_Grow : CompOk Tryz.prog G0 176 ka_strings_Builder_Grow := by unfold CompOk; kernel_rfl
theorem ok_ka_strings_IndexByte : CompOk Tryz.prog G0 178 ka_strings_IndexByte := by unfold CompOk; kernel_rfl
theorem ok_ka_math_bits_Len64 : CompOk Tryz.prog G0 189 ka_math_bits_Len64 := by unfold CompOk; kernel_rfl
theorem ok_ka_unicode_utf8_decodeRuneInStringSlow : CompOk Tryz.prog G0 193 ka_unicode_utf8_decodeRuneInStringSlow := by unfold CompOk; kernel_rfl
theorem ok_ka_internal_stringslite_IndexByte : CompOk Tryz.prog G0 194 ka_internal_stringslite_IndexByte := by unfold CompOk; kernel_rfl
theorem ok_ka_internal_bytealg_Cutover : CompOk Tryz.prog G0 196 ka_internal_bytealg_Cutover := by unfold CompOk; kernel_rfl
theorem ok_ka_internal_bytealg_IndexRabinKarp_string : CompOk Tryz.prog G0 197 ka_internal_bytealg_IndexRabinKarp_string := by unfold CompOk; kernel_rfl
theorem ok_ka_internal_strconv_Atoi : CompOk Tryz.prog G0 198 ka_internal_strconv_Atoi := by unfold CompOk; kernel_rfl
theorem ok_ka_strconv_toError : CompOk Tryz.prog G0 199 ka_strconv_toError := by unfold CompOk; kernel_rfl
theorem ok_ka_internal_strconv_Itoa : CompOk Tryz.prog G0 200 ka_internal_strconv_Itoa := by unfold CompOk; kernel_rfl
theorem ok_ka_internal_stringslite_Cut : CompOk Tryz.prog G0 201 ka_internal_stringslite_Cut := by unfold CompOk; kernel_rfl
theorem ok_ka_strings_Builder_grow : CompOk Tryz.prog G0 202 ka_strings_Builder_grow := by unfold CompOk; kernel_rfl
theorem ok_ka_internal_bytealg_hashStr_string : CompOk Tryz.prog G0 209 ka_internal_bytealg_hashStr_string := by unfold CompOk; kernel_rfl
theorem ok_ka_internal_strconv_ParseInt : CompOk Tryz.prog G0 210 ka_internal_strconv_ParseInt := by unfold CompOk; kernel_rfl
theorem ok_ka_strconv_syntaxError : CompOk Tryz.prog G0 211 ka_strconv_syntaxError := by unfold CompOk; kernel_rfl
theorem ok_ka_strconv_rangeError : CompOk Tryz.prog G0 212 ka_strconv_rangeError := by unfold CompOk; kernel_rfl
theorem ok_ka_strconv_baseError : CompOk Tryz.prog G0 213 ka_strconv_baseError := by unfold CompOk; kernel_rfl
theorem ok_ka_strconv_bitSizeError : CompOk Tryz.prog G0 214 ka_strconv_bitSizeError := by unfold CompOk; kernel_rfl
theorem ok_ka_internal_strconv_FormatInt : CompOk Tryz.prog G0 215 ka_internal_strconv_FormatInt := by unfold CompOk; kernel_rfl
theorem ok_ka_internal_strconv_ParseUint : CompOk Tryz.prog G0 218 ka_internal_strconv_ParseUint := by unfold CompOk; kernel_rfl
theorem ok_ka_internal_stringslite_Clone : CompOk Tryz.prog G0 219 ka_internal_stringslite_Clone := by unfold CompOk; kernel_rfl
theorem ok_ka_errors_New : CompOk Tryz.prog G0 220 ka_errors_New := by unfold CompOk; kernel_rfl
theorem ok_ka_internal_strconv_small : CompOk Tryz.prog G0 221 ka_internal_strconv_small := by unfold CompOk; kernel_rfl
theorem ok_ka_internal_strconv_numDigits : CompOk Tryz.prog G0 222 ka_internal_strconv_numDigits := by unfold CompOk; kernel_rfl
theorem ok_ka_internal_strconv_formatBase10 : CompOk Tryz.prog G0 223 ka_internal_strconv_formatBase10 := by unfold CompOk; kernel_rfl
theorem ok_ka_internal_strconv_formatBits : CompOk Tryz.prog G0 224 ka_internal_strconv_formatBits := by unfold CompOk; kernel_rfl
theorem ok_ka_internal_strconv_lower : CompOk Tryz.prog G0 225 ka_internal_strconv_lower := by unfold CompOk; kernel_rfl
theorem ok_ka_internal_strconv_underscoreOK : CompOk Tryz.prog G0 226 ka_internal_strconv_underscoreOK := by unfold CompOk; kernel_rfl
theorem ok_ka_internal_strconv_log10Pow2 : CompOk Tryz.prog G0 227 ka_internal_strconv_log10Pow2 := by unfold CompOk; kernel_rfl
theorem ok_ka_internal_strconv_bool2_int : CompOk Tryz.prog G0 228 ka_internal_strconv_bool2_int := by unfold CompOk; kernel_rfl
theorem ok_ka_internal_strconv_isPowerOfTwo : CompOk Tryz.prog G0 229 ka_internal_strconv_isPowerOfTwo := by unfold CompOk; kernel_rfl
theorem ok_ka_math_bits_TrailingZeros : CompOk Tryz.prog G0 230 ka_math_bits_TrailingZeros := by unfold CompOk; kernel_rfl
theorem ok_ka_math_bits_TrailingZeros32 : CompOk Tryz.prog G0 231 ka_math_bits_TrailingZeros32 := by unfold CompOk; kernel_rfl
theorem ok_ka_math_bits_TrailingZeros64 : CompOk Tryz.prog G0 232 ka_math_bits_TrailingZeros64 := by unfold CompOk; kernel_rfl
theorem okd_kda_morph_reader_read_1 : CompOkD Tryz.prog G0 63 (4, kda_morph_reader_read_1) := ⟨by kernel_rfl, rfl⟩
theorem ktab_ok : ∀ f af, ktab f = some af → CompOk Tryz.prog G0 f af := fun f af h => by
  unfold ktab at h
  revert h
  exact (tab_node (tab_node (tab_node (tab_node (tab_node (tab_node (tab_node (tab_leaf (C := _) ok_ka_morph_Parse) (tab_leaf (C := _) ok_ka_morph_Form)) (tab_node (tab_leaf (C := _) ok_ka_morph_Name) (tab_leaf (C := _) ok_ka_morph_Word))) (tab_node (tab_node (tab_leaf (C := _) ok_ka_morph_Plain) (tab_leaf (C := _) ok_ka_truchmanlaw02_lives)) (tab_node (tab_leaf (C := _) ok_ka_strings_Split) (tab_leaf (C := _) ok_ka_morph_reader_read)))) (tab_node (tab_node (tab_node (tab_leaf (C := _) ok_ka_morph_Check) (tab_leaf (C := _) ok_ka_morph_asked)) (tab_node (tab_leaf (C := _) ok_ka_morph_language_steps) (tab_leaf (C := _) ok_ka_morph_language_form))) (tab_node (tab_node (tab_leaf (C := _) ok_ka_morph_language_slot) (tab_leaf (C := _) ok_ka_slices_Contains_string_string)) (tab_node (tab_leaf (C := _) ok_ka_morph_all) (tab_node (tab_leaf (C := _) ok_ka_morph_symbol) (tab_leaf (C := _) ok_ka_morph_language_spell)))))) (tab_node (tab_node (tab_node (tab_node (tab_leaf (C := _) ok_ka_morph_clash) (tab_leaf (C := _) ok_ka_morph_Name_1)) (tab_node (tab_leaf (C := _) ok_ka_morph_letter) (tab_leaf (C := _) ok_ka_morph_Name_2))) (tab_node (tab_node (tab_leaf (C := _) ok_ka_morph_Word_1) (tab_leaf (C := _) ok_ka_slices_ContainsFunc_api_Feat_api_Feat)) (tab_node (tab_leaf (C := _) ok_ka_strings_genSplit) (tab_node (tab_leaf (C := _) ok_ka_morph_kinds) (tab_leaf (C := _) ok_ka_morph_demand))))) (tab_node (tab_node (tab_node (tab_leaf (C := _) ok_ka_strings_SplitN) (tab_leaf (C := _) ok_ka_morph_first)) (tab_node (tab_leaf (C := _) ok_ka_morph_checker_vowels) (tab_leaf (C := _) ok_ka_morph_Check_1))) (tab_node (tab_node (tab_leaf (C := _) ok_ka_morph_each_api_Trait) (tab_leaf (C := _) ok_ka_morph_checker_trait)) (tab_node (tab_leaf (C := _) ok_ka_morph_Check_2) (tab_node (tab_leaf (C := _) ok_ka_morph_each_api_Class) (tab_leaf (C := _) ok_ka_morph_checker_class))))))) (tab_node (tab_node (tab_node (tab_node (tab_node (tab_leaf (C := _) ok_ka_morph_Check_3) (tab_leaf (C := _) ok_ka_morph_each_api_Entry)) (tab_node (tab_leaf (C := _) ok_ka_morph_checker_entry) (tab_leaf (C := _) ok_ka_morph_Check_4))) (tab_node (tab_node (tab_leaf (C := _) ok_ka_morph_each_api_Spell) (tab_leaf (C := _) ok_ka_morph_checker_spell)) (tab_node (tab_leaf (C := _) ok_ka_morph_Check_5) (tab_leaf (C := _) ok_ka_morph_each_api_Link)))) (tab_node (tab_node (tab_node (tab_leaf (C := _) ok_ka_morph_checker_link) (tab_leaf (C := _) ok_ka_morph_language_underlying)) (tab_node (tab_leaf (C := _) ok_ka_strings_ReplaceAll) (tab_leaf (C := _) ok_ka_morph_checker_bundle))) (tab_node (tab_node (tab_leaf (C := _) ok_ka_morph_classOf) (tab_leaf (C := _) ok_ka_slices_Index_string_string)) (tab_node (tab_leaf (C := _) ok_ka_strings_HasPrefix) (tab_node (tab_leaf (C := _) ok_ka_morph_language_left) (tab_leaf (C := _) ok_ka_morph_language_right)))))) (tab_node (tab_node (tab_node (tab_node (tab_leaf (C := _) ok_ka_strings_Builder_WriteString) (tab_leaf (C := _) ok_ka_strings_Builder_WriteByte)) (tab_node (tab_leaf (C := _) ok_ka_strings_Builder_String) (tab_leaf (C := _) ok_ka_strings_Builder_Len))) (tab_node (tab_node (tab_leaf (C := _) ok_ka_morph_clash_1) (tab_leaf (C := _) ok_ka_morph_clash_1_1)) (tab_node (tab_leaf (C := _) ok_ka_slices_IndexFunc_api_Feat_api_Feat) (tab_node (tab_leaf (C := _) ok_ka_strings_explode) (tab_leaf (C := _) ok_ka_strings_Count))))) (tab_node (tab_node (tab_node (tab_leaf (C := _) ok_ka_strings_Index) (tab_leaf (C := _) ok_ka_morph_kinds_1)) (tab_node (tab_leaf (C := _) ok_ka_morph_text) (tab_leaf (C := _) ok_ka_morph_kinds_2))) (tab_node (tab_node (tab_leaf (C := _) ok_ka_morph_kinds_3) (tab_leaf (C := _) ok_ka_morph_kinds_4)) (tab_node (tab_leaf (C := _) ok_ka_morph_number) (tab_node (tab_leaf (C := _) ok_ka_morph_feats) (tab_leaf (C := _) ok_ka_morph_kinds_5)))))))) (tab_node (tab_node (tab_node (tab_node (tab_node (tab_node (tab_leaf (C := _) ok_ka_morph_kinds_6) (tab_leaf (C := _) ok_ka_morph_kinds_7)) (tab_node (tab_leaf (C := _) ok_ka_morph_kinds_8) (tab_leaf (C := _) ok_ka_slices_ContainsFunc_api_Trait_api_Trait))) (tab_node (tab_node (tab_leaf (C := _) ok_ka_morph_checker_trait_1) (tab_leaf (C := _) ok_ka_slices_ContainsFunc_api_Class_api_Class)) (tab_node (tab_leaf (C := _) ok_ka_morph_checker_class_1) (tab_leaf (C := _) ok_ka_morph_each_api_Slot)))) (tab_node (tab_node (tab_node (tab_leaf (C := _) ok_ka_morph_checker_class_2) (tab_leaf (C := _) ok_ka_morph_short)) (tab_node (tab_leaf (C := _) ok_ka_slices_ContainsFunc_api_Entry_api_Entry) (tab_leaf (C := _) ok_ka_morph_checker_entry_1))) (tab_node (tab_node (tab_leaf (C := _) ok_ka_slices_ContainsFunc_api_Slot_api_Slot) (tab_leaf (C := _) ok_ka_morph_checker_entry_2)) (tab_node (tab_leaf (C := _) ok_ka_slices_ContainsFunc_api_Irregular_api_Irregular) (tab_node (tab_leaf (C := _) ok_ka_morph_checker_entry_3) (tab_leaf (C := _) ok_ka_morph_around)))))) (tab_node (tab_node (tab_node (tab_node (tab_leaf (C := _) ok_ka_strings_Replace) (tab_leaf (C := _) ok_ka_morph_each_api_Feat)) (tab_node (tab_leaf (C := _) ok_ka_morph_checker_bundle_1) (tab_leaf (C := _) ok_ka_slices_IndexFunc_api_Trait_api_Trait))) (tab_node (tab_node (tab_leaf (C := _) ok_ka_morph_checker_bundle_1_1) (tab_leaf (C := _) ok_ka_slices_IndexFunc_api_Class_api_Class)) (tab_node (tab_leaf (C := _) ok_ka_morph_classOf_1) (tab_node (tab_leaf (C := _) ok_ka_internal_stringslite_HasPrefix) (tab_leaf (C := _) ok_ka_morph_language_match))))) (tab_node (tab_node (tab_node (tab_leaf (C := _) ok_ka_strings_Builder_copyCheck) (tab_leaf (C := _) ok_ka_unicode_utf8_RuneCountInString)) (tab_node (tab_leaf (C := _) ok_ka_unicode_utf8_DecodeRuneInString) (tab_leaf (C := _) ok_ka_internal_stringslite_Index))) (tab_node (tab_node (tab_leaf (C := _) ok_ka_strconv_Atoi) (tab_leaf (C := _) ok_ka_strconv_Itoa)) (tab_node (tab_leaf (C := _) ok_ka_strings_Cut) (tab_node (tab_leaf (C := _) ok_ka_slices_IndexFunc_api_Entry_api_Entry) (tab_leaf (C := _) ok_ka_slices_IndexFunc_api_Slot_api_Slot))))))) (tab_node (tab_node (tab_node (tab_node (tab_node (tab_leaf (C := _) ok_ka_slices_IndexFunc_api_Irregular_api_Irregular) (tab_leaf (C := _) ok_ka_strings_Builder_Grow)) (tab_node (tab_leaf (C := _) ok_ka_strings_IndexByte) (tab_leaf (C := _) ok_ka_math_bits_Len64))) (tab_node (tab_node (tab_leaf (C := _) ok_ka_unicode_utf8_decodeRuneInStringSlow) (tab_leaf (C := _) ok_ka_internal_stringslite_IndexByte)) (tab_node (tab_leaf (C := _) ok_ka_internal_bytealg_Cutover) (tab_leaf (C := _) ok_ka_internal_bytealg_IndexRabinKarp_string)))) (tab_node (tab_node (tab_node (tab_leaf (C := _) ok_ka_internal_strconv_Atoi) (tab_leaf (C := _) ok_ka_strconv_toError)) (tab_node (tab_leaf (C := _) ok_ka_internal_strconv_Itoa) (tab_leaf (C := _) ok_ka_internal_stringslite_Cut))) (tab_node (tab_node (tab_leaf (C := _) ok_ka_strings_Builder_grow) (tab_leaf (C := _) ok_ka_internal_bytealg_hashStr_string)) (tab_node (tab_leaf (C := _) ok_ka_internal_strconv_ParseInt) (tab_node (tab_leaf (C := _) ok_ka_strconv_syntaxError) (tab_leaf (C := _) ok_ka_strconv_rangeError)))))) (tab_node (tab_node (tab_node (tab_node (tab_leaf (C := _) ok_ka_strconv_baseError) (tab_leaf (C := _) ok_ka_strconv_bitSizeError)) (tab_node (tab_leaf (C := _) ok_ka_internal_strconv_FormatInt) (tab_leaf (C := _) ok_ka_internal_strconv_ParseUint))) (tab_node (tab_node (tab_leaf (C := _) ok_ka_internal_stringslite_Clone) (tab_leaf (C := _) ok_ka_errors_New)) (tab_node (tab_leaf (C := _) ok_ka_internal_strconv_small) (tab_node (tab_leaf (C := _) ok_ka_internal_strconv_numDigits) (tab_leaf (C := _) ok_ka_internal_strconv_formatBase10))))) (tab_node (tab_node (tab_node (tab_leaf (C := _) ok_ka_internal_strconv_formatBits) (tab_leaf (C := _) ok_ka_internal_strconv_lower)) (tab_node (tab_leaf (C := _) ok_ka_internal_strconv_underscoreOK) (tab_leaf (C := _) ok_ka_internal_strconv_log10Pow2))) (tab_node (tab_node (tab_leaf (C := _) ok_ka_internal_strconv_bool2_int) (tab_leaf (C := _) ok_ka_internal_strconv_isPowerOfTwo)) (tab_node (tab_leaf (C := _) ok_ka_math_bits_TrailingZeros) (tab_node (tab_leaf (C := _) ok_ka_math_bits_TrailingZeros32) (tab_leaf (C := _) ok_ka_math_bits_TrailingZeros64)))))))))
theorem kdtab_ok : ∀ f d af, kdtab f = some (d, af) → CompOkD Tryz.prog G0 f (d, af) := fun f d af h => by
  unfold kdtab at h
  revert h
  exact (tab_leaf (C := _) okd_kda_morph_reader_read_1)
end Go.Am
end

section
set_option maxRecDepth 1000000
namespace Go.Am
open Go.RowKit Go.Proofs

/-- The functions without bodies. -/
def xorc (g : FuncId) (xs : List AV) (H : List AObj) : Option Out :=
  match xs with
  | [.str s, .int .u8 c] => bif Nat.beq g f_internal_bytealg_CountString then some (.ret (.int .i64 (Lib.countByte s c.toNat.toUInt8 : Nat)), H)
    else bif Nat.beq g f_internal_bytealg_IndexByteString then some (.ret (.int .i64 (Lib.indexByte s c.toNat.toUInt8)), H)
    else none
  | [.int .i64 (.ofNat n)] => bif Nat.beq g f_internal_bytealg_MakeNoZero && Nat.ble n 281474976710656 then some (.ret (.rslice H.length 0 n 1 true), H ++ [.cells (List.replicate n .unk) 5]) else none
  | [.fn _ _ _] => none
  | [x] => bif Nat.beq g f_internal_abi_NoEscape then some (.ret x, H) else none
  | _ => none

theorem x_count : ExtAt Tryz.prog f_internal_bytealg_CountString Extern.BytealgCount.count := .of Tryz.func168 (by kernel_rfl) (by kernel_rfl) (by kernel_rfl) (by kernel_rfl)
theorem x_index : ExtAt Tryz.prog f_internal_bytealg_IndexByteString Extern.BytealgIndexByte.indexByte := .of Tryz.func208 (by kernel_rfl) (by kernel_rfl) (by kernel_rfl) (by kernel_rfl)
theorem x_same : ExtAt Tryz.prog f_internal_abi_NoEscape Extern.AbiNoEscape.same := .of Tryz.func179 (by kernel_rfl) (by kernel_rfl) (by kernel_rfl) (by kernel_rfl)
theorem x_noZero : ExtAt Tryz.prog f_internal_bytealg_MakeNoZero (Extern.BytealgMakeNoZero.makeNoZero #[3] #[148]) := .of Tryz.func216 (by kernel_rfl) (by kernel_rfl) (by kernel_rfl) (by kernel_rfl)
theorem x_noZeroT : Tryz.prog.underlying 148 = some (.slice 5) := by kernel_rfl

theorem xorc_ok {g : FuncId} {xs : List AV} {H H' : List AObj} {r : ARes} (h : xorc g xs H = some (r, H')) : ACalls Tryz.prog G0 g xs H fun r2 H2 => r2 = r ∧ H2 = H' := by
  unfold xorc at h
  split at h
  · rename_i s c
    cases h1 : Nat.beq g f_internal_bytealg_CountString with
    | true => rw [h1] at h; cases h; rw [Nat.eq_of_beq_eq_true h1]; exact ext_count x_count s c H
    | false =>
      rw [h1, cond_false] at h
      cases h2 : Nat.beq g f_internal_bytealg_IndexByteString with
      | true => rw [h2] at h; cases h; rw [Nat.eq_of_beq_eq_true h2]; exact ext_index x_index s c H
      | false => rw [h2] at h; cases h
  · rename_i n
    cases h1 : (Nat.beq g f_internal_bytealg_MakeNoZero && Nat.ble n 281474976710656) with
    | true =>
      rw [h1] at h; cases h
      simp only [Bool.and_eq_true] at h1
      rw [Nat.eq_of_beq_eq_true h1.1]; exact ext_noZero x_noZero x_noZeroT n (Nat.le_of_ble_eq_true h1.2) H
    | false => rw [h1] at h; cases h
  · cases h
  · rename_i x _ _
    cases h1 : Nat.beq g f_internal_abi_NoEscape with
    | true => rw [h1] at h; cases h; rw [Nat.eq_of_beq_eq_true h1]; exact ext_same x_same x H
    | false => rw [h1] at h; cases h
  · cases h

theorem x_mixed : Tryz.prog.follows .mixedOrders = true := by kernel_rfl
theorem g0 : ∀ (n g : Nat) (cs : List AV), G0 g = some cs → wkbL n cs = true := fun _ _ _ h => by cases h

noncomputable def E0 : REnv := { P := Tryz.prog, G := G0, fn := ktab, orc := xorc, dfn := kdtab }
theorem E0_ok : E0.Ok := ⟨x_mixed, fun f af h => ktab_ok f af h, fun f d af h => kdtab_ok f d af h, (fun _ _ _ _ _ h => by cases h), fun _ _ _ _ _ h => xorc_ok h⟩
noncomputable def E1 : REnv := { E0 with wo := woK E0 100000 }
theorem E1_ok : E1.Ok := ⟨x_mixed, fun f af h => ktab_ok f af h, fun f d af h => kdtab_ok f d af h, fun _ _ _ _ _ h => woK_ok E0_ok g0 h, fun _ _ _ _ _ h => xorc_ok h⟩

theorem t1 : alone E1 100000 f_morph_number [.str [48]] [] = some (.int .i64 0) := by kernel_rfl
theorem t2 : alone E1 100000 f_strings_Count [.str [48, 50, 48], .str [48]] [] = some (.int .i64 2) := by kernel_rfl

end Go.Am
end

