import PyProof.Rows.All
import Wide.All
import OpenK.AllK
import Wide.FinOn
import HandS.ForMost
import HandS.Zip
import KE.SortData
import KE.DataMinMax
import HandS.Deep
import HandS.DictEq
import HandS.IsInst
import HandS.TupAny
import HandS.DictComp
import HandS.TupLen
import HandS.More
import HandS.SortInts
import HandS.Conv
import HandS.Style
import HandS.ListItems
import PyProof.SumWalkG
import HandS.Head2
import HandS.HeadHook2
import HandS.HeadEnd
import PySem.Challenge.RW_duehalls_k83_main_tasks_and_units
set_option Elab.async false
set_option linter.all false
set_option maxRecDepth 100000
set_option maxHeartbeats 2000000
/-! V1: trees (PyData) at values of the abstract heap -/
namespace VM
open PySem L2
abbrev T := PyData

def keyT : Key → T
  | .inl i => .int i
  | .inr s => .str s
theorem keyT_inj : ∀ {a b : Key}, keyT a = keyT b → a = b
  | .inl _, .inl _, h => by cases h; rfl
  | .inr _, .inr _, h => by cases h; rfl
  | .inl _, .inr _, h => nomatch h
  | .inr _, .inl _, h => nomatch h

mutual
/-- the value v is the tree t; its lists and dicts stand where F allows -/
inductive At (H : Hp) (F : Addr → Prop) : T → V → Prop
  | none : At H F .none .non
  | bool {b : Bool} : At H F (.bool b) (.bl b)
  | int {i : Int} : At H F (.int i) (.int i)
  | str {s : Str} : At H F (.str s) (.str s)
  | list {a : Addr} {ts : List T} {xs : List V} : H a = some (.lst xs) → F a → AtL H F ts xs → At H F (.list ts) (.ref a)
  | tuple {a : Addr} {ts : List T} {xs : List V} : H a = some (.tup xs) → AtL H F ts xs → At H F (.tuple ts) (.ref a)
  | dK {a : Addr} {ds : List (T × T)} {kvs : List (Key × V)} : Rd H a (.dK kvs) → F a → AtD H F ds kvs → At H F (.dict ds) (.ref a)
  | dT {a : Addr} {ds : List (T × T)} {kvs : List (List Key × V)} : Rd H a (.dT kvs) → F a → AtE H F ds kvs → At H F (.dict ((.none, .none) :: ds)) (.ref a)
inductive AtL (H : Hp) (F : Addr → Prop) : List T → List V → Prop
  | nil : AtL H F [] []
  | cons {t : T} {v : V} {ts : List T} {xs : List V} : At H F t v → AtL H F ts xs → AtL H F (t :: ts) (v :: xs)
inductive AtD (H : Hp) (F : Addr → Prop) : List (T × T) → List (Key × V) → Prop
  | nil : AtD H F [] []
  | cons {k : Key} {t : T} {v : V} {ds : List (T × T)} {kvs : List (Key × V)} : At H F t v → AtD H F ds kvs → AtD H F ((keyT k, t) :: ds) ((k, v) :: kvs)
inductive AtE (H : Hp) (F : Addr → Prop) : List (T × T) → List (List Key × V) → Prop
  | nil : AtE H F [] []
  | cons {k : List Key} {t : T} {v : V} {ds : List (T × T)} {kvs : List (List Key × V)} : At H F t v → AtE H F ds kvs → AtE H F ((.tuple (k.map keyT), t) :: ds) ((k, v) :: kvs)
end

section
variable {H H' : Hp} {F F' : Addr → Prop}
mutual
/-- what is read stays, what is allowed grows -/
theorem At.up (hr : ∀ a u, F a → Rd H a u → Rd H' a u) (hl : ∀ a xs, F a → H a = some (.lst xs) → H' a = some (.lst xs)) (ht : ∀ a xs, H a = some (.tup xs) → H' a = some (.tup xs)) (hF : ∀ a, F a → F' a) : ∀ {t : T} {v : V}, At H F t v → At H' F' t v
  | _, _, .none => .none
  | _, _, .bool => .bool
  | _, _, .int => .int
  | _, _, .str => .str
  | _, _, .list r f l => .list (hl _ _ f r) (hF _ f) (AtL.up hr hl ht hF l)
  | _, _, .tuple r l => .tuple (ht _ _ r) (AtL.up hr hl ht hF l)
  | _, _, .dK r f l => .dK (hr _ _ f r) (hF _ f) (AtD.up hr hl ht hF l)
  | _, _, .dT r f l => .dT (hr _ _ f r) (hF _ f) (AtE.up hr hl ht hF l)
theorem AtL.up (hr : ∀ a u, F a → Rd H a u → Rd H' a u) (hl : ∀ a xs, F a → H a = some (.lst xs) → H' a = some (.lst xs)) (ht : ∀ a xs, H a = some (.tup xs) → H' a = some (.tup xs)) (hF : ∀ a, F a → F' a) : ∀ {ts : List T} {xs : List V}, AtL H F ts xs → AtL H' F' ts xs
  | _, _, .nil => .nil
  | _, _, .cons h l => .cons (At.up hr hl ht hF h) (AtL.up hr hl ht hF l)
theorem AtD.up (hr : ∀ a u, F a → Rd H a u → Rd H' a u) (hl : ∀ a xs, F a → H a = some (.lst xs) → H' a = some (.lst xs)) (ht : ∀ a xs, H a = some (.tup xs) → H' a = some (.tup xs)) (hF : ∀ a, F a → F' a) : ∀ {ds : List (T × T)} {kvs : List (Key × V)}, AtD H F ds kvs → AtD H' F' ds kvs
  | _, _, .nil => .nil
  | _, _, .cons h l => .cons (At.up hr hl ht hF h) (AtD.up hr hl ht hF l)
theorem AtE.up (hr : ∀ a u, F a → Rd H a u → Rd H' a u) (hl : ∀ a xs, F a → H a = some (.lst xs) → H' a = some (.lst xs)) (ht : ∀ a xs, H a = some (.tup xs) → H' a = some (.tup xs)) (hF : ∀ a, F a → F' a) : ∀ {ds : List (T × T)} {kvs : List (List Key × V)}, AtE H F ds kvs → AtE H' F' ds kvs
  | _, _, .nil => .nil
  | _, _, .cons h l => .cons (At.up hr hl ht hF h) (AtE.up hr hl ht hF l)
end

def isD : HO → Bool
  | .dK _ => true
  | .dT _ => true
  | _ => false
/-- a container's parts -/
def Kids (H : Hp) (F : Addr → Prop) : T → HO → Prop
  | .list ts, .lst xs => AtL H F ts xs
  | .dict ds, .dK kvs => AtD H F ds kvs
  | .dict ((.none, .none) :: ds), .dT kvs => AtE H F ds kvs
  | _, _ => False
theorem Kids.up (hr : ∀ a u, F a → Rd H a u → Rd H' a u) (hl : ∀ a xs, F a → H a = some (.lst xs) → H' a = some (.lst xs)) (ht : ∀ a xs, H a = some (.tup xs) → H' a = some (.tup xs)) (hF : ∀ a, F a → F' a) {t : T} {o : HO} (h : Kids H F t o) : Kids H' F' t o := by
  unfold Kids at h ⊢
  split at h
  · exact AtL.up hr hl ht hF h
  · exact AtD.up hr hl ht hF h
  · exact AtE.up hr hl ht hF h
  · exact h.elim
/-- lists as they stand, dicts perhaps locked -/
def Rx (H : Hp) (a : Addr) (o : HO) : Prop := H a = some o ∨ (isD o = true ∧ ∃ od, H a = some (.frz od o))
theorem Rx.rd {a : Addr} {o : HO} (h : Rx H a o) : Rd H a o := h.imp id fun ⟨_, od, e⟩ => ⟨od, e⟩
/-- borrowed: the container itself stands anywhere -/
def Bt (H : Hp) (F : Addr → Prop) (t : T) (v : V) : Prop := At H F t v ∨ ∃ a o, v = .ref a ∧ Rx H a o ∧ Kids H F t o
/-- a container of one's own -/
def Own (H : Hp) (F : Addr → Prop) (t : T) (a : Addr) : Prop := ∃ o, H a = some o ∧ Kids H F t o
theorem Own.bt {t : T} {a : Addr} (h : Own H F t a) : Bt H F t (.ref a) := by
  obtain ⟨o, e, k⟩ := h
  exact .inr ⟨a, o, rfl, .inl e, k⟩
/-- a value with what is known of it: clean, or borrowed -/
abbrev R := T × Bool
def Val (H : Hp) (F : Addr → Prop) (r : R) (v : V) : Prop := if r.2 = true then Bt H F r.1 v else At H F r.1 v
theorem Val.bt {r : R} {v : V} (h : Val H F r v) : Bt H F r.1 v := by
  unfold Val at h
  split at h
  · exact h
  · exact .inl h
theorem Val.at {t : T} {v : V} (h : Val H F (t, false) v) : At H F t v := h
theorem Bt.list {ts : List T} {v : V} (h : Bt H F (.list ts) v) : ∃ a xs, v = .ref a ∧ H a = some (.lst xs) ∧ AtL H F ts xs := by
  rcases h with h | ⟨a, o, e, r, k⟩
  · cases h with
    | list r f l => exact ⟨_, _, rfl, r, l⟩
  · cases o <;> first
      | exact (show False from k).elim
      | (rcases r with r | ⟨d, _⟩
         · exact ⟨a, _, e, r, k⟩
         · exact absurd (show false = true from d) Bool.false_ne_true)
theorem Bt.tuple {ts : List T} {v : V} (h : Bt H F (.tuple ts) v) : ∃ a xs, v = .ref a ∧ H a = some (.tup xs) ∧ AtL H F ts xs := by
  rcases h with h | ⟨a, o, e, r, k⟩
  · cases h with
    | tuple r l => exact ⟨_, _, rfl, r, l⟩
  · cases o <;> exact (show False from k).elim
theorem AtD.nonone {ds : List (T × T)} {x : T} {kvs : List (Key × V)} (h : AtD H F ((.none, x) :: ds) kvs) : False := by
  generalize e : ((PyData.none, x) :: ds) = l at h
  cases h with
  | nil => cases e
  | @cons k t v ds' kvs' a b =>
    injection e with e1 _
    injection e1 with e1 _
    cases k <;> cases e1
/-- a dict whose keys are texts and numbers -/
theorem Bt.dk {ds : List (T × T)} {v : V} (h : Bt H F (.dict ds) v) (n : ∀ r, ds ≠ (.none, .none) :: r) : ∃ a kvs, v = .ref a ∧ Rx H a (.dK kvs) ∧ AtD H F ds kvs := by
  rcases h with h | ⟨a, o, e, r, k⟩
  · cases h with
    | dK r f l => exact ⟨_, _, rfl, r.imp id (fun ⟨od, e⟩ => ⟨rfl, od, e⟩), l⟩
    | dT r f l => exact absurd rfl (n _)
  · unfold Kids at k
    split at k
    · rename_i e1; cases e1
    · rename_i e1; cases e1; exact ⟨a, _, e, r, k⟩
    · rename_i e1; cases e1; exact absurd rfl (n _)
    · exact k.elim
/-- a dict whose keys are tuples -/
theorem Bt.dt {ds : List (T × T)} {v : V} (h : Bt H F (.dict ((.none, .none) :: ds)) v) : ∃ a kvs, v = .ref a ∧ Rx H a (.dT kvs) ∧ AtE H F ds kvs := by
  rcases h with h | ⟨a, o, e, r, k⟩
  · cases h with
    | dK r f l => exact l.nonone.elim
    | dT r f l => exact ⟨_, _, rfl, r.imp id (fun ⟨od, e⟩ => ⟨rfl, od, e⟩), l⟩
  · unfold Kids at k
    split at k
    · rename_i e1; cases e1
    · rename_i e1; cases e1; exact k.nonone.elim
    · rename_i e1; cases e1; exact ⟨a, _, e, r, k⟩
    · exact k.elim
theorem Bt.none {v : V} (h : Bt H F .none v) : v = .non := by
  rcases h with h | ⟨a, o, e, r, k⟩
  · cases h; rfl
  · cases o <;> exact (show False from k).elim
theorem Bt.bool {b : Bool} {v : V} (h : Bt H F (.bool b) v) : v = .bl b := by
  rcases h with h | ⟨a, o, e, r, k⟩
  · cases h; rfl
  · cases o <;> exact (show False from k).elim
theorem Bt.int {i : Int} {v : V} (h : Bt H F (.int i) v) : v = .int i := by
  rcases h with h | ⟨a, o, e, r, k⟩
  · cases h; rfl
  · cases o <;> exact (show False from k).elim
theorem Bt.str {x : Str} {v : V} (h : Bt H F (.str x) v) : v = .str x := by
  rcases h with h | ⟨a, o, e, r, k⟩
  · cases h; rfl
  · cases o <;> exact (show False from k).elim
/-- the shape decides that nothing is borrowed -/
def plainT : T → Bool
  | .list _ => false
  | .dict _ => false
  | _ => true
theorem Bt.at {t : T} {v : V} (h : Bt H F t v) (p : plainT t = true) : At H F t v := by
  rcases h with h | ⟨a, o, e, r, k⟩
  · exact h
  · cases t <;> cases o <;> first | exact (show False from k).elim | exact absurd p Bool.false_ne_true

/-! ### what may change -/
/-- from H to H': all but W stands, but that a dict of F may have been locked -/
structure Kp (F W : Addr → Prop) (H H' : Hp) : Prop where
  ex : ∀ a o, H a = some o → ¬ W a → H' a = some o ∨ (F a ∧ isD o = true ∧ ∃ od, H' a = some (.frz od o))
  dom : ∀ a, H a ≠ Option.none → H' a ≠ Option.none
  tup : ∀ a xs, H a = some (.tup xs) → H' a = some (.tup xs)
structure Ext (F F' : Addr → Prop) (H : Hp) : Prop where
  sub : ∀ a, F a → F' a
  new : ∀ a, F' a → F a ∨ H a = Option.none
theorem Ext.refl : Ext F F H := ⟨fun _ h => h, fun _ h => .inl h⟩
theorem Kp.refl {W : Addr → Prop} : Kp F W H H := ⟨fun _ _ h _ => .inl h, fun _ h => h, fun _ _ h => h⟩
theorem Kp.mono {W W' : Addr → Prop} (k : Kp F W H H') (h : ∀ a, W a → W' a) : Kp F W' H H' := ⟨fun a o e w => k.ex a o e fun z => w (h a z), k.dom, k.tup⟩
theorem Ext.trans {F2 : Addr → Prop} {W : Addr → Prop} (e : Ext F F' H) (k : Kp F W H H') (e2 : Ext F' F2 H') : Ext F F2 H :=
  ⟨fun a h => e2.sub a (e.sub a h), fun a h => by
    rcases e2.new a h with z | z
    · exact e.new a z
    · refine .inr ?_
      cases q : H a with
      | none => rfl
      | some o => exact absurd z (k.dom a (by rw [q]; simp))⟩
theorem Kp.trans {H2 : Hp} {W : Addr → Prop} (k : Kp F W H H') (e : Ext F F' H) (k2 : Kp F' W H' H2) : Kp F W H H2 :=
  ⟨fun a o h w => by
    rcases k.ex a o h w with z | ⟨f, d, od, z⟩
    · rcases k2.ex a o z w with z2 | ⟨f, d, od, z2⟩
      · exact .inl z2
      · refine .inr ⟨?_, d, od, z2⟩
        rcases e.new a f with q | q
        · exact q
        · rw [h] at q; cases q
    · rcases k2.ex a _ z w with z2 | ⟨_, d2, _⟩
      · exact .inr ⟨f, d, od, z2⟩
      · exact absurd (show false = true from d2) Bool.false_ne_true, fun a h => k2.dom a (k.dom a h), fun a xs h => k2.tup a xs (k.tup a xs h)⟩
theorem Kp.rd {W : Addr → Prop} (k : Kp F W H H') {a : Addr} {u : HO} (w : ¬ W a) (h : Rd H a u) : Rd H' a u := by
  rcases h with h | ⟨od, h⟩
  · rcases k.ex a u h w with z | ⟨_, _, od, z⟩
    · exact .inl z
    · exact .inr ⟨od, z⟩
  · rcases k.ex a _ h w with z | ⟨_, d, _⟩
    · exact .inr ⟨od, z⟩
    · exact absurd (show false = true from d) Bool.false_ne_true
theorem Kp.lst {W : Addr → Prop} (k : Kp F W H H') {a : Addr} {xs : List V} (w : ¬ W a) (h : H a = some (.lst xs)) : H' a = some (.lst xs) := by
  rcases k.ex a _ h w with z | ⟨_, d, _⟩
  · exact z
  · exact absurd (show false = true from d) Bool.false_ne_true
theorem Kp.rx {W : Addr → Prop} (k : Kp F W H H') {a : Addr} {o : HO} (w : ¬ W a) (h : Rx H a o) : Rx H' a o := by
  rcases h with h | ⟨d, od, h⟩
  · rcases k.ex a o h w with z | ⟨_, d, od, z⟩
    · exact .inl z
    · exact .inr ⟨d, od, z⟩
  · rcases k.ex a _ h w with z | ⟨_, d2, _⟩
    · exact .inr ⟨d, od, z⟩
    · exact absurd (show false = true from d2) Bool.false_ne_true
theorem Ext.val {W : Addr → Prop} (e : Ext F F' H) (k : Kp F W H H') (w : ∀ a, F a → ¬ W a) {t : T} {v : V} (h : At H F t v) : At H' F' t v :=
  h.up (fun a u f r => k.rd (w a f) r) (fun a xs f q => k.lst (w a f) q) (fun a xs q => k.tup a xs q) e.sub
theorem Ext.vals {W : Addr → Prop} (e : Ext F F' H) (k : Kp F W H H') (w : ∀ a, F a → ¬ W a) {ts : List T} {xs : List V} (h : AtL H F ts xs) : AtL H' F' ts xs :=
  h.up (fun a u f r => k.rd (w a f) r) (fun a xs f q => k.lst (w a f) q) (fun a xs q => k.tup a xs q) e.sub
theorem Ext.kids {W : Addr → Prop} (e : Ext F F' H) (k : Kp F W H H') (w : ∀ a, F a → ¬ W a) {t : T} {o : HO} (h : Kids H F t o) : Kids H' F' t o :=
  h.up (fun a u f r => k.rd (w a f) r) (fun a xs f q => k.lst (w a f) q) (fun a xs q => k.tup a xs q) e.sub
/-- what is borrowed stands, where nothing is written -/
theorem Ext.bt (e : Ext F F' H) (k : Kp F (fun _ => False) H H') {t : T} {v : V} (h : Bt H F t v) : Bt H' F' t v := by
  rcases h with h | ⟨a, o, rfl, r, q⟩
  · exact .inl (e.val k (fun _ _ z => z) h)
  · exact .inr ⟨a, o, rfl, k.rx (fun z => z) r, e.kids k (fun _ _ z => z) q⟩
end
end VM
/-! V2: the meaning of code over trees -/
namespace VM
open PySem L2

/-- the law's spring of draws -/
structure DS where
  cells : List Int
  left : Int
  cnt : Int
  mix : Int
abbrev G := Option DS
/-- what a name holds: nothing, a clean tree, a container of one's own, a borrowed one, the spring -/
inductive Sl where
  | un | cl (t : T) | ow (t : T) | ro (t : T) | stm
abbrev Sls := List Sl
def gets (sl : Sls) (i : Nat) : Sl := sl.getD i .un
abbrev Ex := Sls → G → Option (R × G)
abbrev Ts := Sls → G → Option (Bool × G)
abbrev Exs := Sls → G → Option (List R × G)

/-- the most items that a list may have -/
def cap : Nat := 16777216

/-! ### operations on trees -/
def mkL (ts : List T) : Option T := if ts.length ≤ cap then some (.list ts) else none
def mkT (ts : List T) : Option T := if ts.length ≤ cap then some (.tuple ts) else none
def clean : R → Option T
  | (t, false) => some t
  | (t, true) => if plainT t = true then some t else none
def cleans : List R → Option (List T)
  | [] => some []
  | r :: rs => (clean r).bind fun t => (cleans rs).bind fun ts => some (t :: ts)

def bAdd : T → T → Option T
  | .int i, .int j => some (.int (i + j))
  | .str x, .str y => if x.length + y.length ≤ cap then some (.str (x ++ y)) else none
  | .list xs, .list ys => if xs.length ≤ cap ∧ ys.length ≤ cap ∧ (xs ++ ys).length ≤ cap then some (.list (xs ++ ys)) else none
  | .tuple xs, .tuple ys => if xs ≠ [] ∧ ys ≠ [] ∧ xs.length ≤ cap ∧ ys.length ≤ cap ∧ (xs ++ ys).length ≤ cap then some (.tuple (xs ++ ys)) else none
  | _, _ => none
def bSub : T → T → Option T
  | .int i, .int j => some (.int (i - j))
  | _, _ => none
def small64 (i : Int) : Bool := decide (-(2 ^ 64) < i) && decide (i < 2 ^ 64)
def bMul : T → T → Option T
  | .int i, .int j => if small64 i = true ∨ small64 j = true then some (.int (i * j)) else none
  | .list xs, .int k => if xs.length ≤ cap ∧ -(2 ^ 63) ≤ k ∧ k < 2 ^ 63 ∧ xs.length * k.toNat ≤ cap then some (.list ((List.replicate k.toNat xs).flatten)) else none
  | _, _ => none
def bDiv : T → T → Option T
  | .int i, .int j => if 0 < j ∧ j < 1073741824 then some (.int (i / j)) else none
  | _, _ => none
def bMod : T → T → Option T
  | .int i, .int j => if 0 < j then some (.int (i % j)) else none
  | _, _ => none
def bPow : T → T → Option T
  | .int i, .int j => if 0 ≤ j ∧ j ≤ 1000000 ∧ i.natAbs < 2 ^ 64 then some (.int (i ^ j.toNat)) else none
  | _, _ => none
def bNeg : T → Option T
  | .int i => some (.int (-i))
  | _ => none

/-- two values by an operation on trees; what comes is new or plain -/
def op2 (f : T → T → Option T) : R → R → Option R := fun a b => (f a.1 b.1).map fun t => (t, false)
def op1 (f : T → Option T) : R → Option R := fun a => (f a.1).map fun t => (t, false)

/-! ### comparisons -/
def tb (b : Bool) : T := .bool b
/-- == ; of dicts one is empty -/
def eqB : T → T → Option Bool
  | .dict ((.none, .none) :: _), .dict _ => none
  | .dict _, .dict ((.none, .none) :: _) => none
  | .dict ds, .dict [] => some ds.isEmpty
  | .dict [], .dict (_ :: _) => some false
  | .dict (_ :: _), .dict (_ :: _) => none
  | a, b => if SeqAt.shaped a = true ∧ SeqAt.shaped b = true then some (PyData.eqv a b) else none
def bEq (a b : T) : Option T := (eqB a b).map tb
def bNe (a b : T) : Option T := (eqB a b).map fun x => tb (!x)
def bLt : T → T → Option T
  | .int i, .int j => some (tb (decide (i < j)))
  | .str x, .str y => some (tb (decide (x.cps.toList < y.cps.toList)))
  | _, _ => none
def bLe : T → T → Option T
  | .int i, .int j => some (tb (decide (i ≤ j)))
  | _, _ => none
def bGt : T → T → Option T
  | .int i, .int j => some (tb (decide (j < i)))
  | _, _ => none
def bGe : T → T → Option T
  | .int i, .int j => some (tb (decide (j ≤ i)))
  | _, _ => none
def isNonT : T → Bool
  | .none => true
  | _ => false
def bIs : T → T → Option T
  | a, .none => some (tb (isNonT a))
  | _, _ => none
def bIsNot (a b : T) : Option T := match bIs a b with
  | some (.bool x) => some (tb (!x))
  | _ => none
/-- the dicts whose keys are tuples bear a mark ahead -/
def mark : T × T := (.none, .none)
/-- a text or a number -/
def keyOf : T → Option Key
  | .int i => some (.inl i)
  | .str s => some (.inr s)
  | _ => none
def keysOf : List T → Option (List Key)
  | [] => some []
  | t :: ts => (keyOf t).bind fun k => (keysOf ts).bind fun ks => some (k :: ks)
/-- what a dict has at a key -/
def dgetE : List (T × T) → T → Option T
  | [], _ => none
  | (k, v) :: r, x => if PyData.eqv k x = true then some v else dgetE r x
/-- what a dict has at a key of its kind -/
def dgetB : List (T × T) → T → Option (Option T)
  | (.none, .none) :: ds, .tuple ks => (keysOf ks).map fun _ => dgetE ds (.tuple ks)
  | (.none, .none) :: _, _ => none
  | ds, k => (keyOf k).map fun _ => dgetE ds k
def inB : T → T → Option Bool
  | a, .list ds => if SeqAt.shaped a = true ∧ SeqAt.shaped (.list ds) = true then some (ds.any fun y => PyData.eqv y a) else none
  | a, .tuple ds => if SeqAt.shaped a = true ∧ SeqAt.shaped (.list ds) = true then some (ds.any fun y => PyData.eqv y a) else none
  | a, .dict ds => (dgetB ds a).map Option.isSome
  | .str x, .str y => some (!(Builtin.Str.occurrences y x 0 y.length 1).isEmpty)
  | _, _ => none
def bIn (a b : T) : Option T := (inB a b).map tb
def bNotIn (a b : T) : Option T := (inB a b).map fun x => tb (!x)

/-! ### subscripts, slices -/
def bIdx : T → T → Option T
  | .list xs, .int i => atI xs i
  | .tuple xs, .int i => atI xs i
  | .str z, .int i => if z.length ≤ cap then (atI z.cps.toList i).map fun c => .str ⟨#[c]⟩ else none
  | .dict ds, k => (dgetB ds k).bind id
  | _, _ => none
/-- the items from lo to hi -/
def cutL {α : Type} (xs : List α) (lo hi : Option Int) : List α := (xs.drop (HT.sIx xs.length 0 lo)).take (HT.sIx xs.length xs.length hi - HT.sIx xs.length 0 lo)
def bCut : T → Option Int → Option Int → Option T
  | .list xs, lo, hi => some (.list (cutL xs lo hi))
  | .str z, lo, hi => if z.length ≤ cap then some (.str (cutS z lo hi)) else none
  | .tuple xs, lo, hi => if ¬ (HT.sIx xs.length 0 lo = 0 ∧ HT.sIx xs.length xs.length hi = xs.length) then some (.tuple (cutL xs lo hi)) else none
  | _, _, _ => none
def bRev : T → Option T
  | .list xs => some (.list xs.reverse)
  | _ => none
end VM
/-! V3: operations by values -/
namespace VM
open PySem PySem.Spec PyProof.Rows L2

def dF (F : Addr → Prop) (H : Hp) : Prop := ∀ a, F a → H a ≠ none
/-- whatever comes as r -/
def Res (F : Addr → Prop) (H : Hp) (r : R) (Q : VK) : Prop := ∀ F' v H', Ext F F' H → Kp F (fun _ => False) H H' → dF F' H' → Val H' F' r v → Q v H'
def add1 (F : Addr → Prop) (p : Addr) : Addr → Prop := fun a => F a ∨ a = p
section
variable {H : Hp} {F W : Addr → Prop} {p : Addr} {o : HO} {Q : VK}
theorem new_kp (h : H p = none) : Kp F W H (upd H p o) :=
  ⟨fun a u e _ => .inl (by rw [upd_ne (ne_of_none e h)]; exact e), fun a e => by
    by_cases q : a = p
    · rw [q, upd_same]; simp
    · rw [upd_ne q]; exact e, fun a xs e => by rw [upd_ne (ne_of_none e h)]; exact e⟩
theorem new_ext (h : H p = none) : Ext F (add1 F p) H := ⟨fun a f => .inl f, fun a f => f.imp id fun e => by rw [e]; exact h⟩
theorem new_dF (d : dF F H) : dF (add1 F p) (upd H p o) := fun a f => by
  by_cases q : a = p
  · rw [q, upd_same]; simp
  · rw [upd_ne q]
    exact d a (f.resolve_right q)
theorem up_dF (d : dF F H) : dF F (upd H p o) := fun a f => by
  by_cases q : a = p
  · rw [q, upd_same]; simp
  · rw [upd_ne q]; exact d a f
theorem Res.plain {r : R} (d : dF F H) (h : Res F H r Q) {v : V} (e : Val H F r v) : Q v H := h F v H Ext.refl Kp.refl d e
theorem new_list {ts : List T} {xs : List V} (h : H p = none) (l : AtL H F ts xs) : At (upd H p (.lst xs)) (add1 F p) (.list ts) (.ref p) :=
  .list upd_same (.inr rfl) ((new_ext h).vals (new_kp (W := fun _ => False) h) (fun _ _ z => z) l)
theorem new_tup {ts : List T} {xs : List V} (h : H p = none) (l : AtL H F ts xs) : At (upd H p (.tup xs)) F (.tuple ts) (.ref p) :=
  .tuple upd_same (Ext.refl.vals (new_kp (W := fun _ => False) h) (fun _ _ z => z) l)
theorem Res.list {ts : List T} {xs : List V} (d : dF F H) (h : Res F H (.list ts, false) Q) (hp : H p = none) (l : AtL H F ts xs) : Q (.ref p) (upd H p (.lst xs)) :=
  h _ _ _ (new_ext hp) (new_kp hp) (new_dF d) (new_list hp l)
theorem Res.tup {ts : List T} {xs : List V} (d : dF F H) (h : Res F H (.tuple ts, false) Q) (hp : H p = none) (l : AtL H F ts xs) : Q (.ref p) (upd H p (.tup xs)) :=
  h F _ _ Ext.refl (new_kp hp) (up_dF d) (new_tup hp l)
end
theorem AtL.length {H : Hp} {F : Addr → Prop} : ∀ {ts : List T} {xs : List V}, AtL H F ts xs → ts.length = xs.length
  | _, _, .nil => rfl
  | _, _, .cons _ l => by rw [List.length_cons, List.length_cons, AtL.length l]
theorem AtL.append {H : Hp} {F : Addr → Prop} {us : List T} {ys : List V} (r : AtL H F us ys) : ∀ {ts : List T} {xs : List V}, AtL H F ts xs → AtL H F (ts ++ us) (xs ++ ys)
  | _, _, .nil => r
  | _, _, .cons h l => .cons h (AtL.append r l)
theorem AtL.get {H : Hp} {F : Addr → Prop} : ∀ {ts : List T} {xs : List V} {i : Nat} {t : T}, AtL H F ts xs → ts[i]? = some t → ∃ v, xs[i]? = some v ∧ At H F t v
  | _, _, _, _, .nil, e => by simp at e
  | _, _, 0, _, .cons h _, e => by simp at e; subst e; exact ⟨_, rfl, h⟩
  | _, _, i + 1, t, .cons _ l, e => by
    obtain ⟨v, a, b⟩ := AtL.get (i := i) (t := t) l (by simpa using e)
    exact ⟨v, by simpa using a, b⟩
theorem AtL.take {H : Hp} {F : Addr → Prop} : ∀ {ts : List T} {xs : List V} (n : Nat), AtL H F ts xs → AtL H F (ts.take n) (xs.take n)
  | _, _, 0, _ => by simp; exact .nil
  | _, _, n + 1, .nil => .nil
  | _, _, n + 1, .cons h l => .cons h (AtL.take n l)
theorem AtL.drop {H : Hp} {F : Addr → Prop} : ∀ {ts : List T} {xs : List V} (n : Nat), AtL H F ts xs → AtL H F (ts.drop n) (xs.drop n)
  | _, _, 0, l => l
  | _, _, n + 1, .nil => .nil
  | _, _, n + 1, .cons h l => AtL.drop n l
theorem AtL.nil_iff {H : Hp} {F : Addr → Prop} {ts : List T} {xs : List V} (l : AtL H F ts xs) : ts = [] ↔ xs = [] := by
  cases l <;> simp
theorem AtL.reverse {H : Hp} {F : Addr → Prop} : ∀ {ts : List T} {xs : List V}, AtL H F ts xs → AtL H F ts.reverse xs.reverse
  | _, _, .nil => .nil
  | _, _, .cons h l => by
    rw [List.reverse_cons, List.reverse_cons]
    exact AtL.append (.cons h .nil) (AtL.reverse l)
theorem cap_eq : cap = sizeLine := by first | rfl | decide

/-- an operation of two values -/
def R2of (f : R → R → Option R) : R2 := fun x y H Q => ∃ F a b r, dF F H ∧ Val H F a x ∧ Val H F b y ∧ f a b = some r ∧ Res F H r Q
def R1of (f : R → Option R) : V → Hp → VK → Prop := fun x H Q => ∃ F a r, dF F H ∧ Val H F a x ∧ f a = some r ∧ Res F H r Q
theorem op2_some {f : T → T → Option T} {a b r : R} (h : op2 f a b = some r) : ∃ t, f a.1 b.1 = some t ∧ r = (t, false) := by
  unfold op2 at h
  cases e : f a.1 b.1 with
  | none => rw [e] at h; cases h
  | some t => rw [e] at h; cases h; exact ⟨t, rfl, rfl⟩

theorem op1_some {f : T → Option T} {a r : R} (h : op1 f a = some r) : ∃ t, f a.1 = some t ∧ r = (t, false) := by
  unfold op1 at h
  cases e : f a.1 with
  | none => rw [e] at h; cases h
  | some t => rw [e] at h; cases h; exact ⟨t, rfl, rfl⟩

section
variable {X : Cx}
theorem opR_of {g : Value → Value → Sem Value} {f : T → T → Option T}
    (h : ∀ (pins : List (Addr × Obj)) (s : Shared) (σ : L2.St) (H : Hp) (x y : V) (v u : Value) (Q : VK) (F : Addr → Prop) (a b t : T), Inv X pins σ H s → RelV x v → RelV y u → dF F H → Bt H F a x → Bt H F b y → f a b = some t → Res F H (t, false) Q →
      wpAny (model X.prog X.w) X.A (g v u) (EP X pins σ Q) X.xe s) : OpR X g (R2of (op2 f)) := by
  intro pins s σ H x y v u Q I rx ry hh
  obtain ⟨F, ⟨a, ba⟩, ⟨b, bb⟩, r, d, va, vb, e, q⟩ := hh
  obtain ⟨t, e1, rfl⟩ := op2_some e
  exact h pins s σ H x y v u Q F a b t I rx ry d va.bt vb.bt e1 q
theorem unR_of {g : Value → Sem Value} {f : T → Option T}
    (h : ∀ (pins : List (Addr × Obj)) (s : Shared) (σ : L2.St) (H : Hp) (x : V) (v : Value) (Q : VK) (F : Addr → Prop) (a t : T), Inv X pins σ H s → RelV x v → dF F H → Bt H F a x → f a = some t → Res F H (t, false) Q →
      wpAny (model X.prog X.w) X.A (g v) (EP X pins σ Q) X.xe s) : UnR X g (R1of (op1 f)) := by
  intro pins s σ H x v Q I rx hh
  obtain ⟨F, ⟨a, ba⟩, r, d, va, e, q⟩ := hh
  obtain ⟨t, e1, rfl⟩ := op1_some e
  exact h pins s σ H x v Q F a t I rx d va.bt e1 q
theorem op_addV : OpR X (binaryOp .Add) (R2of (op2 bAdd)) := by
  refine opR_of fun pins s σ H x y v u Q F a b t I rx ry d va vb e q => ?_
  unfold bAdd at e
  split at e
  · cases e
    cases va.int; cases vb.int
    exact op_add pins s σ H _ _ v u Q I rx ry ⟨_, _, rfl, rfl, q.plain d At.int⟩
  · split at e
    · rename_i hl
      cases e
      cases va.str; cases vb.str
      exact op_add_str pins s σ H _ _ v u Q I rx ry ⟨_, _, rfl, rfl, hl, q.plain d At.str⟩
    · cases e
  · split at e
    · rename_i hl
      cases e
      obtain ⟨l, xs, rfl, hx, lx⟩ := va.list
      obtain ⟨m, ys, rfl, hy, ly⟩ := vb.list
      refine op_cat pins s σ H _ _ v u Q I rx ry ⟨_, _, _, _, rfl, rfl, hx, hy, ?_, fun p hp => q.list d hp (AtL.append ly lx)⟩
      have := hl.2.2
      rw [List.length_append, lx.length, ly.length] at this
      exact this
    · cases e
  · split at e
    · rename_i hl
      cases e
      obtain ⟨l, xs, rfl, hx, lx⟩ := va.tuple
      obtain ⟨m, ys, rfl, hy, ly⟩ := vb.tuple
      refine op_catT pins s σ H _ _ v u Q I rx ry ⟨_, _, _, _, rfl, rfl, .inl (.inl hx), .inl (.inl hy), fun z => hl.1 (lx.nil_iff.mpr z), ?_, fun z => absurd (ly.nil_iff.mpr z) hl.2.1, fun _ p hp => q.tup d hp (AtL.append ly lx)⟩
      have := hl.2.2.2.2
      rw [List.length_append, lx.length, ly.length] at this
      exact this
    · cases e
  · cases e
theorem op_subV : OpR X (binaryOp .Sub) (R2of (op2 bSub)) := by
  refine opR_of fun pins s σ H x y v u Q F a b t I rx ry d va vb e q => ?_
  unfold bSub at e
  split at e
  · cases e
    cases va.int; cases vb.int
    exact op_sub pins s σ H _ _ v u Q I rx ry ⟨_, _, rfl, rfl, q.plain d At.int⟩
  · cases e
theorem small64_lt {i : Int} (h : small64 i = true) : -(2 ^ 64) < i ∧ i < 2 ^ 64 := by
  unfold small64 at h
  rw [Bool.and_eq_true] at h
  exact ⟨of_decide_eq_true h.1, of_decide_eq_true h.2⟩
theorem AtL.rep {H : Hp} {F : Addr → Prop} {ts : List T} {xs : List V} (l : AtL H F ts xs) : ∀ n : Nat, AtL H F (List.replicate n ts).flatten (List.replicate n xs).flatten
  | 0 => .nil
  | n + 1 => by
    rw [List.replicate_succ, List.replicate_succ, List.flatten_cons, List.flatten_cons]
    exact AtL.append (AtL.rep l n) l
theorem op_mulV : OpR X (binaryOp .Mult) (R2of (op2 bMul)) := by
  refine opR_of fun pins s σ H x y v u Q F a b t I rx ry d va vb e q => ?_
  unfold bMul at e
  split at e
  · split at e
    · rename_i hl
      cases e
      cases va.int; cases vb.int
      exact op_mul pins s σ H _ _ v u Q I rx ry ⟨_, _, rfl, rfl, hl.imp small64_lt small64_lt, q.plain d At.int⟩
    · cases e
  · split at e
    · rename_i hl
      cases e
      cases vb.int
      obtain ⟨l, xs, rfl, hx, lx⟩ := va.list
      refine op_rep pins s σ H _ _ v u Q I rx ry ⟨_, _, _, rfl, rfl, hx, hl.2.1, hl.2.2.1, ?_, ?_⟩
      · rw [← lx.length]; exact hl.2.2.2
      · exact fun p hp => q.list d hp (lx.rep _)
    · cases e
  · cases e
theorem op_divV : OpR X (binaryOp .FloorDiv) (R2of (op2 bDiv)) := by
  refine opR_of fun pins s σ H x y v u Q F a b t I rx ry d va vb e q => ?_
  unfold bDiv at e
  split at e
  · split at e
    · rename_i hl
      cases e
      cases va.int; cases vb.int
      exact op_fdiv pins s σ H _ _ v u Q I rx ry ⟨_, _, rfl, rfl, hl, q.plain d At.int⟩
    · cases e
  · cases e
theorem op_modV : OpR X (binaryOp .Mod) (R2of (op2 bMod)) := by
  refine opR_of fun pins s σ H x y v u Q F a b t I rx ry d va vb e q => ?_
  unfold bMod at e
  split at e
  · split at e
    · rename_i hl
      cases e
      cases va.int; cases vb.int
      exact op_mod pins s σ H _ _ v u Q I rx ry ⟨_, _, rfl, rfl, hl, q.plain d At.int⟩
    · cases e
  · cases e
theorem op_powV : OpR X (binaryOp .Pow) (R2of (op2 bPow)) := by
  refine opR_of fun pins s σ H x y v u Q F a b t I rx ry d va vb e q => ?_
  unfold bPow at e
  split at e
  · split at e
    · rename_i hl
      cases e
      cases va.int; cases vb.int
      exact op_pow pins s σ H _ _ v u Q I rx ry ⟨_, _, rfl, rfl, hl, q.plain d At.int⟩
    · cases e
  · cases e
theorem un_negV : UnR X (unaryOp .USub) (R1of (op1 bNeg)) := by
  refine unR_of fun pins s σ H x v Q F a t I rx d va e q => ?_
  unfold bNeg at e
  split at e
  · cases e
    cases va.int
    exact un_neg pins s σ H _ v Q I rx ⟨_, rfl, q.plain d At.int⟩
  · cases e
end
end VM
/-! V4: comparisons, membership by values -/
namespace VM
open PySem PySem.Spec PyProof.Rows L2

/-! ### trees as data -/
section
variable {K : PySem.W.Frag} {H : Hp} {F : Addr → Prop}
mutual
theorem At.dp : ∀ {t : T} {v : V}, At H F t v → t.canLay0 = true → Dp K H v t
  | _, _, .none, _ => .non
  | _, _, .bool, _ => .bl _
  | _, _, .int, _ => .int _
  | _, _, .str, _ => .str _
  | _, _, .list r _ l, c => .lst (.inl (.inl r)) (AtL.dp l (by simpa [PyData.canLay0] using c))
  | _, _, .tuple r l, c => .tup (.inl (.inl r)) (AtL.dp l (by simpa [PyData.canLay0] using c))
  | _, _, .dK _ _ _, c => by simp [PyData.canLay0] at c
  | _, _, .dT _ _ _, c => by simp [PyData.canLay0] at c
theorem AtL.dp : ∀ {ts : List T} {xs : List V}, AtL H F ts xs → PyData.canLayAll0 ts = true → DpAll K H xs ts
  | _, _, .nil, _ => .nil
  | _, _, .cons h l, c => by
    rw [PyData.canLayAll0, Bool.and_eq_true] at c
    exact .cons (At.dp h c.1) (AtL.dp l c.2)
end
theorem Bt.dp {t : T} {v : V} (h : Bt H F t v) (c : t.canLay0 = true) : Dp K H v t := by
  rcases h with h | ⟨a, o, rfl, r, k⟩
  · exact h.dp c
  · unfold Kids at k
    split at k
    · rcases r with r | ⟨d, _⟩
      · exact .lst (.inl (.inl r)) (AtL.dp k (by simpa [PyData.canLay0] using c))
      · exact absurd (show false = true from d) Bool.false_ne_true
    · simp [PyData.canLay0] at c
    · simp [PyData.canLay0] at c
    · exact k.elim
end

theorem eqv_key (a b : Key) : PyData.eqv (keyT a) (keyT b) = decide (a = b) := by
  cases a with
  | inl i => cases b with
    | inl j =>
      rw [key_ll]
      simp [keyT, PyData.eqv]
    | inr s => rw [key_lr]; simp [keyT, PyData.eqv]
  | inr s => cases b with
    | inl j => rw [key_rl]; simp [keyT, PyData.eqv]
    | inr z =>
      rw [key_rr]
      simp only [keyT, PyData.eqv]
      rw [Bool.eq_iff_iff]
      simp
theorem eqvAll_keys : ∀ a b : List Key, PyData.eqvAll (a.map keyT) (b.map keyT) = decide (a = b)
  | [], [] => by simp [PyData.eqvAll]
  | [], _ :: _ => by simp [PyData.eqvAll]
  | _ :: _, [] => by simp [PyData.eqvAll]
  | x :: xs, y :: ys => by
    rw [List.map_cons, List.map_cons, PyData.eqvAll, eqv_key, eqvAll_keys xs ys, ← Bool.decide_and]
    exact decide_eq_decide.mpr (by rw [List.cons.injEq])
theorem keyOf_some {t : T} {k : Key} (h : keyOf t = some k) : t = keyT k := by
  unfold keyOf at h
  split at h <;> cases h <;> rfl
theorem keysOf_some : ∀ {ts : List T} {ks : List Key}, keysOf ts = some ks → ts = ks.map keyT
  | [], ks, h => by cases h; rfl
  | t :: ts, ks, h => by
    unfold keysOf at h
    obtain ⟨k, e1, h⟩ := Option.bind_eq_some_iff.mp h
    obtain ⟨r, e2, h⟩ := Option.bind_eq_some_iff.mp h
    cases h
    rw [List.map_cons, ← keyOf_some e1, ← keysOf_some e2]
theorem keyT_at {H : Hp} {F : Addr → Prop} {k : Key} {v : V} (h : Bt H F (keyT k) v) : v = kV k := by
  cases k with
  | inl i => exact h.int
  | inr s => exact h.str
theorem keysT_at {H : Hp} {F : Addr → Prop} : ∀ {ks : List Key} {xs : List V}, AtL H F (ks.map keyT) xs → xs = ks.map kV
  | [], _, h => by cases h; rfl
  | k :: ks, _, h => by
    cases h with
    | cons a l => rw [keyT_at (.inl a), keysT_at l]; rfl
/-- a look into both -/
def OptAt (H : Hp) (F : Addr → Prop) : Option T → Option V → Prop
  | some t, some v => At H F t v
  | none, none => True
  | _, _ => False
theorem AtD.get {H : Hp} {F : Addr → Prop} {k : Key} : ∀ {ds : List (T × T)} {kvs : List (Key × V)}, AtD H F ds kvs → OptAt H F (dgetE ds (keyT k)) (valV kvs k)
  | _, _, .nil => by simp [dgetE, valV, OptAt]
  | _, _, @AtD.cons _ _ k' t v ds kvs h l => by
    unfold dgetE
    rw [eqv_key]
    by_cases e : k' = k
    · rw [if_pos (decide_eq_true e), valV_pos e]
      exact h
    · rw [if_neg (by rw [decide_eq_false e]; exact Bool.false_ne_true), valV_neg e]
      exact AtD.get l
theorem AtE.get {H : Hp} {F : Addr → Prop} {k : List Key} : ∀ {ds : List (T × T)} {kvs : List (List Key × V)}, AtE H F ds kvs → OptAt H F (dgetE ds (.tuple (k.map keyT))) (valV kvs k)
  | _, _, .nil => by simp [dgetE, valV, OptAt]
  | _, _, @AtE.cons _ _ k' t v ds kvs h l => by
    have ee : PyData.eqv (.tuple (k'.map keyT)) (.tuple (k.map keyT)) = decide (k' = k) := by
      simp only [PyData.eqv]; exact eqvAll_keys k' k
    unfold dgetE
    rw [ee]
    by_cases e : k' = k
    · rw [if_pos (decide_eq_true e), valV_pos e]
      exact h
    · rw [if_neg (by rw [decide_eq_false e]; exact Bool.false_ne_true), valV_neg e]
      exact AtE.get l
theorem OptAt.isSome {H : Hp} {F : Addr → Prop} {a : Option T} {b : Option V} (h : OptAt H F a b) : a.isSome = b.isSome := by
  cases a <;> cases b <;> first | rfl | exact h.elim
/-- a dict, a key of its kind, what it has -/
theorem dget_at {H : Hp} {F : Addr → Prop} {ds : List (T × T)} {k : T} {r : Option T} {v y : V} (h : Bt H F (.dict ds) v) (hk : Bt H F k y) (e : dgetB ds k = some r) : ∃ a o, v = .ref a ∧ DGet H a y o ∧ OptAt H F r o := by
  unfold dgetB at e
  split at e
  · rename_i ds' ks
    obtain ⟨q, e1, e2⟩ := Option.map_eq_some_iff.mp e
    subst e2
    obtain ⟨a, kvs, rfl, hr, l⟩ := h.dt
    obtain ⟨b, xs, rfl, hb, lb⟩ := hk.tuple
    rw [keysOf_some e1] at lb ⊢
    rw [keysT_at lb] at hb
    exact ⟨a, _, rfl, .inr ⟨kvs, q, b, hr.rd, rfl, hb, rfl⟩, l.get⟩
  · cases e
  · rename_i n1 n2
    obtain ⟨q, e1, e2⟩ := Option.map_eq_some_iff.mp e
    subst e2
    obtain ⟨a, kvs, rfl, hr, l⟩ := h.dk (fun r z => by subst z; simp_all)
    rw [keyOf_some e1] at hk ⊢
    rw [keyT_at hk]
    exact ⟨a, _, rfl, .inl ⟨kvs, q, hr.rd, rfl, rfl⟩, l.get⟩

section
variable {X : Cx}
theorem shaped_lay {t : T} (h : SeqAt.shaped t = true) : t.canLay0 = true := SeqAt.canLay_of_shaped h
theorem eq_dict {X : Cx} {pins : List (Addr × Obj)} {s : Shared} {σ : L2.St} {H : Hp} {a b : Addr} {ks ls : List (Key × V)} {Q : Value → Shared → Prop} (hu : X.A.units < cLine) (I : Inv X pins σ H s) (ha : Rd H a (.dK ks)) (hb : Rd H b (.dK ls)) (h0 : ks = [] ∨ ls = [])
    (h : Q (.bool (ks.length == ls.length)) s) : wpAny (model X.prog X.w) X.A (compareOp .Eq (.ref a) (.ref b)) Q X.xe s := by
  obtain ⟨_, ya, va, ra, da⟩ := dk_rd I.hok ha
  obtain ⟨_, yb, vb, rb, db⟩ := dk_rd I.hok hb
  refine PySem.W.keq_eq (knd := mixKind X.prog X.w) (r := true) ya yb da db hu (fun e => ?_) (by rw [← ra.length, ← rb.length, Bool.and_true]; exact h)
  have e2 : ks.length = ls.length := by rw [ra.length, rb.length]; exact e
  have : ks = [] := by
    rcases h0 with z | z
    · exact z
    · rw [z] at e2; exact List.length_eq_zero_iff.mp e2
  subst this
  cases ra
  exact .nil
theorem ne_dict {X : Cx} {pins : List (Addr × Obj)} {s : Shared} {σ : L2.St} {H : Hp} {a b : Addr} {ks ls : List (Key × V)} {Q : Value → Shared → Prop} (hu : X.A.units < cLine) (I : Inv X pins σ H s) (ha : Rd H a (.dK ks)) (hb : Rd H b (.dK ls)) (h0 : ks = [] ∨ ls = [])
    (h : Q (.bool (!(ks.length == ls.length))) s) : wpAny (model X.prog X.w) X.A (compareOp .NotEq (.ref a) (.ref b)) Q X.xe s := by
  obtain ⟨_, ya, va, ra, da⟩ := dk_rd I.hok ha
  obtain ⟨_, yb, vb, rb, db⟩ := dk_rd I.hok hb
  refine PySem.W.keq_ne (knd := mixKind X.prog X.w) (r := true) ya yb da db hu (fun e => ?_) (by rw [← ra.length, ← rb.length, Bool.and_true]; exact h)
  have e2 : ks.length = ls.length := by rw [ra.length, rb.length]; exact e
  have : ks = [] := by
    rcases h0 with z | z
    · exact z
    · rw [z] at e2; exact List.length_eq_zero_iff.mp e2
  subst this
  cases ra
  exact .nil
theorem AtD.len {H : Hp} {F : Addr → Prop} : ∀ {ds : List (T × T)} {kvs : List (Key × V)}, AtD H F ds kvs → ds.length = kvs.length
  | _, _, .nil => rfl
  | _, _, .cons _ l => by rw [List.length_cons, List.length_cons, AtD.len l]
theorem AtE.len {H : Hp} {F : Addr → Prop} : ∀ {ds : List (T × T)} {kvs : List (List Key × V)}, AtE H F ds kvs → ds.length = kvs.length
  | _, _, .nil => rfl
  | _, _, .cons _ l => by rw [List.length_cons, List.length_cons, AtE.len l]
/-- what == of two trees asks -/
theorem eqB_at {H : Hp} {F : Addr → Prop} {a b : T} {x y : V} {r : Bool} (ha : Bt H F a x) (hb : Bt H F b y) (e : eqB a b = some r) :
    (SeqAt.shaped a = true ∧ SeqAt.shaped b = true ∧ r = PyData.eqv a b) ∨ ∃ p q ks ls, x = .ref p ∧ y = .ref q ∧ Rd H p (.dK ks) ∧ Rd H q (.dK ls) ∧ (ks = [] ∨ ls = []) ∧ r = (ks.length == ls.length) := by
  unfold eqB at e
  split at e
  · cases e
  · cases e
  · rename_i ds n
    cases e
    obtain ⟨p, ks, rfl, hr, l⟩ := ha.dk fun r z => n r z
    obtain ⟨q, ls, rfl, hr2, l2⟩ := hb.dk fun r z => by cases z
    cases l2
    refine .inr ⟨p, q, ks, [], rfl, rfl, hr.rd, hr2.rd, .inr rfl, ?_⟩
    cases l <;> rfl
  · rename_i d ds n1 n2
    cases e
    obtain ⟨p, ks, rfl, hr, l⟩ := ha.dk fun r z => by cases z
    cases l
    obtain ⟨q, ls, rfl, hr2, l2⟩ := hb.dk fun r z => by simp_all
    refine .inr ⟨p, q, [], ls, rfl, rfl, hr.rd, hr2.rd, .inl rfl, ?_⟩
    cases l2
    rfl
  · cases e
  · split at e
    · rename_i hs
      cases e
      exact .inl ⟨hs.1, hs.2, rfl⟩
    · cases e
theorem op_eqV (hu : X.A.units + 64 < cLine) : OpR X (compareOp .Eq) (R2of (op2 bEq)) := by
  refine opR_of fun pins s σ H x y v u Q F a b t I rx ry d va vb e q => ?_
  obtain ⟨r, e1, rfl⟩ := Option.map_eq_some_iff.mp e
  rcases eqB_at va vb e1 with ⟨sa, sb, rfl⟩ | ⟨p, w, ks, ls, rfl, rfl, hp, hw, h0, rfl⟩
  · exact op_eqD hu pins s σ H _ _ v u Q I rx ry ⟨a, b, va.dp (shaped_lay sa), vb.dp (shaped_lay sb), sa, sb, q.plain d At.bool⟩
  · cases rx; cases ry
    exact eq_dict (by omega) I hp hw h0 ⟨.bl _, H, I, rfl, q.plain d At.bool⟩
theorem op_neV (hu : X.A.units + 64 < cLine) : OpR X (compareOp .NotEq) (R2of (op2 bNe)) := by
  refine opR_of fun pins s σ H x y v u Q F a b t I rx ry d va vb e q => ?_
  obtain ⟨r, e1, rfl⟩ := Option.map_eq_some_iff.mp e
  rcases eqB_at va vb e1 with ⟨sa, sb, rfl⟩ | ⟨p, w, ks, ls, rfl, rfl, hp, hw, h0, rfl⟩
  · exact op_neD hu pins s σ H _ _ v u Q I rx ry ⟨a, b, va.dp (shaped_lay sa), vb.dp (shaped_lay sb), sa, sb, q.plain d At.bool⟩
  · cases rx; cases ry
    exact ne_dict (by omega) I hp hw h0 ⟨.bl _, H, I, rfl, q.plain d At.bool⟩
theorem op_ltV : OpR X (compareOp .Lt) (R2of (op2 bLt)) := by
  refine opR_of fun pins s σ H x y v u Q F a b t I rx ry d va vb e q => ?_
  unfold bLt at e
  split at e
  · cases e
    cases va.int; cases vb.int
    exact op_lt pins s σ H _ _ v u Q I rx ry ⟨_, _, rfl, rfl, q.plain d At.bool⟩
  · cases e
    cases va.str; cases vb.str
    exact op_lt_str pins s σ H _ _ v u Q I rx ry ⟨_, _, rfl, rfl, q.plain d At.bool⟩
  · cases e
theorem op_leV : OpR X (compareOp .LtE) (R2of (op2 bLe)) := by
  refine opR_of fun pins s σ H x y v u Q F a b t I rx ry d va vb e q => ?_
  unfold bLe at e
  split at e
  · cases e
    cases va.int; cases vb.int
    exact op_le pins s σ H _ _ v u Q I rx ry ⟨_, _, rfl, rfl, q.plain d At.bool⟩
  · cases e
theorem op_gtV : OpR X (compareOp .Gt) (R2of (op2 bGt)) := by
  refine opR_of fun pins s σ H x y v u Q F a b t I rx ry d va vb e q => ?_
  unfold bGt at e
  split at e
  · cases e
    cases va.int; cases vb.int
    exact op_gt pins s σ H _ _ v u Q I rx ry ⟨_, _, rfl, rfl, q.plain d At.bool⟩
  · cases e
theorem op_geV : OpR X (compareOp .GtE) (R2of (op2 bGe)) := by
  refine opR_of fun pins s σ H x y v u Q F a b t I rx ry d va vb e q => ?_
  unfold bGe at e
  split at e
  · cases e
    cases va.int; cases vb.int
    exact op_ge pins s σ H _ _ v u Q I rx ry ⟨_, _, rfl, rfl, q.plain d At.bool⟩
  · cases e
theorem Bt.isNon {H : Hp} {F : Addr → Prop} {t : T} {v : V} (h : Bt H F t v) : decide (v = .non) = isNonT t := by
  cases t with
  | none => rw [h.none]; rfl
  | bool b => rw [h.bool]; rfl
  | int i => rw [h.int]; rfl
  | str x => rw [h.str]; rfl
  | list ts => obtain ⟨a, xs, rfl, _⟩ := h.list; rfl
  | tuple ts => obtain ⟨a, xs, rfl, _⟩ := h.tuple; rfl
  | dict ds =>
    rcases h with h | ⟨a, o, rfl, _⟩
    · cases h <;> rfl
    · rfl
theorem op_isV : OpR X (compareOp .Is) (R2of (op2 bIs)) := by
  refine opR_of fun pins s σ H x y v u Q F a b t I rx ry d va vb e q => ?_
  unfold bIs at e
  split at e
  · cases e
    refine op_isN pins s σ H _ _ v u Q I rx ry ⟨vb.none, ?_⟩
    rw [va.isNon]
    exact q.plain d At.bool
  · cases e
theorem op_isNotV : OpR X (compareOp .IsNot) (R2of (op2 bIsNot)) := by
  refine opR_of fun pins s σ H x y v u Q F a b t I rx ry d va vb e q => ?_
  unfold bIsNot at e
  split at e
  · rename_i w e1
    cases e
    unfold bIs at e1
    split at e1
    · cases e1
      refine op_notN pins s σ H _ _ v u Q I rx ry ⟨vb.none, ?_⟩
      rw [va.isNon]
      exact q.plain d At.bool
    · cases e1
  · cases e
theorem reads_of {pins : List (Addr × Obj)} {s : Shared} {σ : L2.St} {H : Hp} {F : Addr → Prop} {t : T} {v : V} {u : Value} (I : Inv X pins σ H s) (h : Bt H F t v) (r : RelV v u) (c : t.canLay0 = true) : ∃ as, Reads s.heap u t as := Dp.reads I t v u (h.dp c) r
theorem shaped_kids {ts : List T} (h : SeqAt.shaped (.list ts) = true) : PyData.canLayAll0 ts = true := by
  have := SeqAt.canLay_of_shaped h
  simpa [PyData.canLay0] using this
theorem op_inV (hu : X.A.units + 65 < cLine) : OpR X (compareOp .In) (R2of (op2 bIn)) := by
  refine opR_of fun pins s σ H x y v u Q F a b t I rx ry d va vb e q => ?_
  obtain ⟨r, e1, rfl⟩ := Option.map_eq_some_iff.mp e
  unfold inB at e1
  split at e1
  · split at e1
    · rename_i hs
      cases e1
      exact op_inD hu pins s σ H _ _ v u Q I rx ry ⟨_, _, va.dp (shaped_lay hs.1), vb.dp (shaped_lay hs.2), hs.1, hs.2, q.plain d At.bool⟩
    · cases e1
  · split at e1
    · rename_i ds hs
      cases e1
      obtain ⟨as, r1⟩ := reads_of I va rx (shaped_lay hs.1)
      obtain ⟨bs, r2⟩ := reads_of I vb ry (by have := shaped_kids hs.2; simpa [PyData.canLay0] using this)
      exact SeqAt.in_tuple_reads r2 r1 (shaped_kids hs.2) (shaped_lay hs.1) (room_in_shaped hs.1 hu) ⟨.bl _, H, I, rfl, q.plain d At.bool⟩
    · cases e1
  · obtain ⟨o, e2, rfl⟩ := Option.map_eq_some_iff.mp e1
    obtain ⟨p, w, rfl, g, oa⟩ := dget_at vb va e2
    cases ry
    refine d_in (by omega) I g rx fun s' I' => ⟨.bl _, H, I', rfl, ?_⟩
    rw [← oa.isSome]
    exact q.plain d At.bool
  · cases e1
    cases va.str; cases vb.str
    exact op_in_str pins s σ H _ _ v u Q I rx ry ⟨_, _, rfl, rfl, q.plain d At.bool⟩
  · cases e1
theorem op_notInV (hu : X.A.units + 65 < cLine) : OpR X (compareOp .NotIn) (R2of (op2 bNotIn)) := by
  refine opR_of fun pins s σ H x y v u Q F a b t I rx ry d va vb e q => ?_
  obtain ⟨r, e1, rfl⟩ := Option.map_eq_some_iff.mp e
  unfold inB at e1
  split at e1
  · split at e1
    · rename_i hs
      cases e1
      exact op_notInD hu pins s σ H _ _ v u Q I rx ry ⟨_, _, va.dp (shaped_lay hs.1), vb.dp (shaped_lay hs.2), hs.1, hs.2, q.plain d At.bool⟩
    · cases e1
  · split at e1
    · rename_i ds hs
      cases e1
      obtain ⟨as, r1⟩ := reads_of I va rx (shaped_lay hs.1)
      obtain ⟨bs, r2⟩ := reads_of I vb ry (by have := shaped_kids hs.2; simpa [PyData.canLay0] using this)
      exact SeqAt.notIn_tuple_reads r2 r1 (shaped_kids hs.2) (shaped_lay hs.1) (room_in_shaped hs.1 hu) ⟨.bl _, H, I, rfl, q.plain d At.bool⟩
    · cases e1
  · obtain ⟨o, e2, rfl⟩ := Option.map_eq_some_iff.mp e1
    obtain ⟨p, w, rfl, g, oa⟩ := dget_at vb va e2
    cases ry
    refine d_notIn (by omega) I g rx fun s' I' => ⟨.bl _, H, I', rfl, ?_⟩
    rw [← oa.isSome]
    exact q.plain d At.bool
  · cases e1
    cases va.str; cases vb.str
    exact op_notin_str pins s σ H _ _ v u Q I rx ry ⟨_, _, rfl, rfl, q.plain d At.bool⟩
  · cases e1

/-! ### subscripts -/
theorem atI_at {H : Hp} {F : Addr → Prop} {ts : List T} {xs : List V} {i : Int} {t : T} (l : AtL H F ts xs) (e : atI ts i = some t) : ∃ v, atI xs i = some v ∧ At H F t v := by
  unfold atI at e ⊢
  obtain ⟨j, e1, e2⟩ := Option.bind_eq_some_iff.mp e
  obtain ⟨v, e3, h⟩ := l.get e2
  exact ⟨v, by rw [← l.length, e1]; exact e3, h⟩
def rIxD' : R2 := fun x y H Q => ∃ a v, x = .ref a ∧ DGet H a y (some v) ∧ Q v H
theorem ix_dict (hu : X.A.units + 1 < cLine) : IxR X rIxD' := by
  intro value slice pins s σ H x y v u Q I rx ry h hs
  obtain ⟨a, w, rfl, g, q⟩ := h
  cases rx
  have hT := dict_typeIs I g
  unfold subscriptTail
  refine wpAny_bind ?_
  rw [getitemInPython_of_ne hT.not_modules]
  refine wpAny_bind (wpAny_specialOf hT PySem.F.slot_dict_getitem.lookup ?_)
  have fin : wpAny (model X.prog X.w) X.A (subscripted slice false (.ref a) u) (fun r s₃ => wpAny (model X.prog X.w) X.A (letTemporaryGo value (.ref a) r >>= fun _ => pure r) (EP X pins σ Q) X.xe s₃) X.xe s := by
    rw [hs]
    exact wpAny_operating (wpAny_mono (d_getItem hu I g ry fun w' s3 I3 rw' => (⟨w, H, I3, rw', q⟩ : EP X pins σ Q w' s3)) (fun r s₃ h₃ => wpAny_bind (wpAny_letTemporaryGo (wpAny_pure h₃))) fun _ _ x => x)
  first
    | exact wpAny_pure (wpAny_bind fin)
    | exact wpAny_bind (wpAny_pure (wpAny_bind fin))
    | exact wpAny_bind fin
theorem ix_V (hu : X.A.units + 1 < cLine) : IxR X (R2of (op2 bIdx)) := by
  intro value slice pins s σ H x y v u Q I rx ry hh hs
  obtain ⟨F, ⟨a, ba⟩, ⟨b, bb⟩, r, d, va, vb, e, q⟩ := hh
  obtain ⟨t, e1, rfl⟩ := op2_some e
  have va := va.bt
  have vb := vb.bt
  dsimp only at va vb e1
  unfold bIdx at e1
  split at e1
  · cases vb.int
    obtain ⟨l, xs, rfl, hx, lx⟩ := va.list
    obtain ⟨w, e2, h⟩ := atI_at lx e1
    exact ix_list value slice pins s σ H _ _ v u Q I rx ry ⟨_, _, _, _, rfl, rfl, .inl (.inl hx), e2, q.plain d h⟩ hs
  · cases vb.int
    obtain ⟨l, xs, rfl, hx, lx⟩ := va.tuple
    obtain ⟨w, e2, h⟩ := atI_at lx e1
    exact ix_tup value slice pins s σ H _ _ v u Q I rx ry ⟨_, _, _, _, rfl, rfl, .inl (.inl hx), e2, q.plain d h⟩ hs
  · split at e1
    · rename_i hl
      obtain ⟨c, e2, rfl⟩ := Option.map_eq_some_iff.mp e1
      cases va.str; cases vb.int
      exact ix_str value slice pins s σ H _ _ v u Q I rx ry ⟨_, _, _, rfl, rfl, hl, e2, q.plain d At.str⟩ hs
    · cases e1
  · obtain ⟨o, e2, e3⟩ := Option.bind_eq_some_iff.mp e1
    have e3 : o = some t := e3
    subst e3
    obtain ⟨p, w, rfl, g, oa⟩ := dget_at va vb e2
    cases w with
    | none => exact oa.elim
    | some w => exact ix_dict hu value slice pins s σ H _ _ v u Q I rx ry ⟨p, w, rfl, g, q.plain d oa⟩ hs
  · cases e1
/-- a slice by values -/
def RSl (f : T → Option Int → Option Int → Option T) : V → Option Int → Option Int → Hp → VK → Prop := fun x lo hi H Q => ∃ F a t, dF F H ∧ Bt H F a x ∧ f a lo hi = some t ∧ Res F H (t, false) Q
theorem AtL.cut {H : Hp} {F : Addr → Prop} {ts : List T} {xs : List V} (l : AtL H F ts xs) (lo hi : Option Int) : AtL H F (cutL ts lo hi) (cutV xs lo hi) := by
  unfold cutL cutV
  rw [← l.length]
  exact (l.drop _).take _
theorem sl_V : SlR X (RSl bCut) := by
  intro pins s σ H x v vl vu lo hi sl Q I rx hs pl pu hh
  obtain ⟨F, a, t, d, va, e, q⟩ := hh
  unfold bCut at e
  split at e
  · cases e
    obtain ⟨l, xs, rfl, hx, lx⟩ := va.list
    exact sl_list pins s σ H _ v vl vu lo hi sl Q I rx hs pl pu ⟨_, _, rfl, .inl (.inl hx), fun p hp => q.list d hp (lx.cut lo hi)⟩
  · split at e
    · rename_i hl
      cases e
      cases va.str
      exact sl_str pins s σ H _ v vl vu lo hi sl Q I rx hs pl pu ⟨_, rfl, hl, q.plain d At.str⟩
    · cases e
  · split at e
    · rename_i hne
      cases e
      obtain ⟨l, xs, rfl, hx, lx⟩ := va.tuple
      refine sl_tupA pins s σ H _ v vl vu lo hi sl Q I rx hs pl pu ⟨_, _, rfl, .inl (.inl hx), fun z => absurd (by rw [lx.length]; exact z) hne, fun _ p hp => q.tup d hp (lx.cut lo hi)⟩
    · cases e
  · cases e
end
end VM
/-! V5: built-in functions by values -/
namespace VM
open PySem PySem.Spec PyProof.Rows L2

inductive ValsR (H : Hp) (F : Addr → Prop) : List R → List V → Prop
  | nil : ValsR H F [] []
  | cons {r : R} {v : V} {rs : List R} {vs : List V} : Val H F r v → ValsR H F rs vs → ValsR H F (r :: rs) (v :: vs)
/-- a call by values -/
def RCof (f : List R → Option R) : List V → Hp → VK → Prop := fun vs H Q => ∃ F rs r, dF F H ∧ ValsR H F rs vs ∧ f rs = some r ∧ Res F H r Q
/-- one argument -/
def bi1 (f : T → Option T) : List R → Option R
  | [a] => (f a.1).map fun t => (t, false)
  | _ => none
def bi2 (f : T → T → Option T) : List R → Option R
  | [a, b] => (f a.1 b.1).map fun t => (t, false)
  | _ => none
section
variable {X : Cx}
theorem cr1_of {g : Value} {f : T → Option T}
    (h : ∀ (pins : List (Addr × Obj)) (s : Shared) (σ : L2.St) (H : Hp) (x : V) (v : Value) (Q : VK) (F : Addr → Prop) (a t : T), Inv X pins σ H s → RelV x v → dF F H → Bt H F a x → f a = some t → Res F H (t, false) Q →
      wpAny (model X.prog X.w) X.A (call g [v]) (EP X pins σ Q) X.xe s) : CallR X g (RCof (bi1 f)) := by
  intro pins s σ H xs us Q I r hh
  obtain ⟨F, rs, r1, d, vr, e, q⟩ := hh
  unfold bi1 at e
  split at e
  · obtain ⟨t, e1, rfl⟩ := Option.map_eq_some_iff.mp e
    cases vr with
    | cons va vr =>
      cases vr
      obtain ⟨u, rfl, rx⟩ := vals1 r
      exact h pins s σ H _ u Q F _ t I rx d va.bt e1 q
  · cases e
theorem cr2_of {g : Value} {f : T → T → Option T}
    (h : ∀ (pins : List (Addr × Obj)) (s : Shared) (σ : L2.St) (H : Hp) (x y : V) (v u : Value) (Q : VK) (F : Addr → Prop) (a b t : T), Inv X pins σ H s → RelV x v → RelV y u → dF F H → Bt H F a x → Bt H F b y → f a b = some t → Res F H (t, false) Q →
      wpAny (model X.prog X.w) X.A (call g [v, u]) (EP X pins σ Q) X.xe s) : CallR X g (RCof (bi2 f)) := by
  intro pins s σ H xs us Q I r hh
  obtain ⟨F, rs, r1, d, vr, e, q⟩ := hh
  unfold bi2 at e
  split at e
  · obtain ⟨t, e1, rfl⟩ := Option.map_eq_some_iff.mp e
    cases vr with
    | cons va vr =>
      cases vr with
      | cons vb vr =>
        cases vr
        obtain ⟨u, w, rfl, rx, ry⟩ := vals2 r
        exact h pins s σ H _ _ u w Q F _ _ t I rx ry d va.bt vb.bt e1 q
  · cases e
/-- one of several -/
def orB (f g : List R → Option R) : List R → Option R := fun rs => match f rs with
  | some r => some r
  | none => g rs
theorem cr_or {c : Value} {f g : List R → Option R} (h1 : CallR X c (RCof f)) (h2 : CallR X c (RCof g)) : CallR X c (RCof (orB f g)) := by
  intro pins s σ H xs us Q I r hh
  obtain ⟨F, rs, r1, d, vr, e, q⟩ := hh
  unfold orB at e
  split at e
  · rename_i e1
    cases e
    exact h1 pins s σ H xs us Q I r ⟨F, rs, _, d, vr, e1, q⟩
  · exact h2 pins s σ H xs us Q I r ⟨F, rs, _, d, vr, e, q⟩

/-! ### len -/
def lenB : T → Option T
  | .list xs => some (.int xs.length)
  | .tuple xs => some (.int xs.length)
  | .str z => if z.length ≤ cap then some (.int z.length) else none
  | .dict ((.none, .none) :: _) => none
  | .dict ds => some (.int ds.length)
  | _ => none
theorem cr_lenV : CallR X (.builtin "len") (RCof (bi1 lenB)) := by
  refine cr1_of fun pins s σ H x v Q F a t I rx d va e q => ?_
  unfold lenB at e
  split at e
  · cases e
    obtain ⟨l, xs, rfl, hx, lx⟩ := va.list
    exact call_len pins s σ H _ _ Q I (.cons rx .nil) ⟨_, xs.length, rfl, .inl ⟨xs, .inl (.inl hx), rfl⟩, by rw [← lx.length]; exact q.plain d At.int⟩
  · cases e
    obtain ⟨l, xs, rfl, hx, lx⟩ := va.tuple
    exact call_len pins s σ H _ _ Q I (.cons rx .nil) ⟨_, xs.length, rfl, .inr ⟨xs, .inl (.inl hx), rfl⟩, by rw [← lx.length]; exact q.plain d At.int⟩
  · split at e
    · rename_i hl
      cases e
      cases va.str
      exact call_len pins s σ H _ _ Q I (.cons rx .nil) ⟨_, _, rfl, ⟨hl, rfl⟩, q.plain d At.int⟩
    · cases e
  · cases e
  · rename_i ds n
    cases e
    obtain ⟨l, kvs, rfl, hr, l2⟩ := va.dk fun r z => n r z
    cases rx
    refine d_len I hr.rd fun tk s' I' => ⟨.int kvs.length, H, I', ⟨_, rfl⟩, ?_⟩
    rw [← l2.len]
    exact q.plain d At.int
  · cases e

/-! ### list, tuple, int -/
def listB : T → Option T
  | .list xs => some (.list xs)
  | .tuple xs => some (.list xs)
  | .dict ((.none, .none) :: _) => none
  | .dict ds => some (.list (ds.map (·.1)))
  | _ => none
theorem keyT_kV {H : Hp} {F : Addr → Prop} (k : Key) : At H F (keyT k) (kV k) := by
  cases k with
  | inl i => exact .int
  | inr s => exact .str
theorem AtD.keys {H : Hp} {F : Addr → Prop} : ∀ {ds : List (T × T)} {kvs : List (Key × V)}, AtD H F ds kvs → AtL H F (ds.map (·.1)) (kvs.map fun kv => kV kv.1)
  | _, _, .nil => .nil
  | _, _, .cons _ l => .cons (keyT_kV _) (AtD.keys l)
theorem AtD.vals {H : Hp} {F : Addr → Prop} : ∀ {ds : List (T × T)} {kvs : List (Key × V)}, AtD H F ds kvs → AtL H F (ds.map (·.2)) (kvs.map fun kv => kv.2)
  | _, _, .nil => .nil
  | _, _, .cons h l => .cons h (AtD.vals l)
theorem list_dict (hc : X.calm = true) {pins : List (Addr × Obj)} {s : Shared} {σ : L2.St} {H : Hp} {Q : VK} {p : Addr} {kvs : List (Key × V)} (I : Inv X pins σ H s) (hk : Rd H p (.dK kvs))
    (q : ∀ l, H l = none → Q (.ref l) (upd H l (.lst (kvs.map fun kv => kV kv.1)))) : wpAny (model X.prog X.w) X.A (call (.type "list") [.ref p]) (EP X pins σ Q) X.xe s := by
  obtain ⟨z, lo, vs, rk, hd⟩ := dk_rd I.hok hk
  obtain ⟨ep, hat⟩ := hd.dictAt
  have hl : kvs.length = vs.length := rk.length
  have zz : vs.length ≤ sizeLine := hl ▸ z
  refine PySem.W.kdl_call (PySem.W.kdl_dict (knd := mixKind X.prog X.w) (kvs := vs) (ep := ep) lo) (I.ok.hd hc) hat zz fun h' tk acc c keep hS hacc => ?_
  have hv : Vals (kvs.map fun kv => kV kv.1) acc.toList := by
    refine vals_of_at (by simp [hacc.1, hl]) fun j x w h1 h2 => ?_
    obtain ⟨k, y, hky, hi⟩ := hacc.2 j w (by simpa using h2)
    have e1 : (kvs.map (·.1))[j]? = some k := by
      rw [KV.keys rk, List.getElem?_map, hky]
      rfl
    rw [List.getElem?_map] at e1 h1
    cases hj : kvs[j]? with
    | none => rw [hj] at e1; cases e1
    | some kv =>
      rw [hj] at e1 h1
      cases e1; cases h1
      exact keyIs_rel hi
  have new : ObjOk X.prog X.w (upd H s.heap.objs.size (.lst (kvs.map fun kv => kV kv.1))) h' s.heap.objs.size (.lst (kvs.map fun kv => kV kv.1)) :=
    ⟨by simpa using z, acc.toList, c, hv, by simpa using hS⟩
  exact ⟨.ref s.heap.objs.size, _, I.laid keep (Nat.le_refl _) new, rfl, q _ (I.hok.fresh (Nat.le_refl _))⟩
theorem cr_listV (hc : X.calm = true) : CallR X (.type "list") (RCof (bi1 listB)) := by
  refine cr1_of fun pins s σ H x v Q F a t I rx d va e q => ?_
  unfold listB at e
  split at e
  · cases e
    obtain ⟨l, xs, rfl, hx, lx⟩ := va.list
    exact call_list_of pins s σ H _ _ Q I (.cons rx .nil) ⟨_, xs, rfl, .inl (.inl (.inl hx)), fun p hp => q.list d hp lx⟩
  · cases e
    obtain ⟨l, xs, rfl, hx, lx⟩ := va.tuple
    exact call_list_of pins s σ H _ _ Q I (.cons rx .nil) ⟨_, xs, rfl, .inr (.inl (.inl hx)), fun p hp => q.list d hp lx⟩
  · cases e
  · rename_i ds n
    cases e
    obtain ⟨l, kvs, rfl, hr, l2⟩ := va.dk fun r z => n r z
    cases rx
    exact list_dict hc I hr.rd fun p hp => q.list d hp l2.keys
  · cases e
def tupleB : T → Option T
  | .list xs => some (.tuple xs)
  | .tuple xs => some (.tuple xs)
  | _ => none
theorem cr_tupleV : CallR X (.type "tuple") (RCof (bi1 tupleB)) := by
  refine cr1_of fun pins s σ H x v Q F a t I rx d va e q => ?_
  unfold tupleB at e
  split at e
  · cases e
    obtain ⟨l, xs, rfl, hx, lx⟩ := va.list
    exact call_tuple_of pins s σ H _ _ Q I (.cons rx .nil) ⟨_, xs, rfl, .inl ⟨.inl (.inl hx), fun p hp => q.tup d hp lx⟩⟩
  · cases e
    have ha := va.at rfl
    obtain ⟨l, xs, rfl, hx, lx⟩ := va.tuple
    exact call_tuple_of pins s σ H _ _ Q I (.cons rx .nil) ⟨_, xs, rfl, .inr ⟨.inl (.inl hx), q.plain d ha⟩⟩
  · cases e
def intB : T → Option T
  | .int i => some (.int i)
  | .bool b => some (.int (if b then 1 else 0))
  | _ => none
theorem cr_intV : CallR X (.type "int") (RCof (bi1 intB)) := by
  refine cr1_of fun pins s σ H x v Q F a t I rx d va e q => ?_
  unfold intB at e
  split at e
  · cases e
    cases va.int
    exact call_int1 pins s σ H _ _ Q I (.cons rx .nil) (.inl ⟨_, rfl, q.plain d At.int⟩)
  · cases e
    cases va.bool
    exact call_int1 pins s σ H _ _ Q I (.cons rx .nil) (.inr ⟨_, rfl, q.plain d At.int⟩)
  · cases e
def strB : T → Option T
  | .int i => if i.natAbs.log2 < 1920 then some (.str (toString i)) else none
  | _ => none
theorem cr_strV : CallR X (.type "str") (RCof (bi1 strB)) := by
  refine cr1_of fun pins s σ H x v Q F a t I rx d va e q => ?_
  unfold strB at e
  split at e
  · split at e
    · rename_i hl
      cases e
      cases va.int
      exact call_str_int pins s σ H _ _ Q I (.cons rx .nil) ⟨_, rfl, hl, q.plain d At.str⟩
    · cases e
  · cases e

/-! ### sum, any, all -/
def intsOf : List T → Option (List Int)
  | [] => some []
  | .int i :: r => (intsOf r).map (i :: ·)
  | _ => none
theorem intsOf_some : ∀ {ts : List T} {is : List Int}, intsOf ts = some is → ts = is.map PyData.int
  | [], is, e => by cases e; rfl
  | t :: r, is, e => by
    unfold intsOf at e
    split at e
    · contradiction
    · rename_i i r' e2
      cases e2
      obtain ⟨js, e1, rfl⟩ := Option.map_eq_some_iff.mp e
      rw [intsOf_some e1]
      rfl
    · cases e
theorem AtL.ints {H : Hp} {F : Addr → Prop} : ∀ {is : List Int} {xs : List V}, AtL H F (is.map PyData.int) xs → xs = is.map V.int
  | [], _, h => by cases h; rfl
  | i :: is, _, h => by
    cases h with
    | cons a l =>
      cases a
      rw [AtL.ints l]
      rfl
def boolsOf : List T → Option (List Bool)
  | [] => some []
  | .bool i :: r => (boolsOf r).map (i :: ·)
  | _ => none
theorem boolsOf_some : ∀ {ts : List T} {is : List Bool}, boolsOf ts = some is → ts = is.map PyData.bool
  | [], is, e => by cases e; rfl
  | t :: r, is, e => by
    unfold boolsOf at e
    split at e
    · contradiction
    · rename_i i r' e2
      cases e2
      obtain ⟨js, e1, rfl⟩ := Option.map_eq_some_iff.mp e
      rw [boolsOf_some e1]
      rfl
    · cases e
theorem AtL.bools {H : Hp} {F : Addr → Prop} : ∀ {is : List Bool} {xs : List V}, AtL H F (is.map PyData.bool) xs → xs = is.map V.bl
  | [], _, h => by cases h; rfl
  | i :: is, _, h => by
    cases h with
    | cons a l =>
      cases a
      rw [AtL.bools l]
      rfl
def sumB : T → Option T
  | .list xs => (intsOf xs).map fun is => .int is.sum
  | _ => none
theorem cr_sumV (hc : X.calm = true) : CallR X (.builtin "sum") (RCof (bi1 sumB)) := by
  refine cr1_of fun pins s σ H x v Q F a t I rx d va e q => ?_
  unfold sumB at e
  split at e
  · obtain ⟨is, e1, rfl⟩ := Option.map_eq_some_iff.mp e
    obtain ⟨l, xs, rfl, hx, lx⟩ := va.list
    rw [intsOf_some e1] at lx
    cases lx.ints
    exact cr_sum hc pins s σ H _ _ Q I (.cons rx .nil) ⟨_, is, rfl, .inl (.inl hx), q.plain d At.int⟩
  · cases e
def anyB : T → Option T
  | .list xs => (boolsOf xs).map fun is => .bool (is.any id)
  | _ => none
theorem cr_anyV (hc : X.calm = true) : CallR X (.builtin "any") (RCof (bi1 anyB)) := by
  refine cr1_of fun pins s σ H x v Q F a t I rx d va e q => ?_
  unfold anyB at e
  split at e
  · obtain ⟨is, e1, rfl⟩ := Option.map_eq_some_iff.mp e
    obtain ⟨l, xs, rfl, hx, lx⟩ := va.list
    rw [boolsOf_some e1] at lx
    cases lx.bools
    exact cr_any hc pins s σ H _ _ Q I (.cons rx .nil) ⟨_, is, rfl, .inl (.inl hx), q.plain d At.bool⟩
  · cases e
def allB : T → Option T
  | .list xs => (boolsOf xs).map fun is => .bool (is.all id)
  | _ => none
theorem cr_allV (hc : X.calm = true) : CallR X (.builtin "all") (RCof (bi1 allB)) := by
  refine cr1_of fun pins s σ H x v Q F a t I rx d va e q => ?_
  unfold allB at e
  split at e
  · obtain ⟨is, e1, rfl⟩ := Option.map_eq_some_iff.mp e
    obtain ⟨l, xs, rfl, hx, lx⟩ := va.list
    rw [boolsOf_some e1] at lx
    cases lx.bools
    exact cr_all hc pins s σ H _ _ Q I (.cons rx .nil) ⟨_, is, rfl, .inl (.inl hx), q.plain d At.bool⟩
  · cases e

/-! ### min, max of two ints -/
def max2B : T → T → Option T
  | .int i, .int j => some (.int (if j > i then j else i))
  | _, _ => none
theorem cr_max2V (hc : X.calm = true) : CallR X (.builtin "max") (RCof (bi2 max2B)) := by
  refine cr2_of fun pins s σ H x y v u Q F a b t I rx ry d va vb e q => ?_
  unfold max2B at e
  split at e
  · cases e
    cases va.int; cases vb.int
    exact call_max2 hc pins s σ H _ _ Q I (.cons rx (.cons ry .nil)) ⟨_, _, rfl, q.plain d At.int⟩
  · cases e
def min2B : T → T → Option T
  | .int i, .int j => some (.int (if j < i then j else i))
  | _, _ => none
theorem cr_min2V (hc : X.calm = true) : CallR X (.builtin "min") (RCof (bi2 min2B)) := by
  refine cr2_of fun pins s σ H x y v u Q F a b t I rx ry d va vb e q => ?_
  unfold min2B at e
  split at e
  · cases e
    cases va.int; cases vb.int
    exact call_min2 hc pins s σ H _ _ Q I (.cons rx (.cons ry .nil)) ⟨_, _, rfl, q.plain d At.int⟩
  · cases e
end
end VM
/-! V6: sorted, min, max of lists of data -/
namespace VM
open PySem PySem.Spec PyProof.Rows L2

/-- a before b, or alike -/
def leT (a b : T) : Bool := !PySem.W.dataLt b a
def sortT (ts : List T) : List T := ts.mergeSort leT
def tupB : T → Bool
  | .tuple (_ :: _) => true
  | _ => false
def nonTupB : T → Bool
  | .none => false
  | .tuple _ => false
  | _ => true
def sortOk (ts : List T) : Bool := (ts.all fun a => ts.all fun b => PySem.W.alike a b) && (ts.all tupB || ts.all nonTupB) && (ts.all SeqAt.shaped) && decide (ts.length ≤ cap)
def notNoneB : T → Bool
  | .none => false
  | _ => true
def minOk (ts : List T) : Bool := (ts.all fun a => ts.all fun b => PySem.W.alike a b) && ts.all notNoneB && (ts.all SeqAt.shaped)
theorem dataLe_leT {β : Type} (k : β → T) : PySem.W.dataLe false k = fun a b => leT (k a) (k b) := rfl
theorem leT_tot : PySem.W.TotalLe leT := PySem.W.sortLe_total (PyProof.Rows.listOrd PyProof.Rows.itemOrd) false PySem.W.keyToks
/-- values with their trees -/
inductive Zip3 : List Value → List (T × V) → List T → List V → Prop
  | nil : Zip3 [] [] [] []
  | cons {u : Value} {us : List Value} {t : T} {v : V} {bs : List (T × V)} {ts : List T} {vs : List V} : RelV v u → Zip3 us bs ts vs → Zip3 (u :: us) ((t, v) :: bs) (t :: ts) (v :: vs)
theorem zip3 : ∀ {ts : List T} {vs : List V} {us : List Value}, ts.length = vs.length → Vals vs us → Zip3 us (ts.zip vs) ts vs
  | [], _, _, e, r => by cases r with
    | nil => exact .nil
    | cons _ _ => cases e
  | t :: ts, _, _, e, r => by cases r with
    | nil => cases e
    | cons h r => exact .cons h (zip3 (by simpa using e) r)
section
variable {X : Cx} {pins : List (Addr × Obj)} {s : Shared} {σ : L2.St} {H : Hp} {F : Addr → Prop}
theorem each_of_vals : ∀ {ts : List T} {vs : List V} {us : List Value}, ts.length = vs.length → Vals vs us → PySem.W.EachIs (fun u (b : T × V) => RelV b.2 u) us (ts.zip vs)
  | [], _, _, e, r => by cases r with
    | nil => exact .nil
    | cons _ _ => cases e
  | t :: ts, _, _, e, r => by cases r with
    | nil => cases e
    | cons h r => exact .cons h (each_of_vals (by simpa using e) r)
theorem each_reads (I : Inv X pins σ H s) : ∀ {ts : List T} {vs : List V} {us : List Value}, AtL H F ts vs → Vals vs us → (ts.all SeqAt.shaped = true) → PySem.W.EachIs (fun u (b : T × V) => ∃ as, Reads s.heap u b.1 as) us (ts.zip vs)
  | _, _, _, .nil, r, _ => by cases r; exact .nil
  | _, _, _, .cons h l, r, c => by
    rw [List.all_cons, Bool.and_eq_true] at c
    cases r with
    | cons h1 r => exact .cons (reads_of I (.inl h) h1 (shaped_lay c.1)) (each_reads I l r c.2)
theorem vals_of_each : ∀ {us : List Value} {bs : List (T × V)}, PySem.W.EachIs (fun u (b : T × V) => RelV b.2 u) us bs → Vals (bs.map (·.2)) us
  | _, _, .nil => .nil
  | _, _, .cons h l => .cons h (vals_of_each l)
theorem AtL.of_zip : ∀ {bs : List (T × V)}, (∀ b ∈ bs, At H F b.1 b.2) → AtL H F (bs.map (·.1)) (bs.map (·.2))
  | [], _ => .nil
  | b :: bs, h => .cons (h b (.head _)) (AtL.of_zip fun c m => h c (.tail _ m))
theorem AtL.zip : ∀ {ts : List T} {vs : List V}, AtL H F ts vs → ∀ b ∈ ts.zip vs, At H F b.1 b.2
  | _, _, .nil, _, m => by simp at m
  | _, _, .cons h l, b, m => by
    rw [List.zip_cons_cons, List.mem_cons] at m
    rcases m with rfl | m
    · exact h
    · exact AtL.zip l b m
theorem zip_fst {ts : List T} {vs : List V} (e : ts.length = vs.length) : (ts.zip vs).map (·.1) = ts := List.map_fst_zip (by omega)
theorem zip_snd {ts : List T} {vs : List V} (e : ts.length = vs.length) : (ts.zip vs).map (·.2) = vs := List.map_snd_zip (by omega)
theorem all_alike {ts : List T} (h : (ts.all fun a => ts.all fun b => PySem.W.alike a b) = true) : PySem.W.AllAlike ts := fun a ha b hb => List.all_eq_true.mp (List.all_eq_true.mp h a ha) b hb
theorem sortable_of {ts : List T} (h : (ts.all tupB || ts.all nonTupB) = true) : PySem.W.Sortable ts := by
  rcases (Bool.or_eq_true _ _).mp h with h | h
  · refine .inl fun d hd => ?_
    have := List.all_eq_true.mp h d hd
    unfold tupB at this
    split at this
    · exact ⟨_, _, rfl⟩
    · cases this
  · refine .inr fun d hd => ?_
    have := List.all_eq_true.mp h d hd
    unfold nonTupB at this
    split at this
    · cases this
    · cases this
    · rename_i n1 n2
      exact ⟨fun z => n1 z, fun xs z => n2 xs z⟩
theorem sort_list (hu : X.A.units + 70 < cLine) {Q : VK} {p : Addr} {ts : List T} {xs : List V} (I : Inv X pins σ H s) (hp : H p = some (.lst xs)) (l : AtL H F ts xs) (ok : sortOk ts = true)
    (q : ∀ ys a, AtL H F (sortT ts) ys → H a = none → Q (.ref a) (upd H a (.lst ys))) : wpAny (model X.prog X.w) X.A (call (.builtin "sorted") [.ref p]) (EP X pins σ Q) X.xe s := by
  unfold sortOk at ok
  rw [Bool.and_eq_true, Bool.and_eq_true, Bool.and_eq_true] at ok
  obtain ⟨⟨⟨o1, o2⟩, o3⟩, o4⟩ := ok
  obtain ⟨its, rv, hl, hz⟩ := I.list (.inl (.inl hp) : SqL X.K H p xs)
  have e := l.length
  have ef := zip_fst e
  refine PySem.W.sorted_data (bs := ts.zip xs) (enc := fun b : T × V => b.1) (R := fun u b => RelV b.2 u) hl.isList (each_of_vals e rv) (each_reads I l rv o3) (by rw [ef]; exact all_alike o1) (by rw [ef]; exact sortable_of o2) ?_ ?_ fun out ho eo => ?_
  · rw [List.length_zip, e, Nat.min_self]
    exact hz
  · intro b hb
    have hb' : b.1 ∈ ts := by
      have := List.mem_map_of_mem (f := fun b : T × V => b.1) hb
      rw [ef] at this
      exact this
    have := SeqAt.depth_of_shaped (List.all_eq_true.mp o3 _ hb')
    omega
  · obtain ⟨ep, he⟩ := PyProof.Rows.sortedAll_at s.heap its out.toArray
    have hm : (List.mergeSort (ts.zip xs) (PySem.W.dataLe false fun b : T × V => b.1)).map (·.1) = sortT ts := by
      unfold sortT
      have := List.map_mergeSort (f := fun b : T × V => b.1) (r := PySem.W.dataLe false fun b : T × V => b.1) (s := leT) (l := ts.zip xs) (fun _ _ _ _ => rfl)
      rw [ef] at this
      exact this
    have hat : AtL H F (sortT ts) ((List.mergeSort (ts.zip xs) (PySem.W.dataLe false fun b : T × V => b.1)).map (·.2)) := by
      rw [← hm]
      exact AtL.of_zip fun b hb => l.zip b (List.mem_mergeSort.mp hb)
    have hlen : ((List.mergeSort (ts.zip xs) (PySem.W.dataLe false fun b : T × V => b.1)).map (·.2)).length ≤ sizeLine := by
      rw [List.length_map, List.length_mergeSort, List.length_zip, e, Nat.min_self]
      exact hz
    exact ⟨.ref _, _, I.laid (o := .lst _) (t' := s.toks) (fun _ _ => PyProof.Rows.sortedAll_old) (Nat.le_succ _) ⟨hlen, out, ep, vals_of_each eo, he⟩, rfl, q _ _ hat (I.hok.fresh (Nat.le_succ _))⟩

/-! ### keys of a dict -/
def keyStrs : List T → Option (List Str)
  | [] => some []
  | .str i :: r => (keyStrs r).map (i :: ·)
  | _ => none
theorem keyStrs_some : ∀ {ts : List T} {is : List Str}, keyStrs ts = some is → ts = is.map PyData.str
  | [], is, e => by cases e; rfl
  | t :: r, is, e => by
    unfold keyStrs at e
    split at e
    · contradiction
    · rename_i i r' e2
      cases e2
      obtain ⟨js, e1, rfl⟩ := Option.map_eq_some_iff.mp e
      rw [keyStrs_some e1]
      rfl
    · cases e
theorem AtD.strs : ∀ {ds : List (T × T)} {kvs : List (Key × V)} {is : List Str}, AtD H F ds kvs → ds.map (·.1) = is.map PyData.str → kvs.map (·.1) = is.map Sum.inr
  | _, _, [], .nil, _ => rfl
  | _, _, _ :: _, .nil, e => by cases e
  | _, _, [], .cons _ _, e => by cases e
  | _, _, i :: is, @AtD.cons _ _ k t v ds kvs h l, e => by
    rw [List.map_cons, List.map_cons] at e
    injection e with e1 e2
    rw [List.map_cons, List.map_cons, AtD.strs l e2]
    cases k with
    | inl j => cases e1
    | inr j => cases e1; rfl
theorem AtD.intk : ∀ {ds : List (T × T)} {kvs : List (Key × V)} {is : List Int}, AtD H F ds kvs → ds.map (·.1) = is.map PyData.int → kvs.map (·.1) = is.map Sum.inl
  | _, _, [], .nil, _ => rfl
  | _, _, _ :: _, .nil, e => by cases e
  | _, _, [], .cons _ _, e => by cases e
  | _, _, i :: is, @AtD.cons _ _ k t v ds kvs h l, e => by
    rw [List.map_cons, List.map_cons] at e
    injection e with e1 e2
    rw [List.map_cons, List.map_cons, AtD.intk l e2]
    cases k with
    | inl j => cases e1; rfl
    | inr j => cases e1
theorem AtL.of_ints : ∀ {is : List Int}, AtL H F (is.map PyData.int) (is.map V.int)
  | [] => .nil
  | _ :: _ => .cons .int AtL.of_ints
theorem AtL.of_strs : ∀ {is : List Str}, AtL H F (is.map PyData.str) (is.map V.str)
  | [] => .nil
  | _ :: _ => .cons .str AtL.of_strs
theorem leT_int (i j : Int) : leT (.int i) (.int j) = decide (i ≤ j) := by
  unfold leT
  rw [PySem.W.dataLt_int, PySem.W.not_lt_int]
theorem leT_str (i j : Str) : leT (.str i) (.str j) = decide (i.cps.toList ≤ j.cps.toList) := by
  unfold leT
  rw [PySem.W.dataLt_str, PySem.W.not_lt_str]
theorem sort_uniq {α : Type} {f : α → T} (inj : ∀ a b, leT (f a) (f b) = true → leT (f b) (f a) = true → a = b) {ys is : List α} (p : ys.Perm is) (s : (ys.map f).Pairwise fun a b => leT a b = true) : sortT (is.map f) = ys.map f := by
  have h1 : (sortT (is.map f)).Pairwise fun a b => leT a b = true := PySem.W.sort_pairwise leT_tot _
  refine List.Perm.eq_of_pairwise (fun a b ha hb x y => ?_) h1 s ((List.mergeSort_perm _ _).trans (p.map f).symm)
  obtain ⟨i, _, rfl⟩ := List.mem_map.mp (List.mem_mergeSort.mp ha)
  obtain ⟨j, _, rfl⟩ := List.mem_map.mp hb
  rw [inj i j x y]
theorem sortT_ints {ys is : List Int} (p : ys.Perm is) (s : ys.Pairwise (· ≤ ·)) : sortT (is.map PyData.int) = ys.map PyData.int := by
  refine sort_uniq (fun a b x y => ?_) p ?_
  · rw [leT_int] at x y
    have := of_decide_eq_true x
    have := of_decide_eq_true y
    omega
  · rw [List.pairwise_map]
    exact s.imp fun h => by rw [leT_int]; exact decide_eq_true h
theorem ltCps_decide : ∀ a b : List Nat, ltCps a b = decide (a < b) := by
  intro a
  induction a with
  | nil => intro b; cases b <;> simp [ltCps]
  | cons x a ih =>
    intro b
    cases b with
    | nil => simp [ltCps]
    | cons y b =>
      simp only [ltCps, ih, List.cons_lt_cons_iff]
      by_cases h1 : x < y
      · simp [h1]
      · by_cases h2 : x = y
        · subst h2; simp
        · simp [h1, h2]
theorem sortedS_pw : ∀ (l : List Str), sortedS l = true → l.Pairwise (fun a b => leT (.str a) (.str b) = true)
  | [], _ => .nil
  | [x], _ => List.pairwise_singleton _ _
  | x :: y :: r, h => by
    have h0 : (!ltCps y.cps.toList x.cps.toList && risingS y r) = true := h
    rw [Bool.and_eq_true] at h0
    have ih := sortedS_pw (y :: r) h0.2
    have hxy : leT (.str x) (.str y) = true := by
      have := h0.1
      rw [ltCps_decide, PySem.W.not_lt_str] at this
      rw [leT_str]
      exact this
    refine List.pairwise_cons.mpr ⟨fun z hz => ?_, ih⟩
    rcases List.mem_cons.mp hz with rfl | hz
    · exact hxy
    · exact leT_tot.trans _ _ _ hxy ((List.pairwise_cons.mp ih).1 z hz)
theorem sortT_strs {ys is : List Str} (p : ys.Perm is) (s : sortedS ys = true) : sortT (is.map PyData.str) = ys.map PyData.str := by
  refine sort_uniq (fun a b x y => ?_) p ?_
  · rw [leT_str] at x y
    exact PySem.W.str_of_cps (Std.le_antisymm (of_decide_eq_true x) (of_decide_eq_true y))
  · rw [List.pairwise_map]
    exact sortedS_pw ys s
def sortedB : T → Option T
  | .list ts => if sortOk ts = true then some (.list (sortT ts)) else none
  | .tuple _ => none
  | .dict ((.none, .none) :: _) => none
  | .dict ds => if ((keyStrs (ds.map (·.1))).isSome || (intsOf (ds.map (·.1))).isSome) = true ∧ ds.length < 64 then some (.list (sortT (ds.map (·.1)))) else none
  | _ => none
theorem cr_sortedV (hc : X.calm = true) (hu : X.A.units + 70 < cLine) : CallR X (.builtin "sorted") (RCof (bi1 sortedB)) := by
  refine cr1_of fun pins s σ H x v Q F a t I rx d va e q => ?_
  unfold sortedB at e
  split at e
  · split at e
    · rename_i ok
      cases e
      obtain ⟨l, xs, rfl, hx, lx⟩ := va.list
      cases rx
      exact sort_list hu I hx lx ok fun ys a la ha => q.list d ha la
    · cases e
  · cases e
  · cases e
  · rename_i ds n
    split at e
    · rename_i ok
      cases e
      obtain ⟨l, kvs, rfl, hr, l2⟩ := va.dk fun r z => n r z
      have hn : ds.length = kvs.length := l2.len
      rcases (Bool.or_eq_true _ _).mp ok.1 with o | o
      · obtain ⟨is, e1⟩ := Option.isSome_iff_exists.mp o
        have e2 := keyStrs_some e1
        have e3 := l2.strs e2
        have hlen : is.length < 64 := by
          have := congrArg List.length e2
          rw [List.length_map, List.length_map] at this
          have := ok.2
          omega
        refine call_sortedD hc pins s σ H _ _ Q I (.cons rx .nil) ⟨l, kvs, is, rfl, hr.rd, e3, hlen, fun ys p py sy hp => ?_⟩
        rw [e2, sortT_strs py sy] at q
        exact q.list d hp AtL.of_strs
      · obtain ⟨is, e1⟩ := Option.isSome_iff_exists.mp o
        have e2 := intsOf_some e1
        have e3 := l2.intk e2
        have hlen : is.length < 64 := by
          have := congrArg List.length e2
          rw [List.length_map, List.length_map] at this
          have := ok.2
          omega
        refine call_sortedDI hc pins s σ H _ _ Q I (.cons rx .nil) ⟨l, kvs, is, rfl, hr.rd, e3, hlen, fun ys p py sy hp => ?_⟩
        rw [e2, sortT_ints py sy] at q
        exact q.list d hp AtL.of_ints
    · cases e
  · cases e
end
end VM
/-! V7: min, max of lists of data; isinstance; dict of pairs -/
namespace VM
open PySem PySem.Spec PyProof.Rows L2
section
variable {X : Cx} {pins : List (Addr × Obj)} {s : Shared} {σ : L2.St} {H : Hp} {F : Addr → Prop}
theorem AtL.canLay {ts : List T} (h : ts.all SeqAt.shaped = true) : PyData.canLayAll0 ts = true := by
  induction ts with
  | nil => rfl
  | cons t ts ih =>
    rw [List.all_cons, Bool.and_eq_true] at h
    rw [PyData.canLayAll0, Bool.and_eq_true]
    exact ⟨SeqAt.canLay_of_shaped h.1, ih h.2⟩
theorem depthAll_le {ts : List T} (h : ts.all SeqAt.shaped = true) : PyData.depthAll ts ≤ 64 := by
  induction ts with
  | nil => simp [PyData.depthAll]
  | cons t ts ih =>
    rw [List.all_cons, Bool.and_eq_true] at h
    have a := SeqAt.depth_of_shaped h.1
    have b := ih h.2
    rw [PyData.depthAll]
    exact Nat.max_le.mpr ⟨a, b⟩
theorem reads_all (I : Inv X pins σ H s) {ts : List T} {vs : List V} {us : List Value} (l : AtL H F ts vs) (r : Vals vs us) (c : ts.all SeqAt.shaped = true) : ∃ as, ReadsAll s.heap us ts as := by
  have e := l.length
  have := PySem.W.each_readsAll (fun b : T × V => b.1) (each_reads I l r c)
  rw [zip_fst e] at this
  exact this
theorem minOk_parts {ts : List T} (ok : minOk ts = true) : (PySem.W.AlikeAll ts) ∧ ts.all SeqAt.shaped = true := by
  unfold minOk at ok
  rw [Bool.and_eq_true, Bool.and_eq_true] at ok
  obtain ⟨⟨o1, o2⟩, o3⟩ := ok
  refine ⟨⟨all_alike o1, fun x hx z => ?_⟩, o3⟩
  have := List.all_eq_true.mp o2 x hx
  rw [z] at this
  cases this
/-- the item that reads as the least -/
theorem pick (I : Inv X pins σ H s) {ts : List T} {vs : List V} {us : List Value} (l : AtL H F ts vs) (r : Vals vs us) (ok : minOk ts = true) {i : Nat} {v : Value} {h' : Heap} {m : T} {bs : List Addr} (hm : m ∈ ts) (e : us[i]? = some v) (rd : Reads h' v m bs)
    (k : ∀ b o, s.heap.get? b = some o → h'.get? b = some o) : ∃ x, RelV x v ∧ At H F m x := by
  obtain ⟨⟨al, _⟩, sh⟩ := minOk_parts ok
  have hi : i < us.length := by
    rcases Nat.lt_or_ge i us.length with h | h
    · exact h
    · rw [List.getElem?_eq_none h] at e; cases e
  have hv : i < vs.length := by rw [r.length]; exact hi
  have ht : i < ts.length := by rw [l.length]; exact hv
  obtain ⟨u, hu, ru⟩ := r.get (List.getElem?_eq_getElem hv)
  rw [e] at hu
  cases hu
  obtain ⟨x, hx, ha⟩ := l.get (List.getElem?_eq_getElem ht)
  rw [List.getElem?_eq_getElem hv] at hx
  cases hx
  have mem : ts[i] ∈ ts := List.getElem_mem ht
  obtain ⟨as, rd0⟩ := reads_of I (.inl ha) ru (shaped_lay (List.all_eq_true.mp sh _ mem))
  have rd1 := PyProof.Rows.Reads.keeps k rd0
  have := PySem.W.alike_unique _ _ _ _ _ (al _ hm _ mem) rd rd1
  rw [this]
  exact ⟨_, ru, ha⟩
theorem fold_mem {f : T → T → T} (hf : ∀ a y, f a y = a ∨ f a y = y) : ∀ (xs : List T) (x : T), xs.foldl f x ∈ x :: xs
  | [], x => .head _
  | y :: xs, x => by
    rw [List.foldl_cons]
    rcases List.mem_cons.mp (fold_mem hf xs (f x y)) with h | h
    · rw [h]
      rcases hf x y with e | e
      · rw [e]; exact .head _
      · rw [e]; exact .tail _ (.head _)
    · exact .tail _ (.tail _ h)
theorem minD_mem (x : T) (xs : List T) : PySem.W.minD x xs ∈ x :: xs := fold_mem (fun a y => by by_cases h : PySem.W.dataLt y a = true <;> simp [h]) xs x
theorem maxD_mem (x : T) (xs : List T) : PySem.W.maxD x xs ∈ x :: xs := fold_mem (fun a y => by by_cases h : PySem.W.dataLt a y = true <;> simp [h]) xs x
def minB : T → Option T
  | .list (x :: xs) => if minOk (x :: xs) = true then some (PySem.W.minD x xs) else none
  | _ => none
def maxB : T → Option T
  | .list (x :: xs) => if minOk (x :: xs) = true then some (PySem.W.maxD x xs) else none
  | _ => none
theorem cr_minV (hc : X.calm = true) (hu : X.A.units + 70 < cLine) : CallR X (.builtin "min") (RCof (bi1 minB)) := by
  refine cr1_of fun pins s σ H x v Q F a t I rx d va e q => ?_
  unfold minB at e
  split at e
  · split at e
    · rename_i ok
      cases e
      obtain ⟨l, xs, rfl, hx, lx⟩ := va.list
      cases rx
      obtain ⟨its, rv, pl, hz⟩ := I.list (.inl (.inl hx) : SqL X.K H l xs)
      obtain ⟨al, sh⟩ := minOk_parts ok
      obtain ⟨as, ra⟩ := reads_all I lx rv sh
      refine PySem.W.min_list_data (I.ok.hd hc) pl.isList ra al (by have := depthAll_le sh; omega) fun i w h' tk bs hi rd k => ?_
      obtain ⟨y, ry, hy⟩ := pick I lx rv ok (minD_mem _ _) (by simpa using hi) rd k
      exact ⟨y, H, I.kept k, ry, q.plain d hy⟩
    · cases e
  · cases e
theorem cr_maxV (hc : X.calm = true) (hu : X.A.units + 70 < cLine) : CallR X (.builtin "max") (RCof (bi1 maxB)) := by
  refine cr1_of fun pins s σ H x v Q F a t I rx d va e q => ?_
  unfold maxB at e
  split at e
  · split at e
    · rename_i ok
      cases e
      obtain ⟨l, xs, rfl, hx, lx⟩ := va.list
      cases rx
      obtain ⟨its, rv, pl, hz⟩ := I.list (.inl (.inl hx) : SqL X.K H l xs)
      obtain ⟨al, sh⟩ := minOk_parts ok
      obtain ⟨as, ra⟩ := reads_all I lx rv sh
      refine PySem.W.max_list_data (I.ok.hd hc) pl.isList ra al (by have := depthAll_le sh; omega) fun i w h' tk bs hi rd k => ?_
      obtain ⟨y, ry, hy⟩ := pick I lx rv ok (maxD_mem _ _) (by simpa using hi) rd k
      exact ⟨y, H, I.kept k, ry, q.plain d hy⟩
    · cases e
  · cases e

/-! ### isinstance -/
def tyName : T → String
  | .none => "NoneType"
  | .bool _ => "bool"
  | .int _ => "int"
  | .str _ => "str"
  | .list _ => "list"
  | .tuple _ => "tuple"
  | .dict _ => "dict"
def isT (n c : String) : Bool := n == c || (n == "bool" && c == "int")
def tys : List String := ["int", "bool", "str", "list", "tuple", "dict"]
theorem kit_one {K : PySem.W.Frag} (t : T) {c : String} (h : c ∈ tys) : PySem.W.kitOne K (.type (tyName t)) (.type c) = some (isT (tyName t) c) := by
  have : c = "int" ∨ c = "bool" ∨ c = "str" ∨ c = "list" ∨ c = "tuple" ∨ c = "dict" := by simpa [tys] using h
  rcases this with rfl | rfl | rfl | rfl | rfl | rfl <;> cases t <;> first | rfl | decide | (simp [PySem.W.kitOne, tyName, isT, PySem.W.kitCls]; done)
theorem kit_any {K : PySem.W.Frag} (t : T) : ∀ {cs : List String}, (∀ c ∈ cs, c ∈ tys) → PySem.W.kitAny K (.type (tyName t)) (cs.map Value.type) = some (cs.any (isT (tyName t)))
  | [], _ => rfl
  | c :: cs, h => by
    rw [List.map_cons, PySem.W.kitAny, kit_one t (h c (.head _)), List.any_cons]
    cases isT (tyName t) c with
    | true => rfl
    | false => exact kit_any t fun d m => h d (.tail _ m)
/-- what of a value's kind is told here -/
def plainD : T → Bool
  | .dict ((.none, .none) :: _) => false
  | _ => true
theorem tyX {K : PySem.W.Frag} {t : T} {v : V} (h : Bt H F t v) (p : plainD t = true) : TyX K H v (.type (tyName t)) := by
  cases t with
  | none => rw [h.none]; exact .base .non
  | bool b => rw [h.bool]; exact .base (.bl _)
  | int i => rw [h.int]; exact .base (.int _)
  | str x => rw [h.str]; exact .base (.str _)
  | list ts => obtain ⟨a, xs, rfl, e, _⟩ := h.list; exact .base (.lst e)
  | tuple ts => obtain ⟨a, xs, rfl, e, _⟩ := h.tuple; exact .base (.tup e)
  | dict ds =>
    obtain ⟨a, kvs, rfl, e, _⟩ := h.dk fun r z => by subst z; simp [plainD] at p
    rcases e with e | ⟨_, od, e⟩
    · exact .base (.dK e)
    · exact .fDict e

/-! ### a key put into a dict -/
def putD (ds : List (T × T)) (k v : T) : List (T × T) := if (ds.any fun p => PyData.eqv p.1 k) = true then ds.map (fun p => if PyData.eqv p.1 k = true then (p.1, v) else p) else ds ++ [(k, v)]
theorem eqv_keys (a b : List Key) : PyData.eqv (.tuple (a.map keyT)) (.tuple (b.map keyT)) = decide (a = b) := by
  simp only [PyData.eqv]
  exact eqvAll_keys a b
theorem AtD.any (k : Key) : ∀ {ds : List (T × T)} {kvs : List (Key × V)}, AtD H F ds kvs → (ds.any fun p => PyData.eqv p.1 (keyT k)) = kvs.any fun kv => decide (kv.1 = k)
  | _, _, .nil => rfl
  | _, _, .cons h l => by rw [List.any_cons, List.any_cons, eqv_key, AtD.any k l]
theorem AtE.any (k : List Key) : ∀ {ds : List (T × T)} {kvs : List (List Key × V)}, AtE H F ds kvs → (ds.any fun p => PyData.eqv p.1 (.tuple (k.map keyT))) = kvs.any fun kv => decide (kv.1 = k)
  | _, _, .nil => rfl
  | _, _, .cons h l => by rw [List.any_cons, List.any_cons, eqv_keys, AtE.any k l]
theorem AtD.app {k : Key} {t : T} {v : V} (h : At H F t v) : ∀ {ds : List (T × T)} {kvs : List (Key × V)}, AtD H F ds kvs → AtD H F (ds ++ [(keyT k, t)]) (kvs ++ [(k, v)])
  | _, _, .nil => .cons h .nil
  | _, _, .cons h2 l => .cons h2 (AtD.app h l)
theorem AtE.app {k : List Key} {t : T} {v : V} (h : At H F t v) : ∀ {ds : List (T × T)} {kvs : List (List Key × V)}, AtE H F ds kvs → AtE H F (ds ++ [(.tuple (k.map keyT), t)]) (kvs ++ [(k, v)])
  | _, _, .nil => .cons h .nil
  | _, _, .cons h2 l => .cons h2 (AtE.app h l)
theorem AtD.rep {k : Key} {t : T} {v : V} (h : At H F t v) : ∀ {ds : List (T × T)} {kvs : List (Key × V)}, AtD H F ds kvs → AtD H F (ds.map fun p => if PyData.eqv p.1 (keyT k) = true then (p.1, t) else p) (kvs.map fun kv => if kv.1 = k then (kv.1, v) else kv)
  | _, _, .nil => .nil
  | _, _, @AtD.cons _ _ j u w ds kvs h2 l => by
    rw [List.map_cons, List.map_cons, eqv_key]
    by_cases e : j = k
    · rw [if_pos (decide_eq_true e), if_pos e]
      exact .cons h (AtD.rep h l)
    · rw [if_neg (by rw [decide_eq_false e]; exact Bool.false_ne_true), if_neg e]
      exact .cons h2 (AtD.rep h l)
theorem AtE.rep {k : List Key} {t : T} {v : V} (h : At H F t v) : ∀ {ds : List (T × T)} {kvs : List (List Key × V)}, AtE H F ds kvs → AtE H F (ds.map fun p => if PyData.eqv p.1 (.tuple (k.map keyT)) = true then (p.1, t) else p) (kvs.map fun kv => if kv.1 = k then (kv.1, v) else kv)
  | _, _, .nil => .nil
  | _, _, @AtE.cons _ _ j u w ds kvs h2 l => by
    rw [List.map_cons, List.map_cons, eqv_keys]
    by_cases e : j = k
    · rw [if_pos (decide_eq_true e), if_pos e]
      exact .cons h (AtE.rep h l)
    · rw [if_neg (by rw [decide_eq_false e]; exact Bool.false_ne_true), if_neg e]
      exact .cons h2 (AtE.rep h l)
theorem AtD.put {k : Key} {t : T} {v : V} (h : At H F t v) {ds : List (T × T)} {kvs : List (Key × V)} (l : AtD H F ds kvs) : AtD H F (putD ds (keyT k) t) (putK kvs k v) := by
  unfold putD putK
  rw [l.any k]
  split
  · exact l.rep h
  · exact l.app h
theorem AtE.put {k : List Key} {t : T} {v : V} (h : At H F t v) {ds : List (T × T)} {kvs : List (List Key × V)} (l : AtE H F ds kvs) : AtE H F (putD ds (.tuple (k.map keyT)) t) (putK kvs k v) := by
  unfold putD putK
  rw [l.any k]
  split
  · exact l.rep h
  · exact l.app h

/-! ### a dict of pairs, of a dict -/
def pairsOfT : List T → Option (List (T × T))
  | [] => some []
  | .tuple [k, v] :: r => (keyOf k).bind fun _ => (pairsOfT r).map ((k, v) :: ·)
  | _ => none
/-- later ones win -/
def mergeT (ds more : List (T × T)) : List (T × T) := more.foldl (fun a p => putD a p.1 p.2) ds
theorem AtD.merge : ∀ {more : List (T × T)} {mv : List (Key × V)}, AtD H F more mv → ∀ {ds : List (T × T)} {kvs : List (Key × V)}, AtD H F ds kvs → AtD H F (mergeT ds more) (mergeK kvs mv)
  | _, _, .nil, _, _, l => l
  | _, _, .cons h m, _, _, l => AtD.merge m (l.put h)
def dictB : T → Option T
  | .dict ((.none, .none) :: _) => none
  | .dict ds => some (.dict ds)
  | .list ts => (pairsOfT ts).map fun ps => .dict (mergeT [] ps)
  | _ => none
theorem new_dk {p : Addr} {ds : List (T × T)} {kvs : List (Key × V)} (h : H p = none) (l : AtD H F ds kvs) : At (upd H p (.dK kvs)) (add1 F p) (.dict ds) (.ref p) :=
  .dK (.inl upd_same) (.inr rfl) ((new_ext (F := F) (p := p) h).kids (t := .dict ds) (o := .dK kvs) (new_kp (W := fun _ => False) h) (fun _ _ z => z) l)
theorem Res.dk {p : Addr} {ds : List (T × T)} {kvs : List (Key × V)} {Q : VK} (d : dF F H) (h : Res F H (.dict ds, false) Q) (hp : H p = none) (l : AtD H F ds kvs) : Q (.ref p) (upd H p (.dK kvs)) :=
  h _ _ _ (new_ext hp) (new_kp hp) (new_dF d) (new_dk hp l)
theorem AtL.pairs : ∀ {ts : List T} {ps : List (T × T)} {xs : List V}, AtL H F ts xs → pairsOfT ts = some ps → ∃ (as : List Addr) (kvs : List (Key × V)), xs = as.map V.ref ∧ Paired (fun p kv => H p = some (.tup [kV kv.1, kv.2])) as kvs ∧ AtD H F ps kvs
  | _, _, _, .nil, e => by cases e; exact ⟨[], [], rfl, .nil, .nil⟩
  | _, _, _, @AtL.cons _ _ t v ts xs h l, e => by
    unfold pairsOfT at e
    split at e
    · contradiction
    · rename_i k w r e0
      cases e0
      obtain ⟨kk, e1, e⟩ := Option.bind_eq_some_iff.mp e
      obtain ⟨qs, e2, rfl⟩ := Option.map_eq_some_iff.mp e
      obtain ⟨as, kvs, rfl, pr, ad⟩ := AtL.pairs l e2
      rw [keyOf_some e1] at h ⊢
      cases h with
      | tuple r l2 =>
        cases l2 with
        | cons h1 l2 =>
          cases l2 with
          | cons h2 l2 =>
            cases l2
            rw [keyT_at (.inl h1)] at r
            exact ⟨_ :: as, (kk, _) :: kvs, rfl, .cons r pr, .cons h2 ad⟩
    · cases e
theorem cr_dictV (hc : X.calm = true) : CallR X (.type "dict") (RCof (bi1 dictB)) := by
  refine cr1_of fun pins s σ H x v Q F a t I rx d va e q => ?_
  unfold dictB at e
  split at e
  · cases e
  · rename_i ds n
    cases e
    obtain ⟨l, kvs, rfl, hr, l2⟩ := va.dk fun r z => n r z
    exact call_dictD pins s σ H _ _ Q I (.cons rx .nil) ⟨l, kvs, rfl, hr.rd, fun p hp => q.dk d hp l2⟩
  · obtain ⟨ps, e1, rfl⟩ := Option.map_eq_some_iff.mp e
    obtain ⟨l, xs, rfl, hx, lx⟩ := va.list
    obtain ⟨as, kvs, rfl, pr, ad⟩ := lx.pairs e1
    exact call_dictP hc pins s σ H _ _ Q I (.cons rx .nil) ⟨l, as, kvs, rfl, .inl (.inl hx), L2.Paired.mapP pr fun _ _ z => .inl (.inl z), fun p hp => q.dk d hp (AtD.merge ad .nil)⟩
  · cases e
end
end VM
/-! V8: slots and the heap; expressions -/
namespace VM
open PySem PySem.Spec PyProof.Rows L2

/-- the spring's list, its cells -/
abbrev Sp2 := Option (Addr × Addr)
def Ws : Sp2 → Addr → Prop
  | none, _ => False
  | some (s, b), a => a = s ∨ a = b
def StmAt (H : Hp) (F : Addr → Prop) : Sp2 → G → Prop
  | none, none => True
  | some (s, b), some ds => s ≠ b ∧ ¬ F s ∧ ¬ F b ∧ H s = some (.lst [.ref b, .int ds.left, .int ds.cnt, .int ds.mix]) ∧ H b = some (.lst (ds.cells.map V.int))
  | _, _ => False
def getv (σ : L2.St) (i : Nat) : Option V := (σ[i]?).join
def isOw : Sl → Bool
  | .ow _ => true
  | _ => false
def isRo : Sl → Bool
  | .ro _ => true
  | _ => false
def SlOk (H : Hp) (F : Addr → Prop) (S : Sp2) : Sl → Option V → Prop
  | .un, _ => True
  | .cl t, some v => At H F t v
  | .ow t, some (.ref a) => Own H F t a ∧ ¬ F a ∧ ¬ Ws S a
  | .ro t, some v => Bt H F t v ∧ ∀ a, v = .ref a → ¬ Ws S a
  | .stm, some (.ref a) => ∃ b, S = some (a, b)
  | _, _ => False
structure RV (S : Sp2) (F : Addr → Prop) (g : G) (sl : Sls) (σ : L2.St) (H : Hp) : Prop where
  len : sl.length = σ.length
  d : dF F H
  st : StmAt H F S g
  ok : ∀ i, SlOk H F S (gets sl i) (getv σ i)
  sep : ∀ i j a, isOw (gets sl i) = true → (isOw (gets sl j) = true ∨ isRo (gets sl j) = true) → getv σ i = some (.ref a) → getv σ j = some (.ref a) → i = j
/-- a value, its own container apart from the spring -/
def ValS (S : Sp2) (H : Hp) (F : Addr → Prop) (r : R) (v : V) : Prop := Val H F r v ∧ (r.2 = true → ∀ a, v = .ref a → ¬ Ws S a)
/-- what an expression may do -/
structure Mv (S : Sp2) (F : Addr → Prop) (H : Hp) (F' : Addr → Prop) (H' : Hp) : Prop where
  ext : Ext F F' H
  kp : Kp F (Ws S) H H'
section
variable {S : Sp2} {F F' F2 : Addr → Prop} {H H' H2 : Hp} {g g' : G} {sl : Sls} {σ : L2.St}
theorem Mv.refl : Mv S F H F H := ⟨.refl, .refl⟩
theorem Mv.trans (a : Mv S F H F' H') (b : Mv S F' H' F2 H2) : Mv S F H F2 H2 := ⟨a.ext.trans a.kp b.ext, a.kp.trans a.ext b.kp⟩
theorem Mv.of (e : Ext F F' H) (k : Kp F (fun _ => False) H H') : Mv S F H F' H' := ⟨e, k.mono fun _ z => z.elim⟩
theorem StmAt.off (h : StmAt H F S g) : ∀ a, F a → ¬ Ws S a := fun a f w => by
  cases S with
  | none => exact w
  | some p =>
    cases g with
    | none => exact h
    | some ds =>
      obtain ⟨_, n1, n2, _⟩ := h
      rcases w with rfl | rfl
      · exact n1 f
      · exact n2 f
theorem StmAt.dom (h : StmAt H F S g) {a : Addr} (w : Ws S a) : H a ≠ none := by
  cases S with
  | none => exact w.elim
  | some p =>
    cases g with
    | none => exact h.elim
    | some ds =>
      obtain ⟨_, n1, n2, e1, e2⟩ := h
      rcases w with rfl | rfl
      · rw [e1]; simp
      · rw [e2]; simp
/-- where nothing of the spring is written -/
theorem StmAt.keep (h : StmAt H F S g) (e : Ext F F' H) {W : Addr → Prop} (k : Kp F W H H') (w : ∀ a, Ws S a → ¬ W a) : StmAt H' F' S g := by
  cases S with
  | none => cases g <;> exact h
  | some p =>
    cases g with
    | none => exact h
    | some ds =>
      have hd := @StmAt.dom _ _ _ _ h
      obtain ⟨n0, n1, n2, e1, e2⟩ := h
      refine ⟨n0, fun z => ?_, fun z => ?_, k.lst (w _ (.inl rfl)) e1, k.lst (w _ (.inr rfl)) e2⟩
      · rcases e.new _ z with q | q
        · exact n1 q
        · exact hd (.inl rfl) q
      · rcases e.new _ z with q | q
        · exact n2 q
        · exact hd (.inr rfl) q
theorem At.mv (m : Mv S F H F' H') (o : ∀ a, F a → ¬ Ws S a) {t : T} {v : V} (h : At H F t v) : At H' F' t v := m.ext.val m.kp o h
theorem AtL.mv (m : Mv S F H F' H') (o : ∀ a, F a → ¬ Ws S a) {t : List T} {v : List V} (h : AtL H F t v) : AtL H' F' t v := m.ext.vals m.kp o h
theorem Bt.mv (m : Mv S F H F' H') (o : ∀ a, F a → ¬ Ws S a) {t : T} {v : V} (h : Bt H F t v) (n : ∀ a, v = .ref a → ¬ Ws S a) : Bt H' F' t v := by
  rcases h with h | ⟨a, ob, rfl, r, k⟩
  · exact .inl (h.mv m o)
  · exact .inr ⟨a, ob, rfl, m.kp.rx (n a rfl) r, m.ext.kids m.kp o k⟩
theorem ValS.mv (m : Mv S F H F' H') (o : ∀ a, F a → ¬ Ws S a) {r : R} {v : V} (h : ValS S H F r v) : ValS S H' F' r v := by
  obtain ⟨h1, h2⟩ := h
  refine ⟨?_, h2⟩
  unfold Val at h1 ⊢
  split
  · rename_i e
    rw [if_pos e] at h1
    exact h1.mv m o (h2 e)
  · rename_i e
    rw [if_neg e] at h1
    exact h1.mv m o
theorem Own.mv (m : Mv S F H F' H') (o : ∀ a, F a → ¬ Ws S a) {t : T} {a : Addr} (h : Own H F t a) (n : ¬ F a) (w : ¬ Ws S a) : Own H' F' t a ∧ ¬ F' a := by
  obtain ⟨ob, e, k⟩ := h
  refine ⟨⟨ob, ?_, m.ext.kids m.kp o k⟩, fun z => ?_⟩
  · rcases m.kp.ex a ob e w with q | ⟨q, _⟩
    · exact q
    · exact (n q).elim
  · rcases m.ext.new a z with q | q
    · exact n q
    · rw [e] at q; cases q
theorem SlOk.mv (m : Mv S F H F' H') (o : ∀ a, F a → ¬ Ws S a) {x : Sl} {v : Option V} (h : SlOk H F S x v) : SlOk H' F' S x v := by
  unfold SlOk at h ⊢
  split at h
  · trivial
  · exact h.mv m o
  · exact ⟨(h.1.mv m o h.2.1 h.2.2).1, (h.1.mv m o h.2.1 h.2.2).2, h.2.2⟩
  · exact ⟨h.1.mv m o h.2, h.2⟩
  · exact h
  · exact h.elim
theorem RV.keep (r : RV S F g sl σ H) (m : Mv S F H F' H') (d : dF F' H') (st : StmAt H' F' S g') : RV S F' g' sl σ H' :=
  ⟨r.len, d, st, fun i => (r.ok i).mv m r.st.off, r.sep⟩
/-- where nothing at all is written -/
theorem RV.keep0 (r : RV S F g sl σ H) (e : Ext F F' H) (k : Kp F (fun _ => False) H H') (d : dF F' H') : RV S F' g sl σ H' :=
  r.keep (.of e k) d (r.st.keep e k fun _ _ z => z)

/-! ### readings -/
def PostE (S : Sp2) (F : Addr → Prop) (sl : Sls) (σ : L2.St) (H : Hp) (r : R) (g' : G) (Q : VK) : Prop := ∀ F' v H', Mv S F H F' H' → RV S F' g' sl σ H' → ValS S H' F' r v → Q v H'
/-- an expression does what m says -/
def rd (m : Ex) : TE := fun σ H Q => ∃ S F sl g r g', RV S F g sl σ H ∧ m sl g = some (r, g') ∧ PostE S F sl σ H r g' Q
inductive ValsS (S : Sp2) (H : Hp) (F : Addr → Prop) : List R → List V → Prop
  | nil : ValsS S H F [] []
  | cons {r : R} {v : V} {rs : List R} {vs : List V} : ValS S H F r v → ValsS S H F rs vs → ValsS S H F (r :: rs) (v :: vs)
def PostA (S : Sp2) (F : Addr → Prop) (sl : Sls) (σ : L2.St) (H : Hp) (r : List R) (g' : G) (Q : List V → Hp → Prop) : Prop := ∀ F' v H', Mv S F H F' H' → RV S F' g' sl σ H' → ValsS S H' F' r v → Q v H'
def rdA (m : Exs) : TA := fun σ H Q => ∃ S F sl g r g', RV S F g sl σ H ∧ m sl g = some (r, g') ∧ PostA S F sl σ H r g' Q
def PostT (S : Sp2) (F : Addr → Prop) (sl : Sls) (σ : L2.St) (H : Hp) (g' : G) (b : Bool) (Q : Bool → Hp → Prop) : Prop := ∀ F' H', Mv S F H F' H' → RV S F' g' sl σ H' → Q b H'
/-- a truth value -/
def boolOf : R → Option Bool
  | (.bool b, _) => some b
  | _ => none
/-- a test: m tells a truth value -/
def rdT (m : Ex) : TT := fun σ H Q => ∃ S F sl g r b g', RV S F g sl σ H ∧ m sl g = some (r, g') ∧ boolOf r = some b ∧ PostT S F sl σ H g' b Q
theorem ValsS.mv (m : Mv S F H F' H') (o : ∀ a, F a → ¬ Ws S a) : ∀ {rs : List R} {vs : List V}, ValsS S H F rs vs → ValsS S H' F' rs vs
  | _, _, .nil => .nil
  | _, _, .cons h l => .cons (h.mv m o) (ValsS.mv m o l)
theorem ValsS.valsR : ∀ {rs : List R} {vs : List V}, ValsS S H F rs vs → ValsR H F rs vs
  | _, _, .nil => .nil
  | _, _, .cons h l => .cons h.1 (ValsS.valsR l)
theorem ValS.cl {t : T} {v : V} (h : At H F t v) : ValS S H F (t, false) v := ⟨h, fun z => nomatch z⟩
theorem ValS.clean {r : R} {v : V} {t : T} (h : ValS S H F r v) (e : clean r = some t) : At H F t v := by
  obtain ⟨h1, _⟩ := h
  obtain ⟨u, b⟩ := r
  cases b with
  | false => cases e; exact h1
  | true =>
    simp only [VM.clean] at e
    split at e
    · rename_i p
      cases e
      exact Bt.at h1 p
    · cases e
theorem ValsS.cleans : ∀ {rs : List R} {vs : List V} {ts : List T}, ValsS S H F rs vs → VM.cleans rs = some ts → AtL H F ts vs
  | _, _, _, .nil, e => by cases e; exact .nil
  | _, _, _, .cons h l, e => by
    simp only [VM.cleans] at e
    obtain ⟨t, e1, e⟩ := Option.bind_eq_some_iff.mp e
    obtain ⟨ts, e2, e⟩ := Option.bind_eq_some_iff.mp e
    cases e
    exact .cons (h.clean e1) (ValsS.cleans l e2)
end
theorem PE.imp {X : Cx} {e : Expr} {t t' : TE} (h : PE X e t) (i : ∀ σ H Q, t' σ H Q → t σ H Q) : PE X e t' := ⟨fun pins s σ H Q I q => h.run pins s σ H Q I (i σ H Q q)⟩
theorem PT.imp {X : Cx} {e : Expr} {t t' : TT} (h : PT X e t) (i : ∀ σ H Q, t' σ H Q → t σ H Q) : PT X e t' := ⟨fun pins s σ H Q I q => h.run pins s σ H Q I (i σ H Q q)⟩
theorem PW.imp {X : Cx} {e : Expr} {t t' : TT} (h : PW X e t) (i : ∀ σ H Q, t' σ H Q → t σ H Q) : PW X e t' := ⟨fun wh pins s σ H Q I q => h.run wh pins s σ H Q I (i σ H Q q)⟩
theorem PA.imp {X : Cx} {e : List Expr} {t t' : TA} (h : PA X e t) (i : ∀ σ H Q, t' σ H Q → t σ H Q) : PA X e t' := ⟨fun wh pins s σ H Q I q => h.run wh pins s σ H Q I (i σ H Q q)⟩
theorem PS.imp {X : Cx} {e : Stmt} {t t' : TS} (h : PS X e t) (i : ∀ D σ H, t' D σ H → t D σ H) : PS X e t' := ⟨fun pins s σ H Q I q => h.run pins s σ H Q I (i Q σ H q)⟩
theorem PSs.imp {X : Cx} {e : List Stmt} {t t' : TS} (h : PSs X e t) (i : ∀ D σ H, t' D σ H → t D σ H) : PSs X e t' := ⟨fun pins s σ H Q I q => h.run pins s σ H Q I (i Q σ H q)⟩

/-! ### combinators -/
def eVar (i : Nat) : Ex := fun sl g => match gets sl i with
  | .cl t => some ((t, false), g)
  | .ow t => some ((t, true), g)
  | .ro t => some ((t, true), g)
  | _ => none
def eLit (t : T) : Ex := fun _ g => some ((t, false), g)
def eOp (f : T → T → Option T) (ma mb : Ex) : Ex := fun sl g => (ma sl g).bind fun a => (mb sl a.2).bind fun b => (f a.1.1 b.1.1).map fun t => ((t, false), b.2)
def eUn (f : T → Option T) (ma : Ex) : Ex := fun sl g => (ma sl g).bind fun a => (f a.1.1).map fun t => ((t, false), a.2)
def eAnd (ma mb : Ex) : Ex := fun sl g => (ma sl g).bind fun a => (boolOf a.1).bind fun b => if b = true then mb sl a.2 else some ((.bool false, false), a.2)
def eOr (ma mb : Ex) : Ex := fun sl g => (ma sl g).bind fun a => (boolOf a.1).bind fun b => if b = true then some ((.bool true, false), a.2) else mb sl a.2
def eNot (ma : Ex) : Ex := fun sl g => (ma sl g).bind fun a => (boolOf a.1).map fun b => ((.bool (!b), false), a.2)
def eIf (mc ma mb : Ex) : Ex := fun sl g => (mc sl g).bind fun c => (boolOf c.1).bind fun b => if b = true then ma sl c.2 else mb sl c.2
def eChain (f1 f2 : T → T → Option T) (ma mb mc : Ex) : Ex := fun sl g => (ma sl g).bind fun a => (mb sl a.2).bind fun b => (f1 a.1.1 b.1.1).bind fun t => (boolOf (t, false)).bind fun k =>
  if k = true then (mc sl b.2).bind fun c => (f2 b.1.1 c.1.1).map fun t => ((t, false), c.2) else some ((.bool false, false), b.2)
def aNil : Exs := fun _ g => some ([], g)
def aCons (ma : Ex) (mr : Exs) : Exs := fun sl g => (ma sl g).bind fun a => (mr sl a.2).map fun r => (a.1 :: r.1, r.2)
def eTup (ms : Exs) : Ex := fun sl g => (ms sl g).bind fun a => (cleans a.1).bind fun ts => (mkT ts).map fun t => ((t, false), a.2)
def eLst (ms : Exs) : Ex := fun sl g => (ms sl g).bind fun a => (cleans a.1).bind fun ts => (mkL ts).map fun t => ((t, false), a.2)
def eBi (f : List R → Option R) (ms : Exs) : Ex := fun sl g => (ms sl g).bind fun a => (f a.1).bind fun r => (clean r).map fun t => ((t, false), a.2)
end VM
/-! V9: expressions, sound -/
namespace VM
open PySem PySem.Spec PyProof.Rows L2

theorem bsome {α β : Type} {o : Option α} {f : α → Option β} {b : β} (h : o.bind f = some b) : ∃ a, o = some a ∧ f a = some b := Option.bind_eq_some_iff.mp h
theorem msome {α β : Type} {o : Option α} {f : α → β} {b : β} (h : o.map f = some b) : ∃ a, o = some a ∧ f a = b := Option.map_eq_some_iff.mp h
section
variable {σ : L2.St} {H : Hp} {Q : VK} {ma mb mc : Ex} {f f1 f2 : T → T → Option T}
theorem boolOf_val {r : R} {b : Bool} (e : boolOf r = some b) : r.1 = .bool b := by
  obtain ⟨t, k⟩ := r
  unfold boolOf at e
  split at e
  · rename_i e1; cases e1; cases e; rfl
  · cases e
theorem boolOf_bl {S : Sp2} {F : Addr → Prop} {H : Hp} {r : R} {v : V} {b : Bool} (h : ValS S H F r v) (e : boolOf r = some b) : v = .bl b := by
  have := h.1.bt
  rw [boolOf_val e] at this
  exact this.bool
/-- values move -/
theorem tOp_of (h : rd (eOp f ma mb) σ H Q) : tOp (R2of (op2 f)) (rd ma) (rd mb) σ H Q := by
  obtain ⟨S, F, sl, g, r, g', rv, e, post⟩ := h
  obtain ⟨⟨a, g1⟩, e1, e⟩ := bsome e
  obtain ⟨⟨b, g2⟩, e2, e⟩ := bsome e
  obtain ⟨t, e3, e⟩ := msome e
  cases e
  refine ⟨S, F, sl, g, a, g1, rv, e1, fun F1 x H1 m1 rv1 v1 => ⟨S, F1, sl, g1, b, g2, rv1, e2, fun F2 y H2 m2 rv2 v2 => ?_⟩⟩
  refine ⟨F2, a, b, (t, false), rv2.d, (v1.mv m2 rv1.st.off).1, v2.1, by unfold op2; rw [e3]; rfl, fun F3 z H3 x3 k3 d3 v3 => ?_⟩
  exact post F3 z H3 (m1.trans (m2.trans (.of x3 k3))) (rv2.keep0 x3 k3 d3) (.cl v3)
theorem tUn_of {f : T → Option T} (h : rd (eUn f ma) σ H Q) : tUn (R1of (op1 f)) (rd ma) σ H Q := by
  obtain ⟨S, F, sl, g, r, g', rv, e, post⟩ := h
  obtain ⟨⟨a, g1⟩, e1, e⟩ := bsome e
  obtain ⟨t, e3, e⟩ := msome e
  cases e
  refine ⟨S, F, sl, g, a, g1, rv, e1, fun F1 x H1 m1 rv1 v1 => ?_⟩
  refine ⟨F1, a, (t, false), rv1.d, v1.1, by unfold op1; rw [e3]; rfl, fun F3 z H3 x3 k3 d3 v3 => ?_⟩
  exact post F3 z H3 (m1.trans (.of x3 k3)) (rv1.keep0 x3 k3 d3) (.cl v3)
theorem tAndV_of (h : rd (eAnd ma mb) σ H Q) : tAndV (rd ma) (rd mb) σ H Q := by
  obtain ⟨S, F, sl, g, r, g', rv, e, post⟩ := h
  obtain ⟨⟨a, g1⟩, e1, e⟩ := bsome e
  obtain ⟨b, e2, e⟩ := bsome e
  refine ⟨S, F, sl, g, a, g1, rv, e1, fun F1 x H1 m1 rv1 v1 => ⟨b, boolOf_bl v1 e2, ?_⟩⟩
  cases b with
  | true =>
    rw [if_pos rfl] at e ⊢
    exact ⟨S, F1, sl, g1, r, g', rv1, e, fun F2 y H2 m2 rv2 v2 => post F2 y H2 (m1.trans m2) rv2 v2⟩
  | false =>
    rw [if_neg Bool.false_ne_true] at e ⊢
    cases e
    exact post F1 _ H1 m1 rv1 (.cl .bool)
theorem tOrV_of (h : rd (eOr ma mb) σ H Q) : tOrV (rd ma) (rd mb) σ H Q := by
  obtain ⟨S, F, sl, g, r, g', rv, e, post⟩ := h
  obtain ⟨⟨a, g1⟩, e1, e⟩ := bsome e
  obtain ⟨b, e2, e⟩ := bsome e
  refine ⟨S, F, sl, g, a, g1, rv, e1, fun F1 x H1 m1 rv1 v1 => ⟨b, boolOf_bl v1 e2, ?_⟩⟩
  cases b with
  | false =>
    rw [if_neg Bool.false_ne_true] at e ⊢
    exact ⟨S, F1, sl, g1, r, g', rv1, e, fun F2 y H2 m2 rv2 v2 => post F2 y H2 (m1.trans m2) rv2 v2⟩
  | true =>
    rw [if_pos rfl] at e ⊢
    cases e
    exact post F1 _ H1 m1 rv1 (.cl .bool)
theorem tNotV_of (h : rd (eNot ma) σ H Q) : tNotV (rd ma) σ H Q := by
  obtain ⟨S, F, sl, g, r, g', rv, e, post⟩ := h
  obtain ⟨⟨a, g1⟩, e1, e⟩ := bsome e
  obtain ⟨b, e2, e⟩ := msome e
  cases e
  exact ⟨S, F, sl, g, a, g1, rv, e1, fun F1 x H1 m1 rv1 v1 => ⟨b, boolOf_bl v1 e2, post F1 _ H1 m1 rv1 (.cl .bool)⟩⟩
/-- a test of a value -/
theorem rd_of_rdT {m : Ex} {Q : Bool → Hp → Prop} (h : rdT m σ H Q) : rd m σ H fun x H1 => ∃ c, x = .bl c ∧ Q c H1 := by
  obtain ⟨S, F, sl, g, r, b, g', rv, e, eb, post⟩ := h
  exact ⟨S, F, sl, g, _, g', rv, e, fun F1 x H1 m1 rv1 v1 => ⟨b, boolOf_bl v1 eb, post F1 H1 m1 rv1⟩⟩
theorem tAnd_of {Q : Bool → Hp → Prop} (h : rdT (eAnd ma mb) σ H Q) : tAnd (rdT ma) (rdT mb) σ H Q := by
  obtain ⟨S, F, sl, g, r, b, g', rv, e, eb, post⟩ := h
  obtain ⟨⟨a, g1⟩, e1, e⟩ := bsome e
  obtain ⟨c, e2, e⟩ := bsome e
  refine ⟨S, F, sl, g, a, c, g1, rv, e1, e2, fun F1 H1 m1 rv1 => ?_⟩
  cases c with
  | true =>
    rw [if_pos rfl] at e ⊢
    exact ⟨S, F1, sl, g1, r, b, g', rv1, e, eb, fun F2 H2 m2 rv2 => post F2 H2 (m1.trans m2) rv2⟩
  | false =>
    rw [if_neg Bool.false_ne_true] at e ⊢
    cases e
    cases eb
    exact post F1 H1 m1 rv1
theorem tOr_of {Q : Bool → Hp → Prop} (h : rdT (eOr ma mb) σ H Q) : tOr (rdT ma) (rdT mb) σ H Q := by
  obtain ⟨S, F, sl, g, r, b, g', rv, e, eb, post⟩ := h
  obtain ⟨⟨a, g1⟩, e1, e⟩ := bsome e
  obtain ⟨c, e2, e⟩ := bsome e
  refine ⟨S, F, sl, g, a, c, g1, rv, e1, e2, fun F1 H1 m1 rv1 => ?_⟩
  cases c with
  | false =>
    rw [if_neg Bool.false_ne_true] at e ⊢
    exact ⟨S, F1, sl, g1, r, b, g', rv1, e, eb, fun F2 H2 m2 rv2 => post F2 H2 (m1.trans m2) rv2⟩
  | true =>
    rw [if_pos rfl] at e ⊢
    cases e
    cases eb
    exact post F1 H1 m1 rv1
theorem tNot_of {Q : Bool → Hp → Prop} (h : rdT (eNot ma) σ H Q) : tNot (rdT ma) σ H Q := by
  obtain ⟨S, F, sl, g, r, b, g', rv, e, eb, post⟩ := h
  obtain ⟨⟨a, g1⟩, e1, e⟩ := bsome e
  obtain ⟨c, e2, e⟩ := msome e
  cases e
  cases eb
  exact ⟨S, F, sl, g, a, c, g1, rv, e1, e2, post⟩
theorem tIf_of (h : rd (eIf mc ma mb) σ H Q) : tIf (rdT mc) (rd ma) (rd mb) σ H Q := by
  obtain ⟨S, F, sl, g, r, g', rv, e, post⟩ := h
  obtain ⟨⟨a, g1⟩, e1, e⟩ := bsome e
  obtain ⟨c, e2, e⟩ := bsome e
  refine ⟨S, F, sl, g, a, c, g1, rv, e1, e2, fun F1 H1 m1 rv1 => ?_⟩
  cases c with
  | true =>
    rw [if_pos rfl] at e ⊢
    exact ⟨S, F1, sl, g1, r, g', rv1, e, fun F2 y H2 m2 rv2 v2 => post F2 y H2 (m1.trans m2) rv2 v2⟩
  | false =>
    rw [if_neg Bool.false_ne_true] at e ⊢
    exact ⟨S, F1, sl, g1, r, g', rv1, e, fun F2 y H2 m2 rv2 v2 => post F2 y H2 (m1.trans m2) rv2 v2⟩
theorem tChain_of (h : rd (eChain f1 f2 ma mb mc) σ H Q) : tChain (R2of (op2 f1)) (R2of (op2 f2)) (rd ma) (rd mb) (rd mc) σ H Q := by
  obtain ⟨S, F, sl, g, r, g', rv, e, post⟩ := h
  obtain ⟨⟨a, g1⟩, e1, e⟩ := bsome e
  obtain ⟨⟨b, g2⟩, e2, e⟩ := bsome e
  obtain ⟨t, e3, e⟩ := bsome e
  obtain ⟨k, e4, e⟩ := bsome e
  refine ⟨S, F, sl, g, a, g1, rv, e1, fun F1 x H1 m1 rv1 v1 => ⟨S, F1, sl, g1, b, g2, rv1, e2, fun F2 y H2 m2 rv2 v2 => ?_⟩⟩
  refine ⟨F2, a, b, (t, false), rv2.d, (v1.mv m2 rv1.st.off).1, v2.1, by unfold op2; rw [e3]; rfl, fun F3 z H3 x3 k3 d3 v3 => ?_⟩
  have rv3 := rv2.keep0 x3 k3 d3
  have m3 : Mv S F2 H2 F3 H3 := .of x3 k3
  refine ⟨k, boolOf_bl (S := S) (r := (t, false)) (.cl v3) e4, ?_⟩
  cases k with
  | true =>
    rw [if_pos rfl] at e ⊢
    obtain ⟨⟨c, g3⟩, e5, e⟩ := bsome e
    obtain ⟨u, e6, e⟩ := msome e
    cases e
    refine ⟨S, F3, sl, g2, c, g3, rv3, e5, fun F4 w H4 m4 rv4 v4 => ?_⟩
    refine ⟨F4, b, c, (u, false), rv4.d, ((v2.mv m3 rv2.st.off).mv m4 rv3.st.off).1, v4.1, by unfold op2; rw [e6]; rfl, fun F5 z5 H5 x5 k5 d5 v5 => ?_⟩
    exact post F5 z5 H5 (m1.trans (m2.trans (m3.trans (m4.trans (.of x5 k5))))) (rv4.keep0 x5 k5 d5) (.cl v5)
  | false =>
    rw [if_neg Bool.false_ne_true] at e ⊢
    cases e
    exact post F3 _ H3 (m1.trans (m2.trans m3)) rv3 (.cl .bool)
/-! ### argument lists -/
theorem tNil_of {Q : List V → Hp → Prop} (h : rdA aNil σ H Q) : tNil σ H Q := by
  obtain ⟨S, F, sl, g, r, g', rv, e, post⟩ := h
  cases e
  exact post F [] H .refl rv .nil
theorem tCons_of {mr : Exs} {Q : List V → Hp → Prop} (h : rdA (aCons ma mr) σ H Q) : tCons (rd ma) (rdA mr) σ H Q := by
  obtain ⟨S, F, sl, g, r, g', rv, e, post⟩ := h
  obtain ⟨⟨a, g1⟩, e1, e⟩ := bsome e
  obtain ⟨⟨b, g2⟩, e2, e⟩ := msome e
  cases e
  exact ⟨S, F, sl, g, a, g1, rv, e1, fun F1 x H1 m1 rv1 v1 => ⟨S, F1, sl, g1, b, g2, rv1, e2, fun F2 y H2 m2 rv2 v2 => post F2 (x :: y) H2 (m1.trans m2) rv2 (.cons (v1.mv m2 rv1.st.off) v2)⟩⟩
theorem tTup_of {ms : Exs} (h : rd (eTup ms) σ H Q) : tTup (rdA ms) σ H Q := by
  obtain ⟨S, F, sl, g, r, g', rv, e, post⟩ := h
  obtain ⟨⟨a, g1⟩, e1, e⟩ := bsome e
  obtain ⟨ts, e2, e⟩ := bsome e
  obtain ⟨t, e3, e⟩ := msome e
  cases e
  unfold mkT at e3
  split at e3
  · rename_i hl
    cases e3
    refine ⟨S, F, sl, g, a, g1, rv, e1, fun F1 xs H1 m1 rv1 v1 => ?_⟩
    have l := v1.cleans e2
    refine ⟨by rw [← l.length]; exact hl, fun p hp => ?_⟩
    exact post F1 _ _ (m1.trans (.of .refl (new_kp hp))) (rv1.keep0 .refl (new_kp hp) (up_dF rv1.d)) (.cl (new_tup hp l))
  · cases e3
theorem tLst_of {ms : Exs} (h : rd (eLst ms) σ H Q) : tLst (rdA ms) σ H Q := by
  obtain ⟨S, F, sl, g, r, g', rv, e, post⟩ := h
  obtain ⟨⟨a, g1⟩, e1, e⟩ := bsome e
  obtain ⟨ts, e2, e⟩ := bsome e
  obtain ⟨t, e3, e⟩ := msome e
  cases e
  unfold mkL at e3
  split at e3
  · rename_i hl
    cases e3
    refine ⟨S, F, sl, g, a, g1, rv, e1, fun F1 xs H1 m1 rv1 v1 => ?_⟩
    have l := v1.cleans e2
    refine ⟨by rw [← l.length]; exact hl, fun p hp => ?_⟩
    exact post _ _ _ (m1.trans (.of (new_ext hp) (new_kp hp))) (rv1.keep0 (new_ext hp) (new_kp hp) (new_dF rv1.d)) (.cl (new_list hp l))
  · cases e3
theorem tCB_of {f : List R → Option R} {ms : Exs} (h : rd (eBi f ms) σ H Q) : tCB (RCof f) (rdA ms) σ H Q := by
  obtain ⟨S, F, sl, g, r, g', rv, e, post⟩ := h
  obtain ⟨⟨a, g1⟩, e1, e⟩ := bsome e
  obtain ⟨r1, e2, e⟩ := bsome e
  obtain ⟨t, e3, e⟩ := msome e
  cases e
  refine ⟨S, F, sl, g, a, g1, rv, e1, fun F1 xs H1 m1 rv1 v1 => ?_⟩
  refine ⟨F1, a, r1, rv1.d, v1.valsR, e2, fun F3 z H3 x3 k3 d3 v3 => ?_⟩
  refine post F3 z H3 (m1.trans (.of x3 k3)) (rv1.keep0 x3 k3 d3) (.cl ?_)
  obtain ⟨u, b⟩ := r1
  cases b with
  | false => cases e3; exact v3
  | true =>
    simp only [clean] at e3
    split at e3
    · rename_i p
      cases e3
      exact v3.bt.at p
    · cases e3
theorem tVar_of {i : Nat} (h : rd (eVar i) σ H Q) : tVar i σ H Q := by
  obtain ⟨S, F, sl, g, r, g', rv, e, post⟩ := h
  have ok := rv.ok i
  have hv : ∀ v, getv σ i = some v → σ[i]? = some (some v) := fun v z => by
    unfold getv at z
    cases hq : σ[i]? with
    | none => rw [hq] at z; cases z
    | some o => rw [hq] at z; exact congrArg some z
  unfold eVar at e
  unfold SlOk at ok
  split at e
  · rename_i t e1
    rw [e1] at ok
    cases e
    split at ok
    · rename_i q; cases q
    · rename_i v q1 q2
      cases q1
      exact ⟨v, hv v q2, post F v H .refl rv (.cl ok)⟩
    · rename_i q _; cases q
    · rename_i q _; cases q
    · rename_i q _; cases q
    · exact ok.elim
  · rename_i t e1
    rw [e1] at ok
    cases e
    split at ok
    · rename_i q; cases q
    · rename_i q _; cases q
    · rename_i a q1 q2
      cases q1
      exact ⟨_, hv _ q2, post F _ H .refl rv ⟨ok.1.bt, fun _ b z => by cases z; exact ok.2.2⟩⟩
    · rename_i q _; cases q
    · rename_i q _; cases q
    · exact ok.elim
  · rename_i t e1
    rw [e1] at ok
    cases e
    split at ok
    · rename_i q; cases q
    · rename_i q _; cases q
    · rename_i q _; cases q
    · rename_i v q1 q2
      cases q1
      exact ⟨_, hv _ q2, post F _ H .refl rv ⟨ok.1, fun _ => ok.2⟩⟩
    · rename_i q _; cases q
    · exact ok.elim
  · cases e
theorem tC_of {t : T} {v : V} (hv : ∀ H F, At H F t v) (h : rd (eLit t) σ H Q) : tC v σ H Q := by
  obtain ⟨S, F, sl, g, r, g', rv, e, post⟩ := h
  cases e
  exact post F v H .refl rv (.cl (hv H F))
/-! ### slices -/
def rdO (m : Option Ex) : Sls → G → Option (Option Int × G)
  | sl, g => match m with
    | none => some (none, g)
    | some l => (l sl g).bind fun b => match b.1.1 with
      | .int i => some (some i, b.2)
      | _ => none
def eCut2 (m : Ex) (lo hi : Option Ex) : Ex := fun sl g => (m sl g).bind fun a => (rdO lo sl a.2).bind fun b => (rdO hi sl b.2).bind fun c => (bCut a.1.1 b.1 c.1).map fun t => ((t, false), c.2)
def rdP (m : Option Ex) : TO := fun σ H Q => ∃ S F sl g r g', RV S F g sl σ H ∧ rdO m sl g = some (r, g') ∧ ∀ F' H', Mv S F H F' H' → RV S F' g' sl σ H' → Q r H'
theorem tSl_of {m : Ex} {lo hi : Option Ex} (h : rd (eCut2 m lo hi) σ H Q) : tSl (RSl bCut) (rd m) (rdP lo) (rdP hi) σ H Q := by
  obtain ⟨S, F, sl, g, r, g', rv, e, post⟩ := h
  obtain ⟨⟨a, g1⟩, e1, e⟩ := bsome e
  obtain ⟨⟨b, g2⟩, e2, e⟩ := bsome e
  obtain ⟨⟨c, g3⟩, e3, e⟩ := bsome e
  obtain ⟨t, e4, e⟩ := msome e
  cases e
  refine ⟨S, F, sl, g, a, g1, rv, e1, fun F1 x H1 m1 rv1 v1 => ⟨S, F1, sl, g1, b, g2, rv1, e2, fun F2 H2 m2 rv2 => ⟨S, F2, sl, g2, c, g3, rv2, e3, fun F3 H3 m3 rv3 => ?_⟩⟩⟩
  refine ⟨F3, a.1, t, rv3.d, ((v1.mv m2 rv1.st.off).mv m3 rv2.st.off).1.bt, e4, fun F4 z H4 x4 k4 d4 v4 => ?_⟩
  exact post F4 z H4 (m1.trans (m2.trans (m3.trans (.of x4 k4)))) (rv3.keep0 x4 k4 d4) (.cl v4)
theorem tPart_of {l : Ex} {Q : Option Int → Hp → Prop} (h : rdP (some l) σ H Q) : tPart (rd l) σ H Q := by
  obtain ⟨S, F, sl, g, r, g', rv, e, post⟩ := h
  obtain ⟨⟨a, g1⟩, e1, e⟩ := bsome e
  refine ⟨S, F, sl, g, a, g1, rv, e1, fun F1 x H1 m1 rv1 v1 => ?_⟩
  obtain ⟨⟨t, k⟩, _⟩ : R × Unit := (a, ())
  split at e
  · rename_i i ei
    cases e
    have := v1.1.bt
    rw [ei] at this
    exact ⟨i, this.int, post F1 H1 m1 rv1⟩
  · cases e
theorem tNoPart_of {Q : Option Int → Hp → Prop} (h : rdP none σ H Q) : tNoPart σ H Q := by
  obtain ⟨S, F, sl, g, r, g', rv, e, post⟩ := h
  cases e
  exact post F H .refl rv
end
end VM
/-! V10: calls of defs; what loops walk -/
namespace VM
open PySem PySem.Spec PyProof.Rows L2

/-! ### calls of defs -/
abbrev Den := List Sl → G → Option (T × G)
abbrev As := Sls → G → Option (List Sl × G)
def toSl (r : R) : Sl := match clean r with
  | some t => .cl t
  | none => .ro r.1
def isStm : Sl → Bool
  | .stm => true
  | _ => false
def argSl : Sl → Bool
  | .cl _ => true
  | .ro _ => true
  | .stm => true
  | _ => false
inductive ArgsOk (S : Sp2) (H : Hp) (F : Addr → Prop) : List Sl → List V → Prop
  | nil : ArgsOk S H F [] []
  | cons {a : Sl} {v : V} {as : List Sl} {vs : List V} : argSl a = true → SlOk H F S a (some v) → ArgsOk S H F as vs → ArgsOk S H F (a :: as) (v :: vs)
def spV (den : Den) : Sp := fun vs H Q _ => ∃ S F as g t g', ArgsOk S H F as vs ∧ dF F H ∧ StmAt H F S g ∧ den as g = some (t, g') ∧
  ∀ F' v H', Mv S F H F' H' → dF F' H' → StmAt H' F' S g' → At H' F' t v → Q v H'
def rdS (m : As) : TA := fun σ H Q => ∃ S F sl g as g', RV S F g sl σ H ∧ m sl g = some (as, g') ∧ ∀ F' vs H', Mv S F H F' H' → RV S F' g' sl σ H' → ArgsOk S H' F' as vs → Q vs H'
def asNil : As := fun _ g => some ([], g)
def asVal (m : Ex) (mr : As) : As := fun sl g => (m sl g).bind fun a => (mr sl a.2).map fun r => (toSl a.1 :: r.1, r.2)
def asStm (i : Nat) (mr : As) : As := fun sl g => if isStm (gets sl i) = true then (mr sl g).map fun r => (.stm :: r.1, r.2) else none
def eFn (den : Den) (m : As) : Ex := fun sl g => (m sl g).bind fun a => if (a.1.any isStm) = true then (den a.1 a.2).map fun r => ((r.1, false), r.2) else (den a.1 none).bind fun r => match r.2 with
  | none => some ((r.1, false), a.2)
  | some _ => none
section
variable {S : Sp2} {F F' : Addr → Prop} {H H' : Hp} {g g' : G} {sl : Sls} {σ : L2.St}
theorem ArgsOk.len : ∀ {as : List Sl} {vs : List V}, ArgsOk S H F as vs → as.length = vs.length
  | _, _, .nil => rfl
  | _, _, .cons _ _ l => by rw [List.length_cons, List.length_cons, ArgsOk.len l]
theorem ArgsOk.mv (m : Mv S F H F' H') (o : ∀ a, F a → ¬ Ws S a) : ∀ {as : List Sl} {vs : List V}, ArgsOk S H F as vs → ArgsOk S H' F' as vs
  | _, _, .nil => .nil
  | _, _, .cons a h l => .cons a (h.mv m o) (ArgsOk.mv m o l)
theorem ValS.toSl {r : R} {v : V} (h : ValS S H F r v) : argSl (toSl r) = true ∧ SlOk H F S (toSl r) (some v) := by
  unfold VM.toSl
  cases e : VM.clean r with
  | some t => exact ⟨rfl, h.clean e⟩
  | none =>
    refine ⟨rfl, h.1.bt, ?_⟩
    obtain ⟨t, b⟩ := r
    cases b with
    | true => exact h.2 rfl
    | false => cases e
theorem asNil_of {Q : List V → Hp → Prop} (h : rdS asNil σ H Q) : tNil σ H Q := by
  obtain ⟨S, F, sl, g, r, g', rv, e, post⟩ := h
  cases e
  exact post F [] H .refl rv .nil
theorem asVal_of {m : Ex} {mr : As} {Q : List V → Hp → Prop} (h : rdS (asVal m mr) σ H Q) : tCons (rd m) (rdS mr) σ H Q := by
  obtain ⟨S, F, sl, g, r, g', rv, e, post⟩ := h
  obtain ⟨⟨a, g1⟩, e1, e⟩ := bsome e
  obtain ⟨⟨b, g2⟩, e2, e⟩ := msome e
  cases e
  refine ⟨S, F, sl, g, a, g1, rv, e1, fun F1 x H1 m1 rv1 v1 => ⟨S, F1, sl, g1, b, g2, rv1, e2, fun F2 y H2 m2 rv2 v2 => ?_⟩⟩
  have := (v1.mv m2 rv1.st.off).toSl
  exact post F2 (x :: y) H2 (m1.trans m2) rv2 (.cons this.1 this.2 v2)
theorem getv_some {i : Nat} {v : V} (z : getv σ i = some v) : σ[i]? = some (some v) := by
  unfold getv at z
  cases hq : σ[i]? with
  | none => rw [hq] at z; cases z
  | some o => rw [hq] at z; exact congrArg some z
theorem isStm_eq {x : Sl} (h : isStm x = true) : x = .stm := by
  unfold isStm at h
  split at h
  · rfl
  · cases h
theorem stm_at {v : Option V} (h : SlOk H F S .stm v) : ∃ a b, v = some (.ref a) ∧ S = some (a, b) := by
  cases v with
  | none => exact (show False from h).elim
  | some v =>
    cases v with
    | ref a =>
      obtain ⟨b, e⟩ := (show ∃ b, S = some (a, b) from h)
      exact ⟨a, b, rfl, e⟩
    | _ => exact (show False from h).elim
theorem asStm_of {i : Nat} {mr : As} {Q : List V → Hp → Prop} (h : rdS (asStm i mr) σ H Q) : tCons (tVar i) (rdS mr) σ H Q := by
  obtain ⟨S, F, sl, g, r, g', rv, e, post⟩ := h
  unfold asStm at e
  split at e
  · rename_i hs
    obtain ⟨⟨b, g2⟩, e2, e⟩ := msome e
    cases e
    have ok := rv.ok i
    rw [isStm_eq hs] at ok
    obtain ⟨a, b', ev, es⟩ := stm_at ok
    refine ⟨.ref a, getv_some ev, S, F, sl, g, b, g2, rv, e2, fun F2 y H2 m2 rv2 v2 => ?_⟩
    exact post F2 (.ref a :: y) H2 m2 rv2 (.cons rfl ⟨b', es⟩ v2)
  · cases e
theorem ArgsOk.noStm : ∀ {as : List Sl} {vs : List V}, ArgsOk S H F as vs → (as.any isStm) = false → ArgsOk none H F as vs
  | _, _, .nil, _ => .nil
  | _, _, @ArgsOk.cons _ _ _ a v as vs ha h l, n => by
    rw [List.any_cons, Bool.or_eq_false_iff] at n
    refine .cons ha ?_ (ArgsOk.noStm l n.2)
    cases a with
    | cl t => exact h
    | ro t => exact ⟨h.1, fun _ _ z => z⟩
    | stm => exact absurd n.1 (by simp [isStm])
    | un => cases ha
    | ow t => cases ha
theorem tCall_of {den : Den} {m : As} {Q : VK} (h : rd (eFn den m) σ H Q) : tCall (spV den) [] E0 (rdS m) σ H Q := by
  obtain ⟨S, F, sl, g, r, g', rv, e, post⟩ := h
  obtain ⟨⟨a, g1⟩, e1, e⟩ := bsome e
  refine ⟨S, F, sl, g, a, g1, rv, e1, fun F1 vs H1 m1 rv1 v1 => ?_⟩
  show spV den (vs ++ []) H1 Q E0
  rw [List.append_nil]
  split at e
  · obtain ⟨⟨t, g2⟩, e2, e⟩ := msome e
    cases e
    refine ⟨S, F1, a, g1, t, g2, v1, rv1.d, rv1.st, e2, fun F2 v H2 m2 d2 st2 v2 => ?_⟩
    exact post F2 v H2 (m1.trans m2) (rv1.keep m2 d2 st2) (.cl v2)
  · rename_i hn
    obtain ⟨⟨t, g2⟩, e2, e⟩ := bsome e
    cases g2 with
    | some _ => cases e
    | none =>
      cases e
      refine ⟨none, F1, a, none, t, none, v1.noStm (by simpa using hn), rv1.d, trivial, e2, fun F2 v H2 m2 d2 st2 v2 => ?_⟩
      have k : Kp F1 (fun _ => False) H1 H2 := m2.kp
      exact post F2 v H2 (m1.trans (.of m2.ext k)) (rv1.keep0 m2.ext k d2) (.cl v2)
end

/-! ### what loops walk -/
/-- later: what is allowed stands, what is locked stays locked -/
structure Lt (F : Addr → Prop) (H : Hp) (F' : Addr → Prop) (H' : Hp) : Prop where
  sub : ∀ a, F a → F' a
  ls : ∀ a xs, F a → H a = some (.lst xs) → H' a = some (.lst xs)
  tp : ∀ a xs, H a = some (.tup xs) → H' a = some (.tup xs)
  rd : ∀ a u, F a → Rd H a u → Rd H' a u
  fz : ∀ a o u, F a → H a = some (.frz o u) → H' a = some (.frz o u)
section
variable {S : Sp2} {F F' : Addr → Prop} {H H' : Hp} {g g' : G} {sl : Sls} {σ : L2.St}
theorem Mv.lt (m : Mv S F H F' H') (o : ∀ a, F a → ¬ Ws S a) : Lt F H F' H' :=
  ⟨m.ext.sub, fun a xs f e => m.kp.lst (o a f) e, fun a xs e => m.kp.tup a xs e, fun a u f e => m.kp.rd (o a f) e, fun a ob u f e => by
    rcases m.kp.ex a _ e (o a f) with z | ⟨_, d, _⟩
    · exact z
    · exact absurd (show false = true from d) Bool.false_ne_true⟩
theorem At.lt (m : Lt F H F' H') {t : T} {v : V} (h : At H F t v) : At H' F' t v := h.up m.rd m.ls m.tp m.sub
theorem AtL.lt (m : Lt F H F' H') {t : List T} {v : List V} (h : AtL H F t v) : AtL H' F' t v := h.up m.rd m.ls m.tp m.sub
theorem AtD.lt (m : Lt F H F' H') {t : List (T × T)} {v : List (Key × V)} (h : AtD H F t v) : AtD H' F' t v := h.up m.rd m.ls m.tp m.sub
theorem AtE.lt (m : Lt F H F' H') {t : List (T × T)} {v : List (List Key × V)} (h : AtE H F t v) : AtE H' F' t v := h.up m.rd m.ls m.tp m.sub
/-- the iterator tells the items ts, as long as L -/
def Iz (L : (Addr → Prop) → Hp → Prop) (J : It) (ts : List T) : Prop := ∀ F2 H2, L F2 H2 → dF F2 H2 → ∀ i,
  (∀ t, ts[i]? = some t → J.go i H2 ∧ ∀ x H3, J.yld i H2 x H3 → ∃ F3, Ext F2 F3 H2 ∧ Kp F2 (fun _ => False) H2 H3 ∧ dF F3 H3 ∧ At H3 F3 t x) ∧ (ts.length ≤ i → J.stop i H2)
theorem Iz.imp {L L' : (Addr → Prop) → Hp → Prop} {J : It} {ts : List T} (h : Iz L J ts) (k : ∀ F2 H2, L' F2 H2 → L F2 H2) : Iz L' J ts := fun F2 H2 l => h F2 H2 (k F2 H2 l)
/-- items told, whether of a thing that is borrowed -/
abbrev Is := Sls → G → Option ((List T × Bool) × G)
def rdI (m : Is) : TI := fun σ H R => ∃ S F sl g ts b g', RV S F g sl σ H ∧ m sl g = some ((ts, b), g') ∧ ∀ F' J H', Mv S F H F' H' → RV S F' g' sl σ H' → Iz (Mv S F' H') J ts → (b = false → Iz (Lt F' H') J ts) → R J H'
theorem izL {K : PySem.W.Frag} {L : (Addr → Prop) → Hp → Prop} {a : Addr} {ts : List T} {xs : List V} (h : ∀ F2 H2, L F2 H2 → H2 a = some (.lst xs) ∧ AtL H2 F2 ts xs) : Iz L (Itl K a) ts := by
  intro F2 H2 l d i
  obtain ⟨e, la⟩ := h F2 H2 l
  refine ⟨fun t ht => ?_, fun hi => ⟨xs, .inl (.inl e), by rw [← la.length]; exact hi⟩⟩
  obtain ⟨v, hv, hat⟩ := la.get ht
  refine ⟨⟨xs, v, .inl (.inl e), hv⟩, fun x H3 y => ?_⟩
  obtain ⟨rfl, y⟩ := y
  have := y xs (.inl (.inl e))
  rw [hv] at this
  cases this
  exact ⟨F2, .refl, .refl, d, hat⟩
theorem izT {K : PySem.W.Frag} {L : (Addr → Prop) → Hp → Prop} {a : Addr} {ts : List T} {xs : List V} (h : ∀ F2 H2, L F2 H2 → H2 a = some (.tup xs) ∧ AtL H2 F2 ts xs) : Iz L (Itt K a) ts := by
  intro F2 H2 l d i
  obtain ⟨e, la⟩ := h F2 H2 l
  refine ⟨fun t ht => ?_, fun hi => ⟨xs, .inl (.inl e), by rw [← la.length]; exact hi⟩⟩
  obtain ⟨v, hv, hat⟩ := la.get ht
  refine ⟨⟨xs, v, .inl (.inl e), hv⟩, fun x H3 y => ?_⟩
  obtain ⟨rfl, y⟩ := y
  have := y xs (.inl (.inl e))
  rw [hv] at this
  cases this
  exact ⟨F2, .refl, .refl, d, hat⟩
def rangeT (lo : Int) (n : Nat) : List T := (List.range n).map fun i => .int (lo + (i : Nat))
theorem izR {L : (Addr → Prop) → Hp → Prop} (lo : Int) (n : Nat) : Iz L (Itr lo n) (rangeT lo n) := by
  intro F2 H2 l d i
  refine ⟨fun t ht => ?_, fun hi => (show n ≤ i by simpa [rangeT] using hi)⟩
  unfold rangeT at ht
  rw [List.getElem?_map] at ht
  obtain ⟨j, hj, rfl⟩ := msome ht
  have hi : i < n := by
    rcases Nat.lt_or_ge i n with h | h
    · exact h
    · rw [List.getElem?_eq_none (by simpa using h)] at hj; cases hj
  rw [List.getElem?_range hi] at hj
  cases hj
  refine ⟨hi, fun x H3 y => ?_⟩
  obtain ⟨rfl, rfl⟩ := y
  exact ⟨F2, .refl, .refl, d, .int⟩
theorem AtD.getAt : ∀ {ds : List (T × T)} {kvs : List (Key × V)} {i : Nat} {p : T × T}, AtD H F ds kvs → ds[i]? = some p → ∃ k v, kvs[i]? = some (k, v) ∧ p.1 = keyT k ∧ At H F p.2 v
  | _, _, _, _, .nil, e => by simp at e
  | _, _, 0, _, .cons h _, e => by simp at e; subst e; exact ⟨_, _, rfl, rfl, h⟩
  | _, _, i + 1, p, .cons _ l, e => by
    obtain ⟨k, v, a, b, c⟩ := AtD.getAt (i := i) (p := p) l (by simpa using e)
    exact ⟨k, v, by simpa using a, b, c⟩
theorem izK {L : (Addr → Prop) → Hp → Prop} {d : Addr} {o : Obj} {ds : List (T × T)} {kvs : List (Key × V)} (h : ∀ F2 H2, L F2 H2 → H2 d = some (.frz o (.dK kvs)) ∧ AtD H2 F2 ds kvs) : Iz L (Itk d o kvs) (ds.map (·.1)) := by
  intro F2 H2 l dd i
  obtain ⟨e, la⟩ := h F2 H2 l
  refine ⟨fun t ht => ?_, fun hi => ⟨e, by rw [← la.len]; simpa using hi⟩⟩
  rw [List.getElem?_map] at ht
  obtain ⟨p, hp, rfl⟩ := msome ht
  obtain ⟨k, v, hk, e1, hat⟩ := la.getAt hp
  have hi : i < kvs.length := by
    rcases Nat.lt_or_ge i kvs.length with z | z
    · exact z
    · rw [List.getElem?_eq_none z] at hk; cases hk
  refine ⟨⟨e, hi⟩, fun x H3 y => ?_⟩
  obtain ⟨rfl, k', v', h', rfl⟩ := y
  rw [hk] at h'
  cases h'
  rw [e1]
  exact ⟨F2, .refl, .refl, dd, keyT_kV k⟩
theorem izV {L : (Addr → Prop) → Hp → Prop} {d : Addr} {o : Obj} {ds : List (T × T)} {kvs : List (Key × V)} (h : ∀ F2 H2, L F2 H2 → H2 d = some (.frz o (.dK kvs)) ∧ AtD H2 F2 ds kvs) : Iz L (Itd d o kvs) (ds.map (·.2)) := by
  intro F2 H2 l dd i
  obtain ⟨e, la⟩ := h F2 H2 l
  refine ⟨fun t ht => ?_, fun hi => ⟨e, by rw [← la.len]; simpa using hi⟩⟩
  rw [List.getElem?_map] at ht
  obtain ⟨p, hp, rfl⟩ := msome ht
  obtain ⟨k, v, hk, e1, hat⟩ := la.getAt hp
  have hi : i < kvs.length := by
    rcases Nat.lt_or_ge i kvs.length with z | z
    · exact z
    · rw [List.getElem?_eq_none z] at hk; cases hk
  refine ⟨⟨e, hi⟩, fun x H3 y => ?_⟩
  obtain ⟨rfl, k', h'⟩ := y
  rw [hk] at h'
  cases h'
  exact ⟨F2, .refl, .refl, dd, hat⟩
theorem new_tup2 {p : Addr} {ts : List T} {xs : List V} (h : H p = none) (d : dF F H) (l : AtL H F ts xs) : ∃ F3, Ext F F3 H ∧ Kp F (fun _ => False) H (upd H p (.tup xs)) ∧ dF F3 (upd H p (.tup xs)) ∧ At (upd H p (.tup xs)) F3 (.tuple ts) (.ref p) :=
  ⟨F, .refl, new_kp h, up_dF d, new_tup h l⟩
theorem izI {L : (Addr → Prop) → Hp → Prop} {d : Addr} {o : Obj} {ds : List (T × T)} {kvs : List (Key × V)} (h : ∀ F2 H2, L F2 H2 → H2 d = some (.frz o (.dK kvs)) ∧ AtD H2 F2 ds kvs) : Iz L (Iti d o kvs) (ds.map fun p => .tuple [p.1, p.2]) := by
  intro F2 H2 l dd i
  obtain ⟨e, la⟩ := h F2 H2 l
  refine ⟨fun t ht => ?_, fun hi => ⟨e, by rw [← la.len]; simpa using hi⟩⟩
  rw [List.getElem?_map] at ht
  obtain ⟨p, hp, rfl⟩ := msome ht
  obtain ⟨k, v, hk, e1, hat⟩ := la.getAt hp
  have hi : i < kvs.length := by
    rcases Nat.lt_or_ge i kvs.length with z | z
    · exact z
    · rw [List.getElem?_eq_none z] at hk; cases hk
  refine ⟨⟨e, hi⟩, fun x H3 y => ?_⟩
  obtain ⟨T, k', v', h', rfl, hn, rfl⟩ := y
  rw [hk] at h'
  cases h'
  rw [e1]
  exact new_tup2 hn dd (.cons (keyT_kV k) (.cons hat .nil))
def enumT (ts : List T) : List T := ts.zipIdx.map fun p => .tuple [.int (p.2 : Nat), p.1]
theorem izE {K : PySem.W.Frag} {L : (Addr → Prop) → Hp → Prop} {a : Addr} {ts : List T} {xs : List V} (h : ∀ F2 H2, L F2 H2 → H2 a = some (.lst xs) ∧ AtL H2 F2 ts xs) : Iz L (Ite K a) (enumT ts) := by
  intro F2 H2 l d i
  obtain ⟨e, la⟩ := h F2 H2 l
  refine ⟨fun t ht => ?_, fun hi => ⟨xs, .inl (.inl e), by rw [← la.length]; simpa [enumT] using hi⟩⟩
  unfold enumT at ht
  rw [List.getElem?_map, List.getElem?_zipIdx, Option.map_map] at ht
  obtain ⟨t, hp, rfl⟩ := msome ht
  obtain ⟨v, hv, hat⟩ := la.get hp
  refine ⟨⟨xs, v, .inl (.inl e), hv⟩, fun x H3 y => ?_⟩
  obtain ⟨T, w, rfl, hn, rfl, hw⟩ := y
  have := hw xs (.inl (.inl e))
  rw [hv] at this
  cases this
  show ∃ F3, _ ∧ _ ∧ _ ∧ At _ F3 (.tuple [.int ((0 + i : Nat) : Int), t]) _
  rw [Nat.zero_add]
  exact new_tup2 hn d (.cons .int (.cons hat .nil))
def zipT (ts us : List T) : List T := (ts.zip us).map fun p => .tuple [p.1, p.2]
theorem izZ {K : PySem.W.Frag} {L : (Addr → Prop) → Hp → Prop} {a b : Addr} {ts us : List T} {xs ys : List V} (h : ∀ F2 H2, L F2 H2 → (H2 a = some (.lst xs) ∧ AtL H2 F2 ts xs) ∧ (H2 b = some (.lst ys) ∧ AtL H2 F2 us ys)) : Iz L (Itz K a b) (zipT ts us) := by
  intro F2 H2 l d i
  obtain ⟨⟨e, la⟩, ⟨e2, lb⟩⟩ := h F2 H2 l
  refine ⟨fun t ht => ?_, fun hi => ⟨xs, ys, .inl (.inl e), .inl (.inl e2), ?_⟩⟩
  · unfold zipT at ht
    rw [List.getElem?_map] at ht
    obtain ⟨⟨p, q⟩, hp, rfl⟩ := msome ht
    obtain ⟨h1, h2⟩ := List.getElem?_zip_eq_some.mp hp
    obtain ⟨v, hv, hat⟩ := la.get h1
    obtain ⟨w, hw, hbt⟩ := lb.get h2
    refine ⟨⟨xs, ys, v, w, .inl (.inl e), .inl (.inl e2), hv, hw⟩, fun x H3 y => ?_⟩
    obtain ⟨T, v', w', rfl, hn, rfl, z1, z2⟩ := y
    have q1 := z1 xs (.inl (.inl e))
    have q2 := z2 ys (.inl (.inl e2))
    rw [hv] at q1
    rw [hw] at q2
    cases q1
    cases q2
    exact new_tup2 hn d (.cons hat (.cons hbt .nil))
  · have := la.length
    have := lb.length
    have hz : (zipT ts us).length = min ts.length us.length := by simp [zipT]
    rw [hz] at hi
    omega
theorem izZT {K : PySem.W.Frag} {L : (Addr → Prop) → Hp → Prop} {a b : Addr} {ts us : List T} {xs ys : List V} (h : ∀ F2 H2, L F2 H2 → (H2 a = some (.tup xs) ∧ AtL H2 F2 ts xs) ∧ (H2 b = some (.tup ys) ∧ AtL H2 F2 us ys)) : Iz L (RZ.ItzT K a b) (zipT ts us) := by
  intro F2 H2 l d i
  obtain ⟨⟨e, la⟩, ⟨e2, lb⟩⟩ := h F2 H2 l
  refine ⟨fun t ht => ?_, fun hi => ⟨xs, ys, .inl (.inl e), .inl (.inl e2), ?_⟩⟩
  · unfold zipT at ht
    rw [List.getElem?_map] at ht
    obtain ⟨⟨p, q⟩, hp, rfl⟩ := msome ht
    obtain ⟨h1, h2⟩ := List.getElem?_zip_eq_some.mp hp
    obtain ⟨v, hv, hat⟩ := la.get h1
    obtain ⟨w, hw, hbt⟩ := lb.get h2
    refine ⟨⟨xs, ys, v, w, .inl (.inl e), .inl (.inl e2), hv, hw⟩, fun x H3 y => ?_⟩
    obtain ⟨T, v', w', rfl, hn, rfl, z1, z2⟩ := y
    have q1 := z1 xs (.inl (.inl e))
    have q2 := z2 ys (.inl (.inl e2))
    rw [hv] at q1
    rw [hw] at q2
    cases q1
    cases q2
    exact new_tup2 hn d (.cons hat (.cons hbt .nil))
  · have := la.length
    have := lb.length
    have hz : (zipT ts us).length = min ts.length us.length := by simp [zipT]
    rw [hz] at hi
    omega
def strT (x : Str) : List T := x.cps.toList.map fun c => .str ⟨#[c]⟩
theorem izS {L : (Addr → Prop) → Hp → Prop} (x : Str) : Iz L (Its x) (strT x) := by
  intro F2 H2 l d i
  refine ⟨fun t ht => ?_, fun hi => (show x.cps.size ≤ i by simpa [strT] using hi)⟩
  unfold strT at ht
  rw [List.getElem?_map] at ht
  obtain ⟨c, hc, rfl⟩ := msome ht
  rw [Array.getElem?_toList] at hc
  refine ⟨(show i < x.cps.size from (Array.getElem?_eq_some_iff.mp hc).1), fun v H3 y => ?_⟩
  obtain ⟨rfl, c', hc', rfl⟩ := y
  rw [hc] at hc'
  cases hc'
  exact ⟨F2, .refl, .refl, d, .str⟩
end
end VM
/-! V11: what loops walk, by expressions -/
namespace VM
open PySem PySem.Spec PyProof.Rows L2
section
variable {X : Cx} {pins : List (Addr × Obj)} {s : Shared} {σ : L2.St} {H : Hp} {F : Addr → Prop} {tg : Expr} {R : It → Hp → Prop} {S : Sp2}
theorem iter_l {a : Addr} {xs : List V} (I : Inv X pins σ H s) (h : H a = some (.lst xs)) (q : R (Itl X.K a) H) : wpAny (model X.prog X.w) X.A (pyIter (.ref a)) (PIE X pins σ tg R) X.xe s := by
  obtain ⟨its, rv, p, hz⟩ := I.list (.inl (.inl h) : SqL X.K H a xs)
  exact wpAny_pyIter_list p.isList (pi_one (tk := s.toks) I _ (turn_list a _) ⟨_, Heap.get?_push_size _ rfl, rfl, rfl⟩ q)
theorem iter_t {a : Addr} {xs : List V} (I : Inv X pins σ H s) (h : H a = some (.tup xs)) (q : R (Itt X.K a) H) : wpAny (model X.prog X.w) X.A (pyIter (.ref a)) (PIE X pins σ tg R) X.xe s := by
  obtain ⟨its, rv, p, hz⟩ := I.tuple (.inl (.inl h) : SqT X.K H a xs)
  have p' : s.heap.IsTuple a its.toArray := p
  exact wpAny_pyIter_tuple p' (pi_one (tk := s.toks) I _ (turn_tuple a _) ⟨_, Heap.get?_push_size _ rfl, rfl, rfl⟩ q)
theorem iter_k {d : Addr} {o : Obj} {kvs : List (Key × V)} (I : Inv X pins σ H s) (h : H d = some (.frz o (.dK kvs))) (q : R (Itk d o kvs) H) : wpAny (model X.prog X.w) X.A (pyIter (.ref d)) (PIE X pins σ tg R) X.xe s := by
  obtain ⟨hs, hgd, hx, es, ep, vs, hdt, hsz, kv, hm⟩ := I.frzK h
  have st : (s.heap.push ⟨.type "dict_keyiterator", none, .fields #[.ref d, rawInt 0, rawInt es.size, rawInt ep], #[]⟩).IsKeyIter s.heap.objs.size d 0 kvs.length ep := by
    rw [← hsz]
    exact ⟨_, Heap.get?_push_size _ rfl, rfl, rfl⟩
  exact iter_keys hs hgd hx hdt (pi_one (tk := s.toks) I _ (turn_keys _ hdt) st q)
theorem iter_s {x : Str} {t : Tok} (I : Inv X pins σ H s) (q : R (Its x) H) : wpAny (model X.prog X.w) X.A (pyIter (.str x t)) (PIE X pins σ tg R) X.xe s := by
  cases ha : x.cps.all (· < 128)
  · exact wpAny_pyIter_wide ha (pi_one (tk := s.toks) I _ (turn_str _ x t "str_iterator" (.inr rfl)) ⟨_, Heap.get?_push_size _ rfl, rfl, rfl⟩ q)
  · exact wpAny_pyIter_ascii ha (pi_one (tk := s.toks) I _ (turn_str _ x t "str_ascii_iterator" (.inl rfl)) ⟨_, Heap.get?_push_size _ rfl, rfl, rfl⟩ q)
theorem lock_k {d : Addr} {kvs : List (Key × V)} (I : Inv X pins σ H s) (h : Rd H d (.dK kvs)) : ∃ od H', H' d = some (.frz od (.dK kvs)) ∧ Inv X pins σ H' s ∧ (H' = H ∨ (H d = some (.dK kvs) ∧ H' = upd H d (.frz od (.dK kvs)))) := by
  rcases h with h | ⟨od, h⟩
  · obtain ⟨od, I'⟩ := I.lock h (by trivial)
    exact ⟨od, _, upd_same, I', .inr ⟨h, rfl⟩⟩
  · exact ⟨od, H, h, I, .inl rfl⟩
theorem lock_kp {d : Addr} {o : Obj} {u : HO} (f : F d) (h : H d = some u) (hu : isD u = true) : Kp F (fun _ => False) H (upd H d (.frz o u)) := by
  refine ⟨fun a v e _ => ?_, fun a e => ?_, fun a xs e => ?_⟩
  · by_cases q : a = d
    · subst q
      rw [h] at e
      cases e
      exact .inr ⟨f, hu, o, upd_same⟩
    · exact .inl (by rw [upd_ne q]; exact e)
  · by_cases q : a = d
    · rw [q, upd_same]; simp
    · rw [upd_ne q]; exact e
  · have q : a ≠ d := fun z => by
      rw [z, h] at e
      cases e
      cases hu
    rw [upd_ne q]
    exact e
theorem lock_mv {d : Addr} {kvs : List (Key × V)} {od : Obj} {H' : Hp} (f : F d) (dd : dF F H) (k : H' = H ∨ (H d = some (.dK kvs) ∧ H' = upd H d (.frz od (.dK kvs)))) : Kp F (fun _ => False) H H' ∧ dF F H' := by
  rcases k with rfl | ⟨e, rfl⟩
  · exact ⟨.refl, dd⟩
  · exact ⟨lock_kp f e rfl, up_dF dd⟩
end

def itemsOf : R → Option (List T × Bool)
  | (.list ts, b) => some (ts, b)
  | (.tuple ts, _) => some (ts, false)
  | (.dict ((.none, .none) :: _), _) => none
  | (.dict ds, false) => some (ds.map (·.1), false)
  | (.str x, _) => some (strT x, false)
  | _ => none
theorem itemsOf_cases {r : R} {p : List T × Bool} (h : itemsOf r = some p) : (∃ ts b, r = (.list ts, b) ∧ p = (ts, b)) ∨ (∃ ts b, r = (.tuple ts, b) ∧ p = (ts, false)) ∨ (∃ ds, r = (.dict ds, false) ∧ (∀ q, ds ≠ (.none, .none) :: q) ∧ p = (ds.map (·.1), false)) ∨ ∃ x b, r = (.str x, b) ∧ p = (strT x, false) := by
  unfold itemsOf at h
  split at h
  · cases h; exact .inl ⟨_, _, rfl, rfl⟩
  · cases h; exact .inr (.inl ⟨_, _, rfl, rfl⟩)
  · cases h
  · rename_i n
    cases h; exact .inr (.inr (.inl ⟨_, rfl, fun q z => n q z, rfl⟩))
  · cases h; exact .inr (.inr (.inr ⟨_, _, rfl, rfl⟩))
  · cases h
def iVal (m : Ex) : Is := fun sl g => (m sl g).bind fun a => (itemsOf a.1).map fun r => (r, a.2)
section
variable {X : Cx} {tg e : Expr} {S : Sp2} {F : Addr → Prop} {H : Hp}
theorem AtL.mv2 {F' : Addr → Prop} {H' : Hp} {ts : List T} {xs : List V} (l : AtL H F ts xs) (o : ∀ a, F a → ¬ Ws S a) (m : Mv S F H F' H') : AtL H' F' ts xs := l.mv m o
theorem At.dkF {ds : List (T × T)} {v : V} (h : At H F (.dict ds) v) (n : ∀ r, ds ≠ (.none, .none) :: r) : ∃ a kvs, v = .ref a ∧ F a ∧ Rd H a (.dK kvs) ∧ AtD H F ds kvs := by
  cases h with
  | dK r f l => exact ⟨_, _, rfl, f, r, l⟩
  | dT r f l => exact absurd rfl (n _)
theorem pi_val {m : Ex} (he : PE X e (rd m)) : PI X tg e (rdI (iVal m)) := by
  refine ⟨fun pins s σ H R I h => ?_⟩
  obtain ⟨S, F, sl, g, ts, b, g', rv, ee, post⟩ := h
  obtain ⟨⟨r, g1⟩, e1, ee⟩ := bsome ee
  obtain ⟨p, e2, ee⟩ := msome ee
  cases ee
  refine thn (he.run pins s σ H (fun x H1 => ∃ F1, Mv S F H F1 H1 ∧ RV S F1 g1 sl σ H1 ∧ ValS S H1 F1 r x) I ⟨S, F, sl, g, r, g1, rv, e1, fun F1 x H1 m1 rv1 v1 => ⟨F1, m1, rv1, v1⟩⟩) fun v s1 ⟨x, H1, I1, rx, F1, m1, rv1, v1⟩ => ?_
  have off := rv1.st.off
  rcases itemsOf_cases e2 with ⟨ts, b, rfl, ep⟩ | ⟨ts, b, rfl, ep⟩ | ⟨ds, rfl, n, ep⟩ | ⟨z, b, rfl, ep⟩ <;> cases ep
  · cases b with
    | true =>
      obtain ⟨a, xs, rfl, hx, lx⟩ := v1.1.bt.list
      cases rx
      refine iter_l I1 hx (post F1 _ H1 m1 rv1 (izL fun F2 H2 m2 => ⟨m2.kp.lst (v1.2 rfl a rfl) hx, lx.mv m2 off⟩) fun z => nomatch z)
    | false =>
      have h1 : At H1 F1 (.list ts) x := v1.1
      cases h1 with
      | @list a ts xs hx fa lx =>
        cases rx
        refine iter_l I1 hx (post F1 _ H1 m1 rv1 (izL fun F2 H2 m2 => ⟨(m2.lt off).ls a xs fa hx, lx.mv m2 off⟩) fun _ => izL fun F2 H2 m2 => ⟨m2.ls a xs fa hx, lx.lt m2⟩)
  · obtain ⟨a, xs, rfl, hx, lx⟩ := Bt.tuple (v1.1.bt : Bt H1 F1 (.tuple ts) x)
    cases rx
    refine iter_t I1 hx (post F1 _ H1 m1 rv1 (izT fun F2 H2 m2 => ⟨(m2.lt off).tp a xs hx, lx.mv m2 off⟩) fun _ => izT fun F2 H2 m2 => ⟨m2.tp a xs hx, lx.lt m2⟩)
  · have h1 : At H1 F1 (.dict ds) x := v1.1
    obtain ⟨a, kvs, rfl, fa, hr, l⟩ := h1.dkF n
    cases rx
    obtain ⟨od, H2, hd, I2, k⟩ := lock_k I1 hr
    obtain ⟨kp, d2⟩ := lock_mv fa rv1.d k
    have m2 : Mv S F1 H1 F1 H2 := .of .refl kp
    have rv2 := rv1.keep0 .refl kp d2
    have l2 : AtD H2 F1 ds kvs := l.lt (m2.lt off)
    have off2 := rv2.st.off
    refine iter_k I2 hd (post F1 _ H2 (m1.trans m2) rv2 (izK fun F3 H3 m3 => ⟨(m3.lt off2).fz a od _ fa hd, l2.lt (m3.lt off2)⟩) fun _ => izK fun F3 H3 m3 => ⟨m3.fz a od _ fa hd, l2.lt m3⟩)
  · have hx := Bt.str (v1.1.bt : Bt H1 F1 (.str z) x)
    subst hx
    obtain ⟨t, rfl⟩ := rx
    exact iter_s I1 (post F1 _ H1 m1 rv1 (izS z) fun _ => izS z)
/-- range(..) -/
def rngOf : List R → Option (List T)
  | [(.int j, _)] => if -(2 ^ 62) ≤ j ∧ j < 2 ^ 62 then some (rangeT 0 j.toNat) else none
  | _ => none
def rng2Of : List R → Option (List T)
  | [(.int i, _), (.int j, _)] => if -(2 ^ 62) ≤ i ∧ i < 2 ^ 62 ∧ -(2 ^ 62) ≤ j ∧ j < 2 ^ 62 then some (rangeT i (j - i).toNat) else none
  | _ => none
def iRng (f : List R → Option (List T)) (ms : Exs) : Is := fun sl g => (ms sl g).bind fun a => (f a.1).map fun ts => ((ts, false), a.2)
theorem iRng1_of {ms : Exs} {σ : L2.St} {R : It → Hp → Prop} (h : rdI (iRng rngOf ms) σ H R) : iRng1 (rdA ms) σ H R := by
  obtain ⟨S, F, sl, g, ts, b, g', rv, ee, post⟩ := h
  obtain ⟨⟨r, g1⟩, e1, ee⟩ := bsome ee
  obtain ⟨p, e2, ee⟩ := msome ee
  cases ee
  refine ⟨S, F, sl, g, r, g1, rv, e1, fun F1 vs H1 m1 rv1 v1 => ?_⟩
  dsimp only at e2
  unfold rngOf at e2
  split at e2
  · split at e2
    · rename_i hb
      cases e2
      cases v1 with
      | cons h1 v1 =>
        cases v1
        cases h1.1.bt.int
        exact ⟨_, rfl, hb.1, hb.2, post F1 _ H1 m1 rv1 (izR 0 _) fun _ => izR 0 _⟩
    · cases e2
  · cases e2
theorem iRng2_of {ms : Exs} {σ : L2.St} {R : It → Hp → Prop} (h : rdI (iRng rng2Of ms) σ H R) : iRng2 (rdA ms) σ H R := by
  obtain ⟨S, F, sl, g, ts, b, g', rv, ee, post⟩ := h
  obtain ⟨⟨r, g1⟩, e1, ee⟩ := bsome ee
  obtain ⟨p, e2, ee⟩ := msome ee
  cases ee
  refine ⟨S, F, sl, g, r, g1, rv, e1, fun F1 vs H1 m1 rv1 v1 => ?_⟩
  dsimp only at e2
  unfold rng2Of at e2
  split at e2
  · split at e2
    · rename_i hb
      cases e2
      cases v1 with
      | cons h1 v1 =>
        cases v1 with
        | cons h2 v1 =>
          cases v1
          cases h1.1.bt.int
          cases h2.1.bt.int
          exact ⟨_, _, rfl, hb, post F1 _ H1 m1 rv1 (izR _ _) fun _ => izR _ _⟩
    · cases e2
  · cases e2
/-- enumerate(list) -/
def enumOf : List R → Option (List T × Bool)
  | [(.list ts, b)] => some (enumT ts, b)
  | _ => none
def zipOf : List R → Option (List T × Bool)
  | [(.list ts, b), (.list us, c)] => some (zipT ts us, b || c)
  | [(.tuple ts, _), (.tuple us, _)] => some (zipT ts us, false)
  | _ => none
def iArgs (f : List R → Option (List T × Bool)) (ms : Exs) : Is := fun sl g => (ms sl g).bind fun a => (f a.1).map fun ts => (ts, a.2)
/-- a list by value: how it stays -/
theorem ValS.lists {S : Sp2} {H1 : Hp} {F1 : Addr → Prop} {ts : List T} {b : Bool} {v : V} (h : ValS S H1 F1 (.list ts, b) v) (off : ∀ a, F1 a → ¬ Ws S a) : ∃ a xs, v = .ref a ∧ H1 a = some (.lst xs) ∧ (∀ F2 H2, Mv S F1 H1 F2 H2 → H2 a = some (.lst xs) ∧ AtL H2 F2 ts xs) ∧ (b = false → ∀ F2 H2, Lt F1 H1 F2 H2 → H2 a = some (.lst xs) ∧ AtL H2 F2 ts xs) := by
  cases b with
  | true =>
    obtain ⟨a, xs, rfl, hx, lx⟩ := h.1.bt.list
    exact ⟨a, xs, rfl, hx, fun F2 H2 m2 => ⟨m2.kp.lst (h.2 rfl a rfl) hx, lx.mv m2 off⟩, fun z => nomatch z⟩
  | false =>
    have h1 : At H1 F1 (.list ts) v := h.1
    cases h1 with
    | @list a ts xs hx fa lx => exact ⟨a, xs, rfl, hx, fun F2 H2 m2 => ⟨(m2.lt off).ls a xs fa hx, lx.mv m2 off⟩, fun _ F2 H2 m2 => ⟨m2.ls a xs fa hx, lx.lt m2⟩⟩
theorem iEnum_of {K : PySem.W.Frag} {ms : Exs} {σ : L2.St} {R : It → Hp → Prop} (h : rdI (iArgs enumOf ms) σ H R) : iEnum K (rdA ms) σ H R := by
  obtain ⟨S, F, sl, g, ts, b, g', rv, ee, post⟩ := h
  obtain ⟨⟨r, g1⟩, e1, ee⟩ := bsome ee
  obtain ⟨p, e2, ee⟩ := msome ee
  cases ee
  refine ⟨S, F, sl, g, r, g1, rv, e1, fun F1 vs H1 m1 rv1 v1 => ?_⟩
  dsimp only at e2
  unfold enumOf at e2
  split at e2
  · cases e2
    cases v1 with
    | cons h1 v1 =>
      cases v1
      obtain ⟨a, xs, rfl, hx, k1, k2⟩ := h1.lists rv1.st.off
      exact ⟨a, xs, rfl, .inl (.inl hx), post F1 _ H1 m1 rv1 (izE k1) fun z => izE (k2 z)⟩
  · cases e2
theorem ValS.tuples {S : Sp2} {H1 : Hp} {F1 : Addr → Prop} {ts : List T} {b : Bool} {v : V} (h : ValS S H1 F1 (.tuple ts, b) v) (off : ∀ a, F1 a → ¬ Ws S a) : ∃ a xs, v = .ref a ∧ H1 a = some (.tup xs) ∧ (∀ F2 H2, Mv S F1 H1 F2 H2 → H2 a = some (.tup xs) ∧ AtL H2 F2 ts xs) ∧ (∀ F2 H2, Lt F1 H1 F2 H2 → H2 a = some (.tup xs) ∧ AtL H2 F2 ts xs) := by
  obtain ⟨a, xs, rfl, hx, lx⟩ := h.1.bt.tuple
  exact ⟨a, xs, rfl, hx, fun F2 H2 m2 => ⟨m2.kp.tup a xs hx, lx.mv m2 off⟩, fun F2 H2 m2 => ⟨m2.tp a xs hx, lx.lt m2⟩⟩
theorem iZip_of {K : PySem.W.Frag} {ms : Exs} {σ : L2.St} {R : It → Hp → Prop} (h : rdI (iArgs zipOf ms) σ H R) : RZ.iZipA K (rdA ms) σ H R := by
  obtain ⟨S, F, sl, g, ts, b, g', rv, ee, post⟩ := h
  obtain ⟨⟨r, g1⟩, e1, ee⟩ := bsome ee
  obtain ⟨p, e2, ee⟩ := msome ee
  cases ee
  refine ⟨S, F, sl, g, r, g1, rv, e1, fun F1 vs H1 m1 rv1 v1 => ?_⟩
  dsimp only at e2
  unfold zipOf at e2
  split at e2
  · cases e2
    cases v1 with
    | cons h1 v1 =>
      cases v1 with
      | cons h2 v1 =>
        cases v1
        obtain ⟨a, xs, rfl, hx, k1, k2⟩ := h1.lists rv1.st.off
        obtain ⟨a2, ys, rfl, hy, l1, l2⟩ := h2.lists rv1.st.off
        refine ⟨a, a2, xs, ys, rfl, .inl ⟨.inl (.inl hx), .inl (.inl hy), post F1 _ H1 m1 rv1 (izZ fun F2 H2 m2 => ⟨k1 F2 H2 m2, l1 F2 H2 m2⟩) fun z => ?_⟩⟩
        rw [Bool.or_eq_false_iff] at z
        exact izZ fun F2 H2 m2 => ⟨k2 z.1 F2 H2 m2, l2 z.2 F2 H2 m2⟩
  · cases e2
    cases v1 with
    | cons h1 v1 =>
      cases v1 with
      | cons h2 v1 =>
        cases v1
        obtain ⟨a, xs, rfl, hx, k1, k2⟩ := h1.tuples rv1.st.off
        obtain ⟨a2, ys, rfl, hy, l1, l2⟩ := h2.tuples rv1.st.off
        exact ⟨a, a2, xs, ys, rfl, .inr ⟨.inl (.inl hx), .inl (.inl hy), post F1 _ H1 m1 rv1 (izZT fun F2 H2 m2 => ⟨k1 F2 H2 m2, l1 F2 H2 m2⟩) fun _ => izZT fun F2 H2 m2 => ⟨k2 F2 H2 m2, l2 F2 H2 m2⟩⟩⟩
  · cases e2
/-- d.items(), d.values() of a dict that is nobody's own -/
def pairsOf : R → Option (List T × Bool)
  | (.dict ((.none, .none) :: _), _) => none
  | (.dict ds, false) => some (ds.map fun p => .tuple [p.1, p.2], false)
  | _ => none
def valsOf : R → Option (List T × Bool)
  | (.dict ((.none, .none) :: _), _) => none
  | (.dict ds, false) => some (ds.map (·.2), false)
  | _ => none
def iOf (f : R → Option (List T × Bool)) (m : Ex) : Is := fun sl g => (m sl g).bind fun a => (f a.1).map fun r => (r, a.2)
theorem pairsOf_cases {r : R} {p : List T × Bool} (h : pairsOf r = some p) : ∃ ds, r = (.dict ds, false) ∧ (∀ q, ds ≠ (.none, .none) :: q) ∧ p = (ds.map fun p => .tuple [p.1, p.2], false) := by
  unfold pairsOf at h
  split at h
  · cases h
  · rename_i n
    cases h; exact ⟨_, rfl, fun q z => n q z, rfl⟩
  · cases h
theorem valsOf_cases {r : R} {p : List T × Bool} (h : valsOf r = some p) : ∃ ds, r = (.dict ds, false) ∧ (∀ q, ds ≠ (.none, .none) :: q) ∧ p = (ds.map (·.2), false) := by
  unfold valsOf at h
  split at h
  · cases h
  · rename_i n
    cases h; exact ⟨_, rfl, fun q z => n q z, rfl⟩
  · cases h
/-- a dict is locked as it comes -/
def lkE (m : Ex) : TE := fun σ H Q => ∃ S F sl g ds g', RV S F g sl σ H ∧ m sl g = some ((.dict ds, false), g') ∧ (∀ q, ds ≠ (.none, .none) :: q) ∧
  ∀ F' a od kvs H', Mv S F H F' H' → RV S F' g' sl σ H' → F' a → H' a = some (.frz od (.dK kvs)) → AtD H' F' ds kvs → Q (.ref a) H'
theorem pe_lkE {m : Ex} (he : PE X e (rd m)) : PE X e (lkE m) := by
  refine ⟨fun pins s σ H Q I h => ?_⟩
  obtain ⟨S, F, sl, g, ds, g1, rv, e1, n, post⟩ := h
  refine thn (he.run pins s σ H (fun x H1 => ∃ F1, Mv S F H F1 H1 ∧ RV S F1 g1 sl σ H1 ∧ ValS S H1 F1 (.dict ds, false) x) I ⟨S, F, sl, g, _, g1, rv, e1, fun F1 x H1 m1 rv1 v1 => ⟨F1, m1, rv1, v1⟩⟩) fun v s1 ⟨x, H1, I1, rx, F1, m1, rv1, v1⟩ => ?_
  have off := rv1.st.off
  have h1 : At H1 F1 (.dict ds) x := v1.1
  obtain ⟨a, kvs, rfl, fa, hr, l⟩ := h1.dkF n
  obtain ⟨od, H2, hd, I2, k⟩ := lock_k I1 hr
  obtain ⟨kp, d2⟩ := lock_mv fa rv1.d k
  have m2 : Mv S F1 H1 F1 H2 := .of .refl kp
  exact ⟨_, H2, I2, rx, post F1 a od kvs H2 (m1.trans m2) (rv1.keep0 .refl kp d2) fa hd (l.lt (m2.lt off))⟩
theorem iItems_of {m : Ex} {σ : L2.St} {R : It → Hp → Prop} (h : rdI (iOf pairsOf m) σ H R) : iItems (lkE m) σ H R := by
  obtain ⟨S, F, sl, g, ts, b, g', rv, ee, post⟩ := h
  obtain ⟨⟨r, g1⟩, e1, ee⟩ := bsome ee
  obtain ⟨p, e2, ee⟩ := msome ee
  cases ee
  obtain ⟨ds, rfl, n, ep⟩ := pairsOf_cases e2
  cases ep
  refine ⟨S, F, sl, g, ds, g1, rv, e1, n, fun F1 a od kvs H1 m1 rv1 fa hd l => ⟨a, od, kvs, rfl, hd, ?_⟩⟩
  exact post F1 _ H1 m1 rv1 (izI fun F3 H3 m3 => ⟨(m3.lt rv1.st.off).fz a od _ fa hd, l.lt (m3.lt rv1.st.off)⟩) fun _ => izI fun F3 H3 m3 => ⟨m3.fz a od _ fa hd, l.lt m3⟩
theorem iVals_of {m : Ex} {σ : L2.St} {R : It → Hp → Prop} (h : rdI (iOf valsOf m) σ H R) : iVals (lkE m) σ H R := by
  obtain ⟨S, F, sl, g, ts, b, g', rv, ee, post⟩ := h
  obtain ⟨⟨r, g1⟩, e1, ee⟩ := bsome ee
  obtain ⟨p, e2, ee⟩ := msome ee
  cases ee
  obtain ⟨ds, rfl, n, ep⟩ := valsOf_cases e2
  cases ep
  refine ⟨S, F, sl, g, ds, g1, rv, e1, n, fun F1 a od kvs H1 m1 rv1 fa hd l => ⟨a, od, kvs, rfl, hd, ?_⟩⟩
  exact post F1 _ H1 m1 rv1 (izV fun F3 H3 m3 => ⟨(m3.lt rv1.st.off).fz a od _ fa hd, l.lt (m3.lt rv1.st.off)⟩) fun _ => izV fun F3 H3 m3 => ⟨m3.fz a od _ fa hd, l.lt m3⟩
end
theorem PI.imp {X : Cx} {tg e : Expr} {t t' : TI} (h : PI X tg e t) (i : ∀ σ H Q, t' σ H Q → t σ H Q) : PI X tg e t' := ⟨fun pins s σ H Q I q => h.run pins s σ H Q I (i σ H Q q)⟩
end VM
/-! V12: targets, comprehensions -/
namespace VM
open PySem PySem.Spec PyProof.Rows L2

/-! ### targets -/
inductive Tg where
  | nm (i : Nat)
  | tp (ts : List Tg)
mutual
def bindT : Tg → T → Sls → Option Sls
  | .nm i, t, sl => some (sl.set i (.cl t))
  | .tp gs, .tuple ts, sl => bindTs gs ts sl
  | .tp _, _, _ => none
def bindTs : List Tg → List T → Sls → Option Sls
  | [], [], sl => some sl
  | g :: gs, t :: ts, sl => (bindT g t sl).bind fun sl1 => bindTs gs ts sl1
  | _, _, _ => none
end
mutual
def idxT : Tg → List Nat
  | .nm i => [i]
  | .tp gs => idxTs gs
def idxTs : List Tg → List Nat
  | [] => []
  | g :: gs => idxT g ++ idxTs gs
end
mutual
def gT (K : PySem.W.Frag) : Tg → TG
  | .nm i => gName i
  | .tp gs => gTup K gs.length (gTs K gs)
def gTs (K : PySem.W.Frag) : List Tg → TGs
  | [] => gNil
  | g :: gs => gCons (gT K g) (gTs K gs)
end
theorem gets_set (sl : Sls) (i j : Nat) (x : Sl) : gets (sl.set i x) j = if i = j ∧ i < sl.length then x else gets sl j := by
  unfold gets
  rw [List.getD_eq_getElem?_getD, List.getD_eq_getElem?_getD, List.getElem?_set]
  by_cases h : i = j
  · subst h
    by_cases h2 : i < sl.length
    · simp [h2]
    · simp [h2, List.getElem?_eq_none (Nat.le_of_not_lt h2)]
  · simp [h]
theorem getv_set (σ : L2.St) (i j : Nat) (x : Option V) : getv (σ.set i x) j = if i = j ∧ i < σ.length then x else getv σ j := by
  unfold getv
  rw [List.getElem?_set]
  by_cases h : i = j
  · subst h
    by_cases h2 : i < σ.length
    · simp [h2]
    · simp [h2, List.getElem?_eq_none (Nat.le_of_not_lt h2)]
  · simp [h]
section
variable {S : Sp2} {F F' : Addr → Prop} {H H' : Hp} {g g' : G} {sl sl' : Sls} {σ : L2.St}
/-- a slot that is nobody's own takes a value -/
theorem RV.put (r : RV S F g sl σ H) {i : Nat} {x : Sl} {v : Option V} (h : SlOk H F S x v) (n : isOw x = false) (n2 : isRo x = false) : RV S F g (sl.set i x) (σ.set i v) H := by
  refine ⟨by rw [List.length_set, List.length_set]; exact r.len, r.d, r.st, fun j => ?_, fun j k a h1 h2 e1 e2 => ?_⟩
  · rw [gets_set, getv_set, r.len]
    split
    · exact h
    · exact r.ok j
  · rw [gets_set] at h1 h2
    rw [getv_set] at e1 e2
    rw [r.len] at h1 h2
    by_cases c1 : i = j ∧ i < σ.length
    · rw [if_pos c1, n] at h1
      cases h1
    · by_cases c2 : i = k ∧ i < σ.length
      · rw [if_pos c2, n, n2] at h2
        rcases h2 with h2 | h2 <;> cases h2
      · rw [if_neg c1] at h1 e1
        rw [if_neg c2] at h2 e2
        exact r.sep j k a h1 h2 e1 e2
theorem RV.setc (r : RV S F g sl σ H) {i : Nat} {t : T} {v : V} (h : At H F t v) : RV S F g (sl.set i (.cl t)) (σ.set i (some v)) H := r.put h rfl rfl
theorem RV.unset (r : RV S F g sl σ H) (i : Nat) : RV S F g (sl.set i .un) (σ.set i none) H := r.put trivial rfl rfl
def wipeS (sl : Sls) : List Nat → Sls
  | [] => sl
  | v :: vs => (wipeS sl vs).set v .un
theorem RV.wipe (r : RV S F g sl σ H) : ∀ vs : List Nat, RV S F g (wipeS sl vs) (wipe σ vs) H
  | [] => r
  | v :: vs => (RV.wipe r vs).unset v
theorem wipe_set {i : Nat} {x : Option V} : ∀ {vs : List Nat}, i ∈ vs → wipe (σ.set i x) vs = wipe σ vs
  | v :: vs, h => by
    unfold L2.wipe
    by_cases e : i ∈ vs
    · rw [wipe_set e]
    · have : i = v := by
        rcases List.mem_cons.mp h with z | z
        · exact z
        · exact absurd z e
      subst this
      have go : ∀ vs : List Nat, i ∉ vs → L2.wipe (σ.set i x) vs = (L2.wipe σ vs).set i x := by
        intro vs
        induction vs with
        | nil => intro _; rfl
        | cons w ws ih =>
          intro n
          rw [List.mem_cons, not_or] at n
          unfold L2.wipe
          rw [ih n.2, List.set_comm _ _ n.1]
      rw [go vs e, List.set_set]
theorem wipe_wipe : ∀ (vs ws : List Nat), (∀ i ∈ vs, i ∈ ws) → L2.wipe (L2.wipe σ vs) ws = L2.wipe σ ws
  | [], _, _ => rfl
  | v :: vs, ws, h => by
    show L2.wipe ((L2.wipe σ vs).set v none) ws = _
    rw [wipe_set (h v (.head _)), wipe_wipe vs ws fun i m => h i (.tail _ m)]
mutual
theorem bindT_ok {K : PySem.W.Frag} : ∀ {tg : Tg} {t : T} {v : V} {sl sl' : Sls} {σ : L2.St} {Q : L2.St → Hp → Prop}, bindT tg t sl = some sl' → RV S F g sl σ H → At H F t v →
    (∀ σ', RV S F g sl' σ' H → (∀ vs, (∀ i ∈ idxT tg, i ∈ vs) → wipe σ' vs = wipe σ vs) → Q σ' H) → gT K tg v σ H Q
  | .nm i, t, v, sl, sl', σ, Q, e, r, h, k => by
    rw [bindT] at e
    cases e
    rw [gT]
    exact k _ (r.setc h) fun vs hv => wipe_set (hv i (by rw [idxT]; exact .head _))
  | .tp gs, t, v, sl, sl', σ, Q, e, r, h, k => by
    cases t with
    | tuple ts =>
      rw [bindT] at e
      rw [gT]
      cases h with
      | @tuple a ts xs ha l =>
        have hl : gs.length = ts.length := bindTs_len e
        refine ⟨a, xs, rfl, .inl (.inl ha), by rw [← l.length, hl], ?_⟩
        exact bindTs_ok e r l fun σ' r' w => k σ' r' fun vs hv => w vs fun i m => hv i (by rw [idxT]; exact m)
    | _ => rw [bindT] at e <;> first | cases e | (intro _ z; cases z)
theorem bindTs_len : ∀ {gs : List Tg} {ts : List T} {sl sl' : Sls}, bindTs gs ts sl = some sl' → gs.length = ts.length
  | [], [], _, _, _ => rfl
  | [], _ :: _, _, _, e => by rw [bindTs] at e <;> first | cases e | simp
  | _ :: _, [], _, _, e => by rw [bindTs] at e <;> first | cases e | simp
  | g :: gs, t :: ts, _, _, e => by
    rw [bindTs] at e
    obtain ⟨s1, _, e⟩ := bsome e
    rw [List.length_cons, List.length_cons, bindTs_len e]
theorem bindTs_ok {K : PySem.W.Frag} : ∀ {gs : List Tg} {ts : List T} {xs : List V} {sl sl' : Sls} {σ : L2.St} {Q : L2.St → Hp → Prop}, bindTs gs ts sl = some sl' → RV S F g sl σ H → AtL H F ts xs →
    (∀ σ', RV S F g sl' σ' H → (∀ vs, (∀ i ∈ idxTs gs, i ∈ vs) → wipe σ' vs = wipe σ vs) → Q σ' H) → gTs K gs xs σ H Q
  | [], [], xs, sl, sl', σ, Q, e, r, l, k => by
    rw [bindTs] at e
    cases e
    cases l
    rw [gTs]
    exact ⟨rfl, k σ r fun _ _ => rfl⟩
  | [], _ :: _, _, _, _, _, _, e, _, _, _ => by rw [bindTs] at e <;> first | cases e | simp
  | _ :: _, [], _, _, _, _, _, e, _, _, _ => by rw [bindTs] at e <;> first | cases e | simp
  | tg :: gs, t :: ts, xs, sl, sl', σ, Q, e, r, l, k => by
    rw [bindTs] at e
    obtain ⟨s1, e1, e2⟩ := bsome e
    cases l with
    | cons h l =>
      rw [gTs]
      refine ⟨_, _, rfl, bindT_ok e1 r h fun σ1 r1 w1 => bindTs_ok e2 r1 l fun σ2 r2 w2 => k σ2 r2 fun vs hv => ?_⟩
      rw [w2 vs fun i m => hv i (by rw [idxTs]; exact List.mem_append_right _ m), w1 vs fun i m => hv i (by rw [idxTs]; exact List.mem_append_left _ m)]
end
end

/-! ### list comprehensions -/
def lcGo (tg : Tg) (mt me : Ex) (sl : Sls) : List T → G → Option (List T × G)
  | [], g => some ([], g)
  | x :: xs, g => (bindT tg x sl).bind fun sl1 => (mt sl1 g).bind fun b => (boolOf b.1).bind fun k => if k = true then (me sl1 b.2).bind fun r => (clean r.1).bind fun t => (lcGo tg mt me sl xs r.2).map fun p => (t :: p.1, p.2) else lcGo tg mt me sl xs b.2
def eLc (mi : Is) (tg : Tg) (mt me : Ex) (vs : List Nat) : Ex := fun sl g => (mi sl g).bind fun a => (lcGo tg mt me (wipeS sl vs) a.1.1 a.2).bind fun p => (mkL p.1).map fun t => ((t, false), p.2)
section
variable {S : Sp2} {F F' : Addr → Prop} {H H' : Hp} {g g' : G} {sl sl' : Sls} {σ : L2.St} {D : Addr}
/-- the new list stands beside -/
theorem At.beside {o : HO} (n : ¬ F D) (nt : ∀ xs, H D ≠ some (.tup xs)) {t : T} {v : V} (h : At H F t v) : At (upd H D o) F t v :=
  h.up (fun a u f r => by
    have q : a ≠ D := fun z => n (z ▸ f)
    unfold Rd
    rw [upd_ne q]
    exact r) (fun a xs f e => by
    have q : a ≠ D := fun z => n (z ▸ f)
    rw [upd_ne q]
    exact e) (fun a xs e => by
    have q : a ≠ D := fun z => nt xs (by rw [← z]; exact e)
    rw [upd_ne q]
    exact e) (fun _ f => f)
theorem AtL.beside {o : HO} (n : ¬ F D) (nt : ∀ xs, H D ≠ some (.tup xs)) : ∀ {t : List T} {v : List V}, AtL H F t v → AtL (upd H D o) F t v
  | _, _, .nil => .nil
  | _, _, .cons h l => .cons (h.beside n nt) (AtL.beside n nt l)
theorem AtD.beside {o : HO} (n : ¬ F D) (nt : ∀ xs, H D ≠ some (.tup xs)) : ∀ {t : List (T × T)} {v : List (Key × V)}, AtD H F t v → AtD (upd H D o) F t v
  | _, _, .nil => .nil
  | _, _, .cons h l => .cons (h.beside n nt) (AtD.beside n nt l)
theorem StmAt.beside {o : HO} (h : StmAt H F S g) (n : ¬ Ws S D) : StmAt (upd H D o) F S g := by
  cases S with
  | none => cases g <;> exact h
  | some p =>
    cases g with
    | none => exact h
    | some ds =>
      obtain ⟨n0, n1, n2, e1, e2⟩ := h
      exact ⟨n0, n1, n2, by rw [upd_ne (fun z => n (.inl z.symm))]; exact e1, by rw [upd_ne (fun z => n (.inr z.symm))]; exact e2⟩
theorem Mv.beside {o : HO} (m : Mv S F H F' H') (h : H D = none) : Mv S F H F' (upd H' D o) := by
  refine ⟨m.ext, fun a u e w => ?_, fun a e => ?_, fun a xs e => ?_⟩
  · have q : a ≠ D := fun z => by rw [z, h] at e; cases e
    rw [upd_ne q]
    exact m.kp.ex a u e w
  · by_cases q : a = D
    · rw [q, upd_same]; simp
    · rw [upd_ne q]; exact m.kp.dom a e
  · have q : a ≠ D := fun z => by rw [z, h] at e; cases e
    rw [upd_ne q]
    exact m.kp.tup a xs e
theorem AtL.snoc {ts : List T} {xs : List V} {t : T} {v : V} (l : AtL H F ts xs) (h : At H F t v) : AtL H F (ts ++ [t]) (xs ++ [v]) := AtL.append (.cons h .nil) l
theorem Mv.at {o : HO} (m : Mv S F H F' H') (w : ¬ Ws S D) (n : ¬ F D) (e : H D = some o) : H' D = some o := by
  rcases m.kp.ex D o e w with z | ⟨z, _⟩
  · exact z
  · exact absurd z n
theorem Ext.off (m : Ext F F' H) (n : ¬ F D) (e : H D ≠ none) : ¬ F' D := fun z => by
  rcases m.new D z with q | q
  · exact n q
  · exact e q
/-- how far a comprehension has come -/
structure LcAt (S : Sp2) (F1 : Addr → Prop) (H1 : Hp) (D : Addr) (fin : List T) (gE : G) (run : List T → G → Option (List T × G)) (items : List T) (i : Nat) (H : Hp) : Prop where
  le : i ≤ items.length
  at_ : ∃ F g done acc rest, Mv S F1 H1 F H ∧ dF F H ∧ StmAt H F S g ∧ ¬ F D ∧ H D = some (.lst acc) ∧ AtL H F done acc ∧ run (items.drop i) g = some (rest, gE) ∧ done ++ rest = fin
theorem lc_run {K : PySem.W.Frag} {tg : Tg} {mt me : Ex} {vs : List Nat} {J : It} {items fin : List T} {gE : G} {tt : TT} {te : TE} {Qd : Hp → Prop} (rv : RV S F g sl σ H) (hD : H D = none) (iz : Iz (Mv S F H) J items) (hidx : ∀ i ∈ idxT tg, i ∈ vs)
    (run : lcGo tg mt me (wipeS sl vs) items g = some (fin, gE)) (hz : fin.length ≤ cap) (ht : ∀ σ H Q, rdT mt σ H Q → tt σ H Q) (he : ∀ σ H Q, rd me σ H Q → te σ H Q)
    (hq : ∀ F' H' acc, Mv S F H F' H' → dF F' H' → StmAt H' F' S gE → ¬ F' D → H' D = some (.lst acc) → AtL H' F' fin acc → Qd H') :
    ∃ W : Nat → Nat → Hp → Prop, (∃ m, W 0 m (upd H D (.lst []))) ∧ ∀ i m H, W i m H →
      (J.stop i H ∧ Qd H) ∨ (J.go i H ∧ ∃ Nx : Hp → Prop, (∀ H', Nx H' → ∃ m', m' < m ∧ W (i + 1) m' H') ∧ ∀ x H', J.yld i H x H' → gT K tg x (wipe σ vs) H' fun σ2 H2 => wipe σ2 vs = wipe σ vs ∧ tt σ2 H2 fun b H3 =>
        if b = true then te σ2 H3 fun y H4 => ∃ acc, H4 D = some (.lst acc) ∧ acc.length < sizeLine ∧ Nx (upd H4 D (.lst (acc ++ [y]))) else Nx H3) := by
  have wD : ¬ Ws S D := fun w => (rv.st.dom w) hD
  have nD : ¬ F D := fun f => (rv.d D f) hD
  refine ⟨fun i m H' => m = items.length - i ∧ LcAt S F H D fin gE (lcGo tg mt me (wipeS sl vs)) items i H', ⟨items.length, by omega, Nat.zero_le _, F, g, [], [], fin, Mv.beside .refl hD, up_dF rv.d, rv.st.beside wD, nD, upd_same, .nil, run, rfl⟩, ?_⟩
  rintro i m H2 ⟨rfl, hi, F2, g2, done, acc, rest, m2, d2, st2, n2, hacc, hdone, hrun, hfin⟩
  obtain ⟨iz1, iz2⟩ := iz F2 H2 m2 d2 i
  by_cases hlt : i < items.length
  · right
    have hx : items[i]? = some items[i] := List.getElem?_eq_getElem hlt
    obtain ⟨go, yl⟩ := iz1 _ hx
    rw [List.drop_eq_getElem_cons hlt] at hrun
    unfold lcGo at hrun
    obtain ⟨sl1, b1, hrun⟩ := bsome hrun
    obtain ⟨⟨rb, g3⟩, b2, hrun⟩ := bsome hrun
    obtain ⟨k, b3, hrun⟩ := bsome hrun
    refine ⟨go, fun H' => LcAt S F H D fin gE (lcGo tg mt me (wipeS sl vs)) items (i + 1) H', fun H' l => ⟨items.length - (i + 1), by omega, rfl, l⟩, fun x H3 y => ?_⟩
    obtain ⟨F3, x3, k3, d3, hat⟩ := yl x H3 y
    have m3 : Mv S F2 H2 F3 H3 := .of x3 k3
    have st3 := st2.keep x3 k3 fun _ _ z => z
    have rv3 : RV S F3 g2 (wipeS sl vs) (wipe σ vs) H3 := (rv.wipe vs).keep (m2.trans m3) d3 st3
    have n3 : ¬ F3 D := x3.off n2 (by rw [hacc]; simp)
    have hacc3 : H3 D = some (.lst acc) := m3.at wD n2 hacc
    have hdone3 := hdone.mv m3 st2.off
    refine bindT_ok b1 rv3 hat fun σ2 r2 w2 => ⟨by rw [w2 vs hidx, wipe_wipe vs vs fun _ z => z], ht _ _ _ ⟨S, F3, sl1, g2, rb, k, g3, r2, b2, b3, fun F4 H4 m4 rv4 => ?_⟩⟩
    have m14 : Mv S F H F4 H4 := m2.trans (m3.trans m4)
    have n4 : ¬ F4 D := m4.ext.off n3 (by rw [hacc3]; simp)
    have hacc4 : H4 D = some (.lst acc) := m4.at wD n3 hacc3
    have hdone4 := hdone3.mv m4 st3.off
    cases k with
    | false =>
      rw [if_neg Bool.false_ne_true] at hrun
      dsimp only
      rw [if_neg Bool.false_ne_true]
      exact ⟨hlt, F4, g3, done, acc, rest, m14, rv4.d, rv4.st, n4, hacc4, hdone4, hrun, hfin⟩
    | true =>
      rw [if_pos rfl] at hrun
      dsimp only
      rw [if_pos rfl]
      obtain ⟨⟨r, g5⟩, c1, hrun⟩ := bsome hrun
      obtain ⟨t, c2, hrun⟩ := bsome hrun
      obtain ⟨⟨rest', gx⟩, c3, c4⟩ := msome hrun
      cases c4
      refine he _ _ _ ⟨S, F4, sl1, g3, r, g5, rv4, c1, fun F5 z H5 m5 rv5 v5 => ?_⟩
      have n5 : ¬ F5 D := m5.ext.off n4 (by rw [hacc4]; simp)
      have hacc5 : H5 D = some (.lst acc) := m5.at wD n4 hacc4
      have hdone5 := hdone4.mv m5 rv4.st.off
      have hlen : acc.length < sizeLine := by
        have h1 := hdone.length
        have h2 := congrArg List.length hfin
        rw [List.length_append, List.length_cons] at h2
        have : fin.length ≤ sizeLine := hz
        omega
      refine ⟨acc, hacc5, hlen, hlt, F5, g5, done ++ [t], acc ++ [z], rest', m14.trans m5 |>.beside hD, up_dF rv5.d, rv5.st.beside wD, n5, upd_same, ?_, c3, by rw [List.append_assoc]; exact hfin⟩
      exact (hdone5.snoc (v5.clean c2)).beside n5 (fun xs e => by rw [hacc5] at e; cases e)
  · left
    have e : i = items.length := by omega
    subst e
    rw [List.drop_length] at hrun
    unfold lcGo at hrun
    cases hrun
    rw [List.append_nil] at hfin
    subst hfin
    exact ⟨iz2 (Nat.le_refl _), hq F2 H2 acc m2 d2 st2 n2 hacc hdone⟩
end
end VM
/-! V13: comprehensions as expressions, fresh things -/
namespace VM
open PySem PySem.Spec PyProof.Rows L2

/-- a container of one's own comes -/
def rdF (m : Ex) : TE := fun σ H Q => ∃ S F sl g r g', RV S F g sl σ H ∧ m sl g = some (r, g') ∧ ∀ F' a H', Mv S F H F' H' → RV S F' g' sl σ H' → Own H' F' r.1 a → ¬ F' a → ¬ Ws S a → H a = none → Q (.ref a) H'
section
variable {S : Sp2} {F F' : Addr → Prop} {H H' : Hp} {g g' : G} {sl sl' : Sls} {σ : L2.St} {D : Addr}
theorem add_dF (d : dF F H) (h : H D ≠ none) : dF (add1 F D) H := fun a f => by
  rcases f with f | f
  · exact d a f
  · rw [f]; exact h
theorem Ext.add (x : Ext F F' H) (h : H D = none) : Ext F (add1 F' D) H := ⟨fun a f => .inl (x.sub a f), fun a f => by
  rcases f with f | f
  · exact x.new a f
  · rw [f]; exact .inr h⟩
theorem StmAt.add (h : StmAt H F S g) (n : ¬ Ws S D) : StmAt H (add1 F D) S g := by
  cases S with
  | none => cases g <;> exact h
  | some p =>
    cases g with
    | none => exact h
    | some ds =>
      obtain ⟨n0, n1, n2, e1, e2⟩ := h
      exact ⟨n0, fun z => z.elim n1 fun q => n (.inl q.symm), fun z => z.elim n2 fun q => n (.inr q.symm), e1, e2⟩
theorem At.more {t : T} {v : V} (h : At H F t v) : At H (add1 F D) t v := h.up (fun _ _ _ r => r) (fun _ _ _ e => e) (fun _ _ e => e) fun _ f => .inl f
theorem AtL.more {t : List T} {v : List V} (h : AtL H F t v) : AtL H (add1 F D) t v := h.up (fun _ _ _ r => r) (fun _ _ _ e => e) (fun _ _ e => e) fun _ f => .inl f
theorem AtD.more {t : List (T × T)} {v : List (Key × V)} (h : AtD H F t v) : AtD H (add1 F D) t v := h.up (fun _ _ _ r => r) (fun _ _ _ e => e) (fun _ _ e => e) fun _ f => .inl f
/-- what came fresh is clean -/
theorem rdF.end {o : HO} {t : T} (rv : RV S F g sl σ H) (hD : H D = none) (m : Mv S F H F' H') (d : dF F' H') (st : StmAt H' F' S g') (n : ¬ F' D) (e : H' D = some o) : RV S (add1 F' D) g' sl σ H' ∧ Mv S F H (add1 F' D) H' := by
  have m2 : Mv S F H (add1 F' D) H' := ⟨m.ext.add hD, m.kp⟩
  exact ⟨rv.keep m2 (add_dF d (by rw [e]; simp)) (st.add fun w => (rv.st.dom w) hD), m2⟩
/-! ### list comprehensions -/
theorem tLc_of {K : PySem.W.Frag} {mi : Is} {tg : Tg} {mt me : Ex} {vs : List Nat} {tt : TT} {te : TE} {Q : VK} (hidx : ∀ i ∈ idxT tg, i ∈ vs) (ht : ∀ σ H Q, rdT mt σ H Q → tt σ H Q) (he : ∀ σ H Q, rd me σ H Q → te σ H Q)
    (h : rd (eLc mi tg mt me vs) σ H Q) : tLc (rdI mi) (gT K tg) tt te vs σ H Q := by
  obtain ⟨S, F, sl, g, r, g', rv, e, post⟩ := h
  obtain ⟨⟨⟨items, b⟩, g1⟩, e1, e⟩ := bsome e
  obtain ⟨⟨fin, gE⟩, e2, e⟩ := bsome e
  obtain ⟨t, e3, e⟩ := msome e
  cases e
  unfold mkL at e3
  split at e3
  · rename_i hz
    cases e3
    refine ⟨S, F, sl, g, items, b, g1, rv, e1, fun F1 J H1 m1 rv1 iz _ D hD => ?_⟩
    refine lc_run rv1 hD iz hidx e2 hz ht he fun F2 H2 acc m2 d2 st2 n2 hacc l => ?_
    obtain ⟨rv3, m3⟩ := rdF.end (t := .none) rv1 hD m2 d2 st2 n2 hacc
    exact post _ _ H2 (m1.trans m3) rv3 (.cl (.list hacc (.inr rfl) l.more))
  · cases e3
theorem tLc_ofF {K : PySem.W.Frag} {mi : Is} {tg : Tg} {mt me : Ex} {vs : List Nat} {tt : TT} {te : TE} {Q : VK} (hidx : ∀ i ∈ idxT tg, i ∈ vs) (ht : ∀ σ H Q, rdT mt σ H Q → tt σ H Q) (he : ∀ σ H Q, rd me σ H Q → te σ H Q)
    (h : rdF (eLc mi tg mt me vs) σ H Q) : tLc (rdI mi) (gT K tg) tt te vs σ H Q := by
  obtain ⟨S, F, sl, g, r, g', rv, e, post⟩ := h
  obtain ⟨⟨⟨items, b⟩, g1⟩, e1, e⟩ := bsome e
  obtain ⟨⟨fin, gE⟩, e2, e⟩ := bsome e
  obtain ⟨t, e3, e⟩ := msome e
  cases e
  unfold mkL at e3
  split at e3
  · rename_i hz
    cases e3
    refine ⟨S, F, sl, g, items, b, g1, rv, e1, fun F1 J H1 m1 rv1 iz _ D hD => ?_⟩
    refine lc_run rv1 hD iz hidx e2 hz ht he fun F2 H2 acc m2 d2 st2 n2 hacc l => ?_
    have h0 : H D = none := by
      cases q : H D with
      | none => rfl
      | some o => exact absurd hD (m1.kp.dom D (by rw [q]; simp))
    exact post F2 D H2 (m1.trans m2) (rv1.keep m2 d2 st2) ⟨_, hacc, l⟩ n2 (fun w => (rv1.st.dom w) hD) h0
  · cases e3
/-! ### dict comprehensions -/
def dcGo (tg : Tg) (mt mk me : Ex) (sl : Sls) : List T → List (T × T) → G → Option (List (T × T) × G)
  | [], ds, g => some (ds, g)
  | x :: xs, ds, g => (bindT tg x sl).bind fun sl1 => (mt sl1 g).bind fun b => (boolOf b.1).bind fun k => if k = true then (mk sl1 b.2).bind fun q => (keyOf q.1.1).bind fun _ => (me sl1 q.2).bind fun r => (clean r.1).bind fun t =>
      if ds.length < cap then dcGo tg mt mk me sl xs (putD ds q.1.1 t) r.2 else none
    else dcGo tg mt mk me sl xs ds b.2
def eDc (mi : Is) (tg : Tg) (mt mk me : Ex) (vs : List Nat) : Ex := fun sl g => (mi sl g).bind fun a => (dcGo tg mt mk me (wipeS sl vs) a.1.1 [] a.2).map fun p => ((.dict p.1, false), p.2)
structure DcAt (S : Sp2) (F1 : Addr → Prop) (H1 : Hp) (D : Addr) (fin : List (T × T)) (gE : G) (run : List T → List (T × T) → G → Option (List (T × T) × G)) (items : List T) (i : Nat) (H : Hp) : Prop where
  le : i ≤ items.length
  at_ : ∃ F g done acc, Mv S F1 H1 F H ∧ dF F H ∧ StmAt H F S g ∧ ¬ F D ∧ H D = some (.dK acc) ∧ AtD H F done acc ∧ run (items.drop i) done g = some (fin, gE)
theorem AtD.mv (m : Mv S F H F' H') (o : ∀ a, F a → ¬ Ws S a) {t : List (T × T)} {v : List (Key × V)} (h : AtD H F t v) : AtD H' F' t v := h.lt (m.lt o)
theorem dc_run {K : PySem.W.Frag} {tg : Tg} {mt mk me : Ex} {vs : List Nat} {J : It} {items : List T} {fin : List (T × T)} {gE : G} {tt : TT} {tk te : TE} {Qd : Hp → Prop} (rv : RV S F g sl σ H) (hD : H D = none) (iz : Iz (Mv S F H) J items) (hidx : ∀ i ∈ idxT tg, i ∈ vs)
    (run : dcGo tg mt mk me (wipeS sl vs) items [] g = some (fin, gE)) (ht : ∀ σ H Q, rdT mt σ H Q → tt σ H Q) (hk : ∀ σ H Q, rd mk σ H Q → tk σ H Q) (he : ∀ σ H Q, rd me σ H Q → te σ H Q)
    (hq : ∀ F' H' acc, Mv S F H F' H' → dF F' H' → StmAt H' F' S gE → ¬ F' D → H' D = some (.dK acc) → AtD H' F' fin acc → Qd H') :
    ∃ W : Nat → Nat → Hp → Prop, (∃ m, W 0 m (upd H D (.dK []))) ∧ ∀ i m H, W i m H →
      (J.stop i H ∧ Qd H) ∨ (J.go i H ∧ ∃ Nx : Hp → Prop, (∀ H', Nx H' → ∃ m', m' < m ∧ W (i + 1) m' H') ∧ ∀ x H', J.yld i H x H' → gT K tg x (wipe σ vs) H' fun σ2 H2 => wipe σ2 vs = wipe σ vs ∧ tt σ2 H2 fun b H3 =>
        if b = true then tk σ2 H3 fun y H4 => te σ2 H4 fun z H5 => ∃ kvs k, y = kV k ∧ H5 D = some (.dK kvs) ∧ kvs.length < sizeLine ∧ Nx (upd H5 D (.dK (putK kvs k z))) else Nx H3) := by
  have wD : ¬ Ws S D := fun w => (rv.st.dom w) hD
  have nD : ¬ F D := fun f => (rv.d D f) hD
  refine ⟨fun i m H' => m = items.length - i ∧ DcAt S F H D fin gE (dcGo tg mt mk me (wipeS sl vs)) items i H', ⟨items.length, by omega, Nat.zero_le _, F, g, [], [], Mv.beside .refl hD, up_dF rv.d, rv.st.beside wD, nD, upd_same, .nil, run⟩, ?_⟩
  rintro i m H2 ⟨rfl, hi, F2, g2, done, acc, m2, d2, st2, n2, hacc, hdone, hrun⟩
  obtain ⟨iz1, iz2⟩ := iz F2 H2 m2 d2 i
  by_cases hlt : i < items.length
  · right
    have hx : items[i]? = some items[i] := List.getElem?_eq_getElem hlt
    obtain ⟨go, yl⟩ := iz1 _ hx
    rw [List.drop_eq_getElem_cons hlt] at hrun
    unfold dcGo at hrun
    obtain ⟨sl1, b1, hrun⟩ := bsome hrun
    obtain ⟨⟨rb, g3⟩, b2, hrun⟩ := bsome hrun
    obtain ⟨k, b3, hrun⟩ := bsome hrun
    refine ⟨go, fun H' => DcAt S F H D fin gE (dcGo tg mt mk me (wipeS sl vs)) items (i + 1) H', fun H' l => ⟨items.length - (i + 1), by omega, rfl, l⟩, fun x H3 y => ?_⟩
    obtain ⟨F3, x3, k3, d3, hat⟩ := yl x H3 y
    have m3 : Mv S F2 H2 F3 H3 := .of x3 k3
    have st3 := st2.keep x3 k3 fun _ _ z => z
    have rv3 : RV S F3 g2 (wipeS sl vs) (wipe σ vs) H3 := (rv.wipe vs).keep (m2.trans m3) d3 st3
    have n3 : ¬ F3 D := x3.off n2 (by rw [hacc]; simp)
    have hacc3 : H3 D = some (.dK acc) := m3.at wD n2 hacc
    have hdone3 := hdone.mv m3 st2.off
    refine bindT_ok b1 rv3 hat fun σ2 r2 w2 => ⟨by rw [w2 vs hidx, wipe_wipe vs vs fun _ z => z], ht _ _ _ ⟨S, F3, sl1, g2, rb, k, g3, r2, b2, b3, fun F4 H4 m4 rv4 => ?_⟩⟩
    have m14 : Mv S F H F4 H4 := m2.trans (m3.trans m4)
    have n4 : ¬ F4 D := m4.ext.off n3 (by rw [hacc3]; simp)
    have hacc4 : H4 D = some (.dK acc) := m4.at wD n3 hacc3
    have hdone4 := hdone3.mv m4 st3.off
    cases k with
    | false =>
      rw [if_neg Bool.false_ne_true] at hrun
      dsimp only
      rw [if_neg Bool.false_ne_true]
      exact ⟨hlt, F4, g3, done, acc, m14, rv4.d, rv4.st, n4, hacc4, hdone4, hrun⟩
    | true =>
      rw [if_pos rfl] at hrun
      dsimp only
      rw [if_pos rfl]
      obtain ⟨⟨q, g5⟩, c1, hrun⟩ := bsome hrun
      obtain ⟨kk, c2, hrun⟩ := bsome hrun
      obtain ⟨⟨r, g6⟩, c3, hrun⟩ := bsome hrun
      obtain ⟨t, c4, hrun⟩ := bsome hrun
      refine hk _ _ _ ⟨S, F4, sl1, g3, q, g5, rv4, c1, fun F5 y5 H5 m5 rv5 v5 => he _ _ _ ⟨S, F5, sl1, g5, r, g6, rv5, c3, fun F6 z H6 m6 rv6 v6 => ?_⟩⟩
      have n5 : ¬ F5 D := m5.ext.off n4 (by rw [hacc4]; simp)
      have hacc5 : H5 D = some (.dK acc) := m5.at wD n4 hacc4
      have n6 : ¬ F6 D := m6.ext.off n5 (by rw [hacc5]; simp)
      have hacc6 : H6 D = some (.dK acc) := m6.at wD n5 hacc5
      have hdone6 := (hdone4.mv m5 rv4.st.off).mv m6 rv5.st.off
      have ky := keyOf_some c2
      have hky : y5 = kV kk := by
        have hb := v5.1.bt
        dsimp only at ky
        rw [ky] at hb
        exact keyT_at hb
      split at hrun
      · rename_i hlen
        have hl : acc.length < sizeLine := by rw [← hdone.len]; exact hlen
        refine ⟨acc, kk, hky, hacc6, hl, hlt, F6, g6, _, _, (m14.trans (m5.trans m6)).beside hD, up_dF rv6.d, rv6.st.beside wD, n6, upd_same, ?_, hrun⟩
        dsimp only at ky
        rw [ky]
        exact (hdone6.put (v6.clean c4)).beside n6 (fun xs e => by rw [hacc6] at e; cases e)
      · cases hrun
  · left
    have e : i = items.length := by omega
    subst e
    rw [List.drop_length] at hrun
    unfold dcGo at hrun
    cases hrun
    exact ⟨iz2 (Nat.le_refl _), hq F2 H2 acc m2 d2 st2 n2 hacc hdone⟩
theorem tDc_of {K : PySem.W.Frag} {mi : Is} {tg : Tg} {mt mk me : Ex} {vs : List Nat} {tt : TT} {tk te : TE} {Q : VK} (hidx : ∀ i ∈ idxT tg, i ∈ vs) (ht : ∀ σ H Q, rdT mt σ H Q → tt σ H Q) (hk : ∀ σ H Q, rd mk σ H Q → tk σ H Q) (he : ∀ σ H Q, rd me σ H Q → te σ H Q)
    (h : rd (eDc mi tg mt mk me vs) σ H Q) : tDc (rdI mi) (gT K tg) tt tk te vs σ H Q := by
  obtain ⟨S, F, sl, g, r, g', rv, e, post⟩ := h
  obtain ⟨⟨⟨items, b⟩, g1⟩, e1, e⟩ := bsome e
  obtain ⟨⟨fin, gE⟩, e2, e⟩ := msome e
  cases e
  refine ⟨S, F, sl, g, items, b, g1, rv, e1, fun F1 J H1 m1 rv1 iz _ D hD => ?_⟩
  refine dc_run rv1 hD iz hidx e2 ht hk he fun F2 H2 acc m2 d2 st2 n2 hacc l => ?_
  obtain ⟨rv3, m3⟩ := rdF.end (t := .none) rv1 hD m2 d2 st2 n2 hacc
  exact post _ _ H2 (m1.trans m3) rv3 (.cl (.dK (.inl hacc) (.inr rfl) l.more))
theorem tDc_ofF {K : PySem.W.Frag} {mi : Is} {tg : Tg} {mt mk me : Ex} {vs : List Nat} {tt : TT} {tk te : TE} {Q : VK} (hidx : ∀ i ∈ idxT tg, i ∈ vs) (ht : ∀ σ H Q, rdT mt σ H Q → tt σ H Q) (hk : ∀ σ H Q, rd mk σ H Q → tk σ H Q) (he : ∀ σ H Q, rd me σ H Q → te σ H Q)
    (h : rdF (eDc mi tg mt mk me vs) σ H Q) : tDc (rdI mi) (gT K tg) tt tk te vs σ H Q := by
  obtain ⟨S, F, sl, g, r, g', rv, e, post⟩ := h
  obtain ⟨⟨⟨items, b⟩, g1⟩, e1, e⟩ := bsome e
  obtain ⟨⟨fin, gE⟩, e2, e⟩ := msome e
  cases e
  refine ⟨S, F, sl, g, items, b, g1, rv, e1, fun F1 J H1 m1 rv1 iz _ D hD => ?_⟩
  refine dc_run rv1 hD iz hidx e2 ht hk he fun F2 H2 acc m2 d2 st2 n2 hacc l => ?_
  have h0 : H D = none := by
    cases q : H D with
    | none => rfl
    | some o => exact absurd hD (m1.kp.dom D (by rw [q]; simp))
  exact post F2 D H2 (m1.trans m2) (rv1.keep m2 d2 st2) ⟨_, hacc, l⟩ n2 (fun w => (rv1.st.dom w) hD) h0
/-! ### other fresh things -/
theorem tLst_ofF {ms : Exs} {Q : VK} (h : rdF (eLst ms) σ H Q) : tLst (rdA ms) σ H Q := by
  obtain ⟨S, F, sl, g, r, g', rv, e, post⟩ := h
  obtain ⟨⟨a, g1⟩, e1, e⟩ := bsome e
  obtain ⟨ts, e2, e⟩ := bsome e
  obtain ⟨t, e3, e⟩ := msome e
  cases e
  unfold mkL at e3
  split at e3
  · rename_i hl
    cases e3
    refine ⟨S, F, sl, g, a, g1, rv, e1, fun F1 xs H1 m1 rv1 v1 => ?_⟩
    have l := v1.cleans e2
    refine ⟨by rw [← l.length]; exact hl, fun p hp => ?_⟩
    have n : ¬ F1 p := fun f => (rv1.d p f) hp
    have h0 : H p = none := by
      cases q : H p with
      | none => rfl
      | some o => exact absurd hp (m1.kp.dom p (by rw [q]; simp))
    have m2 : Mv S F1 H1 F1 (upd H1 p (.lst xs)) := .of .refl (new_kp hp)
    exact post F1 p _ (m1.trans m2) (rv1.keep0 .refl (new_kp hp) (up_dF rv1.d)) ⟨_, upd_same, l.mv m2 rv1.st.off⟩ n (fun w => (rv1.st.dom w) hp) h0
  · cases e3
/-- {} -/
def eD0 : Ex := fun _ g => some ((.dict [], false), g)
theorem tDNewK_of {Q : VK} (h : rd eD0 σ H Q) : tDNewK σ H Q := by
  obtain ⟨S, F, sl, g, r, g', rv, e, post⟩ := h
  cases e
  intro p hp
  exact post _ _ _ (.of (new_ext hp) (new_kp hp)) (rv.keep0 (new_ext hp) (new_kp hp) (new_dF rv.d)) (.cl (new_dk hp .nil))
theorem tDNewK_ofF {Q : VK} (h : rdF eD0 σ H Q) : tDNewK σ H Q := by
  obtain ⟨S, F, sl, g, r, g', rv, e, post⟩ := h
  cases e
  intro p hp
  exact post F p _ (.of .refl (new_kp hp)) (rv.keep0 .refl (new_kp hp) (up_dF rv.d)) ⟨_, upd_same, .nil⟩ (fun f => (rv.d p f) hp) (fun w => (rv.st.dom w) hp) hp
end
end VM
/-! V14: statements -/
namespace VM
open PySem PySem.Spec PyProof.Rows L2

inductive Fl where
  | nx | bk | ct | rt (t : T)
abbrev Sm := Sls → G → Option (Fl × Sls × G)
def OwnA (sl : Sls) (σ : L2.St) (a : Addr) : Prop := ∃ i, isOw (gets sl i) = true ∧ getv σ i = some (.ref a)
/-- what a statement may do -/
structure GoR (S : Sp2) (sl : Sls) (σ : L2.St) (F : Addr → Prop) (H : Hp) (F' : Addr → Prop) (H' : Hp) : Prop where
  sub : ∀ a, F a → F' a
  new : ∀ a, F' a → F a ∨ H a = none ∨ OwnA sl σ a
  kp : Kp F (fun a => Ws S a ∨ OwnA sl σ a) H H'
structure Go (S : Sp2) (sl : Sls) (σ : L2.St) (F : Addr → Prop) (H : Hp) (sl' : Sls) (σ' : L2.St) (F' : Addr → Prop) (H' : Hp) : Prop extends GoR S sl σ F H F' H' where
  own : ∀ a, OwnA sl' σ' a → OwnA sl σ a ∨ H a = none
def PostS (S : Sp2) (F : Addr → Prop) (sl : Sls) (σ : L2.St) (H : Hp) (fl : Fl) (sl' : Sls) (g' : G) (D : Ends) : Prop := match fl with
  | .nx => ∀ F' σ' H', Go S sl σ F H sl' σ' F' H' → RV S F' g' sl' σ' H' → D.nx σ' H'
  | .bk => ∀ F' σ' H', Go S sl σ F H sl' σ' F' H' → RV S F' g' sl' σ' H' → D.bk σ' H'
  | .ct => ∀ F' σ' H', Go S sl σ F H sl' σ' F' H' → RV S F' g' sl' σ' H' → D.ct σ' H'
  | .rt t => ∀ F' v H', GoR S sl σ F H F' H' → dF F' H' → StmAt H' F' S g' → At H' F' t v → D.rt v H'
def rdM (m : Sm) : TS := fun D σ H => ∃ S F sl g fl sl' g', RV S F g sl σ H ∧ m sl g = some (fl, sl', g') ∧ PostS S F sl σ H fl sl' g' D
section
variable {S : Sp2} {F F' F2 : Addr → Prop} {H H' H2 : Hp} {g g' : G} {sl sl' sl2 : Sls} {σ σ' σ2 : L2.St} {D : Addr}
theorem Go.refl : Go S sl σ F H sl σ F H := ⟨⟨fun _ h => h, fun _ h => .inl h, .refl⟩, fun _ h => .inl h⟩
theorem Mv.go (m : Mv S F H F' H') : Go S sl σ F H sl σ F' H' := ⟨⟨m.ext.sub, fun a f => (m.ext.new a f).imp id .inl, m.kp.mono fun _ w => .inl w⟩, fun _ h => .inl h⟩
theorem none_of {a : Addr} (k : ∀ a, H a ≠ none → H' a ≠ none) (h : H' a = none) : H a = none := by
  cases q : H a with
  | none => rfl
  | some o => exact absurd h (k a (by rw [q]; simp))
theorem Go.thenR (a : Go S sl σ F H sl' σ' F' H') (b : GoR S sl' σ' F' H' F2 H2) : GoR S sl σ F H F2 H2 := by
  refine ⟨fun x f => b.sub x (a.sub x f), fun x f => ?_, ⟨fun x o e w => ?_, fun x e => b.kp.dom x (a.kp.dom x e), fun x xs e => b.kp.tup x xs (a.kp.tup x xs e)⟩⟩
  · rcases b.new x f with q | q | q
    · exact a.new x q
    · exact .inr (.inl (none_of a.kp.dom q))
    · rcases a.own x q with z | z
      · exact .inr (.inr z)
      · exact .inr (.inl z)
  · have w2 : ¬ (Ws S x ∨ OwnA sl' σ' x) := fun z => by
      rcases z with z | z
      · exact w (.inl z)
      · rcases a.own x z with q | q
        · exact w (.inr q)
        · rw [e] at q; cases q
    rcases a.kp.ex x o e w with z | ⟨f, d, od, z⟩
    · rcases b.kp.ex x o z w2 with z2 | ⟨f, d, od, z2⟩
      · exact .inl z2
      · refine .inr ⟨?_, d, od, z2⟩
        rcases a.new x f with q | q | q
        · exact q
        · rw [e] at q; cases q
        · exact absurd (.inr q) w
    · rcases b.kp.ex x _ z w2 with z2 | ⟨_, d2, _⟩
      · exact .inr ⟨f, d, od, z2⟩
      · exact absurd (show false = true from d2) Bool.false_ne_true
theorem Go.trans (a : Go S sl σ F H sl' σ' F' H') (b : Go S sl' σ' F' H' sl2 σ2 F2 H2) : Go S sl σ F H sl2 σ2 F2 H2 :=
  ⟨a.thenR b.toGoR, fun x o => by
    rcases b.own x o with q | q
    · exact a.own x q
    · exact .inr (none_of a.kp.dom q)⟩
theorem PostS.of {fl : Fl} {g2 : G} {D : Ends} (a : Go S sl σ F H sl' σ' F' H') (h : PostS S F sl σ H fl sl2 g2 D) : PostS S F' sl' σ' H' fl sl2 g2 D := by
  unfold PostS at h ⊢
  cases fl with
  | nx => exact fun F2 σ2 H2 b r => h F2 σ2 H2 (a.trans b) r
  | bk => exact fun F2 σ2 H2 b r => h F2 σ2 H2 (a.trans b) r
  | ct => exact fun F2 σ2 H2 b r => h F2 σ2 H2 (a.trans b) r
  | rt t => exact fun F2 v H2 b d st v2 => h F2 v H2 (a.thenR b) d st v2

/-! ### combinators -/
def mNx : Sm := fun sl g => some (.nx, sl, g)
def mBk : Sm := fun sl g => some (.bk, sl, g)
def mCt : Sm := fun sl g => some (.ct, sl, g)
def mNo : Sm := fun _ _ => none
def mSeq (a b : Sm) : Sm := fun sl g => (a sl g).bind fun r => match r.1 with
  | .nx => b r.2.1 r.2.2
  | _ => some r
def mDrop (m : Ex) : Sm := fun sl g => (m sl g).map fun r => (.nx, sl, r.2)
def mRet (m : Ex) : Sm := fun sl g => (m sl g).bind fun r => (clean r.1).map fun t => (.rt t, sl, r.2)
def mRetN : Sm := fun sl g => some (.rt .none, sl, g)
def mSet (i : Nat) (m : Ex) : Sm := fun sl g => (m sl g).bind fun r => (clean r.1).map fun t => (.nx, sl.set i (.cl t), r.2)
def mSetF (i : Nat) (m : Ex) : Sm := fun sl g => (m sl g).map fun r => (.nx, sl.set i (.ow r.1.1), r.2)
def mUnp (tg : Tg) (m : Ex) : Sm := fun sl g => (m sl g).bind fun r => (clean r.1).bind fun t => (bindT tg t sl).map fun sl1 => (.nx, sl1, r.2)
def mIf (c : Ex) (a b : Sm) : Sm := fun sl g => (c sl g).bind fun r => (boolOf r.1).bind fun k => if k = true then a sl r.2 else b sl r.2
def mAug (i : Nat) (f : T → T → Option T) (m : Ex) : Sm := fun sl g => (eVar i sl g).bind fun a => (m sl a.2).bind fun b => (f a.1.1 b.1.1).map fun t => (.nx, sl.set i (.cl t), b.2)
def forGo (tg : Tg) (mb : Sm) : List T → Sls → G → Option (Fl × Sls × G)
  | [], sl, g => some (.nx, sl, g)
  | x :: xs, sl, g => (bindT tg x sl).bind fun sl1 => (mb sl1 g).bind fun r => match r.1 with
    | .nx => forGo tg mb xs r.2.1 r.2.2
    | .ct => forGo tg mb xs r.2.1 r.2.2
    | .bk => some (.nx, r.2)
    | .rt t => some (.rt t, r.2)
def mFor (mi : Is) (tg : Tg) (mb : Sm) : Sm := fun sl g => (mi sl g).bind fun a => if a.1.2 = true then none else forGo tg mb a.1.1 sl a.2
def whileGo (c : Ex) (mb : Sm) : Nat → Sls → G → Option (Fl × Sls × G)
  | 0, _, _ => none
  | n + 1, sl, g => (c sl g).bind fun r => (boolOf r.1).bind fun k => if k = true then (mb sl r.2).bind fun q => match q.1 with
      | .nx => whileGo c mb n q.2.1 q.2.2
      | .ct => whileGo c mb n q.2.1 q.2.2
      | .bk => some (.nx, q.2)
      | .rt t => some (.rt t, q.2)
    else some (.nx, sl, r.2)
def mWhile (n : Nat) (c : Ex) (mb : Sm) : Sm := fun sl g => whileGo c mb n sl g
/-- own things that are handed on -/
def frz1 (sl : Sls) (i : Nat) : Sls := match gets sl i with
  | .ow t => sl.set i (.cl t)
  | _ => sl
def frz (is : List Nat) (sl : Sls) : Sls := is.foldl frz1 sl
def mFrz (is : List Nat) (m : Sm) : Sm := fun sl g => m (frz is sl) g

/-! ### sound -/
variable {Dn : Ends} {m m1 m2 : Sm} {me mc : Ex}
theorem tNext_of (h : rdM mNx Dn σ H) : tNext Dn σ H := by
  obtain ⟨S, F, sl, g, fl, sl', g', rv, e, post⟩ := h
  cases e
  exact post F σ H .refl rv
theorem tBreak_of (h : rdM mBk Dn σ H) : tBreak Dn σ H := by
  obtain ⟨S, F, sl, g, fl, sl', g', rv, e, post⟩ := h
  cases e
  exact post F σ H .refl rv
theorem tCont_of (h : rdM mCt Dn σ H) : tCont Dn σ H := by
  obtain ⟨S, F, sl, g, fl, sl', g', rv, e, post⟩ := h
  cases e
  exact post F σ H .refl rv
theorem tNever_of (h : rdM mNo Dn σ H) : tNever Dn σ H := by
  obtain ⟨S, F, sl, g, fl, sl', g', rv, e, post⟩ := h
  cases e
theorem tSeq_of (h : rdM (mSeq m1 m2) Dn σ H) : tSeq (rdM m1) (rdM m2) Dn σ H := by
  obtain ⟨S, F, sl, g, fl, sl', g', rv, e, post⟩ := h
  obtain ⟨⟨f1, s1, g1⟩, e1, e⟩ := bsome e
  refine ⟨S, F, sl, g, f1, s1, g1, rv, e1, ?_⟩
  cases f1 with
  | nx => exact fun F1 σ1 H1 a r1 => ⟨S, F1, s1, g1, fl, sl', g', r1, e, post.of a⟩
  | bk => cases e; exact post
  | ct => cases e; exact post
  | rt t => cases e; exact post
theorem tDrop_of (h : rdM (mDrop me) Dn σ H) : tDrop (rd me) Dn σ H := by
  obtain ⟨S, F, sl, g, fl, sl', g', rv, e, post⟩ := h
  obtain ⟨⟨r, g1⟩, e1, e⟩ := msome e
  cases e
  exact ⟨S, F, sl, g, r, g1, rv, e1, fun F1 v H1 m1 rv1 v1 => post F1 σ H1 m1.go rv1⟩
theorem tRet_of (h : rdM (mRet me) Dn σ H) : tRet (rd me) Dn σ H := by
  obtain ⟨S, F, sl, g, fl, sl', g', rv, e, post⟩ := h
  obtain ⟨⟨r, g1⟩, e1, e⟩ := bsome e
  obtain ⟨t, e2, e⟩ := msome e
  cases e
  exact ⟨S, F, sl, g, r, g1, rv, e1, fun F1 v H1 m1 rv1 v1 => post F1 v H1 (m1.go (sl := sl) (σ := σ)).toGoR rv1.d rv1.st (v1.clean e2)⟩
theorem tRetN_of (h : rdM mRetN Dn σ H) : tRetN Dn σ H := by
  obtain ⟨S, F, sl, g, fl, sl', g', rv, e, post⟩ := h
  cases e
  exact post F .non H (Go.refl (sl := sl) (σ := σ)).toGoR rv.d rv.st .none
theorem OwnA.set {i : Nat} {x : Sl} {v : Option V} {a : Addr} (n : isOw x = false) (hl : sl.length = σ.length) (h : OwnA (sl.set i x) (σ.set i v) a) : OwnA sl σ a := by
  obtain ⟨j, h1, h2⟩ := h
  rw [gets_set] at h1
  rw [getv_set, ← hl] at h2
  by_cases c : i = j ∧ i < sl.length
  · rw [if_pos c, n] at h1; cases h1
  · rw [if_neg c] at h1 h2
    exact ⟨j, h1, h2⟩
theorem Go.setc {i : Nat} {x : Sl} {v : Option V} (n : isOw x = false) (hl : sl.length = σ.length) : Go S sl σ F H (sl.set i x) (σ.set i v) F H := ⟨⟨fun _ h => h, fun _ h => .inl h, .refl⟩, fun a o => .inl (o.set n hl)⟩
theorem tAsg_of {i : Nat} (h : rdM (mSet i me) Dn σ H) : tAsg (rd me) (gName i) Dn σ H := by
  obtain ⟨S, F, sl, g, fl, sl', g', rv, e, post⟩ := h
  obtain ⟨⟨r, g1⟩, e1, e⟩ := bsome e
  obtain ⟨t, e2, e⟩ := msome e
  cases e
  exact ⟨S, F, sl, g, r, g1, rv, e1, fun F1 v H1 m1 rv1 v1 => post F1 _ H1 (m1.go.trans (.setc rfl rv1.len)) (rv1.setc (v1.clean e2))⟩
/-- a slot takes a container of its own -/
theorem RV.seto (r : RV S F g sl σ H) {i : Nat} {t : T} {a : Addr} (h : Own H F t a) (n : ¬ F a) (w : ¬ Ws S a) (far : ∀ j, j ≠ i → getv σ j = some (.ref a) → isOw (gets sl j) = false ∧ isRo (gets sl j) = false) : RV S F g (sl.set i (.ow t)) (σ.set i (some (.ref a))) H := by
  refine ⟨by rw [List.length_set, List.length_set]; exact r.len, r.d, r.st, fun j => ?_, fun j k b h1 h2 e1 e2 => ?_⟩
  · rw [gets_set, getv_set, r.len]
    split
    · exact ⟨h, n, w⟩
    · exact r.ok j
  · rw [gets_set] at h1 h2
    rw [getv_set] at e1 e2
    rw [r.len] at h1 h2
    by_cases c1 : i = j ∧ i < σ.length
    · by_cases c2 : i = k ∧ i < σ.length
      · exact c1.1.symm.trans c2.1
      · rw [if_pos c1] at e1
        rw [if_neg c2] at h2 e2
        cases e1
        by_cases q : k = i
        · exact c1.1.symm.trans q.symm
        · obtain ⟨f1, f2⟩ := far k q e2
          rcases h2 with z | z
          · rw [f1] at z; cases z
          · rw [f2] at z; cases z
    · by_cases c2 : i = k ∧ i < σ.length
      · rw [if_pos c2] at e2
        rw [if_neg c1] at h1 e1
        cases e2
        by_cases q : j = i
        · exact q.trans c2.1
        · rw [(far j q e1).1] at h1
          cases h1
      · rw [if_neg c1] at h1 e1
        rw [if_neg c2] at h2 e2
        exact r.sep j k b h1 h2 e1 e2
/-- own or borrowed things were there already -/
theorem RV.there (r : RV S F g sl σ H) {j : Nat} {a : Addr} (e : getv σ j = some (.ref a)) (h : isOw (gets sl j) = true ∨ isRo (gets sl j) = true) : H a ≠ none := by
  have ok := r.ok j
  rw [e] at ok
  unfold isOw isRo at h
  cases q : gets sl j with
  | ow t =>
    rw [q] at ok
    obtain ⟨⟨o, e, _⟩, _⟩ := (show Own H F t a ∧ ¬ F a ∧ ¬ Ws S a from ok)
    rw [e]
    simp
  | ro t =>
    rw [q] at ok
    have ok : Bt H F t (.ref a) ∧ _ := ok
    rcases ok.1 with z | ⟨b, o, e, rx, _⟩
    · cases z with
      | list e _ _ => rw [e]; simp
      | tuple e _ => rw [e]; simp
      | dK e _ _ => rcases e with e | ⟨_, e⟩ <;> rw [e] <;> simp
      | dT e _ _ => rcases e with e | ⟨_, e⟩ <;> rw [e] <;> simp
    · cases e
      rcases rx with e | ⟨_, _, e⟩ <;> rw [e] <;> simp
  | un => rw [q] at h; rcases h with h | h <;> cases h
  | cl t => rw [q] at h; rcases h with h | h <;> cases h
  | stm => rw [q] at h; rcases h with h | h <;> cases h
theorem OwnA.seto {i : Nat} {t : T} {b a : Addr} (hl : sl.length = σ.length) (h : OwnA (sl.set i (.ow t)) (σ.set i (some (.ref b))) a) : OwnA sl σ a ∨ a = b := by
  obtain ⟨j, h1, h2⟩ := h
  rw [gets_set] at h1
  rw [getv_set, ← hl] at h2
  by_cases c : i = j ∧ i < sl.length
  · rw [if_pos c] at h2
    cases h2
    exact .inr rfl
  · rw [if_neg c] at h1 h2
    exact .inl ⟨j, h1, h2⟩
theorem tAsg_ofF {i : Nat} (h : rdM (mSetF i me) Dn σ H) : tAsg (rdF me) (gName i) Dn σ H := by
  obtain ⟨S, F, sl, g, fl, sl', g', rv, e, post⟩ := h
  obtain ⟨⟨r, g1⟩, e1, e⟩ := msome e
  cases e
  refine ⟨S, F, sl, g, r, g1, rv, e1, fun F1 a H1 m1 rv1 o n w h0 => post F1 _ H1 ?_ (rv1.seto o n w fun j _ ej => ?_)⟩
  · exact ⟨⟨(m1.go (sl := sl) (σ := σ)).sub, (m1.go (sl := sl) (σ := σ)).new, (m1.go (sl := sl) (σ := σ)).kp⟩, fun b ob => by
      rcases ob.seto rv1.len with z | z
      · exact .inl z
      · exact .inr (by rw [z]; exact h0)⟩
  · have nt : ∀ (h : isOw (gets sl j) = true ∨ isRo (gets sl j) = true), False := fun h => rv.there ej h h0
    refine ⟨?_, ?_⟩
    · cases q : isOw (gets sl j) with
      | false => rfl
      | true => exact (nt (.inl q)).elim
    · cases q : isRo (gets sl j) with
      | false => rfl
      | true => exact (nt (.inr q)).elim
theorem tIfS_of (h : rdM (mIf mc m1 m2) Dn σ H) : tIfS (rdT mc) (rdM m1) (rdM m2) Dn σ H := by
  obtain ⟨S, F, sl, g, fl, sl', g', rv, e, post⟩ := h
  obtain ⟨⟨r, g1⟩, e1, e⟩ := bsome e
  obtain ⟨k, e2, e⟩ := bsome e
  refine ⟨S, F, sl, g, r, k, g1, rv, e1, e2, fun F1 H1 m1 rv1 => ?_⟩
  cases k with
  | true =>
    rw [if_pos rfl] at e ⊢
    exact ⟨S, F1, sl, g1, fl, sl', g', rv1, e, post.of m1.go⟩
  | false =>
    rw [if_neg Bool.false_ne_true] at e ⊢
    exact ⟨S, F1, sl, g1, fl, sl', g', rv1, e, post.of m1.go⟩
end
end VM
/-! V15: statements that write; loops -/
namespace VM
open PySem PySem.Spec PyProof.Rows L2

section
variable {S : Sp2} {F F' F2 : Addr → Prop} {H H' H2 : Hp} {g g' : G} {sl sl' sl2 : Sls} {σ σ' σ2 : L2.St} {D : Addr} {Dn : Ends} {m m1 m2 mb : Sm} {me mc : Ex}
theorem Kids.shape {t : T} {o : HO} (k : Kids H F t o) : (∀ xs, o ≠ .tup xs) ∧ ((∃ xs, o = .lst xs) ∨ isD o = true) ∧ (∀ od u, o ≠ .frz od u) := by
  unfold Kids at k
  split at k
  · exact ⟨(fun _ z => nomatch z), .inl ⟨_, rfl⟩, (fun _ _ z => nomatch z)⟩
  · exact ⟨(fun _ z => nomatch z), .inr rfl, (fun _ _ z => nomatch z)⟩
  · exact ⟨(fun _ z => nomatch z), .inr rfl, (fun _ _ z => nomatch z)⟩
  · exact k.elim
theorem Kids.beside {o ob : HO} (n : ¬ F D) (nt : ∀ xs, H D ≠ some (.tup xs)) {t : T} (k : Kids H F t ob) : Kids (upd H D o) F t ob :=
  k.up (fun a u f r => by
    have q : a ≠ D := fun z => n (z ▸ f)
    unfold Rd
    rw [upd_ne q]
    exact r) (fun a xs f e => by
    have q : a ≠ D := fun z => n (z ▸ f)
    rw [upd_ne q]
    exact e) (fun a xs e => by
    have q : a ≠ D := fun z => nt xs (by rw [← z]; exact e)
    rw [upd_ne q]
    exact e) (fun _ f => f)
theorem gets_lt {i : Nat} {x : Sl} (h : gets sl i = x) (n : x ≠ .un) : i < sl.length := by
  rcases Nat.lt_or_ge i sl.length with z | z
  · exact z
  · unfold gets at h
    rw [List.getD_eq_getElem?_getD, List.getElem?_eq_none z] at h
    exact absurd h.symm n
theorem RV.ow (r : RV S F g sl σ H) {i : Nat} {t : T} (h : gets sl i = .ow t) : ∃ a o, getv σ i = some (.ref a) ∧ H a = some o ∧ Kids H F t o ∧ ¬ F a ∧ ¬ Ws S a := by
  have ok := r.ok i
  rw [h] at ok
  cases q : getv σ i with
  | none => rw [q] at ok; exact (show False from ok).elim
  | some v =>
    rw [q] at ok
    cases v with
    | ref a =>
      obtain ⟨⟨o, e, k⟩, n, w⟩ := (show Own H F t a ∧ ¬ F a ∧ ¬ Ws S a from ok)
      exact ⟨a, o, rfl, e, k, n, w⟩
    | _ => exact (show False from ok).elim
/-- an own container is written -/
theorem RV.mut (r : RV S F g sl σ H) {i : Nat} {t t' : T} {a : Addr} {o' : HO} (h : gets sl i = .ow t) (ev : getv σ i = some (.ref a)) (k : Kids H F t' o') : RV S F g (sl.set i (.ow t')) σ (upd H a o') := by
  obtain ⟨a', o, ev', e, k0, n, w⟩ := r.ow h
  rw [ev] at ev'
  cases ev'
  have hi := gets_lt h (fun z => nomatch z)
  have nt : ∀ xs, H a ≠ some (.tup xs) := fun xs z => by
    rw [e] at z
    cases z
    exact k0.shape.1 xs rfl
  refine ⟨by rw [List.length_set]; exact r.len, up_dF r.d, r.st.beside w, fun j => ?_, fun j l b h1 h2 e1 e2 => ?_⟩
  · rw [gets_set]
    split
    · rename_i c
      rw [← c.1, ev]
      exact ⟨⟨o', upd_same, k.beside n nt⟩, n, w⟩
    · rename_i c
      have ne : j ≠ i := fun z => c ⟨z.symm, hi⟩
      have ok := r.ok j
      cases q : gets sl j with
      | un => trivial
      | stm =>
        rw [q] at ok
        obtain ⟨b, c, e1, e2⟩ := stm_at ok
        rw [e1]
        exact ⟨c, e2⟩
      | cl u =>
        rw [q] at ok
        cases q2 : getv σ j with
        | none => rw [q2] at ok; exact ok
        | some v => rw [q2] at ok; exact At.beside n nt (show At H F u v from ok)
      | ow u =>
        obtain ⟨b, ob, evb, eb, kb, nb, wb⟩ := r.ow q
        rw [evb]
        have hab : b ≠ a := fun z => ne ((r.sep j i a (by rw [q]; rfl) (.inl (by rw [h]; rfl)) (by rw [evb, z]) ev))
        exact ⟨⟨ob, by rw [upd_ne hab]; exact eb, kb.beside n nt⟩, nb, wb⟩
      | ro u =>
        rw [q] at ok
        cases q2 : getv σ j with
        | none => rw [q2] at ok; exact ok
        | some v =>
          rw [q2] at ok
          obtain ⟨hb, wb⟩ := (show Bt H F u v ∧ ∀ b, v = .ref b → ¬ Ws S b from ok)
          refine ⟨?_, wb⟩
          rcases hb with hb | ⟨b, ob, rfl, rx, kb⟩
          · exact .inl (hb.beside n nt)
          · have hab : b ≠ a := fun z => ne (r.sep i j a (by rw [h]; rfl) (.inr (by rw [q]; rfl)) ev (by rw [q2, z])).symm
            refine .inr ⟨b, ob, rfl, ?_, kb.beside n nt⟩
            unfold Rx
            rw [upd_ne hab]
            exact rx
  · have same : ∀ j, isOw (gets (sl.set i (.ow t')) j) = isOw (gets sl j) ∧ isRo (gets (sl.set i (.ow t')) j) = isRo (gets sl j) := fun j => by
      rw [gets_set]
      split
      · rename_i c
        rw [← c.1, h]
        exact ⟨rfl, rfl⟩
      · exact ⟨rfl, rfl⟩
    rw [(same j).1] at h1
    rw [(same l).1, (same l).2] at h2
    exact r.sep j l b h1 h2 e1 e2
theorem RV.mutGo (r : RV S F g sl σ H) {i : Nat} {t t' : T} {a : Addr} {o' : HO} (h : gets sl i = .ow t) (ev : getv σ i = some (.ref a)) : Go S sl σ F H (sl.set i (.ow t')) σ F (upd H a o') := by
  obtain ⟨a', o, ev', e, k0, n, w⟩ := r.ow h
  rw [ev] at ev'
  cases ev'
  have ha : OwnA sl σ a := ⟨i, by rw [h]; rfl, ev⟩
  refine ⟨⟨fun _ f => f, fun _ f => .inl f, fun b u eb wb => .inl ?_, fun b eb => ?_, fun b xs eb => ?_⟩, fun b ob => ?_⟩
  · have : b ≠ a := fun z => wb (.inr (z ▸ ha))
    rw [upd_ne this]
    exact eb
  · by_cases q : b = a
    · rw [q, upd_same]; simp
    · rw [upd_ne q]; exact eb
  · have : b ≠ a := fun z => by
      rw [z, e] at eb
      cases eb
      exact k0.shape.1 xs rfl
    rw [upd_ne this]
    exact eb
  · obtain ⟨j, h1, h2⟩ := ob
    rw [gets_set] at h1
    refine .inl ⟨j, ?_, h2⟩
    split at h1
    · rename_i c
      rw [← c.1, h]
      rfl
    · exact h1

/-! ### methods that write -/
def mMeth (f : T → List T → Option T) (i : Nat) (ms : Exs) : Sm := fun sl g => match gets sl i with
  | .ow t => (ms sl g).bind fun a => (cleans a.1).bind fun ts => (f t ts).map fun t' => (.nx, sl.set i (.ow t'), a.2)
  | _ => none
def fAppend : T → List T → Option T
  | .list ts, [t] => if ts.length < cap then some (.list (ts ++ [t])) else none
  | _, _ => none
def fExtend : T → List T → Option T
  | .list ts, [.list us] => if ts.length + us.length ≤ cap then some (.list (ts ++ us)) else none
  | _, _ => none
/-- a method by values: the receiver one's own -/
def MethV (K : PySem.W.Frag) (r : V → List V → Hp → VK → Prop) (T0 : String) (f : T → List T → Option T) : Prop :=
  ∀ (F : Addr → Prop) (H : Hp) (t t' : T) (a : Addr) (o : HO) (ts : List T) (xs : List V) (Q : VK), H a = some o → Kids H F t o → AtL H F ts xs → ¬ F a → f t ts = some t' → (∀ o', Kids H F t' o' → Q .non (upd H a o')) → tyV K T0 (.ref a) H ∧ r (.ref a) xs H Q
theorem tMeth_of {K : PySem.W.Frag} {r : V → List V → Hp → VK → Prop} {T0 : String} {f : T → List T → Option T} {i : Nat} {ms : Exs} (hf : MethV K r T0 f) (ht : ∀ F H t a o, H a = some o → Kids H F t o → (∃ ts t', f t ts = some t') → tyV K T0 (.ref a) H)
    (h : rdM (mMeth f i ms) Dn σ H) : tDrop (tBM K T0 r (tVar i) (rdA ms)) Dn σ H := by
  obtain ⟨S, F, sl, g, fl, sl', g', rv, e, post⟩ := h
  unfold mMeth at e
  split at e
  · rename_i t hs
    obtain ⟨⟨rs, g1⟩, e1, e⟩ := bsome e
    obtain ⟨ts, e2, e⟩ := bsome e
    obtain ⟨t', e3, e⟩ := msome e
    cases e
    obtain ⟨a, o, ev, ea, k, n, w⟩ := rv.ow hs
    refine ⟨.ref a, getv_some ev, ht F H t a o ea k ⟨ts, t', e3⟩, S, F, sl, g, rs, g1, rv, e1, fun F1 xs H1 m1 rv1 v1 => ?_⟩
    have l := v1.cleans e2
    obtain ⟨a', o1, ev1, ea1, k1, n1, w1⟩ := rv1.ow hs
    rw [ev] at ev1
    cases ev1
    refine (hf F1 H1 t t' a o1 ts xs _ ea1 k1 l n1 e3 fun o' k' => ?_).2
    exact post F1 σ _ (m1.go.trans (rv1.mutGo hs ev)) (rv1.mut hs ev k')
  · cases e
theorem append_V {K : PySem.W.Frag} : MethV K rAppend "list" fAppend := by
  intro F H t t' a o ts xs Q ea k l n e q
  unfold fAppend at e
  split at e
  · split at e
    · rename_i us u hl
      cases e
      cases o with
      | lst ys =>
        have k : AtL H F us ys := k
        cases l with
        | cons h l =>
          cases l
          exact ⟨.inl ⟨rfl, ys, .inl (.inl ea)⟩, a, ys, _, rfl, rfl, ea, by rw [← k.length]; exact hl, q _ (k.snoc h)⟩
      | _ => exact (show False from k).elim
    · cases e
  · cases e
theorem append_ty {K : PySem.W.Frag} : ∀ F H t a o, H a = some o → Kids H F t o → (∃ ts t', fAppend t ts = some t') → tyV K "list" (.ref a) H := by
  intro F H t a o ea k ⟨ts, t', e⟩
  unfold fAppend at e
  split at e
  · cases o with
    | lst ys => exact .inl ⟨rfl, ys, .inl (.inl ea)⟩
    | _ => exact (show False from k).elim
  · cases e
theorem extend_V {K : PySem.W.Frag} : MethV K rExtend "list" fExtend := by
  intro F H t t' a o ts xs Q ea k l n e q
  unfold fExtend at e
  split at e
  · split at e
    · rename_i us ws hl
      cases e
      cases o with
      | lst ys =>
        have k : AtL H F us ys := k
        cases l with
        | cons h l =>
          cases l
          cases h with
          | @list b ws zs hb fb lb =>
            exact ⟨.inl ⟨rfl, ys, .inl (.inl ea)⟩, a, b, ys, zs, rfl, rfl, ea, hb, by rw [← k.length, ← lb.length]; exact hl, q _ (AtL.append lb k)⟩
      | _ => exact (show False from k).elim
    · cases e
  · cases e
theorem extend_ty {K : PySem.W.Frag} : ∀ F H t a o, H a = some o → Kids H F t o → (∃ ts t', fExtend t ts = some t') → tyV K "list" (.ref a) H := by
  intro F H t a o ea k ⟨ts, t', e⟩
  unfold fExtend at e
  split at e
  · cases o with
    | lst ys => exact .inl ⟨rfl, ys, .inl (.inl ea)⟩
    | _ => exact (show False from k).elim
  · cases e
/-- d.update(e), e another dict -/
def rUpd : V → List V → Hp → VK → Prop := fun x vs H Q => ∃ (l b : Addr) (ks ms : List (Key × V)), x = .ref l ∧ vs = [.ref b] ∧ l ≠ b ∧ H l = some (.dK ks) ∧ Rd H b (.dK ms) ∧ ks.length + ms.length ≤ sizeLine ∧ Q .non (upd H l (.dK (mergeK ks ms)))
theorem putK_len {κ : Type} [DecidableEq κ] (ks : List (κ × V)) (k : κ) (v : V) : (putK ks k v).length ≤ ks.length + 1 := by
  unfold putK
  split
  · rw [List.length_map]; omega
  · rw [List.length_append]; exact Nat.le_refl _
theorem mergeK_len : ∀ (ms ks : List (Key × V)), (mergeK ks ms).length ≤ ks.length + ms.length
  | [], ks => Nat.le_refl _
  | m :: ms, ks => by
    have h1 := mergeK_len ms (putK ks m.1 m.2)
    have h2 := putK_len ks m.1 m.2
    show (mergeK (putK ks m.1 m.2) ms).length ≤ _
    rw [List.length_cons]
    omega
theorem mt_upd {X : Cx} : MtR X "dict.update" rUpd := by
  intro pins s σ H x vs v us Q I rx rv h
  obtain ⟨l, b, ks, ms, rfl, rfl, hne, hl, hb, hz, q⟩ := h
  cases rx
  obtain ⟨u, rfl, ru⟩ := rv.one
  cases ru
  obtain ⟨z1, s1, vs1, r1, d1⟩ := dk_of I.hok hl
  obtain ⟨z2, s2, vs2, r2, d2⟩ := dk_rd I.hok hb
  refine call_meetsIn F.slot_dict_update d1.typeIs F.entry_dict_update (F.args_dict_update_2 _ _) (meets_dict_update (mixKind X.prog X.w) l b hne s2) ⟨vs1, vs2, d1, d2, by rw [← r1.length, ← r2.length]; exact hz, fun h' dd' _ sb => ?_⟩
  have he : ∃ q, h'.get? l = some q := let ⟨q, _, _, hq, _⟩ := dd'; ⟨q, hq⟩
  have len : (mergeK ks ms).length ≤ sizeLine := Nat.le_trans (mergeK_len ms ks) hz
  exact ⟨.non, _, d_write (t' := s.toks) I (by rw [hl]; trivial) sb he (dk_new len s1 (KV.merge r2 r1) dd'), rfl, q⟩
def fUpdate : T → List T → Option T
  | .dict ((.none, .none) :: _), _ => none
  | .dict _, [.dict ((.none, .none) :: _)] => none
  | .dict ds, [.dict ms] => if ds.length + ms.length ≤ cap then some (.dict (mergeT ds ms)) else none
  | _, _ => none
theorem Kids.dk {ds : List (T × T)} {o : HO} (k : Kids H F (.dict ds) o) (n : ∀ q, ds ≠ (.none, .none) :: q) : ∃ ks, o = .dK ks ∧ AtD H F ds ks := by
  unfold Kids at k
  split at k
  · rename_i e; cases e
  · rename_i e; cases e; exact ⟨_, rfl, k⟩
  · rename_i e; cases e; exact absurd rfl (n _)
  · exact k.elim
theorem update_V {K : PySem.W.Frag} : MethV K rUpd "dict" fUpdate := by
  intro F H t t' a o ts xs Q ea k l n e q
  unfold fUpdate at e
  split at e
  · cases e
  · cases e
  · rename_i ds ms n1 n2
    split at e
    · rename_i hl
      cases e
      obtain ⟨ks, rfl, kd⟩ := k.dk fun q z => n1 q z
      cases l with
      | cons h l =>
        cases l
        obtain ⟨b, kvs, rfl, fb, hr, lb⟩ := h.dkF fun q z => n2 q z
        exact ⟨.inr (.inr (.inl ⟨rfl, .inl ⟨ks, ea⟩⟩)), a, b, ks, kvs, rfl, rfl, fun z => n (z ▸ fb), ea, hr, by rw [← kd.len, ← lb.len]; exact hl, q _ (show AtD H F _ _ from AtD.merge lb kd)⟩
    · cases e
  · cases e
theorem update_ty {K : PySem.W.Frag} : ∀ F H t a o, H a = some o → Kids H F t o → (∃ ts t', fUpdate t ts = some t') → tyV K "dict" (.ref a) H := by
  intro F H t a o ea k ⟨ts, t', e⟩
  unfold fUpdate at e
  split at e
  · cases e
  · cases e
  · rename_i ds ms n1 n2
    obtain ⟨ks, rfl, kd⟩ := k.dk fun q z => n1 q z
    exact .inr (.inr (.inl ⟨rfl, .inl ⟨ks, ea⟩⟩))
  · cases e
/-! ### name = own.pop() -/
def mPop (j i : Nat) : Sm := fun sl g => match gets sl i with
  | .ow (.list ts) => (ts[ts.length - 1]?).map fun t => (.nx, (sl.set i (.ow (.list ts.dropLast))).set j (.cl t), g)
  | _ => none
theorem AtL.dropLast {ts : List T} {xs : List V} (l : AtL H F ts xs) : AtL H F ts.dropLast xs.dropLast := by
  rw [List.dropLast_eq_take, List.dropLast_eq_take, ← l.length]
  exact l.take _
theorem tPop_of {K : PySem.W.Frag} {i j : Nat} (h : rdM (mPop j i) Dn σ H) : tAsg (tBM0 K "list" rPop (tVar i)) (gName j) Dn σ H := by
  obtain ⟨S, F, sl, g, fl, sl', g', rv, e, post⟩ := h
  unfold mPop at e
  split at e
  · rename_i ts hs
    obtain ⟨t, e1, e⟩ := msome e
    cases e
    obtain ⟨a, o, ev, ea, k, n, w⟩ := rv.ow hs
    cases o with
    | lst xs =>
      have k : AtL H F ts xs := k
      obtain ⟨y, hy, hat⟩ := k.get e1
      rw [k.length] at hy
      refine ⟨.ref a, getv_some ev, .inl ⟨rfl, xs, .inl (.inl ea)⟩, a, xs, y, rfl, rfl, ea, hy, ?_⟩
      have rv2 := rv.mut hs ev (o' := .lst xs.dropLast) (t' := .list ts.dropLast) (show AtL H F _ _ from k.dropLast)
      have go2 := rv.mutGo hs ev (o' := .lst xs.dropLast) (t' := .list ts.dropLast)
      have nt : ∀ zs, H a ≠ some (.tup zs) := fun zs z => by rw [ea] at z; cases z
      exact post F _ _ (go2.trans (.setc rfl rv2.len)) (rv2.setc (hat.beside n nt))
    | _ => exact (show False from k).elim
  · cases e
/-! ### own[k] = v -/
def mPutD (i : Nat) (mk mv : Ex) : Sm := fun sl g => (mv sl g).bind fun v => (clean v.1).bind fun t => (mk sl v.2).bind fun k => match gets sl i with
  | .ow (.dict ((.none, .none) :: ds)) => match k.1.1 with
    | .tuple ks => (keysOf ks).bind fun _ => if ds.length < cap then some (.nx, sl.set i (.ow (.dict ((.none, .none) :: putD ds (.tuple ks) t))), k.2) else none
    | _ => none
  | .ow (.dict ds) => (keyOf k.1.1).bind fun _ => if ds.length < cap then some (.nx, sl.set i (.ow (.dict (putD ds k.1.1 t))), k.2) else none
  | _ => none
theorem sDPut_of {i : Nat} {mk mv : Ex} (h : rdM (mPutD i mk mv) Dn σ H) : sDPut (tVar i) (rd mk) (rd mv) Dn σ H := by
  obtain ⟨S, F, sl, g, fl, sl', g', rv, e, post⟩ := h
  obtain ⟨⟨v, g1⟩, e1, e⟩ := bsome e
  obtain ⟨t, e2, e⟩ := bsome e
  obtain ⟨⟨k, g2⟩, e3, e⟩ := bsome e
  refine ⟨S, F, sl, g, v, g1, rv, e1, fun F1 x H1 m1 rv1 v1 => ?_⟩
  have hx := v1.clean e2
  split at e
  · rename_i ds hs
    obtain ⟨a, o, ev, ea, kd, n, w⟩ := rv1.ow hs
    refine ⟨.ref a, getv_some ev, S, F1, sl, g1, k, g2, rv1, e3, fun F2 y H2 m2 rv2 v2 => ?_⟩
    obtain ⟨a', o2, ev', ea2, kd2, n2, w2⟩ := rv2.ow hs
    rw [ev] at ev'
    cases ev'
    split at e
    · rename_i ks hk
      obtain ⟨kk, e4, e⟩ := bsome e
      split at e
      · rename_i hlen
        cases e
        have ky := keysOf_some e4
        have hy := v2.1.bt
        dsimp only at hk
        rw [hk, ky] at hy
        obtain ⟨b, ys, rfl, hb, lb⟩ := hy.tuple
        rw [keysT_at lb] at hb
        have kd3 : ∃ kvs, o2 = .dT kvs ∧ AtE H2 F2 ds kvs := by
          unfold Kids at kd2
          split at kd2
          · rename_i q; cases q
          · rename_i q; cases q; exact kd2.nonone.elim
          · rename_i q; cases q; exact ⟨_, rfl, kd2⟩
          · exact kd2.elim
        obtain ⟨kvs, rfl, le⟩ := kd3
        refine ⟨a, _, rfl, .inr ⟨kvs, kk, b, ea2, rfl, hb, by rw [← le.len]; exact hlen, rfl⟩, ?_⟩
        have hx2 := hx.mv m2 rv1.st.off
        refine post F2 _ _ ((m1.trans m2).go.trans (rv2.mutGo hs ev)) (rv2.mut hs ev ?_)
        rw [ky]
        exact (show AtE H2 F2 _ _ from le.put hx2)
      · cases e
    · cases e
  · rename_i ds n0 hs
    obtain ⟨a, o, ev, ea, kd, n, w⟩ := rv1.ow hs
    refine ⟨.ref a, getv_some ev, S, F1, sl, g1, k, g2, rv1, e3, fun F2 y H2 m2 rv2 v2 => ?_⟩
    obtain ⟨a', o2, ev', ea2, kd2, n2, w2⟩ := rv2.ow hs
    rw [ev] at ev'
    cases ev'
    obtain ⟨kk, e4, e⟩ := bsome e
    split at e
    · rename_i hlen
      cases e
      have ky := keyOf_some e4
      have hy := v2.1.bt
      dsimp only at ky
      rw [ky] at hy
      obtain ⟨kvs, rfl, le⟩ := kd2.dk fun q z => by first | exact n0 q z | (subst z; exact n0 q rfl) | (subst z; exact n0 q hs)
      refine ⟨a, _, rfl, .inl ⟨kvs, kk, ea2, keyT_at hy, by rw [← le.len]; exact hlen, rfl⟩, ?_⟩
      have hx2 := hx.mv m2 rv1.st.off
      refine post F2 _ _ ((m1.trans m2).go.trans (rv2.mutGo hs ev)) (rv2.mut hs ev ?_)
      dsimp only
      rw [ky]
      exact (show AtD H2 F2 _ _ from le.put hx2)
    · cases e
  · cases e
end
end VM
/-! V16: assignments of several, loops, what is handed on -/
namespace VM
open PySem PySem.Spec PyProof.Rows L2

section
variable {S : Sp2} {F F' F2 : Addr → Prop} {H H' H2 : Hp} {g g' : G} {sl sl' sl2 : Sls} {σ σ' σ2 : L2.St} {D : Addr} {Dn : Ends} {m m1 m2 mb : Sm} {me mc : Ex}
theorem GoR.of_mv (m : Mv S F H F' H') : GoR S sl σ F H F' H' := (m.go (sl := sl) (σ := σ)).toGoR
/-! ### a, b = value -/
/-- only cleared slots change -/
def Cleared (sl sl' : Sls) (σ σ' : L2.St) : Prop := ∀ a, OwnA sl' σ' a → OwnA sl σ a
mutual
theorem bindT_ok2 {K : PySem.W.Frag} : ∀ {tg : Tg} {t : T} {v : V} {sl sl' : Sls} {σ : L2.St} {Q : L2.St → Hp → Prop}, bindT tg t sl = some sl' → RV S F g sl σ H → At H F t v →
    (∀ σ', RV S F g sl' σ' H → Cleared sl sl' σ σ' → Q σ' H) → gT K tg v σ H Q
  | .nm i, t, v, sl, sl', σ, Q, e, r, h, k => by
    rw [bindT] at e
    cases e
    rw [gT]
    exact k _ (r.setc h) fun a o => o.set rfl r.len
  | .tp gs, t, v, sl, sl', σ, Q, e, r, h, k => by
    cases t with
    | tuple ts =>
      rw [bindT] at e
      rw [gT]
      cases h with
      | @tuple a ts xs ha l =>
        have hl : gs.length = ts.length := bindTs_len (S := S) (F := F) (H := H) (g := g) e
        refine ⟨a, xs, rfl, .inl (.inl ha), by rw [← l.length, hl], ?_⟩
        exact bindTs_ok2 e r l k
    | _ => rw [bindT] at e <;> first | cases e | (intro _ z; cases z)
theorem bindTs_ok2 {K : PySem.W.Frag} : ∀ {gs : List Tg} {ts : List T} {xs : List V} {sl sl' : Sls} {σ : L2.St} {Q : L2.St → Hp → Prop}, bindTs gs ts sl = some sl' → RV S F g sl σ H → AtL H F ts xs →
    (∀ σ', RV S F g sl' σ' H → Cleared sl sl' σ σ' → Q σ' H) → gTs K gs xs σ H Q
  | [], [], xs, sl, sl', σ, Q, e, r, l, k => by
    rw [bindTs] at e
    cases e
    cases l
    rw [gTs]
    exact ⟨rfl, k σ r fun _ o => o⟩
  | [], _ :: _, _, _, _, _, _, e, _, _, _ => by rw [bindTs] at e <;> first | cases e | simp
  | _ :: _, [], _, _, _, _, _, e, _, _, _ => by rw [bindTs] at e <;> first | cases e | simp
  | tg :: gs, t :: ts, xs, sl, sl', σ, Q, e, r, l, k => by
    rw [bindTs] at e
    obtain ⟨s1, e1, e2⟩ := bsome e
    cases l with
    | cons h l =>
      rw [gTs]
      exact ⟨_, _, rfl, bindT_ok2 e1 r h fun σ1 r1 w1 => bindTs_ok2 e2 r1 l fun σ2 r2 w2 => k σ2 r2 fun a o => w1 a (w2 a o)⟩
end
theorem Cleared.go (c : Cleared sl sl' σ σ') : Go S sl σ F H sl' σ' F H := ⟨⟨fun _ f => f, fun _ f => .inl f, .refl⟩, fun a o => .inl (c a o)⟩
theorem tUnp_of {K : PySem.W.Frag} {tg : Tg} (h : rdM (mUnp tg me) Dn σ H) : tAsg (rd me) (gT K tg) Dn σ H := by
  obtain ⟨S, F, sl, g, fl, sl', g', rv, e, post⟩ := h
  obtain ⟨⟨r, g1⟩, e1, e⟩ := bsome e
  obtain ⟨t, e2, e⟩ := bsome e
  obtain ⟨sl1, e3, e⟩ := msome e
  cases e
  exact ⟨S, F, sl, g, r, g1, rv, e1, fun F1 v H1 m1 rv1 v1 => bindT_ok2 e3 rv1 (v1.clean e2) fun σ' r' c => post F1 σ' H1 (m1.go.trans c.go) r'⟩

/-! ### a, b = x, y: new containers too -/
def rdG (f : Bool) (m : Ex) : TE := if f = true then rdF m else rd m
def slotOf (f : Bool) (r : R) : Option Sl := if f = true then some (.ow r.1) else (clean r).map .cl
/-- what came, for a slot -/
structure GV (S : Sp2) (H0 : Hp) (F : Addr → Prop) (H : Hp) (x : Sl) (v : V) : Prop where
  ok : SlOk H F S x (some v)
  nr : isRo x = false
  fr : isOw x = true → ∀ a, v = .ref a → H0 a = none
theorem GV.mv {H0 : Hp} {x : Sl} {v : V} (h : GV S H0 F H x v) (m : Mv S F H F' H') (o : ∀ a, F a → ¬ Ws S a) : GV S H0 F' H' x v := ⟨h.ok.mv m o, h.nr, h.fr⟩
theorem rdG_use {f : Bool} {Q : VK} {r : R} (rv : RV S F g sl σ H) (e : me sl g = some (r, g')) {x : Sl} (ex : slotOf f r = some x) (h : ∀ F' v H', Mv S F H F' H' → RV S F' g' sl σ H' → GV S H F' H' x v → Q v H') : rdG f me σ H Q := by
  unfold rdG slotOf at *
  cases f with
  | true =>
    rw [if_pos rfl] at ex ⊢
    cases ex
    exact ⟨S, F, sl, g, r, g', rv, e, fun F1 a H1 m1 rv1 o n w h0 => h F1 _ H1 m1 rv1 ⟨⟨o, n, w⟩, rfl, fun _ b z => by cases z; exact h0⟩⟩
  | false =>
    rw [if_neg Bool.false_ne_true] at ex ⊢
    obtain ⟨t, e2, rfl⟩ := msome ex
    exact ⟨S, F, sl, g, r, g', rv, e, fun F1 v H1 m1 rv1 v1 => h F1 v H1 m1 rv1 ⟨v1.clean e2, rfl, fun z => nomatch z⟩⟩
theorem GV.there {H0 : Hp} {x : Sl} {a : Addr} (h : GV S H0 F H x (.ref a)) (ho : isOw x = true) : H a ≠ none := by
  cases x with
  | ow t =>
    obtain ⟨⟨o, e, _⟩, _⟩ := (show Own H F t a ∧ ¬ F a ∧ ¬ Ws S a from h.ok)
    rw [e]
    simp
  | _ => cases ho
theorem GV.isRef {H0 : Hp} {x : Sl} {v : V} (h : GV S H0 F H x v) (ho : isOw x = true) : ∃ a, v = .ref a := by
  cases x with
  | ow t =>
    have ok := h.ok
    cases v with
    | ref a => exact ⟨a, rfl⟩
    | _ => exact (show False from ok).elim
  | un => cases ho
  | cl t => cases ho
  | ro t => cases ho
  | stm => cases ho
/-- a slot takes what came -/
theorem RV.setG (r : RV S F g sl σ H) {i : Nat} {x : Sl} {v : V} (h : SlOk H F S x (some v)) (n : isRo x = false) (far : isOw x = true → ∀ j, j ≠ i → getv σ j = some v → isOw (gets sl j) = false ∧ isRo (gets sl j) = false) : RV S F g (sl.set i x) (σ.set i (some v)) H := by
  cases x with
  | ow t =>
    cases v with
    | ref a =>
      obtain ⟨o, nf, w⟩ := (show Own H F t a ∧ ¬ F a ∧ ¬ Ws S a from h)
      exact r.seto o nf w (far rfl)
    | _ => exact (show False from h).elim
  | un => exact r.put h rfl rfl
  | cl t => exact r.put h rfl rfl
  | stm => exact r.put h rfl rfl
  | ro t => cases n
theorem Go.setG {H0 : Hp} {i : Nat} {x : Sl} {v : V} (hl : sl.length = σ.length) (h : GV S H0 F' H' x v) (gR : GoR S sl σ F H0 F' H') (own : ∀ a, OwnA sl2 σ2 a → OwnA sl σ a ∨ H0 a = none) (hl2 : sl2.length = σ2.length) : ∀ a, OwnA (sl2.set i x) (σ2.set i (some v)) a → OwnA sl σ a ∨ H0 a = none := by
  intro a o
  obtain ⟨j, h1, h2⟩ := o
  rw [gets_set] at h1
  rw [getv_set, ← hl2] at h2
  by_cases c : i = j ∧ i < sl2.length
  · rw [if_pos c] at h1 h2
    cases h2
    exact .inr (h.fr h1 a rfl)
  · rw [if_neg c] at h1 h2
    exact own a ⟨j, h1, h2⟩
/-- nothing that stood is what came new -/
theorem RV.apart {H0 : Hp} {x : Sl} {v : V} (r0 : RV S F g sl σ H0) (h : GV S H0 F' H' x v) (ho : isOw x = true) {j : Nat} (e : getv σ j = some v) : isOw (gets sl j) = false ∧ isRo (gets sl j) = false := by
  have key : ∀ (q : isOw (gets sl j) = true ∨ isRo (gets sl j) = true), False := fun q => by
    obtain ⟨a, rfl⟩ := h.isRef ho
    exact r0.there e q (h.fr ho a rfl)
  refine ⟨?_, ?_⟩
  · cases q : isOw (gets sl j) with
    | false => rfl
    | true => exact (key (.inl q)).elim
  · cases q : isRo (gets sl j) with
    | false => rfl
    | true => exact (key (.inr q)).elim
theorem par2 {H0 : Hp} {x y : Sl} {v w : V} {i j : Nat} {F0 : Addr → Prop} {g0 : G} (r0 : RV S F0 g0 sl σ H0) (r : RV S F g sl σ H) (gR : GoR S sl σ F0 H0 F H) (hx : GV S H0 F H x v) (hy : GV S H0 F H y w) (ne : isOw x = true → isOw y = true → v ≠ w) :
    RV S F g ((sl.set i x).set j y) ((σ.set i (some v)).set j (some w)) H ∧ Go S sl σ F0 H0 ((sl.set i x).set j y) ((σ.set i (some v)).set j (some w)) F H := by
  have r1 := r.setG (i := i) hx.ok hx.nr fun ho k _ e => r0.apart hx ho e
  have o1 := Go.setG (i := i) r.len hx gR (sl2 := sl) (σ2 := σ) (fun a o => .inl o) r.len
  have r2 := r1.setG (i := j) hy.ok hy.nr fun ho k hk e => by
    rw [getv_set] at e
    rw [gets_set, r.len]
    by_cases c : i = k ∧ i < σ.length
    · rw [if_pos c] at e ⊢
      cases e
      refine ⟨?_, hx.nr⟩
      cases q : isOw x with
      | false => rfl
      | true => exact absurd rfl (ne q ho)
    · rw [if_neg c] at e ⊢
      exact r0.apart hy ho e
  exact ⟨r2, gR, Go.setG (i := j) r.len hy gR o1 r1.len⟩
def mPar2 (i j : Nat) (fa fb : Bool) (ma mb : Ex) : Sm := fun sl g => (ma sl g).bind fun a => (slotOf fa a.1).bind fun x => (mb sl a.2).bind fun b => (slotOf fb b.1).map fun y => (.nx, (sl.set i x).set j y, b.2)
theorem tPar_of {i j : Nat} {fa fb : Bool} {ma mb : Ex} (h : rdM (mPar2 i j fa fb ma mb) Dn σ H) : tPar i j (tCons (rdG fa ma) (tCons (rdG fb mb) tNil)) Dn σ H := by
  obtain ⟨S, F, sl, g, fl, sl', g', rv, e, post⟩ := h
  obtain ⟨⟨a, g1⟩, e1, e⟩ := bsome e
  obtain ⟨x, e2, e⟩ := bsome e
  obtain ⟨⟨b, g2⟩, e3, e⟩ := bsome e
  obtain ⟨y, e4, e⟩ := msome e
  cases e
  refine rdG_use rv e1 e2 fun F1 v H1 m1 rv1 gx => rdG_use rv1 e3 e4 fun F2 w H2 m2 rv2 gy => ?_
  have gy0 : GV S H F2 H2 y w := ⟨gy.ok, gy.nr, fun ho a z => none_of m1.kp.dom (gy.fr ho a z)⟩
  have := par2 (i := i) (j := j) rv rv2 (GoR.of_mv (m1.trans m2)) (gx.mv m2 rv1.st.off) gy0 fun h1 h2 z => by
    subst z
    obtain ⟨q, rfl⟩ := gx.isRef h1
    exact gx.there h1 (gy.fr h2 q rfl)
  exact ⟨v, w, rfl, post F2 _ H2 this.2 this.1⟩
/-- .. by a tuple that is laid -/
theorem tPar_ofT {K : PySem.W.Frag} {i j : Nat} {fa fb : Bool} {ma mb : Ex} (h : rdM (mPar2 i j fa fb ma mb) Dn σ H) : tAsg (tTup (tCons (rdG fa ma) (tCons (rdG fb mb) tNil))) (gTup K 2 (gCons (gName i) (gCons (gName j) gNil))) Dn σ H := by
  obtain ⟨S, F, sl, g, fl, sl', g', rv, e, post⟩ := h
  obtain ⟨⟨a, g1⟩, e1, e⟩ := bsome e
  obtain ⟨x, e2, e⟩ := bsome e
  obtain ⟨⟨b, g2⟩, e3, e⟩ := bsome e
  obtain ⟨y, e4, e⟩ := msome e
  cases e
  refine rdG_use rv e1 e2 fun F1 v H1 m1 rv1 gx => rdG_use rv1 e3 e4 fun F2 w H2 m2 rv2 gy => ⟨(by rw [sizeLine_eq]; omega : 2 ≤ sizeLine), fun p hp => ?_⟩
  have gy0 : GV S H F2 H2 y w := ⟨gy.ok, gy.nr, fun ho a z => none_of m1.kp.dom (gy.fr ho a z)⟩
  have mp : Mv S F2 H2 F2 (upd H2 p (.tup [v, w])) := .of .refl (new_kp hp)
  have rvp := rv2.keep0 .refl (new_kp (o := .tup [v, w]) hp) (up_dF rv2.d)
  have := par2 (i := i) (j := j) rv rvp (GoR.of_mv (m1.trans (m2.trans mp))) ((gx.mv m2 rv1.st.off).mv mp rv2.st.off) (gy0.mv mp rv2.st.off) fun h1 h2 z => by
    subst z
    obtain ⟨q, rfl⟩ := gx.isRef h1
    exact gx.there h1 (gy.fr h2 q rfl)
  exact ⟨p, [v, w], rfl, .inl (.inl upd_same), rfl, v, [w], rfl, w, [], rfl, rfl, post F2 _ _ this.2 this.1⟩
def mPar3 (i j l : Nat) (fa fb fc : Bool) (ma mb mc : Ex) : Sm := fun sl g => (ma sl g).bind fun a => (slotOf fa a.1).bind fun x => (mb sl a.2).bind fun b => (slotOf fb b.1).bind fun y => (mc sl b.2).bind fun c => (slotOf fc c.1).map fun z => (.nx, ((sl.set i x).set j y).set l z, c.2)
theorem par3 {H0 : Hp} {x y z : Sl} {v w u : V} {i j l : Nat} {F0 : Addr → Prop} {g0 : G} (r0 : RV S F0 g0 sl σ H0) (r : RV S F g sl σ H) (gR : GoR S sl σ F0 H0 F H) (hx : GV S H0 F H x v) (hy : GV S H0 F H y w) (hz : GV S H0 F H z u)
    (ne : isOw x = true → isOw y = true → v ≠ w) (ne2 : isOw x = true → isOw z = true → v ≠ u) (ne3 : isOw y = true → isOw z = true → w ≠ u) :
    RV S F g (((sl.set i x).set j y).set l z) (((σ.set i (some v)).set j (some w)).set l (some u)) H ∧ Go S sl σ F0 H0 (((sl.set i x).set j y).set l z) (((σ.set i (some v)).set j (some w)).set l (some u)) F H := by
  obtain ⟨r2, o2⟩ := par2 (i := i) (j := j) r0 r gR hx hy ne
  have r3 := r2.setG (i := l) hz.ok hz.nr fun ho k hk e => by
    rw [getv_set, getv_set] at e
    rw [gets_set, gets_set]
    rw [List.length_set] at e ⊢
    rw [r.len]
    by_cases c2 : j = k ∧ j < σ.length
    · rw [if_pos c2] at e ⊢
      cases e
      refine ⟨?_, hy.nr⟩
      cases q : isOw y with
      | false => rfl
      | true => exact absurd rfl (ne3 q ho)
    · rw [if_neg c2] at e ⊢
      by_cases c : i = k ∧ i < σ.length
      · rw [if_pos c] at e ⊢
        cases e
        refine ⟨?_, hx.nr⟩
        cases q : isOw x with
        | false => rfl
        | true => exact absurd rfl (ne2 q ho)
      · rw [if_neg c] at e ⊢
        exact r0.apart hz ho e
  exact ⟨r3, gR, Go.setG (i := l) r.len hz gR o2.own r2.len⟩
theorem GV.ne {H0 : Hp} {F1 : Addr → Prop} {H1 : Hp} {x y : Sl} {v w : V} (gx : GV S H0 F1 H1 x v) (gy : GV S H1 F H y w) (h1 : isOw x = true) (h2 : isOw y = true) : v ≠ w := fun z => by
  subst z
  obtain ⟨q, rfl⟩ := gx.isRef h1
  exact gx.there h1 (gy.fr h2 q rfl)
theorem GV.back {H0 : Hp} {x : Sl} {v : V} (h : GV S H F' H' x v) (d : ∀ a, H0 a ≠ none → H a ≠ none) : GV S H0 F' H' x v := ⟨h.ok, h.nr, fun ho a z => none_of d (h.fr ho a z)⟩
theorem tPar3_ofT {K : PySem.W.Frag} {i j l : Nat} {fa fb fc : Bool} {ma mb mc : Ex} (h : rdM (mPar3 i j l fa fb fc ma mb mc) Dn σ H) : tAsg (tTup (tCons (rdG fa ma) (tCons (rdG fb mb) (tCons (rdG fc mc) tNil)))) (gTup K 3 (gCons (gName i) (gCons (gName j) (gCons (gName l) gNil)))) Dn σ H := by
  obtain ⟨S, F, sl, g, fl, sl', g', rv, e, post⟩ := h
  obtain ⟨⟨a, g1⟩, e1, e⟩ := bsome e
  obtain ⟨x, e2, e⟩ := bsome e
  obtain ⟨⟨b, g2⟩, e3, e⟩ := bsome e
  obtain ⟨y, e4, e⟩ := bsome e
  obtain ⟨⟨c, g3⟩, e5, e⟩ := bsome e
  obtain ⟨z, e6, e⟩ := msome e
  cases e
  refine rdG_use rv e1 e2 fun F1 v H1 m1 rv1 gx => rdG_use rv1 e3 e4 fun F2 w H2 m2 rv2 gy => rdG_use rv2 e5 e6 fun F3 u H3 m3 rv3 gz => ⟨(by rw [sizeLine_eq]; omega : 3 ≤ sizeLine), fun p hp => ?_⟩
  have mp : Mv S F3 H3 F3 (upd H3 p (.tup [v, w, u])) := .of .refl (new_kp hp)
  have rvp := rv3.keep0 .refl (new_kp (o := .tup [v, w, u]) hp) (up_dF rv3.d)
  have gx2 := gx.mv m2 rv1.st.off
  have gx3 := (gx2.mv m3 rv2.st.off).mv mp rv3.st.off
  have gy3 := ((gy.mv m3 rv2.st.off).mv mp rv3.st.off).back m1.kp.dom
  have gz3 := (gz.mv mp rv3.st.off).back (m1.trans m2).kp.dom
  have := par3 (i := i) (j := j) (l := l) rv rvp (GoR.of_mv (m1.trans (m2.trans (m3.trans mp)))) gx3 gy3 gz3 (gx.ne gy) (gx2.ne gz) (gy.ne gz)
  exact ⟨p, [v, w, u], rfl, .inl (.inl upd_same), rfl, v, [w, u], rfl, w, [u], rfl, u, [], rfl, rfl, post F3 _ _ this.2 this.1⟩
theorem tPar3_of {i j l : Nat} {fa fb fc : Bool} {ma mb mc : Ex} (h : rdM (mPar3 i j l fa fb fc ma mb mc) Dn σ H) : tPar3 i j l (tCons (rdG fa ma) (tCons (rdG fb mb) (tCons (rdG fc mc) tNil))) Dn σ H := by
  obtain ⟨S, F, sl, g, fl, sl', g', rv, e, post⟩ := h
  obtain ⟨⟨a, g1⟩, e1, e⟩ := bsome e
  obtain ⟨x, e2, e⟩ := bsome e
  obtain ⟨⟨b, g2⟩, e3, e⟩ := bsome e
  obtain ⟨y, e4, e⟩ := bsome e
  obtain ⟨⟨c, g3⟩, e5, e⟩ := bsome e
  obtain ⟨z, e6, e⟩ := msome e
  cases e
  refine rdG_use rv e1 e2 fun F1 v H1 m1 rv1 gx => rdG_use rv1 e3 e4 fun F2 w H2 m2 rv2 gy => rdG_use rv2 e5 e6 fun F3 u H3 m3 rv3 gz => ?_
  have gx2 := gx.mv m2 rv1.st.off
  have gx3 := gx2.mv m3 rv2.st.off
  have gy3 := (gy.mv m3 rv2.st.off).back m1.kp.dom
  have gz3 := gz.back (m1.trans m2).kp.dom
  have := par3 (i := i) (j := j) (l := l) rv rv3 (GoR.of_mv (m1.trans (m2.trans m3))) gx3 gy3 gz3 (gx.ne gy) (gx2.ne gz) (gy.ne gz)
  exact ⟨v, w, u, rfl, post F3 _ _ this.2 this.1⟩
/-! ### name op= e -/
def fIadd : T → T → Option T
  | .int i, .int j => some (.int (i + j))
  | .str x, .str y => if x.length + y.length ≤ cap then some (.str (x ++ y)) else none
  | _, _ => none
def fIsub : T → T → Option T
  | .int i, .int j => some (.int (i - j))
  | _, _ => none
theorem tAug_of {i : Nat} {f : T → T → Option T} (h : rdM (mAug i f me) Dn σ H) : tAug i (rd me) (R2of (op2 f)) Dn σ H := by
  obtain ⟨S, F, sl, g, fl, sl', g', rv, e, post⟩ := h
  obtain ⟨⟨a, g1⟩, e1, e⟩ := bsome e
  obtain ⟨⟨b, g2⟩, e2, e⟩ := bsome e
  obtain ⟨t, e3, e⟩ := msome e
  cases e
  have hv : tVar i σ H fun x H1 => ∃ F1, Mv S F H F1 H1 ∧ RV S F1 g1 sl σ H1 ∧ ValS S H1 F1 a x ∧ H1 = H := by
    have : ∀ x H1, (∃ F1, Mv S F H F1 H1 ∧ RV S F1 g1 sl σ H1 ∧ ValS S H1 F1 a x) → True := fun _ _ _ => trivial
    obtain ⟨x, ex, q⟩ := tVar_of (Q := fun x H1 => ∃ F1, Mv S F H F1 H1 ∧ RV S F1 g1 sl σ H1 ∧ ValS S H1 F1 a x) ⟨S, F, sl, g, a, g1, rv, e1, fun F1 x H1 m1 rv1 v1 => ⟨F1, m1, rv1, v1⟩⟩
    obtain ⟨F1, q1, q2, q3⟩ := q
    exact ⟨x, ex, F1, q1, q2, q3, rfl⟩
  obtain ⟨x, ex, F1, m1, rv1, v1, _⟩ := hv
  refine ⟨x, ex, S, F1, sl, g1, b, g2, rv1, e2, fun F2 y H2 m2 rv2 v2 => ⟨F2, a, b, (t, false), rv2.d, (v1.mv m2 rv1.st.off).1, v2.1, by unfold op2; rw [e3]; rfl, fun F3 z H3 x3 k3 d3 v3 => ?_⟩⟩
  exact post F3 _ H3 ((m1.trans (m2.trans (.of x3 k3))).go.trans (.setc rfl rv2.len)) ((rv2.keep0 x3 k3 d3).setc (show At H3 F3 t z from v3))
theorem ip_addV {X : Cx} : PIp X .Add (R2of (op2 fIadd)) := by
  refine opR_of (g := inplaceOp .Add) fun pins s σ H x y v u Q F a b t I rx ry d va vb e q => ?_
  unfold fIadd at e
  split at e
  · cases e
    cases va.int; cases vb.int
    exact iop_add pins s σ H _ _ v u Q I rx ry ⟨_, _, rfl, rfl, q.plain d At.int⟩
  · split at e
    · rename_i hl
      cases e
      cases va.str; cases vb.str
      exact iop_add_str pins s σ H _ _ v u Q I rx ry ⟨_, _, rfl, rfl, hl, q.plain d At.str⟩
    · cases e
  · cases e
theorem ip_subV {X : Cx} : PIp X .Sub (R2of (op2 fIsub)) := by
  refine opR_of (g := inplaceOp .Sub) fun pins s σ H x y v u Q F a b t I rx ry d va vb e q => ?_
  unfold fIsub at e
  split at e
  · cases e
    cases va.int; cases vb.int
    exact iop_sub pins s σ H _ _ v u Q I rx ry ⟨_, _, rfl, rfl, q.plain d At.int⟩
  · cases e
/-! ### loops -/
theorem Go.lt (a : Go S sl σ F H sl' σ' F' H') (r : RV S F g sl σ H) : Lt F H F' H' := by
  have off : ∀ b, F b → ¬ (Ws S b ∨ OwnA sl σ b) := fun b f w => by
    rcases w with w | ⟨i, h1, h2⟩
    · exact r.st.off b f w
    · cases q : gets sl i with
      | ow t =>
        obtain ⟨b', o, ev, _, _, n, _⟩ := r.ow q
        rw [h2] at ev
        cases ev
        exact n f
      | _ => rw [q] at h1; cases h1
  exact ⟨a.sub, fun b xs f e => a.kp.lst (off b f) e, fun b xs e => a.kp.tup b xs e, fun b u f e => a.kp.rd (off b f) e, fun b o u f e => by
    rcases a.kp.ex b _ e (off b f) with z | ⟨_, d, _⟩
    · exact z
    · exact absurd (show false = true from d) Bool.false_ne_true⟩
theorem tFor_of {K : PySem.W.Frag} {mi : Is} {tg : Tg} (h : rdM (mFor mi tg mb) Dn σ H) : tFor (rdI mi) (gT K tg) (rdM mb) Dn σ H := by
  obtain ⟨S, F, sl, g, fl, sl', g', rv, e, post⟩ := h
  obtain ⟨⟨⟨items, b⟩, g1⟩, e1, e⟩ := bsome e
  cases b with
  | true => rw [if_pos rfl] at e; cases e
  | false =>
    rw [if_neg Bool.false_ne_true] at e
    refine ⟨S, F, sl, g, items, false, g1, rv, e1, fun F1 J H1 m1 rv1 _ iz => ?_⟩
    have iz := iz rfl
    have post1 := post.of m1.go
    refine ⟨fun i n σ2 H2 => n = items.length - i ∧ i ≤ items.length ∧ ∃ F2 sl2 g2, Go S sl σ F1 H1 sl2 σ2 F2 H2 ∧ RV S F2 g2 sl2 σ2 H2 ∧ forGo tg mb (items.drop i) sl2 g2 = some (fl, sl', g'), ⟨items.length, by omega, Nat.zero_le _, F1, sl, g1, .refl, rv1, e⟩, ?_⟩
    rintro i n σ2 H2 ⟨rfl, hi, F2, sl2, g2, go, rv2, run⟩
    obtain ⟨iz1, iz2⟩ := iz F2 H2 (go.lt rv1) rv2.d i
    by_cases hlt : i < items.length
    · right
      have hx : items[i]? = some items[i] := List.getElem?_eq_getElem hlt
      obtain ⟨jgo, yl⟩ := iz1 _ hx
      rw [List.drop_eq_getElem_cons hlt] at run
      unfold forGo at run
      obtain ⟨sl3, b1, run⟩ := bsome run
      obtain ⟨⟨f4, sl4, g4⟩, b2, run⟩ := bsome run
      refine ⟨jgo, fun σ' H' => items.length - (i + 1) < items.length - i ∧ i + 1 ≤ items.length ∧ ∃ F2 sl2 g2, Go S sl σ F1 H1 sl2 σ' F2 H' ∧ RV S F2 g2 sl2 σ' H' ∧ forGo tg mb (items.drop (i + 1)) sl2 g2 = some (fl, sl', g'), fun σ' H' l => ⟨items.length - (i + 1), l.1, rfl, l.2.1, l.2.2⟩, fun x H3 y => ?_⟩
      obtain ⟨F3, x3, k3, d3, hat⟩ := yl x H3 y
      have m3 : Mv S F2 H2 F3 H3 := .of x3 k3
      have rv3 := rv2.keep0 x3 k3 d3
      refine bindT_ok2 b1 rv3 hat fun σ3 r3 c3 => ⟨S, F3, sl3, g2, f4, sl4, g4, r3, b2, ?_⟩
      have go3 : Go S sl σ F1 H1 sl3 σ3 F3 H3 := go.trans (m3.go.trans c3.go)
      cases f4 with
      | nx => exact fun F4 σ4 H4 a4 r4 => ⟨by omega, hlt, F4, sl4, g4, go3.trans a4, r4, run⟩
      | ct => exact fun F4 σ4 H4 a4 r4 => ⟨by omega, hlt, F4, sl4, g4, go3.trans a4, r4, run⟩
      | bk =>
        cases run
        exact fun F4 σ4 H4 a4 r4 => post1 F4 σ4 H4 (go3.trans a4) r4
      | rt t =>
        cases run
        exact fun F4 v H4 a4 d4 st4 v4 => post1 F4 v H4 (go3.thenR a4) d4 st4 v4
    · left
      have e2 : i = items.length := by omega
      subst e2
      rw [List.drop_length] at run
      unfold forGo at run
      cases run
      exact ⟨iz2 (Nat.le_refl _), post1 F2 σ2 H2 go rv2⟩
theorem tWhile_of {n : Nat} (h : rdM (mWhile n mc mb) Dn σ H) : tWhile (rdT mc) (rdM mb) Dn σ H := by
  obtain ⟨S, F, sl, g, fl, sl', g', rv, e, post⟩ := h
  refine ⟨fun k σ2 H2 => ∃ F2 sl2 g2, Go S sl σ F H sl2 σ2 F2 H2 ∧ RV S F2 g2 sl2 σ2 H2 ∧ whileGo mc mb k sl2 g2 = some (fl, sl', g'), ⟨n, F, sl, g, .refl, rv, e⟩, ?_⟩
  rintro k σ2 H2 ⟨F2, sl2, g2, go, rv2, run⟩
  cases k with
  | zero => cases run
  | succ k =>
    unfold whileGo at run
    obtain ⟨⟨r, g3⟩, b1, run⟩ := bsome run
    obtain ⟨c, b2, run⟩ := bsome run
    refine ⟨S, F2, sl2, g2, r, c, g3, rv2, b1, b2, fun F3 H3 m3 rv3 => ?_⟩
    cases c with
    | true =>
      rw [if_pos rfl] at run
      dsimp only
      rw [if_pos rfl]
      obtain ⟨⟨f4, sl4, g4⟩, b3, run⟩ := bsome run
      have go3 := go.trans m3.go
      refine ⟨fun σ' H' => ∃ F2 sl2 g2, Go S sl σ F H sl2 σ' F2 H' ∧ RV S F2 g2 sl2 σ' H' ∧ whileGo mc mb k sl2 g2 = some (fl, sl', g'), fun σ' H' l => ⟨k, Nat.lt_succ_self k, l⟩, S, F3, sl2, g3, f4, sl4, g4, rv3, b3, ?_⟩
      cases f4 with
      | nx => exact fun F4 σ4 H4 a4 r4 => ⟨F4, sl4, g4, go3.trans a4, r4, run⟩
      | ct => exact fun F4 σ4 H4 a4 r4 => ⟨F4, sl4, g4, go3.trans a4, r4, run⟩
      | bk =>
        cases run
        exact fun F4 σ4 H4 a4 r4 => post F4 σ4 H4 (go3.trans a4) r4
      | rt t =>
        cases run
        exact fun F4 v H4 a4 d4 st4 v4 => post F4 v H4 (go3.thenR a4) d4 st4 v4
    | false =>
      rw [if_neg Bool.false_ne_true] at run
      dsimp only
      rw [if_neg Bool.false_ne_true]
      cases run
      exact post F3 σ2 H3 (go.trans m3.go) rv3
/-! ### what is handed on -/
theorem Kids.clean {t : T} {o : HO} {a : Addr} (k : Kids H F t o) (e : H a = some o) : At H (add1 F a) t (.ref a) := by
  unfold Kids at k
  split at k
  · exact .list e (.inr rfl) k.more
  · exact .dK (.inl e) (.inr rfl) k.more
  · exact .dT (.inl e) (.inr rfl) (AtE.up (fun _ _ _ r => r) (fun _ _ _ e => e) (fun _ _ e => e) (fun _ f => .inl f) k)
  · exact k.elim
theorem RV.frz1 (r : RV S F g sl σ H) (i : Nat) : ∃ F', RV S F' g (frz1 sl i) σ H ∧ Go S sl σ F H (VM.frz1 sl i) σ F' H := by
  unfold VM.frz1
  cases h : gets sl i with
  | ow t =>
    obtain ⟨a, o, ev, ea, k, n, w⟩ := r.ow h
    have hi := gets_lt h (fun z => nomatch z)
    refine ⟨add1 F a, ⟨by rw [List.length_set]; exact r.len, add_dF r.d (by rw [ea]; simp), r.st.add w, fun j => ?_, fun j l b h1 h2 e1 e2 => ?_⟩, ⟨⟨fun _ f => .inl f, fun b f => ?_, .mono .refl fun _ z => z⟩, fun b ob => ?_⟩⟩
    · show SlOk H (add1 F a) S (gets (sl.set i (.cl t)) j) (getv σ j)
      rw [gets_set]
      split
      · rename_i c
        rw [← c.1, ev]
        exact k.clean ea
      · rename_i c
        have ne : j ≠ i := fun z => c ⟨z.symm, hi⟩
        have ok := r.ok j
        cases q : gets sl j with
        | un => trivial
        | stm =>
          rw [q] at ok
          obtain ⟨b, c, e1, e2⟩ := stm_at ok
          rw [e1]
          exact ⟨c, e2⟩
        | cl u =>
          rw [q] at ok
          cases q2 : getv σ j with
          | none => rw [q2] at ok; exact ok
          | some v => rw [q2] at ok; exact At.more (show At H F u v from ok)
        | ow u =>
          obtain ⟨b, ob, evb, eb, kb, nb, wb⟩ := r.ow q
          rw [evb]
          have hab : b ≠ a := fun z => ne ((r.sep j i a (by rw [q]; rfl) (.inl (by rw [h]; rfl)) (by rw [evb, z]) ev))
          exact ⟨⟨ob, eb, kb.up (fun _ _ _ r => r) (fun _ _ _ e => e) (fun _ _ e => e) fun _ f => .inl f⟩, fun z => z.elim nb hab, wb⟩
        | ro u =>
          rw [q] at ok
          cases q2 : getv σ j with
          | none => rw [q2] at ok; exact ok
          | some v =>
            rw [q2] at ok
            obtain ⟨hb, wb⟩ := (show Bt H F u v ∧ ∀ b, v = .ref b → ¬ Ws S b from ok)
            refine ⟨?_, wb⟩
            rcases hb with hb | ⟨b, ob, rfl, rx, kb⟩
            · exact .inl hb.more
            · exact .inr ⟨b, ob, rfl, rx, kb.up (fun _ _ _ r => r) (fun _ _ _ e => e) (fun _ _ e => e) fun _ f => .inl f⟩
    · have sub : ∀ j, isOw (gets (sl.set i (.cl t)) j) = true → isOw (gets sl j) = true := fun j z => by
        rw [gets_set] at z
        split at z
        · cases z
        · exact z
      have sub2 : ∀ j, isRo (gets (sl.set i (.cl t)) j) = true → isRo (gets sl j) = true := fun j z => by
        rw [gets_set] at z
        split at z
        · cases z
        · exact z
      exact r.sep j l b (sub j h1) (h2.imp (sub l) (sub2 l)) e1 e2
    · rcases f with f | f
      · exact .inl f
      · exact .inr (.inr ⟨i, by rw [h]; rfl, by rw [f]; exact ev⟩)
    · obtain ⟨j, h1, h2⟩ := ob
      have h1 : isOw (gets (sl.set i (.cl t)) j) = true := h1
      rw [gets_set] at h1
      split at h1
      · cases h1
      · exact .inl ⟨j, h1, h2⟩
  | un => exact ⟨F, r, .refl⟩
  | cl t => exact ⟨F, r, .refl⟩
  | ro t => exact ⟨F, r, .refl⟩
  | stm => exact ⟨F, r, .refl⟩
theorem RV.frz : ∀ (is : List Nat) {sl : Sls} {F : Addr → Prop}, RV S F g sl σ H → ∃ F', RV S F' g (VM.frz is sl) σ H ∧ Go S sl σ F H (VM.frz is sl) σ F' H
  | [], sl, F, r => ⟨F, r, .refl⟩
  | i :: is, sl, F, r => by
    obtain ⟨F1, r1, g1⟩ := r.frz1 i
    obtain ⟨F2, r2, g2⟩ := RV.frz is r1
    exact ⟨F2, r2, g1.trans g2⟩
theorem rdM_frz {is : List Nat} (h : rdM (mFrz is m) Dn σ H) : rdM m Dn σ H := by
  obtain ⟨S, F, sl, g, fl, sl', g', rv, e, post⟩ := h
  obtain ⟨F1, r1, g1⟩ := rv.frz is
  exact ⟨S, F1, _, g, fl, sl', g', r1, e, post.of g1⟩
end
end VM
/-! S1: the law's spring of draws: its list and its cells -/
namespace VM
open PySem PySem.Spec PyProof.Rows L2

/-- a number of the spring -/
def stGet (ds : DS) (k : Int) : Option Int := if k = 1 then some ds.left else if k = 2 then some ds.cnt else if k = 3 then some ds.mix else none
def stPut (ds : DS) (k v : Int) : Option DS := if k = 1 then some { ds with left := v } else if k = 2 then some { ds with cnt := v } else if k = 3 then some { ds with mix := v } else none
def eSt (i : Nat) (k : Int) : Ex := fun sl g => if isStm (gets sl i) = true then g.bind fun ds => (stGet ds k).map fun v => ((.int v, false), g) else none
def eStNe (i : Nat) : Ex := fun sl g => if isStm (gets sl i) = true then g.map fun ds => ((.bool (!ds.cells.isEmpty), false), g) else none
def mStSet (i : Nat) (k : Int) (m : Ex) : Sm := fun sl g => if isStm (gets sl i) = true then (m sl g).bind fun r => match r.1.1 with
  | .int v => r.2.bind fun ds => (stPut ds k v).map fun ds' => (.nx, sl, some ds')
  | _ => none
  else none
def mStPop (j i : Nat) : Sm := fun sl g => if isStm (gets sl i) = true ∧ j ≠ i then g.bind fun ds => match ds.cells with
  | [] => none
  | c :: cs => some (.nx, sl.set j (.cl (.int c)), some { ds with cells := cs })
  else none
section
variable {S : Sp2} {F : Addr → Prop} {H : Hp} {g : G} {sl : Sls} {σ : L2.St} {Q : VK} {D : Ends}
theorem RV.stm (r : RV S F g sl σ H) {i : Nat} (h : isStm (gets sl i) = true) : ∃ s b ds, S = some (s, b) ∧ g = some ds ∧ getv σ i = some (.ref s) ∧ s ≠ b ∧ ¬ F s ∧ ¬ F b ∧ H s = some (.lst [.ref b, .int ds.left, .int ds.cnt, .int ds.mix]) ∧ H b = some (.lst (ds.cells.map V.int)) := by
  have ok := r.ok i
  rw [isStm_eq h] at ok
  obtain ⟨a, b, ev, es⟩ := stm_at ok
  have st := r.st
  subst es
  cases g with
  | none => exact (show False from st).elim
  | some ds => exact ⟨a, b, ds, rfl, rfl, ev, st.1, st.2.1, st.2.2.1, st.2.2.2.1, st.2.2.2.2⟩
/-- the spring's objects are written: all else stands -/
theorem RV.stw (r : RV S F g sl σ H) {g' : G} {a : Addr} {o : HO} (w : Ws S a) (e : ∃ xs, H a = some (.lst xs)) (st : StmAt (upd H a o) F S g') : RV S F g' sl σ (upd H a o) ∧ Mv S F H F (upd H a o) := by
  obtain ⟨xs, e⟩ := e
  have m : Mv S F H F (upd H a o) := ⟨.refl, ⟨fun b u eb wb => .inl (by
      have : b ≠ a := fun z => wb (z ▸ w)
      rw [upd_ne this]
      exact eb), fun b eb => by
      by_cases q : b = a
      · rw [q, upd_same]; simp
      · rw [upd_ne q]; exact eb, fun b ys eb => by
      have : b ≠ a := fun z => by rw [z, e] at eb; cases eb
      rw [upd_ne this]
      exact eb⟩⟩
  exact ⟨r.keep m (up_dF r.d) st, m⟩
theorem stGet_at {ds : DS} {k v : Int} {b : Addr} (h : stGet ds k = some v) : atI [V.ref b, .int ds.left, .int ds.cnt, .int ds.mix] k = some (.int v) ∧ 0 ≤ k := by
  unfold stGet at h
  split at h
  · rename_i q; subst q; cases h; exact ⟨rfl, by decide⟩
  split at h
  · rename_i q; subst q; cases h; exact ⟨rfl, by decide⟩
  split at h
  · rename_i q; subst q; cases h; exact ⟨rfl, by decide⟩
  · cases h
/-- stream[k] -/
theorem tSt_of {K : PySem.W.Frag} {i : Nat} {k : Int} (h : rd (eSt i k) σ H Q) : tOp (rIxL K) (tVar i) (tC (.int k)) σ H Q := by
  obtain ⟨S, F, sl, g, r, g', rv, e, post⟩ := h
  unfold eSt at e
  split at e
  · rename_i hs
    obtain ⟨ds, eg, e⟩ := bsome e
    obtain ⟨v, ev, e⟩ := msome e
    cases e
    obtain ⟨s, b, ds', rfl, eg', evs, n0, n1, n2, e1, e2⟩ := rv.stm hs
    rw [eg] at eg'
    cases eg'
    exact ⟨.ref s, getv_some evs, s, _, k, .int v, rfl, rfl, .inl (.inl e1), (stGet_at ev).1, post F _ H .refl rv (.cl .int)⟩
  · cases e
/-- stream[0] != [] -/
theorem tStNe_of {K : PySem.W.Frag} {i : Nat} (h : rd (eStNe i) σ H Q) : tOp (rNeD K) (tOp (rIxL K) (tVar i) (tC (.int 0))) (tLst tNil) σ H Q := by
  obtain ⟨S, F, sl, g, r, g', rv, e, post⟩ := h
  unfold eStNe at e
  split at e
  · rename_i hs
    obtain ⟨ds, eg, e⟩ := msome e
    cases e
    obtain ⟨s, b, ds', rfl, eg', evs, n0, n1, n2, e1, e2⟩ := rv.stm hs
    rw [eg] at eg'
    cases eg'
    refine ⟨.ref s, getv_some evs, s, _, 0, .ref b, rfl, rfl, .inl (.inl e1), rfl, (Nat.zero_le _ : 0 ≤ sizeLine), fun p hp => ?_⟩
    have hb : upd H p (.lst []) b = some (.lst (ds.cells.map V.int)) := by rw [upd_ne (ne_of_none e2 hp)]; exact e2
    have dp : Dp K (upd H p (.lst [])) (.ref b) (.list (ds.cells.map PyData.int)) := .lst (.inl (.inl hb)) (by
      generalize ds.cells = cs
      induction cs with
      | nil => exact .nil
      | cons c cs ih => exact .cons (.int _) ih)
    have sh : SeqAt.shaped (.list (ds.cells.map PyData.int)) = true := by
      have h1 : PyData.canLayAll0 (ds.cells.map PyData.int) = true := by
        generalize ds.cells = cs
        induction cs with
        | nil => rfl
        | cons c cs ih => rw [List.map_cons, PyData.canLayAll0, ih]; rfl
      have h2 := PySem.W.depth_ints ds.cells
      unfold SeqAt.shaped
      rw [Bool.and_eq_true]
      refine ⟨by rw [PyData.canLay0]; exact h1, decide_eq_true ?_⟩
      rw [PyData.depth, h2]
      decide
    refine ⟨_, .list [], dp, .lst (.inl (.inl upd_same)) .nil, sh, by decide +kernel, ?_⟩
    have ev : (!PyData.eqv (.list (ds.cells.map PyData.int)) (.list [])) = !ds.cells.isEmpty := by
      cases ds.cells <;> simp [PyData.eqv, PyData.eqvAll]
    rw [ev]
    have m : Mv (some (s, b)) F H F (upd H p (.lst [])) := .of .refl (new_kp hp)
    exact post F _ _ m (rv.keep0 .refl (new_kp hp) (up_dF rv.d)) (.cl .bool)
  · cases e
theorem StmAt.put {ds ds' : DS} {k v : Int} {s b : Addr} (e : stPut ds k v = some ds') (n0 : s ≠ b) (n1 : ¬ F s) (n2 : ¬ F b) (e1 : H s = some (.lst [.ref b, .int ds.left, .int ds.cnt, .int ds.mix])) (e2 : H b = some (.lst (ds.cells.map V.int))) :
    ∃ j, ixN ([V.ref b, .int ds.left, .int ds.cnt, .int ds.mix]).length k = some j ∧ StmAt (upd H s (.lst (([V.ref b, .int ds.left, .int ds.cnt, .int ds.mix]).set j (.int v)))) F (some (s, b)) (some ds') := by
  have off : ∀ o, upd H s o b = some (.lst (ds.cells.map V.int)) := fun o => by rw [upd_ne (Ne.symm n0)]; exact e2
  unfold stPut at e
  split at e
  · rename_i q; subst q; cases e
    exact ⟨1, rfl, n0, n1, n2, upd_same, off _⟩
  split at e
  · rename_i q; subst q; cases e
    exact ⟨2, rfl, n0, n1, n2, upd_same, off _⟩
  split at e
  · rename_i q; subst q; cases e
    exact ⟨3, rfl, n0, n1, n2, upd_same, off _⟩
  · cases e
/-- stream[k] = e -/
theorem tStSet_of {i : Nat} {k : Int} {m : Ex} (h : rdM (mStSet i k m) D σ H) : tAsg (rd m) (gSub (tVar i) (tC (.int k)) rSetL) D σ H := by
  obtain ⟨S, F, sl, g, fl, sl', g', rv, e, post⟩ := h
  unfold mStSet at e
  split at e
  · rename_i hs
    obtain ⟨⟨r, g1⟩, e1, e⟩ := bsome e
    split at e
    · rename_i v er
      obtain ⟨ds, eg, e⟩ := bsome e
      obtain ⟨ds', ep, e⟩ := msome e
      cases e
      refine ⟨S, F, sl, g, r, g1, rv, e1, fun F1 x H1 m1 rv1 v1 => ?_⟩
      obtain ⟨s, b, ds1, rfl, eg', evs, n0, n1, n2, a1, a2⟩ := rv1.stm hs
      dsimp only at eg
      rw [eg] at eg'
      cases eg'
      have hx := v1.1.bt
      dsimp only at er
      rw [er] at hx
      cases hx.int
      obtain ⟨j, ej, st⟩ := StmAt.put ep n0 n1 n2 a1 a2
      refine ⟨.ref s, getv_some evs, s, _, k, j, rfl, rfl, a1, ej, ?_⟩
      obtain ⟨rv2, m2⟩ := rv1.stw (.inl rfl) ⟨_, a1⟩ st
      exact post F1 σ _ ((m1.trans m2).go) rv2
    · cases e
  · cases e
/-- cell = stream[0].pop(0) -/
theorem tStPop_of {K : PySem.W.Frag} {i j : Nat} (h : rdM (mStPop j i) D σ H) : tAsg (tBM K "list" rPopAt (tOp (rIxL K) (tVar i) (tC (.int 0))) (tCons (tC (.int 0)) tNil)) (gName j) D σ H := by
  obtain ⟨S, F, sl, g, fl, sl', g', rv, e, post⟩ := h
  unfold mStPop at e
  split at e
  · rename_i hs
    obtain ⟨ds, eg, e⟩ := bsome e
    split at e
    · cases e
    · rename_i c cs ec
      cases e
      obtain ⟨s, b, ds', rfl, eg', evs, n0, n1, n2, e1, e2⟩ := rv.stm hs.1
      rw [eg] at eg'
      cases eg'
      rw [ec] at e2
      refine ⟨.ref s, getv_some evs, s, _, 0, .ref b, rfl, rfl, .inl (.inl e1), rfl, .inl ⟨rfl, _, .inl (.inl e2)⟩, b, _, 0, 0, .int c, rfl, rfl, e2, by decide, by decide, ?_, rfl, ?_⟩
      · simp [seqIndex?]
      · have st : StmAt (upd H b (.lst (((c :: cs).map V.int).eraseIdx 0))) F (some (s, b)) (some { ds with cells := cs }) := ⟨n0, n1, n2, by rw [upd_ne n0]; exact e1, upd_same⟩
        obtain ⟨rv2, m2⟩ := rv.stw (.inr rfl) ⟨_, e2⟩ st
        exact post F _ _ (m2.go.trans (.setc rfl rv2.len)) (rv2.setc .int)
  · cases e
end
end VM
/-! S2: list(..), dict(..), sorted(..) as new things; [own.pop(..) for ..] -/
namespace VM
open PySem PySem.Spec PyProof.Rows L2

/-- a call by values that lays a new container -/
def RCf (f : List R → Option R) : List V → Hp → VK → Prop := fun vs H Q => ∃ F rs t b, dF F H ∧ ValsR H F rs vs ∧ f rs = some (t, b) ∧ ∀ p o, H p = none → Kids H F t o → Q (.ref p) (upd H p o)
section
variable {X : Cx}
theorem cf1_of {g : Value} {f : T → Option T}
    (h : ∀ (pins : List (Addr × Obj)) (s : Shared) (σ : L2.St) (H : Hp) (x : V) (v : Value) (Q : VK) (F : Addr → Prop) (a t : T), Inv X pins σ H s → RelV x v → dF F H → Bt H F a x → f a = some t → (∀ p o, H p = none → Kids H F t o → Q (.ref p) (upd H p o)) →
      wpAny (model X.prog X.w) X.A (call g [v]) (EP X pins σ Q) X.xe s) : CallR X g (RCf (bi1 f)) := by
  intro pins s σ H xs us Q I r hh
  obtain ⟨F, rs, t, b, d, vr, e, q⟩ := hh
  unfold bi1 at e
  split at e
  · obtain ⟨t', e1, e2⟩ := msome e
    cases e2
    cases vr with
    | cons va vr =>
      cases vr
      obtain ⟨u, rfl, rx⟩ := vals1 r
      exact h pins s σ H _ u Q F _ t I rx d va.bt e1 q
  · cases e
theorem cr_listF (hc : X.calm = true) : CallR X (.type "list") (RCf (bi1 listB)) := by
  refine cf1_of fun pins s σ H x v Q F a t I rx d va e q => ?_
  unfold listB at e
  split at e
  · cases e
    obtain ⟨l, xs, rfl, hx, lx⟩ := va.list
    exact call_list_of pins s σ H _ _ Q I (.cons rx .nil) ⟨_, xs, rfl, .inl (.inl (.inl hx)), fun p hp => q p (.lst xs) hp lx⟩
  · cases e
    obtain ⟨l, xs, rfl, hx, lx⟩ := va.tuple
    exact call_list_of pins s σ H _ _ Q I (.cons rx .nil) ⟨_, xs, rfl, .inr (.inl (.inl hx)), fun p hp => q p (.lst xs) hp lx⟩
  · cases e
  · rename_i ds n
    cases e
    obtain ⟨l, kvs, rfl, hr, l2⟩ := va.dk fun r z => n r z
    cases rx
    exact list_dict hc I hr.rd fun p hp => q p (.lst _) hp l2.keys
  · cases e
theorem cr_dictF (hc : X.calm = true) : CallR X (.type "dict") (RCf (bi1 dictB)) := by
  refine cf1_of fun pins s σ H x v Q F a t I rx d va e q => ?_
  unfold dictB at e
  split at e
  · cases e
  · rename_i ds n
    cases e
    obtain ⟨l, kvs, rfl, hr, l2⟩ := va.dk fun r z => n r z
    exact call_dictD pins s σ H _ _ Q I (.cons rx .nil) ⟨l, kvs, rfl, hr.rd, fun p hp => q p (.dK kvs) hp l2⟩
  · obtain ⟨ps, e1, rfl⟩ := Option.map_eq_some_iff.mp e
    obtain ⟨l, xs, rfl, hx, lx⟩ := va.list
    obtain ⟨as, kvs, rfl, pr, ad⟩ := lx.pairs e1
    exact call_dictP hc pins s σ H _ _ Q I (.cons rx .nil) ⟨l, as, kvs, rfl, .inl (.inl hx), L2.Paired.mapP pr fun _ _ z => .inl (.inl z), fun p hp => q p (.dK _) hp (show AtD H F _ _ from AtD.merge ad .nil)⟩
  · cases e
theorem cr_sortedF (hc : X.calm = true) (hu : X.A.units + 70 < cLine) : CallR X (.builtin "sorted") (RCf (bi1 sortedB)) := by
  refine cf1_of fun pins s σ H x v Q F a t I rx d va e q => ?_
  unfold sortedB at e
  split at e
  · split at e
    · rename_i ok
      cases e
      obtain ⟨l, xs, rfl, hx, lx⟩ := va.list
      cases rx
      exact sort_list hu I hx lx ok fun ys a la ha => q a (.lst ys) ha la
    · cases e
  · cases e
  · cases e
  · rename_i ds n
    split at e
    · rename_i ok
      cases e
      obtain ⟨l, kvs, rfl, hr, l2⟩ := va.dk fun r z => n r z
      rcases (Bool.or_eq_true _ _).mp ok.1 with o | o
      · obtain ⟨is, e1⟩ := Option.isSome_iff_exists.mp o
        have e2 := keyStrs_some e1
        have hlen : is.length < 64 := by
          have := congrArg List.length e2
          rw [List.length_map, List.length_map] at this
          have := ok.2
          omega
        refine call_sortedD hc pins s σ H _ _ Q I (.cons rx .nil) ⟨l, kvs, is, rfl, hr.rd, l2.strs e2, hlen, fun ys p py sy hp => ?_⟩
        rw [e2, sortT_strs py sy] at q
        exact q p (.lst _) hp (show AtL H F _ _ from AtL.of_strs)
      · obtain ⟨is, e1⟩ := Option.isSome_iff_exists.mp o
        have e2 := intsOf_some e1
        have hlen : is.length < 64 := by
          have := congrArg List.length e2
          rw [List.length_map, List.length_map] at this
          have := ok.2
          omega
        refine call_sortedDI hc pins s σ H _ _ Q I (.cons rx .nil) ⟨l, kvs, is, rfl, hr.rd, l2.intk e2, hlen, fun ys p py sy hp => ?_⟩
        rw [e2, sortT_ints py sy] at q
        exact q p (.lst _) hp (show AtL H F _ _ from AtL.of_ints)
    · cases e
  · cases e
end
section
variable {S : Sp2} {F F' : Addr → Prop} {H H' : Hp} {g g' : G} {sl sl' : Sls} {σ : L2.St} {D : Addr} {Q : VK} {Dn : Ends}
theorem Kids.new {t : T} {o : HO} {p : Addr} (k : Kids H F t o) (hp : H p = none) (d : dF F H) : Own (upd H p o) F t p ∧ ¬ F p := by
  have n : ¬ F p := fun f => d p f hp
  exact ⟨⟨o, upd_same, k.beside n (fun xs z => by rw [hp] at z; cases z)⟩, n⟩
theorem tCB_ofF {f : List R → Option R} {ms : Exs} (hb : ∀ rs r, f rs = some r → r.2 = false) (h : rdF (eBi f ms) σ H Q) : tCB (RCf f) (rdA ms) σ H Q := by
  obtain ⟨S, F, sl, g, r, g', rv, e, post⟩ := h
  obtain ⟨⟨a, g1⟩, e1, e⟩ := bsome e
  obtain ⟨⟨t, b⟩, e2, e⟩ := bsome e
  obtain ⟨t', e3, e⟩ := msome e
  cases e
  have hb := hb _ _ e2
  dsimp only at hb
  subst hb
  cases e3
  refine ⟨S, F, sl, g, a, g1, rv, e1, fun F1 xs H1 m1 rv1 v1 => ⟨F1, a, t, false, rv1.d, v1.valsR, e2, fun p o hp k => ?_⟩⟩
  obtain ⟨ow, n⟩ := k.new hp rv1.d
  exact post F1 p _ (m1.trans (.of .refl (new_kp hp))) (rv1.keep0 .refl (new_kp hp) (up_dF rv1.d)) ow n (fun w => (rv1.st.dom w) hp) (none_of m1.kp.dom hp)
theorem bi1_false {f : T → Option T} : ∀ rs r, bi1 f rs = some r → r.2 = false := fun rs r h => by
  unfold bi1 at h
  split at h
  · obtain ⟨t, _, rfl⟩ := msome h; rfl
  · cases h
/-! ### [own.pop(e) for target in iter] -/
def popGo (i : Nat) (tg : Tg) (me : Ex) (vs : List Nat) : List T → Sls → G → Option (List T × Sls × G)
  | [], sl, g => some ([], sl, g)
  | x :: xs, sl, g => (bindT tg x (wipeS sl vs)).bind fun sl1 => (me sl1 g).bind fun r => match r.1.1 with
    | .int k => (match gets sl i with
      | .ow (.list ts) => if 0 ≤ k ∧ k < ts.length ∧ k < 2 ^ 63 then (ts[k.toNat]?).bind fun t => (popGo i tg me vs xs (sl.set i (.ow (.list (ts.eraseIdx k.toNat)))) r.2).map fun p => (t :: p.1, p.2) else none
      | _ => none)
    | _ => none
def mPopC (i : Nat) (mi : Is) (tg : Tg) (me : Ex) (vs : List Nat) : Sm := fun sl g => if i ∈ vs ∨ i ∈ idxT tg then none else (mi sl g).bind fun a => if a.1.2 = true then none else (popGo i tg me vs a.1.1 sl a.2).bind fun p => (mkL p.1).map fun t => (.rt t, p.2)
theorem AtL.erase {ts : List T} {xs : List V} (l : AtL H F ts xs) : ∀ k : Nat, AtL H F (ts.eraseIdx k) (xs.eraseIdx k) := by
  intro k
  rw [List.eraseIdx_eq_take_drop_succ, List.eraseIdx_eq_take_drop_succ]
  exact AtL.append (l.drop _) (l.take _)
/-- a new thing beside all slots is written -/
theorem RV.beside {o : HO} (r : RV S F g sl σ H) (n : ¬ F D) (w : ¬ Ws S D) (nt : ∀ xs, H D ≠ some (.tup xs)) (far : ∀ j, (isOw (gets sl j) = true ∨ isRo (gets sl j) = true) → getv σ j ≠ some (.ref D)) : RV S F g sl σ (upd H D o) := by
  refine ⟨r.len, up_dF r.d, r.st.beside w, fun j => ?_, r.sep⟩
  have ok := r.ok j
  cases q : gets sl j with
  | un => trivial
  | stm =>
    rw [q] at ok
    obtain ⟨b, c, e1, e2⟩ := stm_at ok
    rw [e1]
    exact ⟨c, e2⟩
  | cl u =>
    rw [q] at ok
    cases q2 : getv σ j with
    | none => rw [q2] at ok; exact ok
    | some v => rw [q2] at ok; exact At.beside n nt (show At H F u v from ok)
  | ow u =>
    obtain ⟨b, ob, evb, eb, kb, nb, wb⟩ := r.ow q
    rw [evb]
    have hab : b ≠ D := fun z => far j (.inl (by rw [q]; rfl)) (by rw [evb, z])
    exact ⟨⟨ob, by rw [upd_ne hab]; exact eb, kb.beside n nt⟩, nb, wb⟩
  | ro u =>
    rw [q] at ok
    cases q2 : getv σ j with
    | none => rw [q2] at ok; exact ok
    | some v =>
      rw [q2] at ok
      obtain ⟨hb, wb⟩ := (show Bt H F u v ∧ ∀ b, v = .ref b → ¬ Ws S b from ok)
      refine ⟨?_, wb⟩
      rcases hb with hb | ⟨b, ob, rfl, rx, kb⟩
      · exact .inl (hb.beside n nt)
      · have hab : b ≠ D := fun z => far j (.inr (by rw [q]; rfl)) (by rw [q2, z])
        refine .inr ⟨b, ob, rfl, ?_, kb.beside n nt⟩
        unfold Rx
        rw [upd_ne hab]
        exact rx
theorem getv_wipe {i : Nat} : ∀ {vs : List Nat}, i ∉ vs → getv (wipe σ vs) i = getv σ i
  | [], _ => rfl
  | v :: vs, h => by
    rw [List.mem_cons, not_or] at h
    unfold L2.wipe
    rw [getv_set, if_neg (fun c => h.1 c.1.symm), getv_wipe h.2]
theorem Go.beside {σ' : L2.St} {o : HO} (a : Go S sl σ F H sl' σ' F' H') (h : H D = none) : Go S sl σ F H sl' σ' F' (upd H' D o) := by
  refine ⟨⟨a.sub, a.new, ⟨fun x u e w => ?_, fun x e => ?_, fun x xs e => ?_⟩⟩, a.own⟩
  · have q : x ≠ D := fun z => by rw [z, h] at e; cases e
    rw [upd_ne q]
    exact a.kp.ex x u e w
  · by_cases q : x = D
    · rw [q, upd_same]; simp
    · rw [upd_ne q]; exact a.kp.dom x e
  · have q : x ≠ D := fun z => by rw [z, h] at e; cases e
    rw [upd_ne q]
    exact a.kp.tup x xs e
/-- the same slots are one's own -/
def Sim (sl sl' : Sls) : Prop := ∀ j, isOw (gets sl' j) = isOw (gets sl j) ∧ isRo (gets sl' j) = isRo (gets sl j)
theorem Sim.set {i : Nat} {t t' : T} (h : gets sl i = .ow t) : Sim sl (sl.set i (.ow t')) := fun j => by
  rw [gets_set]
  split
  · rename_i c
    rw [← c.1, h]
    exact ⟨rfl, rfl⟩
  · exact ⟨rfl, rfl⟩
theorem Sim.trans {a b c : Sls} (h : Sim a b) (k : Sim b c) : Sim a c := fun j => ⟨(k j).1.trans (h j).1, (k j).2.trans (h j).2⟩
structure PopAt (S : Sp2) (sl : Sls) (σ : L2.St) (F1 : Addr → Prop) (H1 : Hp) (D : Addr) (fin : List T) (slE : Sls) (gE : G) (run : List T → Sls → G → Option (List T × Sls × G)) (items : List T) (k : Nat) (H2 : Hp) : Prop where
  le : k ≤ items.length
  at_ : ∃ F2 sl2 g2 done acc rest, Go S sl σ F1 H1 sl2 σ F2 H2 ∧ RV S F2 g2 sl2 σ H2 ∧ Sim sl sl2 ∧ ¬ F2 D ∧ H2 D = some (.lst acc) ∧ AtL H2 F2 done acc ∧ run (items.drop k) sl2 g2 = some (rest, slE, gE) ∧ done ++ rest = fin
theorem tPopC_of {K : PySem.W.Frag} {i : Nat} {mi : Is} {tg : Tg} {me : Ex} {vs : List Nat} (hidx : ∀ i ∈ idxT tg, i ∈ vs) (h : rdM (mPopC i mi tg me vs) Dn σ H) : tRet (tLc (rdI mi) (gT K tg) tYes (tBM K "list" rPopAt (tVar i) (tCons (rd me) tNil)) vs) Dn σ H := by
  obtain ⟨S, F, sl, g, fl, sl', g', rv, e, post⟩ := h
  unfold mPopC at e
  split at e
  · cases e
  rename_i hni
  rw [not_or] at hni
  obtain ⟨⟨⟨items, b⟩, g1⟩, e1, e⟩ := bsome e
  split at e
  · cases e
  rename_i hb
  have hb : b = false := Bool.eq_false_iff.mpr hb
  subst hb
  obtain ⟨⟨fin, slE, gE⟩, e2, e⟩ := bsome e
  obtain ⟨t, e3, e⟩ := msome e
  cases e
  unfold mkL at e3
  split at e3
  case isFalse => cases e3
  rename_i hz
  cases e3
  refine ⟨S, F, sl, g, items, false, g1, rv, e1, fun F1 J H1 m1 rv1 _ iz D hD => ?_⟩
  have iz := iz rfl
  have wD : ¬ Ws S D := fun w => (rv1.st.dom w) hD
  have nD : ¬ F1 D := fun f => (rv1.d D f) hD
  have far : ∀ {sl2 : Sls}, Sim sl sl2 → ∀ j, (isOw (gets sl2 j) = true ∨ isRo (gets sl2 j) = true) → getv σ j ≠ some (.ref D) := fun {sl2} sm j hj ej => by
    rw [(sm j).1, (sm j).2] at hj
    exact rv1.there ej hj hD
  refine ⟨fun k m H2 => m = items.length - k ∧ PopAt S sl σ F1 H1 D fin sl' g' (popGo i tg me vs) items k H2, ⟨items.length, by omega, Nat.zero_le _, F1, sl, g1, [], [], fin, Go.beside .refl hD, rv1.beside nD wD (fun xs z => by rw [hD] at z; cases z) (far fun _ => ⟨rfl, rfl⟩), fun _ => ⟨rfl, rfl⟩, nD, upd_same, .nil, e2, rfl⟩, ?_⟩
  rintro k m H2 ⟨rfl, hi, F2, sl2, g2, done, acc, rest, go, rv2, sim, n2, hacc, hdone, run, hfin⟩
  obtain ⟨iz1, iz2⟩ := iz F2 H2 (go.lt rv1) rv2.d k
  by_cases hlt : k < items.length
  · right
    obtain ⟨jgo, yl⟩ := iz1 _ (List.getElem?_eq_getElem hlt)
    rw [List.drop_eq_getElem_cons hlt] at run
    unfold popGo at run
    obtain ⟨sl1, b1, run⟩ := bsome run
    obtain ⟨⟨r, g4⟩, b2, run⟩ := bsome run
    split at run
    case h_2 => cases run
    rename_i kk hr
    split at run
    case h_2 => cases run
    rename_i ts hs
    split at run
    case isFalse => cases run
    rename_i hk
    obtain ⟨t, ht, run⟩ := bsome run
    obtain ⟨⟨rest', slx, gx⟩, c3, c4⟩ := msome run
    cases c4
    refine ⟨jgo, fun H' => PopAt S sl σ F1 H1 D fin sl' g' (popGo i tg me vs) items (k + 1) H', fun H' l => ⟨items.length - (k + 1), by omega, rfl, l⟩, fun x H3 y => ?_⟩
    obtain ⟨F3, x3, k3, d3, hat⟩ := yl x H3 y
    have m3 : Mv S F2 H2 F3 H3 := .of x3 k3
    have rv3 := rv2.keep0 x3 k3 d3
    have n3 : ¬ F3 D := x3.off n2 (by rw [hacc]; simp)
    have hacc3 : H3 D = some (.lst acc) := m3.at wD n2 hacc
    have hdone3 := hdone.mv m3 rv2.st.off
    refine bindT_ok b1 (rv3.wipe vs) hat fun σ2 r2 w2 => ⟨by rw [w2 vs hidx, wipe_wipe vs vs fun _ z => z], ?_⟩
    unfold tYes
    dsimp only
    rw [if_pos rfl]
    obtain ⟨a, o, ev, ea, kd, na, wa⟩ := rv3.ow hs
    have ev2 : getv σ2 i = some (.ref a) := by
      have q : getv (wipe σ2 (idxT tg)) i = getv (wipe (wipe σ vs) (idxT tg)) i := congrArg (fun z => getv z i) (w2 (idxT tg) fun _ z => z)
      rw [getv_wipe hni.2, getv_wipe hni.2, getv_wipe hni.1] at q
      rw [q, ev]
    cases o with
    | lst ys =>
      have kd : AtL H3 F3 ts ys := kd
      refine ⟨.ref a, getv_some ev2, .inl ⟨rfl, ys, .inl (.inl ea)⟩, S, F3, sl1, g2, r, g4, r2, b2, fun F4 z H4 m4 rv4 v4 => ?_⟩
      have rvo : RV S F4 g4 sl2 σ H4 := rv3.keep m4 rv4.d rv4.st
      obtain ⟨a', o4, ev4, ea4, kd4, na4, wa4⟩ := rvo.ow hs
      rw [ev] at ev4
      cases ev4
      cases o4 with
      | lst zs =>
        have kd4 : AtL H4 F4 ts zs := kd4
        have hz4 := v4.1.bt
        dsimp only at hr
        rw [hr] at hz4
        cases hz4.int
        obtain ⟨w, hw, hatw⟩ := kd4.get ht
        have aD : a ≠ D := fun z => by
          have := rv1.there (j := i) (a := a) ev (.inl (by rw [← (sim i).1, hs]; rfl))
          rw [z] at this
          exact this hD
        have hacc4 : H4 D = some (.lst acc) := m4.at wD n3 hacc3
        have n4 : ¬ F4 D := m4.ext.off n3 (by rw [hacc3]; simp)
        have hdone4 := hdone3.mv m4 rv3.st.off
        have sq : seqIndex? kk zs.length = some kk.toNat := seqIndex_of hk.1 (by rw [← kd4.length]; exact hk.2.1)
        refine ⟨a, zs, kk, kk.toNat, w, rfl, rfl, ea4, by omega, hk.2.2, sq, hw, acc, by rw [upd_ne (Ne.symm aD)]; exact hacc4, ?_, ?_⟩
        · have h1 := hdone.length
          have h2 := congrArg List.length hfin
          rw [List.length_append, List.length_cons] at h2
          have : fin.length ≤ sizeLine := hz
          omega
        · have rv5 := rvo.mut hs ev (o' := .lst (zs.eraseIdx kk.toNat)) (t' := .list (ts.eraseIdx kk.toNat)) (show AtL H4 F4 _ _ from kd4.erase _)
          have go5 := rvo.mutGo hs ev (o' := .lst (zs.eraseIdx kk.toNat)) (t' := .list (ts.eraseIdx kk.toNat))
          have sm5 : Sim sl (sl2.set i (.ow (.list (ts.eraseIdx kk.toNat)))) := sim.trans (Sim.set hs)
          have nta : ∀ xs, H4 a ≠ some (.tup xs) := fun xs q => by rw [ea4] at q; cases q
          have hD5 : upd H4 a (.lst (zs.eraseIdx kk.toNat)) D = some (.lst acc) := by rw [upd_ne (Ne.symm aD)]; exact hacc4
          have ntD : ∀ xs, upd H4 a (.lst (zs.eraseIdx kk.toNat)) D ≠ some (.tup xs) := fun xs q => by rw [hD5] at q; cases q
          refine ⟨hlt, F4, _, g4, done ++ [t], acc ++ [w], rest', ((go.trans (m3.trans m4).go).trans go5).beside hD, rv5.beside n4 wD ntD (far sm5), sm5, n4, upd_same, ?_, c3, by rw [List.append_assoc]; exact hfin⟩
          exact ((hdone4.beside na4 nta).snoc (hatw.beside na4 nta)).beside n4 ntD
      | _ => exact (show False from kd4).elim
    | _ => exact (show False from kd).elim
  · left
    have ek : k = items.length := by omega
    subst ek
    rw [List.drop_length] at run
    unfold popGo at run
    cases run
    rw [List.append_nil] at hfin
    subst hfin
    refine ⟨iz2 (Nat.le_refl _), ?_⟩
    have go2 := (m1.go (sl := sl) (σ := σ)).trans go
    have h0 : H D = none := none_of m1.kp.dom hD
    exact post (add1 F2 D) _ H2 ⟨fun x f => .inl (go2.sub x f), fun x f => by
      rcases f with f | f
      · exact go2.new x f
      · rw [f]; exact .inr (.inl h0), go2.kp⟩ (add_dF rv2.d (by rw [hacc]; simp)) (rv2.st.add wD) (.list hacc (.inr rfl) hdone.more)
end
end VM
/-! V17: the text read: expressions -/
namespace VM
open PySem PySem.Spec PyProof.Rows L2

/-- what is known of a def that may be called -/
structure FnI where
  den : Den
  st : Bool
/-- where a text stands -/
structure Ga where
  N : List Str
  sc : Scope
  fnB : Str → Bool
  fns : List (Str × FnI)
  dr : Option Str
def bnames : List Str := ["len", "list", "tuple", "int", "str", "sum", "any", "all", "max", "min", "sorted", "dict", "isinstance", "range", "enumerate", "zip", "bool"]
structure Good (Γ : Ga) (X : Cx) : Prop where
  N : X.N = Γ.N
  sc : X.env.scope = Γ.sc
  nd : X.N.Nodup
  calm : X.calm = true
  xe : X.xe = fun _ _ => False
  fn : ∀ x, Γ.fnB x = true → X.fn x = true
  hu : X.A.units + 100 < cLine
  bl : ∀ x ∈ bnames, X.mg x = none
  fns : ∀ x i, Γ.fns.lookup x = some i → ∃ k f fd ps, FnOk X.prog X.w X.K X.mg X.base CX0 k f fd ps (spV i.den) ∧ Room k X.A ∧ X.mg x = some (.ref f) ∧ PySem.W.keepIn X.K (.ref f) = true ∧ Binds X.K fd ps []
/-! ### names -/
def look (N : List Str) (x : Str) : Option Nat := N.findIdx? fun y => decide (y = x)
theorem look_some {N : List Str} {x : Str} {i : Nat} (h : look N x = some i) : N[i]? = some x := by
  unfold look at h
  obtain ⟨h1, h2, _⟩ := List.findIdx?_eq_some_iff_getElem.mp h
  rw [List.getElem?_eq_getElem h1, of_decide_eq_true h2]
def visB (sc : Scope) (x : Str) : Bool := match sc.names.lookup x with
  | some .local => true
  | some .cell => true
  | some .free => true
  | _ => false
theorem visB_ok {sc : Scope} {x : Str} (h : visB sc x = true) : Vis sc x := by
  unfold visB at h
  split at h
  · rename_i e; exact .inl e
  · rename_i e; exact .inr (.inl e)
  · rename_i e; exact .inr (.inr e)
  · cases h
def dbg (x : Str) : Bool := (x == ("__debug__" : Str)) || (x == ("__classdict__" : Str))
theorem dbg1 {x : Str} (h : dbg x = false) : (x == ("__debug__" : Str)) = false := by
  unfold dbg at h
  rw [Bool.or_eq_false_iff] at h
  exact h.1
theorem dbg2 {x : Str} (h : dbg x = false) : (x == ("__classdict__" : Str)) = false := by
  unfold dbg at h
  rw [Bool.or_eq_false_iff] at h
  exact h.2
/-- a name's slot -/
def slot (Γ : Ga) (x : Str) : Option Nat := if visB Γ.sc x = true ∧ dbg x = false then look Γ.N x else none
theorem slot_ok {Γ : Ga} {x : Str} {i : Nat} (h : slot Γ x = some i) : Γ.N[i]? = some x ∧ Vis Γ.sc x ∧ dbg x = false := by
  unfold slot at h
  split at h
  · rename_i c
    exact ⟨look_some h, visB_ok c.1, c.2⟩
  · cases h
theorem pe_slot {Γ : Ga} {X : Cx} (G : Good Γ X) {x : Str} {i : Nat} {pos : Pos} (h : slot Γ x = some i) : PE X (.Name x pos) (tVar i) := by
  obtain ⟨a, b, c⟩ := slot_ok h
  exact pe_var (by rw [G.N]; exact a) (by rw [G.sc]; exact b) (dbg1 c) (dbg2 c)
def gloB (sc : Scope) (x : Str) : Bool := match sc.names.lookup x with
  | some .globalImplicit => true
  | _ => false
theorem gloB_ok {Γ : Ga} {X : Cx} (G : Good Γ X) {x : Str} (h : gloB Γ.sc x = true) : Gl X x := by
  unfold gloB at h
  split at h
  · rename_i e
    unfold Gl
    show X.env.scope.names.lookup x = _
    rw [G.sc]
    exact e
  · cases h

/-! ### what is not starred -/
def starB : Expr → Bool
  | .Starred _ _ => true
  | _ => false
theorem star1 {e : Expr} (h : starB e = false) (es : List Expr) (env : Env) : starEach (e :: es) env = (false, eval e env) :: starEach es env := by
  cases e <;> first | rfl | cases h
theorem star_any {es : List Expr} (h : es.any starB = false) (env : Env) (pos : Pos) : (backTo pos (starEach es env)).any (·.1) = false := by
  induction es with
  | nil => rfl
  | cons e es ih =>
    rw [List.any_cons, Bool.or_eq_false_iff] at h
    rw [star1 h.1]
    show (false || (backTo pos (starEach es env)).any (·.1)) = false
    rw [ih h.2]
    rfl
theorem star_all {es : List Expr} (h : es.any starB = false) (env : Env) (pos : Pos) : (backTo pos (starEach es env)).all (fun x => !x.1) = true := by
  induction es with
  | nil => rfl
  | cons e es ih =>
    rw [List.any_cons, Bool.or_eq_false_iff] at h
    rw [star1 h.1]
    show (true && (backTo pos (starEach es env)).all (fun x => !x.1)) = true
    rw [ih h.2]
    rfl
/-- what has no rule of its own as a test -/
def plainTest : Expr → Bool
  | .UnaryOp .Not _ _ => false
  | .BoolOp _ _ _ => false
  | .IfExp _ _ _ _ => false
  | .Compare _ _ _ _ => false
  | _ => true
theorem test_of {e : Expr} (h : plainTest e = true) (env : Env) (whole : Sem Value) : isTrue e env whole = (do let v ← whole; standAt e.pos; holding [v] (truthy v)) := by
  cases e with
  | UnaryOp op a p => cases op <;> first | rfl | cases h
  | BoolOp _ _ _ => cases h
  | IfExp _ _ _ _ => cases h
  | Compare _ _ _ _ => cases h
  | _ => rfl
def setB : Expr → Bool
  | .Set _ _ _ => true
  | _ => false
theorem fold_of {e : Expr} (h : setB e = false) (env : Env) (x : Value) : foldedSetIterable e env x = pure x := by
  cases e <;> first | rfl | cases h
theorem mark_of {op : CmpOp} {e : Expr} (h : setB e = false) : behindInMarks op e = false := by
  cases e <;> first | rfl | cases h
def callB : Expr → Bool
  | .Call _ _ _ _ => true
  | _ => false
theorem base_of {e : Expr} (h : callB e = false) (attr : Str) (env : Env) (whole : Sem Value) : attributeBase e attr env whole = whole := by
  cases e <;> first | rfl | cases h
def compB : Expr → Bool
  | .ListComp _ _ _ _ => true
  | .SetComp _ _ _ _ => true
  | .DictComp _ _ _ _ _ => true
  | _ => false
theorem swap_of {e : Expr} (h : compB e = false) (t : Option Expr) (l : Nat) (env : Env) : swapsWith e t l env = pure false := by
  cases e <;> first | rfl | cases h
def sliceB : Expr → Bool
  | .Slice _ _ _ _ => true
  | _ => false
theorem plain_of {e : Expr} (h : sliceB e = false) : PlainIx e := by
  intro o i
  cases e <;> first | rfl | cases h
/-! ### both readings -/
structure Both (X : Cx) (e : Expr) (m : Ex) : Prop where
  pe : PE X e (rd m)
  pt : PT X e (rdT m)
theorem both_plain {X : Cx} {e : Expr} {m : Ex} (h : PE X e (rd m)) (p : plainTest e = true) : Both X e m := ⟨h, PT.imp (pt_val h (test_of p X.env)) fun _ _ _ q => rd_of_rdT q⟩
/-! ### tables -/
def constT : Const → Option T
  | .none => some .none
  | .bool b => some (.bool b)
  | .int i => some (.int i)
  | .str s => some (.str s)
  | _ => none
def binF : Operator → Option (T → T → Option T)
  | .Add => some bAdd
  | .Sub => some bSub
  | .Mult => some bMul
  | .FloorDiv => some bDiv
  | .Mod => some bMod
  | .Pow => some bPow
  | _ => none
theorem binF_ok {X : Cx} {op : Operator} {f : T → T → Option T} (h : binF op = some f) : OpR X (binaryOp op) (R2of (op2 f)) := by
  unfold binF at h
  split at h <;> cases h
  · exact op_addV
  · exact op_subV
  · exact op_mulV
  · exact op_divV
  · exact op_modV
  · exact op_powV
def cmpF : CmpOp → Option (T → T → Option T)
  | .Eq => some bEq
  | .NotEq => some bNe
  | .Lt => some bLt
  | .LtE => some bLe
  | .Gt => some bGt
  | .GtE => some bGe
  | .Is => some bIs
  | .IsNot => some bIsNot
  | .In => some bIn
  | .NotIn => some bNotIn
theorem cmpF_ok {X : Cx} {op : CmpOp} {f : T → T → Option T} (hu : X.A.units + 100 < cLine) (h : cmpF op = some f) : OpR X (compareOp op) (R2of (op2 f)) := by
  unfold cmpF at h
  split at h <;> cases h
  · exact op_eqV (by omega)
  · exact op_neV (by omega)
  · exact op_ltV
  · exact op_leV
  · exact op_gtV
  · exact op_geV
  · exact op_isV
  · exact op_isNotV
  · exact op_inV (by omega)
  · exact op_notInV (by omega)
/-- a built-in by name, by the number of arguments -/
def biF (x : Str) (n : Nat) : Option (List R → Option R) :=
  if x = "len" then some (bi1 lenB) else if x = "list" then some (bi1 listB) else if x = "tuple" then some (bi1 tupleB) else if x = "int" then some (bi1 intB) else if x = "str" then some (bi1 strB)
  else if x = "sum" then some (bi1 sumB) else if x = "any" then some (bi1 anyB) else if x = "all" then some (bi1 allB) else if x = "sorted" then some (bi1 sortedB) else if x = "dict" then some (bi1 dictB)
  else if x = "max" then (if n = 1 then some (bi1 maxB) else some (bi2 max2B)) else if x = "min" then (if n = 1 then some (bi1 minB) else some (bi2 min2B)) else none
theorem pe_biF {Γ : Ga} {X : Cx} (G : Good Γ X) {x : Str} {n : Nat} {f : List R → Option R} (h : biF x n = some f) (hg : gloB Γ.sc x = true) {e : Expr} {es : List Expr} {t : TA} {p pos : Pos} (ha : PA X (e :: es) t) (hs : (e :: es).any starB = false) :
    PE X (.Call (.Name x p) (e :: es) [] pos) (tCB (RCof f) t) := by
  have gl := gloB_ok G hg
  rw [List.any_cons, Bool.or_eq_false_iff] at hs
  have h1 := star1 hs.1 es X.env
  have h2 := star_any hs.2 X.env pos
  have hu := G.hu
  unfold biF at h
  by_cases e_len : x = "len"
  · subst e_len
    rw [if_pos rfl] at h
    cases h
    exact pe_callB cr_lenV gl (G.bl _ (by decide +kernel)) boot_len ha (by decide +kernel) (by decide +kernel) h1 h2
  rw [if_neg e_len] at h
  by_cases e_list : x = "list"
  · subst e_list
    rw [if_pos rfl] at h
    cases h
    exact pe_callTy (cr_listV G.calm) gl (G.bl _ (by decide +kernel)) boot_list ha (by decide +kernel) (by decide +kernel) h1 h2
  rw [if_neg e_list] at h
  by_cases e_tuple : x = "tuple"
  · subst e_tuple
    rw [if_pos rfl] at h
    cases h
    exact pe_callTy cr_tupleV gl (G.bl _ (by decide +kernel)) boot_tuple ha (by decide +kernel) (by decide +kernel) h1 h2
  rw [if_neg e_tuple] at h
  by_cases e_int : x = "int"
  · subst e_int
    rw [if_pos rfl] at h
    cases h
    exact pe_callTy cr_intV gl (G.bl _ (by decide +kernel)) boot_int ha (by decide +kernel) (by decide +kernel) h1 h2
  rw [if_neg e_int] at h
  by_cases e_str : x = "str"
  · subst e_str
    rw [if_pos rfl] at h
    cases h
    exact pe_callTy cr_strV gl (G.bl _ (by decide +kernel)) boot_str ha (by decide +kernel) (by decide +kernel) h1 h2
  rw [if_neg e_str] at h
  by_cases e_sum : x = "sum"
  · subst e_sum
    rw [if_pos rfl] at h
    cases h
    exact pe_callB (cr_sumV G.calm) gl (G.bl _ (by decide +kernel)) boot_sum ha (by decide +kernel) (by decide +kernel) h1 h2
  rw [if_neg e_sum] at h
  by_cases e_any : x = "any"
  · subst e_any
    rw [if_pos rfl] at h
    cases h
    exact pe_callB (cr_anyV G.calm) gl (G.bl _ (by decide +kernel)) boot_any ha (by decide +kernel) (by decide +kernel) h1 h2
  rw [if_neg e_any] at h
  by_cases e_all : x = "all"
  · subst e_all
    rw [if_pos rfl] at h
    cases h
    exact pe_callB (cr_allV G.calm) gl (G.bl _ (by decide +kernel)) boot_all ha (by decide +kernel) (by decide +kernel) h1 h2
  rw [if_neg e_all] at h
  by_cases e_sorted : x = "sorted"
  · subst e_sorted
    rw [if_pos rfl] at h
    cases h
    exact pe_callB (cr_sortedV G.calm (by omega)) gl (G.bl _ (by decide +kernel)) boot_sorted ha (by decide +kernel) (by decide +kernel) h1 h2
  rw [if_neg e_sorted] at h
  by_cases e_dict : x = "dict"
  · subst e_dict
    rw [if_pos rfl] at h
    cases h
    exact pe_callTy (cr_dictV G.calm) gl (G.bl _ (by decide +kernel)) boot_dict ha (by decide +kernel) (by decide +kernel) h1 h2
  rw [if_neg e_dict] at h
  by_cases e_max : x = "max"
  · subst e_max
    rw [if_pos rfl] at h
    by_cases n1 : n = 1
    · rw [if_pos n1] at h
      cases h
      exact pe_callB (cr_maxV G.calm (by omega)) gl (G.bl _ (by decide +kernel)) boot_max ha (by decide +kernel) (by decide +kernel) h1 h2
    · rw [if_neg n1] at h
      cases h
      exact pe_callB (cr_max2V G.calm) gl (G.bl _ (by decide +kernel)) boot_max ha (by decide +kernel) (by decide +kernel) h1 h2
  rw [if_neg e_max] at h
  by_cases e_min : x = "min"
  · subst e_min
    rw [if_pos rfl] at h
    by_cases n1 : n = 1
    · rw [if_pos n1] at h
      cases h
      exact pe_callB (cr_minV G.calm (by omega)) gl (G.bl _ (by decide +kernel)) boot_min ha (by decide +kernel) (by decide +kernel) h1 h2
    · rw [if_neg n1] at h
      cases h
      exact pe_callB (cr_min2V G.calm) gl (G.bl _ (by decide +kernel)) boot_min ha (by decide +kernel) (by decide +kernel) h1 h2
  rw [if_neg e_min] at h
  cases h
end VM
/-! V18: the text read: lists of expressions, targets, loops' heads -/
namespace VM
open PySem PySem.Spec PyProof.Rows L2

def argPlain : Expr → Bool
  | .Call (.Attribute _ _ _) _ _ _ => false
  | _ => true
/-- things that are new containers -/
def frB : Expr → Bool
  | .Call (.Name f _) [a] [] _ => (decide (f = "list") || decide (f = "dict") || decide (f = "sorted")) && argPlain a
  | .List _ _ => true
  | .Dict [] [] _ => true
  | .ListComp _ _ _ _ => true
  | .DictComp _ _ _ _ _ => true
  | _ => false
structure BothF (X : Cx) (e : Expr) (m : Ex) : Prop extends Both X e m where
  pf : frB e = true → PE X e (rdF m)
  ns : starB e = false
abbrev SemE := Ga → Expr → Option Ex
def SoundE (E : SemE) : Prop := ∀ Γ e m, E Γ e = some m → ∀ X, Good Γ X → BothF X e m
/-! ### argument lists -/
def semL (E : SemE) (Γ : Ga) : List Expr → Option Exs
  | [] => some aNil
  | e :: es => (E Γ e).bind fun m => (semL E Γ es).map fun r => aCons m r
theorem semL_ok {E : SemE} (S : SoundE E) {Γ : Ga} {X : Cx} (G : Good Γ X) : ∀ {es : List Expr} {ms : Exs}, semL E Γ es = some ms → PA X es (rdA ms) ∧ es.any starB = false
  | [], ms, h => by cases h; exact ⟨PA.imp pa_nil fun _ _ _ q => tNil_of q, rfl⟩
  | e :: es, ms, h => by
    unfold semL at h
    obtain ⟨m, e1, h⟩ := bsome h
    obtain ⟨r, e2, rfl⟩ := msome h
    have b := S Γ e m e1 X G
    have ih := semL_ok S G e2
    refine ⟨PA.imp (pa_cons b.pe ih.1 (star1 b.ns es X.env)) fun _ _ _ q => tCons_of q, ?_⟩
    rw [List.any_cons, b.ns, ih.2]
    rfl
def nameOf : Expr → Option Str
  | .Name x _ => some x
  | _ => none
theorem nameOf_some {e : Expr} {x : Str} (h : nameOf e = some x) : ∃ p, e = .Name x p := by
  cases e <;> cases h
  exact ⟨_, rfl⟩
/-- the arguments of a def -/
def semV (E : SemE) (Γ : Ga) : List Expr → Option As
  | [] => some asNil
  | e :: es => (E Γ e).bind fun m => (semV E Γ es).map fun r => asVal m r
/-- .. st: the spring comes first -/
def semAs (E : SemE) (Γ : Ga) (st : Bool) : List Expr → Option As
  | [] => some asNil
  | e :: es => if st = true then (nameOf e).bind fun x => (slot Γ x).bind fun i => (semV E Γ es).map fun r => asStm i r else semV E Γ (e :: es)
theorem semV_ok {E : SemE} (S : SoundE E) {Γ : Ga} {X : Cx} (G : Good Γ X) : ∀ {es : List Expr} {ms : As}, semV E Γ es = some ms → PA X es (rdS ms) ∧ es.any starB = false
  | [], ms, h => by
    cases h
    exact ⟨PA.imp pa_nil fun _ _ _ q => asNil_of q, rfl⟩
  | e :: es, ms, h => by
    unfold semV at h
    obtain ⟨m, e1, h⟩ := bsome h
    obtain ⟨r, e2, rfl⟩ := msome h
    have b := S Γ e m e1 X G
    have ih := semV_ok S G e2
    refine ⟨PA.imp (pa_cons b.pe ih.1 (star1 b.ns es X.env)) fun _ _ _ q => asVal_of q, ?_⟩
    rw [List.any_cons, b.ns, ih.2]
    rfl
theorem semAs_ok {E : SemE} (S : SoundE E) {Γ : Ga} {X : Cx} (G : Good Γ X) {st : Bool} {es : List Expr} {ms : As} (h : semAs E Γ st es = some ms) : PA X es (rdS ms) ∧ es.any starB = false := by
  cases es with
  | nil =>
    cases h
    exact ⟨PA.imp pa_nil fun _ _ _ q => asNil_of q, rfl⟩
  | cons e es =>
    rw [semAs] at h
    split at h
    · obtain ⟨x, e0, h1⟩ := bsome h
      obtain ⟨i, e1, h2⟩ := bsome h1
      obtain ⟨r, e2, rfl⟩ := msome h2
      obtain ⟨p, rfl⟩ := nameOf_some e0
      have ih := semV_ok S G e2
      exact ⟨PA.imp (pa_cons (pe_slot G e1) ih.1 rfl) fun _ _ _ q => asStm_of q, ih.2⟩
    · exact semV_ok S G h
/-! ### targets -/
def locB (Γ : Ga) (x : Str) : Bool := match Γ.sc.names.lookup x with
  | some .local => true
  | some .cell => Γ.fnB x
  | _ => false
theorem locB_ok {Γ : Ga} {X : Cx} (G : Good Γ X) {x : Str} (h : locB Γ x = true) : Loc X.env.scope x ∧ (X.fn x = true ∨ X.env.scope.names.lookup x = some .local) := by
  unfold locB at h
  rw [G.sc]
  split at h
  · rename_i e; exact ⟨.inl e, .inr e⟩
  · rename_i e; exact ⟨.inr e, .inl (G.fn x h)⟩
  · cases h
/-- a name that takes a value -/
def slotL (Γ : Ga) (x : Str) : Option Nat := if locB Γ x = true ∧ dbg x = false then look Γ.N x else none
theorem slotL_ok {Γ : Ga} {X : Cx} (G : Good Γ X) {x : Str} {i : Nat} (h : slotL Γ x = some i) : X.N[i]? = some x ∧ Loc X.env.scope x ∧ (X.fn x = true ∨ X.env.scope.names.lookup x = some .local) := by
  unfold slotL at h
  split at h
  · rename_i c
    have := locB_ok G c.1
    exact ⟨by rw [G.N]; exact look_some h, this⟩
  · cases h
theorem pg_slot {Γ : Ga} {X : Cx} (G : Good Γ X) {x : Str} {i : Nat} {p : Pos} (h : slotL Γ x = some i) : PG X (.Name x p) (gName i) := by
  obtain ⟨a, b, c⟩ := slotL_ok G h
  exact pg_name G.nd a b c
theorem asg1 {e : Expr} (h : starB e = false) (es : List Expr) (env : Env) : assignEach (e :: es) env = (false, assign e env) :: assignEach es env := by
  cases e <;> first | rfl | cases h
theorem asg_len {es : List Expr} (h : es.any starB = false) (env : Env) : (assignEach es env).length = es.length := by
  induction es with
  | nil => rfl
  | cons e es ih =>
    rw [List.any_cons, Bool.or_eq_false_iff] at h
    rw [asg1 h.1, List.length_cons, List.length_cons, ih h.2]
theorem asg_none {es : List Expr} (h : es.any starB = false) (env : Env) : (assignEach es env).findIdx? (·.1) = none := by
  induction es with
  | nil => rfl
  | cons e es ih =>
    rw [List.any_cons, Bool.or_eq_false_iff] at h
    rw [asg1 h.1, List.findIdx?_cons]
    simp [ih h.2]
def tgN : Nat → Ga → Expr → Option Tg
  | 0, _, _ => none
  | n + 1, Γ, .Name x _ => (slotL Γ x).map .nm
  | n + 1, Γ, .Tuple es _ _ => (go n Γ es).map .tp
  | _, _, _ => none
where go : Nat → Ga → List Expr → Option (List Tg)
  | _, _, [] => some []
  | 0, _, _ => none
  | n + 1, Γ, e :: es => (tgN n Γ e).bind fun t => (go n Γ es).map fun ts => t :: ts
mutual
theorem tgN_ok {Γ : Ga} {X : Cx} (G : Good Γ X) : ∀ {n : Nat} {e : Expr} {tg : Tg}, tgN n Γ e = some tg → PG X e (gT X.K tg) ∧ starB e = false
  | 0, _, _, h => by cases h
  | n + 1, e, tg, h => by
    cases e with
    | Name x p =>
      rw [tgN] at h
      obtain ⟨i, e1, rfl⟩ := msome h
      rw [gT]
      exact ⟨pg_slot G e1, rfl⟩
    | Tuple es k p =>
      rw [tgN] at h
      obtain ⟨ts, e1, rfl⟩ := msome h
      obtain ⟨h1, h2, h3⟩ := tgGo_ok G e1
      rw [gT]
      exact ⟨pg_tup G.calm h1 (by rw [asg_len h2, h3]) (asg_none h2 X.env), rfl⟩
    | _ => cases h
theorem tgGo_ok {Γ : Ga} {X : Cx} (G : Good Γ X) : ∀ {n : Nat} {es : List Expr} {ts : List Tg}, tgN.go n Γ es = some ts → PGs X es (gTs X.K ts) ∧ es.any starB = false ∧ es.length = ts.length
  | n, [], ts, h => by
    have h : some [] = some ts := by cases n <;> exact h
    cases h
    rw [gTs]
    exact ⟨pgs_nil, rfl, rfl⟩
  | 0, _ :: _, _, h => by cases h
  | n + 1, e :: es, ts, h => by
    rw [tgN.go] at h
    obtain ⟨t, e1, h⟩ := bsome h
    obtain ⟨r, e2, rfl⟩ := msome h
    obtain ⟨a1, a2⟩ := tgN_ok G e1
    obtain ⟨b1, b2, b3⟩ := tgGo_ok G e2
    rw [gTs]
    refine ⟨pgs_cons a1 b1 (by rw [asg1 a2]; rfl), ?_, by rw [List.length_cons, List.length_cons, b3]⟩
    rw [List.any_cons, a2, b2]
    rfl
end
end VM
/-! V19: the text read: what loops walk, comprehensions, isinstance -/
namespace VM
open PySem PySem.Spec PyProof.Rows L2

def tupEB : Expr → Bool
  | .Tuple _ _ _ => true
  | _ => false
/-- what a call is: a name with arguments, an attribute with arguments -/
inductive CallK where
  | nm (f : Str) (args : List Expr)
  | at_ (o : Expr) (m : Str) (args : List Expr)
  | no
def callK : Expr → CallK
  | .Call (.Name f _) args [] _ => .nm f args
  | .Call (.Attribute o m ap) args [] p => if (ap.endLine == p.line) = true then .at_ o m args else .no
  | _ => .no
theorem callK_nm {e : Expr} {f : Str} {args : List Expr} (h : callK e = .nm f args) : ∃ p pos, e = .Call (.Name f p) args [] pos := by
  unfold callK at h
  split at h
  · cases h; exact ⟨_, _, rfl⟩
  · split at h <;> cases h
  · cases h
theorem callK_at {e o : Expr} {m : Str} {args : List Expr} (h : callK e = .at_ o m args) : ∃ ap p, e = .Call (.Attribute o m ap) args [] p ∧ (ap.endLine == p.line) = true := by
  unfold callK at h
  split at h
  · cases h
  · split at h <;> cases h
    rename_i c
    exact ⟨_, _, rfl, c⟩
  · cases h
def semI (E : SemE) (Γ : Ga) (tg iter : Expr) : Option Is := match callK iter with
  | .nm f args =>
    if f = "range" then (if gloB Γ.sc f = true then (semL E Γ args).bind fun ms => if args.length = 1 then some (iRng rngOf ms) else if args.length = 2 then some (iRng rng2Of ms) else none else none)
    else if f = "enumerate" then (if gloB Γ.sc f = true ∧ tupEB tg = true ∧ args.length = 1 then (semL E Γ args).map fun ms => iArgs enumOf ms else none)
    else if f = "zip" then (if gloB Γ.sc f = true ∧ tupEB tg = true ∧ args.length = 2 then (semL E Γ args).map fun ms => iArgs zipOf ms else none)
    else (E Γ iter).map iVal
  | .at_ o m args =>
    if m = "items" ∧ args.length = 0 then (if tupEB tg = true ∧ callB o = false then (E Γ o).map fun q => iOf pairsOf q else none)
    else if m = "values" ∧ args.length = 0 then (if callB o = false then (E Γ o).map fun q => iOf valsOf q else none)
    else (E Γ iter).map iVal
  | .no => (E Γ iter).map iVal
theorem len1 {es : List Expr} (h : es.length = 1) : ∃ a, es = [a] := by
  match es, h with
  | [a], _ => exact ⟨a, rfl⟩
theorem len2 {es : List Expr} (h : es.length = 2) : ∃ a b, es = [a, b] := by
  match es, h with
  | [a, b], _ => exact ⟨a, b, rfl⟩
theorem semI_val {E : SemE} (S : SoundE E) {Γ : Ga} {X : Cx} (G : Good Γ X) {tg iter : Expr} {mi : Is} (h : (E Γ iter).map iVal = some mi) : PI X tg iter (rdI mi) := by
  obtain ⟨m, e1, rfl⟩ := msome h
  exact pi_val (S Γ iter m e1 X G).pe
theorem semI_ok {E : SemE} (S : SoundE E) {Γ : Ga} {X : Cx} (G : Good Γ X) {tg iter : Expr} {mi : Is} (h : semI E Γ tg iter = some mi) : PI X tg iter (rdI mi) := by
  unfold semI at h
  cases ck : callK iter with
  | nm f args =>
    rw [ck] at h
    dsimp only at h
    by_cases c1 : f = "range"
    · rw [if_pos c1] at h
      split at h
      · rename_i hg
        obtain ⟨ms, e1, h⟩ := bsome h
        obtain ⟨p, pos, rfl⟩ := callK_nm ck
        subst c1
        obtain ⟨pa, ns⟩ := semL_ok S G e1
        split at h
        · rename_i l1
          cases h
          obtain ⟨a, rfl⟩ := len1 l1
          rw [List.any_cons, Bool.or_eq_false_iff] at ns
          exact VM.PI.imp (pi_range1 (gloB_ok G hg) (G.bl _ (by decide +kernel)) pa (star1 ns.1 [] X.env)) fun _ _ _ q => iRng1_of q
        · split at h
          · rename_i l1
            cases h
            obtain ⟨a, b, rfl⟩ := len2 l1
            rw [List.any_cons, Bool.or_eq_false_iff, List.any_cons, Bool.or_eq_false_iff] at ns
            refine VM.PI.imp (pi_range2 (gloB_ok G hg) (G.bl _ (by decide +kernel)) pa ?_ (star1 ns.2.1 [] X.env)) fun _ _ _ q => iRng2_of q
            rw [star1 ns.1, star1 ns.2.1]
            rfl
          · cases h
      · cases h
    · rw [if_neg c1] at h
      by_cases c2 : f = "enumerate"
      · rw [if_pos c2] at h
        split at h
        · rename_i hg
          obtain ⟨ms, e1, rfl⟩ := msome h
          obtain ⟨p, pos, rfl⟩ := callK_nm ck
          subst c2
          obtain ⟨pa, ns⟩ := semL_ok S G e1
          obtain ⟨a, rfl⟩ := len1 hg.2.2
          rw [List.any_cons, Bool.or_eq_false_iff] at ns
          cases tg <;> first | exact absurd hg.2.1 Bool.false_ne_true | skip
          exact VM.PI.imp (pi_enum (gloB_ok G hg.1) (G.bl _ (by decide +kernel)) pa (star1 ns.1 [] X.env)) fun _ _ _ q => iEnum_of q
        · cases h
      · rw [if_neg c2] at h
        by_cases c3 : f = "zip"
        · rw [if_pos c3] at h
          split at h
          · rename_i hg
            obtain ⟨ms, e1, rfl⟩ := msome h
            obtain ⟨p, pos, rfl⟩ := callK_nm ck
            subst c3
            obtain ⟨pa, ns⟩ := semL_ok S G e1
            obtain ⟨a, b, rfl⟩ := len2 hg.2.2
            rw [List.any_cons, Bool.or_eq_false_iff] at ns
            cases tg <;> first | exact absurd hg.2.1 Bool.false_ne_true | skip
            exact VM.PI.imp (RZ.pi_zipA (gloB_ok G hg.1) (G.bl _ (by decide +kernel)) pa (star1 ns.1 [b] X.env) (star_any ns.2 X.env _)) fun _ _ _ q => iZip_of q
          · cases h
        · rw [if_neg c3] at h
          exact semI_val S G h
  | at_ o m args =>
    rw [ck] at h
    dsimp only at h
    by_cases c1 : m = "items" ∧ args.length = 0
    · rw [if_pos c1] at h
      split at h
      · rename_i hg
        obtain ⟨q, e1, rfl⟩ := msome h
        obtain ⟨ap, p, rfl, hl⟩ := callK_at ck
        obtain ⟨c1, c2⟩ := c1
        subst c1
        have := List.length_eq_zero_iff.mp c2
        subst this
        cases tg <;> first | exact absurd hg.1 Bool.false_ne_true | skip
        exact VM.PI.imp (pi_items (pe_lkE (S Γ o q e1 X G).pe) (base_of hg.2 _ _ _) hl) fun _ _ _ q => iItems_of q
      · cases h
    · rw [if_neg c1] at h
      by_cases c2 : m = "values" ∧ args.length = 0
      · rw [if_pos c2] at h
        split at h
        · rename_i hg
          obtain ⟨q, e1, rfl⟩ := msome h
          obtain ⟨ap, p, rfl, hl⟩ := callK_at ck
          obtain ⟨c1, c2⟩ := c2
          subst c1
          have := List.length_eq_zero_iff.mp c2
          subst this
          exact VM.PI.imp (pi_values (pe_lkE (S Γ o q e1 X G).pe) (base_of hg _ _ _) hl) fun _ _ _ q => iVals_of q
        · cases h
      · rw [if_neg c2] at h
        exact semI_val S G h
  | no =>
    rw [ck] at h
    exact semI_val S G h
/-! ### comprehensions -/
def ownOf (N : List Str) : List (Str × NameKind) → List (Str × Nat)
  | [] => []
  | (x, k) :: r => if k = .local ∨ k = .cell then (match look N x with
      | some i => (x, i) :: ownOf N r
      | none => ownOf N r) else ownOf N r
def inBlk (Γ : Ga) (scope : Scope) : Ga := { Γ with sc := relS scope Γ.sc, fnB := fun x => scope.names.lookup x == some .cell }
theorem good_blk {Γ : Ga} {X : Cx} (G : Good Γ X) (s : Shared) (H : Hp) (scope : Scope) (C : Addr) (cl : List (Str × Addr)) (fp : List Addr) : Good (inBlk Γ scope) (X.blk s H scope (compEnvC scope cl C X.env) fp) := by
  refine ⟨G.N, ?_, G.nd, G.calm, rfl, fun x h => h, G.hu, G.bl, G.fns⟩
  show relS scope X.env.scope = relS scope Γ.sc
  rw [G.sc]
structure CpP where
  mi : Is
  tg : Tg
  mt : Ex
  vs : List Nat
/-- the head of a comprehension -/
def semH (E : SemE) (Γ : Ga) (tg iter : Expr) (ifs : List Expr) (scope : Scope) : Option CpP :=
  if blkC Γ.N Γ.sc scope (ownOf Γ.N scope.names) = true ∧ setB iter = false then
    (semI E Γ tg iter).bind fun mi => (tgN 8 (inBlk Γ scope) tg).bind fun t => if ((idxT t).all fun i => decide (i ∈ (ownOf Γ.N scope.names).map Prod.snd)) = true then
      (match ifs with
        | [] => some (eLit (.bool true))
        | [c] => E (inBlk Γ scope) c
        | _ => none).map fun mt => CpP.mk mi t mt ((ownOf Γ.N scope.names).map Prod.snd) else none
  else none
theorem PTs.imp {X : Cx} {es : List Expr} {t t' : TT} (h : PTs X es t) (i : ∀ σ H Q, t' σ H Q → t σ H Q) : PTs X es t' := ⟨fun pins s σ H Q I q => h.run pins s σ H Q I (i σ H Q q)⟩
theorem tYes_of {σ : L2.St} {H : Hp} {Q : Bool → Hp → Prop} (h : rdT (eLit (.bool true)) σ H Q) : tYes σ H Q := by
  obtain ⟨S, F, sl, g, r, b, g', rv, e, eb, post⟩ := h
  cases e
  cases eb
  exact post F H .refl rv
structure HeadOk (X : Cx) (tg iter : Expr) (ifs : List Expr) (scope : Scope) (own : List (Str × Nat)) (p : CpP) : Prop where
  pi : PI X tg iter (rdI p.mi)
  ok : BlkOk X.N X.env.scope scope own
  pg : ∀ (s : Shared) (H : Hp) (C : Addr) (cl : List (Str × Addr)) (fp : List Addr), PG (X.blk s H scope (compEnvC scope cl C X.env) fp) tg (gT X.K p.tg)
  pt : ∀ (s : Shared) (H : Hp) (C : Addr) (cl : List (Str × Addr)) (fp : List Addr), PTs (X.blk s H scope (compEnvC scope cl C X.env) fp) ifs (rdT p.mt)
  idx : ∀ i ∈ idxT p.tg, i ∈ p.vs
  vs : p.vs = own.map fun q => q.2
  fold : ∀ x, foldedSetIterable iter X.env x = pure x
theorem semH_ok {E : SemE} (S : SoundE E) {Γ : Ga} {X : Cx} (G : Good Γ X) {tg iter : Expr} {ifs : List Expr} {scope : Scope} {p : CpP} (h : semH E Γ tg iter ifs scope = some p) : HeadOk X tg iter ifs scope (ownOf Γ.N scope.names) p := by
  unfold semH at h
  split at h
  · rename_i c
    obtain ⟨mi, e1, h⟩ := bsome h
    obtain ⟨t, e2, h⟩ := bsome h
    split at h
    · rename_i c2
      obtain ⟨mt, e3, rfl⟩ := msome h
      refine ⟨semI_ok S G e1, ?_, fun s H C cl fp => (tgN_ok (good_blk G s H scope C cl fp) e2).1, fun s H C cl fp => ?_, fun i m => ?_, rfl, fold_of c.2 X.env⟩
      · rw [G.N, G.sc]
        exact blkOk_by c.1
      · match ifs, e3 with
        | [], e3 =>
          cases e3
          exact PTs.imp pts_nil fun _ _ _ q => tYes_of q
        | [x], e3 => exact pts_one (S _ x mt e3 _ (good_blk G s H scope C cl fp)).pt
      · exact of_decide_eq_true (List.all_eq_true.mp c2 i m)
    · cases h
  · cases h
/-- a clause that stands alone -/
def one (gs : List Comprehension) : Option (Expr × Expr × List Expr) := match gs with
  | [⟨tg, iter, ifs, 0⟩] => some (tg, iter, ifs)
  | _ => none
theorem one_some {gs : List Comprehension} {tg iter : Expr} {ifs : List Expr} (h : one gs = some (tg, iter, ifs)) : gs = [⟨tg, iter, ifs, 0⟩] := by
  unfold one at h
  split at h
  · cases h; rfl
  · cases h
/-! ### isinstance -/
def tyNm (x : Str) : Option String := if x = "int" then some "int" else if x = "bool" then some "bool" else if x = "str" then some "str" else if x = "list" then some "list" else if x = "tuple" then some "tuple" else if x = "dict" then some "dict" else none
theorem tyNm_ok {x : Str} {n : String} (h : tyNm x = some n) : n ∈ tys ∧ bootBuiltins x = some (.type n) ∧ x ∈ bnames ∧ dbg x = false ∧ x ≠ "__name__" := by
  unfold tyNm at h
  by_cases c1 : x = "int"
  · subst c1; rw [if_pos rfl] at h; cases h
    exact ⟨by decide +kernel, boot_int, by decide +kernel, by decide +kernel, by decide +kernel⟩
  rw [if_neg c1] at h
  by_cases c1 : x = "bool"
  · subst c1; rw [if_pos rfl] at h; cases h
    exact ⟨by decide +kernel, boot_bool, by decide +kernel, by decide +kernel, by decide +kernel⟩
  rw [if_neg c1] at h
  by_cases c1 : x = "str"
  · subst c1; rw [if_pos rfl] at h; cases h
    exact ⟨by decide +kernel, boot_str, by decide +kernel, by decide +kernel, by decide +kernel⟩
  rw [if_neg c1] at h
  by_cases c1 : x = "list"
  · subst c1; rw [if_pos rfl] at h; cases h
    exact ⟨by decide +kernel, boot_list, by decide +kernel, by decide +kernel, by decide +kernel⟩
  rw [if_neg c1] at h
  by_cases c1 : x = "tuple"
  · subst c1; rw [if_pos rfl] at h; cases h
    exact ⟨by decide +kernel, boot_tuple, by decide +kernel, by decide +kernel, by decide +kernel⟩
  rw [if_neg c1] at h
  by_cases c1 : x = "dict"
  · subst c1; rw [if_pos rfl] at h; cases h
    exact ⟨by decide +kernel, boot_dict, by decide +kernel, by decide +kernel, by decide +kernel⟩
  rw [if_neg c1] at h
  cases h
def clsOf (Γ : Ga) (e : Expr) : Option String := (nameOf e).bind fun x => if gloB Γ.sc x = true then tyNm x else none
theorem clsOf_ok {Γ : Ga} {X : Cx} (G : Good Γ X) {e : Expr} {n : String} (h : clsOf Γ e = some n) : PE X e (tC (.ty n)) ∧ n ∈ tys ∧ starB e = false := by
  unfold clsOf at h
  obtain ⟨x, e1, h1⟩ := bsome h
  obtain ⟨p, rfl⟩ := nameOf_some e1
  clear h
  split at h1
  · rename_i c
    obtain ⟨a, b, d, f, g⟩ := tyNm_ok h1
    exact ⟨pe_bltn (gloB_ok G c) (G.bl _ d) b rfl g (dbg1 f), a, rfl⟩
  · cases h1
def clsL (Γ : Ga) : List Expr → Option (List String)
  | [] => some []
  | e :: es => (clsOf Γ e).bind fun n => (clsL Γ es).map fun r => n :: r
def tTys : List String → TA
  | [] => tNil
  | n :: r => tCons (tC (.ty n)) (tTys r)
theorem clsL_ok {Γ : Ga} {X : Cx} (G : Good Γ X) : ∀ {es : List Expr} {ns : List String}, clsL Γ es = some ns → PA X es (tTys ns) ∧ ∀ n ∈ ns, n ∈ tys
  | [], ns, h => by cases h; exact ⟨pa_nil, fun _ z => nomatch z⟩
  | e :: es, ns, h => by
    unfold clsL at h
    obtain ⟨n, e1, h⟩ := bsome h
    obtain ⟨r, e2, rfl⟩ := msome h
    obtain ⟨a, b, c⟩ := clsOf_ok G e1
    obtain ⟨d, f⟩ := clsL_ok G e2
    exact ⟨pa_cons a d (star1 c es X.env), fun m hm => by
      rcases List.mem_cons.mp hm with rfl | hm
      · exact b
      · exact f m hm⟩
theorem tTys_run {ns : List String} {σ : L2.St} {H : Hp} : ∀ {Q : List V → Hp → Prop}, Q (ns.map V.ty) H → tTys ns σ H Q := by
  induction ns with
  | nil => exact fun h => h
  | cons n r ih => exact fun h => ih h
def eIs (ns : List String) (m : Ex) : Ex := fun sl g => (m sl g).bind fun a => if plainD a.1.1 = true then some ((.bool (ns.any (isT (tyName a.1.1))), false), a.2) else none
theorem pairedC : ∀ ns : List String, Paired ClsV (ns.map V.ty) (ns.map Value.type)
  | [] => .nil
  | n :: r => .cons (.ty n) (pairedC r)
theorem tIsT_of {K : PySem.W.Frag} {ns : List String} {m : Ex} {σ : L2.St} {H : Hp} {Q : VK} (hn : ∀ n ∈ ns, n ∈ tys) (hl : ns.length ≤ sizeLine) (h : rd (eIs ns m) σ H Q) : tCB (rIsiT K) (tCons (rd m) (tCons (tTup (tTys ns)) tNil)) σ H Q := by
  obtain ⟨S, F, sl, g, r, g', rv, e, post⟩ := h
  obtain ⟨⟨a, g1⟩, e1, e⟩ := bsome e
  split at e
  · rename_i pd
    cases e
    refine ⟨S, F, sl, g, a, g1, rv, e1, fun F1 x H1 m1 rv1 v1 => tTys_run ⟨by simpa using hl, fun p hp => ?_⟩⟩
    have mp : Mv S F1 H1 F1 (upd H1 p (.tup (ns.map V.ty))) := .of .refl (new_kp hp)
    have rvp := rv1.keep0 .refl (new_kp (o := .tup (ns.map V.ty)) hp) (up_dF rv1.d)
    have v2 := v1.mv mp rv1.st.off
    exact ⟨x, p, ns.map V.ty, _, ns.map Value.type, _, rfl, upd_same, pairedC ns, tyX v2.1.bt pd, kit_any a.1 hn, post F1 _ _ (m1.trans mp) rvp (.cl .bool)⟩
  · cases e
theorem tIs_of {K : PySem.W.Frag} {n : String} {m : Ex} {σ : L2.St} {H : Hp} {Q : VK} (hn : n ∈ tys) (h : rd (eIs [n] m) σ H Q) : tCB (rIsi K) (tCons (rd m) (tCons (tC (.ty n)) tNil)) σ H Q := by
  obtain ⟨S, F, sl, g, r, g', rv, e, post⟩ := h
  obtain ⟨⟨a, g1⟩, e1, e⟩ := bsome e
  split at e
  · rename_i pd
    cases e
    refine ⟨S, F, sl, g, a, g1, rv, e1, fun F1 x H1 m1 rv1 v1 => ?_⟩
    have q := post F1 _ _ m1 rv1 (.cl (t := .bool (isT (tyName a.1) n || false)) .bool)
    rw [Bool.or_false] at q
    exact ⟨x, .ty n, _, .type n, _, rfl, .ty n, tyX v1.1.bt pd, kit_one a.1 hn, q⟩
  · cases e
end VM
/-! V19b: list(d.items()), sum(d.values()), xs[::-1] -/
namespace VM
open PySem PySem.Spec PyProof.Rows L2

section
variable {X : Cx} {o : Expr} {p pos apos cp : Pos} {m : Ex}
/-- a dict comes, locked or not -/
def dkE (m : Ex) (R : Sp2 → (Addr → Prop) → Hp → G → Sls → L2.St → List (T × T) → Addr → List (Key × V) → Hp → Prop) : L2.St → Hp → Prop := fun σ H => ∃ S F sl g ds b g', RV S F g sl σ H ∧ m sl g = some ((.dict ds, b), g') ∧ (∀ q, ds ≠ (.none, .none) :: q) ∧
  ∀ F' a kvs H', Mv S F H F' H' → RV S F' g' sl σ H' → Rd H' a (.dK kvs) → AtD H' F' ds kvs → R S F' H g' sl σ ds a kvs H'
theorem dk_use (he : PE X o (rd m)) {pins : List (Addr × Obj)} {s : Shared} {σ : L2.St} {H : Hp} {R} (I : Inv X pins σ H s) (h : dkE m R σ H) : wpAny (model X.prog X.w) X.A (eval o X.env) (fun v s1 => ∃ a H1 S F1 g1 sl ds kvs, v = .ref a ∧ Inv X pins σ H1 s1 ∧ Rd H1 a (.dK kvs) ∧ R S F1 H g1 sl σ ds a kvs H1) X.xe s := by
  obtain ⟨S, F, sl, g, ds, b, g1, rv, e1, n, post⟩ := h
  refine thn (he.run pins s σ H (fun x H1 => ∃ F1, Mv S F H F1 H1 ∧ RV S F1 g1 sl σ H1 ∧ ValS S H1 F1 (.dict ds, b) x) I ⟨S, F, sl, g, _, g1, rv, e1, fun F1 x H1 m1 rv1 v1 => ⟨F1, m1, rv1, v1⟩⟩) fun v s1 ⟨x, H1, I1, rx, F1, m1, rv1, v1⟩ => ?_
  obtain ⟨a, kvs, rfl, hr, l⟩ := Bt.dk (v1.1.bt : Bt H1 F1 (.dict ds) x) n
  cases rx
  exact ⟨a, H1, S, F1, g1, sl, ds, kvs, rfl, I1, hr.rd, post F1 a kvs H1 m1 rv1 hr.rd l⟩
/-! ### sum(d.values()) -/
def sumVB : T → Option T
  | .dict ((.none, .none) :: _) => none
  | .dict ds => (intsOf (ds.map (·.2))).map fun is => .int is.sum
  | _ => none
def eSv (m : Ex) : Ex := eUn sumVB m
theorem sumVB_some {t u : T} (h : sumVB t = some u) : ∃ ds is, t = .dict ds ∧ (∀ q, ds ≠ (.none, .none) :: q) ∧ intsOf (ds.map (·.2)) = some is ∧ u = .int is.sum := by
  unfold sumVB at h
  split at h
  · cases h
  · rename_i ds n
    obtain ⟨is, e, rfl⟩ := msome h
    exact ⟨ds, is, rfl, fun q z => n q z, e, rfl⟩
  · cases h
theorem preSum_list (val : Nat → Int) (is : List Int) (h : ∀ i, i < is.length → val i = is.getD i 0) : ∀ j, j ≤ is.length → preSum val j = (is.take j).sum
  | 0, _ => by simp [preSum]
  | j + 1, hj => by
    have hlt : j < is.length := hj
    rw [preSum, preSum_list val is h j (Nat.le_of_lt hlt), h j hlt, List.take_succ_eq_append_getElem hlt, List.sum_append, List.getD_eq_getElem?_getD, List.getElem?_eq_getElem hlt]
    simp
theorem kv_at {kvs : List (Key × V)} {vs : List (Key × Value)} (r : KV kvs vs) : ∀ {i : Nat} {k : Key} {v : Value}, vs[i]? = some (k, v) → ∃ x, kvs[i]? = some (k, x) ∧ RelV x v := by
  induction r with
  | nil => intro i k v e; simp at e
  | @cons a b l1 l2 hab t ih =>
    intro i k v e
    cases i with
    | zero =>
      simp at e
      subst e
      refine ⟨a.2, ?_, hab.2⟩
      simp only [List.getElem?_cons_zero]
      rw [show a = (a.1, a.2) from rfl, hab.1]
    | succ i =>
      obtain ⟨x, h1, h2⟩ := ih (i := i) (k := k) (v := v) (by simpa using e)
      exact ⟨x, by simpa using h1, h2⟩
theorem pe_sv (hc : X.calm = true) (he : PE X o (rd m)) (hg : Gl X "sum") (hm : X.mg "sum" = none) (hb : callB o = false) (hl : (apos.endLine == cp.line) = true) : PE X (.Call (.Name "sum" p) [.Call (.Attribute o "values" apos) [] [] cp] [] pos) (rd (eSv m)) := by
  refine ⟨fun pins s σ H Q I h => ?_⟩
  obtain ⟨S, F, sl, g, r, g', rv, e, post⟩ := h
  obtain ⟨⟨⟨t, b⟩, g1⟩, e1, e⟩ := bsome e
  obtain ⟨u, e2, e⟩ := msome e
  obtain ⟨ds, is, ht, n, ei, rfl⟩ := sumVB_some e2
  cases e
  dsimp only at ht
  subst ht
  refine wpAny_Call_Name_kw (ld_blt I hg hm (u := .builtin "sum") boot_sum ?_ (by decide +kernel) (by decide +kernel))
  rw [star1 (rfl : starB (.Call (.Attribute o "values" apos) [] [] cp) = false) [] X.env]
  refine PySem.callWith_builtin1 (wpAny_Call_method0_late (base_of hb _ _ _) hl ?_)
  refine thn (dk_use (R := fun S' F' H0 g'' sl' σ' ds' a kvs H1 => (ds' = ds ∧ AtD H1 F' ds kvs) ∧ (S' = S ∧ g'' = g1 ∧ sl' = sl) ∧ Mv S F H F' H1 ∧ RV S F' g1 sl σ H1) he I ⟨S, F, sl, g, ds, b, g1, rv, e1, n, fun F' a kvs H' m1 rv1 hr l => ⟨⟨rfl, l⟩, ⟨rfl, rfl, rfl⟩, m1, rv1⟩⟩) fun v s1 ⟨a, H1, S', F1, g1', sl', ds', kvs, ev, I1, hr, ⟨eds, lat⟩, _, m1, rv1⟩ => ?_
  subst ev
  obtain ⟨_, hsys, vs, rel, dof⟩ := dk_rd I1.hok hr
  obtain ⟨ep, dat⟩ := dof.dictAt
  obtain ⟨ob, es, ho, ex, _⟩ := id dat
  refine ⟨"dict", "dict.values", PySem.F.plainAttrs_dict, PySem.F.slot_dict_values, PySem.F.type_dict_values, ⟨ob, ho, ex.1⟩, fun b e => by cases e; exact ⟨ob, ho, ex.2.1⟩, Calls.callWith_builtin rfl (PySem.evalArgs_none ?_)⟩
  refine call_meetsIn PySem.F.slot_dict_values ⟨ob, ho, ex.1⟩ PySem.F.entry_dict_values (PySem.F.args_dict_values_1 _) (meets_dict_values (mixKind X.prog X.w) a hsys) ⟨⟨vs, dof⟩, ?_⟩
  have k1 : ∀ b u, s1.heap.get? b = some u → (s1.heap.push { cls := .type "dict_values", data := .fields #[.ref a] }).get? b = some u := fun b u e => Heap.get?_push_of_some _ e
  have dat1 := dat.keep k1
  have hds : kvs.map (·.2) = is.map V.int := by
    have := lat.vals
    rw [intsOf_some ei] at this
    exact this.ints
  have hlv : vs.length = is.length := by
    have e1 := congrArg List.length hds
    rw [List.length_map, List.length_map] at e1
    rw [← e1]
    exact (KV.length rel).symm
  have hval : ∀ (i : Nat) (v : Value), (∃ k, vs[i]? = some (k, v)) → ∃ t, v = Value.int (is.getD i 0) t := fun i v ⟨k, hk⟩ => by
    obtain ⟨x, h1, h2⟩ := kv_at rel hk
    have q1 : (kvs.map (·.2))[i]? = some x := by rw [List.getElem?_map, h1]; rfl
    rw [hds, List.getElem?_map] at q1
    obtain ⟨j, hj, rfl⟩ := msome q1
    obtain ⟨t, rfl⟩ := h2
    exact ⟨t, by rw [List.getD_eq_getElem?_getD, hj]; rfl⟩
  refine call_sum_walkG (wpAny_pyIter_values (v := s1.heap.objs.size) (d := a) ⟨_, Heap.get?_push_size _ rfl, rfl, rfl⟩ dat1 ?_)
  have hlt : a < s1.heap.objs.size := Heap.lt_size ho
  have hsz : (s1.heap.push { cls := .type "dict_values", data := .fields #[.ref a] }).objs.size = s1.heap.objs.size + 1 := Heap.size_push _ _
  refine ⟨_, _, _, _, _, _, fun i => is.getD i 0, rfl, Walks.dictValues (knd := mixKind X.prog X.w) (A := X.A.in1) (I.ok.hd hc) (s1.heap.push { cls := .type "dict_values", data := .fields #[.ref a] }).objs.size a (by rw [hsz]; exact Nat.ne_of_lt (Nat.lt_succ_of_lt hlt)) vs ep,
    ⟨⟨_, Heap.get?_push_size _ rfl, rfl, rfl⟩, dat1.keep fun b u e => Heap.get?_push_of_some _ e⟩, fun b hb => ?_, hval, fun h' tk t' hk => ?_⟩
  · show b < ((s1.heap.push _).push _).objs.size
    rw [Heap.size_push, Heap.size_push]
    rw [hsz] at hb
    rcases List.mem_cons.mp hb with e | hb
    · rw [e]; exact Nat.lt_succ_self _
    · have e : b = a := List.mem_singleton.mp hb
      rw [e]
      exact Nat.lt_succ_of_lt (Nat.lt_succ_of_lt hlt)
  · rw [preSum_list (fun i => is.getD i 0) is (fun _ _ => rfl) vs.length (by omega), hlv, List.take_length]
    refine ⟨.int is.sum, H1, I1.kept (t' := tk) fun b u e => hk b u (fun hmem => ?_) (Heap.get?_push_of_some _ (k1 b u e)), ⟨t', rfl⟩, ?_⟩
    · have q1 : b = (s1.heap.push { cls := .type "dict_values", data := .fields #[.ref a] }).objs.size := List.mem_singleton.mp hmem
      have q2 := Heap.lt_size e
      rw [hsz] at q1
      exact absurd (q1 ▸ q2) (Nat.not_lt.mpr (Nat.le_succ _))
    · exact post F1 _ H1 m1 rv1 (.cl .int)
/-! ### list(d.items()) -/
def listIB : T → Option T
  | .dict ((.none, .none) :: _) => none
  | .dict ds => some (.list (ds.map fun q => .tuple [q.1, q.2]))
  | _ => none
def eLi (m : Ex) : Ex := eUn listIB m
theorem listIB_some {t u : T} (h : listIB t = some u) : ∃ ds, t = .dict ds ∧ (∀ q, ds ≠ (.none, .none) :: q) ∧ u = .list (ds.map fun q => .tuple [q.1, q.2]) := by
  unfold listIB at h
  split at h
  · cases h
  · rename_i ds n
    cases h
    exact ⟨ds, rfl, fun q z => n q z, rfl⟩
  · cases h
theorem AtL.ofItems {H' : Hp} {F1 : Addr → Prop} : ∀ {ds : List (T × T)} {kvs : List (Key × V)} {ts : List Addr}, AtD H' F1 ds kvs → Paired (fun (t : Addr) (q : Key × V) => H' t = some (.tup [kV q.1, q.2])) ts kvs → AtL H' F1 (ds.map fun q => .tuple [q.1, q.2]) (ts.map V.ref)
  | _, _, _, .nil, .nil => .nil
  | _, _, _, .cons h l, .cons r t => .cons (.tuple r (.cons (keyT_kV _) (.cons h .nil))) (AtL.ofItems l t)
theorem grow_kp {F0 : Addr → Prop} {H0 H1 : Hp} (k : ∀ b o, H0 b = some o → H1 b = some o) : Kp F0 (fun _ => False) H0 H1 := ⟨fun a o e _ => .inl (k a o e), fun a e => by
  cases q : H0 a with
  | none => exact absurd q e
  | some o => rw [k a o q]; simp, fun a xs e => k a _ e⟩
theorem pe_li (hc : X.calm = true) (he : PE X o (rd m)) (hg : Gl X "list") (hm : X.mg "list" = none) (hb : callB o = false) (hl : (apos.endLine == cp.line) = true) : PE X (.Call (.Name "list" p) [.Call (.Attribute o "items" apos) [] [] cp] [] pos) (rd (eLi m)) := by
  refine ⟨fun pins s σ H Q I h => ?_⟩
  obtain ⟨S, F, sl, g, r, g', rv, e, post⟩ := h
  obtain ⟨⟨⟨t, b⟩, g1⟩, e1, e⟩ := bsome e
  obtain ⟨u, e2, e⟩ := msome e
  obtain ⟨ds, ht, n, rfl⟩ := listIB_some e2
  cases e
  dsimp only at ht
  subst ht
  refine wpAny_Call_Name_kw (ld_blt I hg hm (u := .type "list") boot_list ?_ (by decide +kernel) (by decide +kernel))
  have st := star1 (rfl : starB (.Call (.Attribute o "items" apos) [] [] cp) = false) [] X.env
  refine PyProof.Rows.callWith_type1 ?_ st rfl
  rw [st]
  refine Calls.spliced_cons (wpAny_Call_method (T := "dict") (id := "dict.items") (base_of hb _ _ _) rfl hl PySem.F.plainAttrs_dict PySem.F.slot_dict_items PySem.F.type_dict_items ?_)
  refine thn (dk_use (R := fun S' F' H0 g'' sl' σ' ds' a kvs H1 => AtD H1 F' ds kvs ∧ Mv S F H F' H1 ∧ RV S F' g1 sl σ H1) he I ⟨S, F, sl, g, ds, b, g1, rv, e1, n, fun F' a kvs H' m1 rv1 hr l => ⟨l, m1, rv1⟩⟩) fun v s1 ⟨a, H1, S', F1, g1', sl', ds', kvs, ev, I1, hr, lat, m1, rv1⟩ => ?_
  subst ev
  obtain ⟨z, sys, vs, rel, dof⟩ := dk_rd I1.hok hr
  obtain ⟨ep, dat⟩ := dof.dictAt
  have len : kvs.length = vs.length := rel.length
  have zz : vs.length ≤ sizeLine := len ▸ z
  have I2 : Inv X pins σ H1 { s1 with heap := s1.heap.push { cls := .type "dict_items", data := .fields #[.ref a] } } := I1.kept (t' := s1.toks) fun b ob q => Heap.get?_push_of_some _ q
  refine ⟨dof.typeIs, dof.mapOf.noDict, ?_⟩
  refine method_meetsIn PySem.F.slot_dict_items PySem.F.entry_dict_items rfl (PySem.evalArgs_none ⟨rfl, dof.typeIs, PySem.F.args_dict_items_1 _, _, meets_dict_items (mixKind X.prog X.w) a sys, ⟨vs, dof⟩, Calls.spliced_nil ?_⟩)
  refine PySem.W.kdx_call (knd := mixKind X.prog X.w) (kvs := vs) (ep := ep) (I1.ok.hd hc) ⟨_, Heap.get?_push_size _ rfl, rfl, rfl⟩ (dat.push _) zz fun h' tk acc c as hk hS hl2 hG hacc => ?_
  obtain ⟨H2, k1, k2, k3, k4, k5, k6, J⟩ := LiI.items_laid (tk := tk) I2 z rel hk hS hl2 hG hacc
  refine ⟨.ref _, H2, J, rfl, ?_⟩
  have kp := grow_kp (F0 := F1) k1
  have mm : Mv S F1 H1 F1 H2 := .of .refl kp
  have d2 : dF F1 H2 := fun x f => kp.dom x (rv1.d x f)
  have mf : Mv S F1 H1 (add1 F1 _) H2 := ⟨Ext.add .refl k2, mm.kp⟩
  have l2 : AtD H2 F1 ds kvs := lat.lt (mm.lt rv1.st.off)
  have st2 : StmAt H2 (add1 F1 _) S g1 := (rv1.st.keep .refl kp fun _ _ z => z).add fun w => (rv1.st.dom w) k2
  exact post _ _ H2 (m1.trans mf) (rv1.keep mf (add_dF d2 (by rw [k5]; simp)) st2) (.cl (.list k5 (.inr rfl) (AtL.more (AtL.ofItems l2 k6))))
/-! ### xs[::-1] -/
theorem pe_rv {e : Expr} {k : Nat} {p1 p2 p3 : Pos} (he : PE X e (rd m)) : PE X (.Subscript e (.Slice none none (some (.UnaryOp .USub (.Constant (.int 1) k p1) p2)) p3) pos) (rd (eUn bRev m)) := by
  refine PE.imp (pe_revL he) fun σ H Q h => ?_
  obtain ⟨S, F, sl, g, r, g', rv, e, post⟩ := h
  obtain ⟨⟨a, g1⟩, e1, e⟩ := bsome e
  obtain ⟨t, e3, e⟩ := msome e
  cases e
  dsimp only at e3
  refine ⟨S, F, sl, g, a, g1, rv, e1, fun F1 x H1 m1 rv1 v1 => ?_⟩
  have hb := v1.1.bt
  unfold bRev at e3
  split at e3
  · rename_i xs q
    cases e3
    rw [q] at hb
    obtain ⟨l, ys, rfl, hx, lx⟩ := hb.list
    refine ⟨l, ys, rfl, .inl (.inl hx), fun p hp => ?_⟩
    exact post _ _ _ (m1.trans (.of (new_ext hp) (new_kp hp))) (rv1.keep0 (new_ext hp) (new_kp hp) (new_dF rv1.d)) (.cl (new_list hp lx.reverse))
  · cases e3
end
end VM
/-! V20: the text read: expressions, whole -/
namespace VM
open PySem PySem.Spec PyProof.Rows L2

def semB (E : SemE) (Γ : Ga) (op : BoolOp) : List Expr → Option Ex
  | [] => none
  | [a] => E Γ a
  | a :: b :: r => (E Γ a).bind fun ma => (semB E Γ op (b :: r)).map fun mb => match op with
    | .And => eAnd ma mb
    | .Or => eOr ma mb
structure BothB (X : Cx) (op : BoolOp) (es : List Expr) (m : Ex) : Prop where
  pe : ∀ pos, PE X (.BoolOp op es pos) (rd m)
  pw : ∀ pos, PW X (.BoolOp op es pos) (rdT m)
theorem semB_ok {E : SemE} (S : SoundE E) {Γ : Ga} {X : Cx} (G : Good Γ X) {op : BoolOp} : ∀ {es : List Expr} {m : Ex}, semB E Γ op es = some m → BothB X op es m
  | [], _, h => by cases h
  | [a], m, h => by
    have b := S Γ a m h X G
    cases op
    · exact ⟨fun pos => pe_one b.pe, fun pos => pw_and1 b.pt⟩
    · exact ⟨fun pos => pe_one b.pe, fun pos => pw_or1 b.pt⟩
  | a :: c :: r, m, h => by
    unfold semB at h
    obtain ⟨ma, e1, h⟩ := bsome h
    obtain ⟨mb, e2, rfl⟩ := msome h
    have b := S Γ a ma e1 X G
    have ih := semB_ok S G e2
    cases op
    · exact ⟨fun pos => PE.imp (pe_and b.pe (ih.pe pos)) fun _ _ _ q => tAndV_of q, fun pos => PW.imp (pw_and b.pt (ih.pw pos)) fun _ _ _ q => tAnd_of q⟩
    · exact ⟨fun pos => PE.imp (pe_or b.pe (ih.pe pos)) fun _ _ _ q => tOrV_of q, fun pos => PW.imp (pw_or b.pt (ih.pw pos)) fun _ _ _ q => tOr_of q⟩
def semO (E : SemE) (Γ : Ga) : Option Expr → Option (Option Ex)
  | none => some none
  | some e => (E Γ e).map some
theorem semO_ok {E : SemE} (S : SoundE E) {Γ : Ga} {X : Cx} (G : Good Γ X) {e : Option Expr} {m : Option Ex} (h : semO E Γ e = some m) : PO X e (rdP m) := by
  cases e with
  | none =>
    cases h
    exact ⟨fun pins s σ H Q I q => po_none.run pins s σ H Q I (tNoPart_of q)⟩
  | some e =>
    obtain ⟨l, e1, rfl⟩ := msome h
    exact ⟨fun pins s σ H Q I q => (po_some (S Γ e l e1 X G).pe).run pins s σ H Q I (tPart_of q)⟩
/-- list(d.items()), sum(d.values()) -/
def spec1 (f : Str) (args : List Expr) : Option (Bool × Expr) := match args with
  | [a] => (match callK a with
    | .at_ o m [] => if callB o = true then none else if f = "list" ∧ m = "items" then some (true, o) else if f = "sum" ∧ m = "values" then some (false, o) else none
    | _ => none)
  | _ => none
theorem spec1_some {f : Str} {args : List Expr} {k : Bool} {o : Expr} (h : spec1 f args = some (k, o)) : ∃ ap p, callB o = false ∧ (ap.endLine == p.line) = true ∧ ((k = true ∧ f = "list" ∧ args = [.Call (.Attribute o "items" ap) [] [] p]) ∨ (k = false ∧ f = "sum" ∧ args = [.Call (.Attribute o "values" ap) [] [] p])) := by
  unfold spec1 at h
  split at h
  · rename_i a
    split at h
    · rename_i o' m ck
      obtain ⟨ap, p, rfl, hl⟩ := callK_at ck
      split at h
      · cases h
      rename_i hb
      split at h
      · rename_i c
        cases h
        obtain ⟨rfl, rfl⟩ := c
        exact ⟨ap, p, Bool.eq_false_iff.mpr hb, hl, .inl ⟨rfl, rfl, rfl⟩⟩
      split at h
      · rename_i c
        cases h
        obtain ⟨rfl, rfl⟩ := c
        exact ⟨ap, p, Bool.eq_false_iff.mpr hb, hl, .inr ⟨rfl, rfl, rfl⟩⟩
      · cases h
    · cases h
  · cases h
def semC (E : SemE) (Γ : Ga) (e : Expr) : Option Ex := match callK e with
  | .nm f args => if gloB Γ.sc f = true ∧ dbg f = false then
      (if f = "isinstance" then (match args with
        | [a, c] => (match c with
          | .Tuple es _ _ => (clsL Γ es).bind fun ns => if ns.length ≤ cap then (E Γ a).map fun m => eIs ns m else none
          | _ => (clsOf Γ c).bind fun n => (E Γ a).map fun m => eIs [n] m)
        | _ => none)
      else match spec1 f args with
      | some q => (E Γ q.2).map fun m => if q.1 = true then eLi m else eSv m
      | none => match biF f args.length with
        | some r => if args = [] then none else (semL E Γ args).map fun ms => eBi r ms
        | none => (Γ.fns.lookup f).bind fun i => (semAs E Γ i.st args).map fun ms => eFn i.den ms) else none
  | _ => none
theorem semC_ok {E : SemE} (S : SoundE E) {Γ : Ga} {X : Cx} (G : Good Γ X) {e : Expr} {m : Ex} (h : semC E Γ e = some m) : PE X e (rd m) := by
  unfold semC at h
  cases ck : callK e with
  | at_ o q args => rw [ck] at h; cases h
  | no => rw [ck] at h; cases h
  | nm f args =>
    rw [ck] at h
    dsimp only at h
    obtain ⟨p, pos, rfl⟩ := callK_nm ck
    split at h
    · rename_i hg
      by_cases c1 : f = "isinstance"
      · rw [if_pos c1] at h
        subst c1
        split at h
        · rename_i a c
          have gl := gloB_ok G hg.1
          have bm := G.bl "isinstance" (by decide +kernel)
          split at h
          · rename_i es k tp
            obtain ⟨ns, e1, h⟩ := bsome h
            split at h
            · rename_i hl
              obtain ⟨ma, e2, rfl⟩ := msome h
              have b := S Γ a ma e2 X G
              obtain ⟨pa, hn⟩ := clsL_ok G e1
              exact PE.imp (pe_callB call_isiT gl bm boot_isinstance (pa_cons b.pe (pa_cons (pe_tup pa) pa_nil rfl) (star1 b.ns _ X.env)) (by decide +kernel) (by decide +kernel) (star1 b.ns _ X.env) rfl) fun _ _ _ q => tIsT_of hn hl q
            · cases h
          · obtain ⟨n, e1, h⟩ := bsome h
            obtain ⟨ma, e2, rfl⟩ := msome h
            have b := S Γ a ma e2 X G
            obtain ⟨pc, hn, ns⟩ := clsOf_ok G e1
            exact PE.imp (pe_callB call_isi gl bm boot_isinstance (pa_cons b.pe (pa_cons pc pa_nil (star1 ns [] X.env)) (star1 b.ns _ X.env)) (by decide +kernel) (by decide +kernel) (star1 b.ns _ X.env) (star_any (es := [c]) (by rw [List.any_cons, ns]; rfl) X.env pos)) fun _ _ _ q => tIs_of hn q
        · cases h
      · rw [if_neg c1] at h
        split at h
        · rename_i q es
          obtain ⟨k, o⟩ := q
          obtain ⟨me, e1, rfl⟩ := msome h
          have b := S Γ o me e1 X G
          obtain ⟨ap, p', hb, hl, c | c⟩ := spec1_some es
          · obtain ⟨rfl, rfl, rfl⟩ := c
            exact pe_li G.calm b.pe (gloB_ok G hg.1) (G.bl _ (by decide +kernel)) hb hl
          · obtain ⟨rfl, rfl, rfl⟩ := c
            exact pe_sv G.calm b.pe (gloB_ok G hg.1) (G.bl _ (by decide +kernel)) hb hl
        split at h
        · rename_i r er
          split at h
          · cases h
          · rename_i hne
            obtain ⟨ms, e1, rfl⟩ := msome h
            obtain ⟨pa, ns⟩ := semL_ok S G e1
            cases args with
            | nil => exact absurd rfl hne
            | cons a as => exact PE.imp (pe_biF G er hg.1 pa ns) fun _ _ _ q => tCB_of q
        · obtain ⟨i, ei, h⟩ := bsome h
          obtain ⟨ms, e1, rfl⟩ := msome h
          obtain ⟨pa, ns⟩ := semAs_ok S G e1
          obtain ⟨k, fa, fd, ps, F, hr, hm, hk, hb⟩ := G.fns f i ei
          cases args with
          | nil =>
            cases e1
            exact PE.imp (pe_call0 F hr (gloB_ok G hg.1) hm hk hb .nil pass0 (dbg1 hg.2)) fun σ H Q q => by
              have := tCall_of q
              obtain ⟨S, F, sl, g, as, g', rv, e, post⟩ := this
              cases e
              exact post F [] H .refl rv .nil
          | cons a as =>
            rw [List.any_cons, Bool.or_eq_false_iff] at ns
            exact PE.imp (pe_call F hr (gloB_ok G hg.1) hm hk hb .nil pass0 pa (dbg1 hg.2) (star1 ns.1 as X.env) (star_any ns.2 X.env pos)) fun _ _ _ q => tCall_of q
    · cases h
theorem spec1_plain {f : Str} {a : Expr} (h : argPlain a = true) : spec1 f [a] = none := by
  unfold spec1
  cases ck : callK a with
  | at_ o m args =>
    obtain ⟨ap, p, rfl, _⟩ := callK_at ck
    cases h
  | nm _ _ => dsimp only; rw [ck]
  | no => dsimp only; rw [ck]
theorem semC_okF {E : SemE} (S : SoundE E) {Γ : Ga} {X : Cx} (G : Good Γ X) {f : Str} {p pos : Pos} {a : Expr} {m : Ex} (hf : frB (.Call (.Name f p) [a] [] pos) = true) (h : semC E Γ (.Call (.Name f p) [a] [] pos) = some m) : PE X (.Call (.Name f p) [a] [] pos) (rdF m) := by
  have hu := G.hu
  have hf : ((decide (f = "list") || decide (f = "dict") || decide (f = "sorted")) && argPlain a) = true := hf
  rw [Bool.and_eq_true, Bool.or_eq_true, Bool.or_eq_true, decide_eq_true_eq, decide_eq_true_eq, decide_eq_true_eq] at hf
  obtain ⟨hn, hp⟩ := hf
  have h : (if gloB Γ.sc f = true ∧ dbg f = false then
      (if f = "isinstance" then (match [a] with
        | [a, c] => (match c with
          | .Tuple es _ _ => (clsL Γ es).bind fun ns => if ns.length ≤ cap then (E Γ a).map fun m => eIs ns m else none
          | _ => (clsOf Γ c).bind fun n => (E Γ a).map fun m => eIs [n] m)
        | _ => none)
      else match spec1 f [a] with
      | some q => (E Γ q.2).map fun m => if q.1 = true then eLi m else eSv m
      | none => match biF f [a].length with
        | some r => if [a] = [] then none else (semL E Γ [a]).map fun ms => eBi r ms
        | none => (Γ.fns.lookup f).bind fun i => (semAs E Γ i.st [a]).map fun ms => eFn i.den ms) else none) = some m := h
  split at h
  · rename_i hg
    have gl := gloB_ok G hg.1
    have ni : f ≠ "isinstance" := by
      rintro rfl
      rcases hn with (z | z) | z <;> exact absurd z (by decide +kernel)
    rw [if_neg ni, spec1_plain hp] at h
    dsimp only at h
    rcases hn with (rfl | rfl) | rfl
    · rw [show biF "list" [a].length = some (bi1 listB) from by rfl] at h
      dsimp only at h
      rw [if_neg (by simp)] at h
      obtain ⟨ms, e1, rfl⟩ := msome h
      obtain ⟨pa, ns⟩ := semL_ok S G e1
      rw [List.any_cons, Bool.or_eq_false_iff] at ns
      exact PE.imp (pe_callTy (cr_listF G.calm) gl (G.bl _ (by decide +kernel)) boot_list pa (by decide +kernel) (by decide +kernel) (star1 ns.1 [] X.env) rfl) fun _ _ _ q => tCB_ofF bi1_false q
    · rw [show biF "dict" [a].length = some (bi1 dictB) from by rfl] at h
      dsimp only at h
      rw [if_neg (by simp)] at h
      obtain ⟨ms, e1, rfl⟩ := msome h
      obtain ⟨pa, ns⟩ := semL_ok S G e1
      rw [List.any_cons, Bool.or_eq_false_iff] at ns
      exact PE.imp (pe_callTy (cr_dictF G.calm) gl (G.bl _ (by decide +kernel)) boot_dict pa (by decide +kernel) (by decide +kernel) (star1 ns.1 [] X.env) rfl) fun _ _ _ q => tCB_ofF bi1_false q
    · rw [show biF "sorted" [a].length = some (bi1 sortedB) from by rfl] at h
      dsimp only at h
      rw [if_neg (by simp)] at h
      obtain ⟨ms, e1, rfl⟩ := msome h
      obtain ⟨pa, ns⟩ := semL_ok S G e1
      rw [List.any_cons, Bool.or_eq_false_iff] at ns
      exact PE.imp (pe_callB (cr_sortedF G.calm (by omega)) gl (G.bl _ (by decide +kernel)) boot_sorted pa (by decide +kernel) (by decide +kernel) (star1 ns.1 [] X.env) rfl) fun _ _ _ q => tCB_ofF bi1_false q
  · cases h
def stepE (E : SemE) (Γ : Ga) (e : Expr) : Option Ex := match e with
  | .Name x _ => (slot Γ x).map eVar
  | .Constant c _ _ => (constT c).map eLit
  | .BinOp a op b _ => (binF op).bind fun f => (E Γ a).bind fun ma => (E Γ b).map fun mb => eOp f ma mb
  | .UnaryOp op a _ => (E Γ a).bind fun ma => match op with
    | .USub => some (eUn bNeg ma)
    | .Not => some (eNot ma)
    | _ => none
  | .BoolOp op es _ => semB E Γ op es
  | .Compare a ops cs _ => (match ops, cs with
    | [o], [b] => if setB b = true then none else (cmpF o).bind fun f => (E Γ a).bind fun ma => (E Γ b).map fun mb => eOp f ma mb
    | [o1, o2], [b, c] => if setB c = true then none else (cmpF o1).bind fun f1 => (cmpF o2).bind fun f2 => (E Γ a).bind fun ma => (E Γ b).bind fun mb => (E Γ c).map fun mc => eChain f1 f2 ma mb mc
    | _, _ => none)
  | .IfExp c a b _ => (E Γ c).bind fun mc => (E Γ a).bind fun ma => (E Γ b).map fun mb => eIf mc ma mb
  | .Subscript a s _ => (match s with
    | .Slice none none (some (.UnaryOp .USub (.Constant (.int 1) _ _) _)) _ => (E Γ a).map (eUn bRev)
    | .Slice lo hi none _ => (E Γ a).bind fun ma => (semO E Γ lo).bind fun l => (semO E Γ hi).map fun u => eCut2 ma l u
    | s => if sliceB s = true then none else (E Γ a).bind fun ma => (E Γ s).map fun mb => eOp bIdx ma mb)
  | .Tuple es _ _ => (semL E Γ es).map eTup
  | .List es _ => (semL E Γ es).map eLst
  | .Dict ks vs _ => (match ks, vs with
    | [], [] => some eD0
    | _, _ => none)
  | .ListComp elt gs scope _ => (one gs).bind fun p => (semH E Γ p.1 p.2.1 p.2.2 scope).bind fun q => (E (inBlk Γ scope) elt).map fun me => eLc q.mi q.tg q.mt me q.vs
  | .DictComp kx vx gs scope _ => (one gs).bind fun p => (semH E Γ p.1 p.2.1 p.2.2 scope).bind fun q => (E (inBlk Γ scope) kx).bind fun mk => (E (inBlk Γ scope) vx).map fun me => eDc q.mi q.tg q.mt mk me q.vs
  | .Call f args kw p => semC E Γ (.Call f args kw p)
  | _ => none
theorem constT_ok {X : Cx} {c : Const} {t : T} {k : Nat} {p : Pos} (h : constT c = some t) : PE X (.Constant c k p) (rd (eLit t)) := by
  unfold constT at h
  split at h <;> cases h
  · exact PE.imp pe_non fun _ _ _ q => tC_of (fun _ _ => .none) q
  · exact PE.imp pe_bl fun _ _ _ q => tC_of (fun _ _ => .bool) q
  · exact PE.imp pe_int fun _ _ _ q => tC_of (fun _ _ => .int) q
  · exact PE.imp pe_str fun _ _ _ q => tC_of (fun _ _ => .str) q
theorem pt_cmpV {X : Cx} {a b : Expr} {op : CmpOp} {f : T → T → Option T} {ma mb : Ex} {pos : Pos} (hu : X.A.units + 100 < cLine) (hf : cmpF op = some f) (ha : PE X a (rd ma)) (hb : PE X b (rd mb)) (hs : setB b = false) : PT X (.Compare a [op] [b] pos) (rdT (eOp f ma mb)) :=
  PT.imp (pt_cmpR (cmpF_ok hu hf) ha hb (mark_of hs)) fun _ _ _ q => tOp_of (rd_of_rdT q)
theorem stepE_ok {E : SemE} (S : SoundE E) : SoundE (stepE E) := by
  intro Γ e m h X G
  cases e with
  | Name x p =>
    obtain ⟨i, e1, rfl⟩ := msome h
    exact ⟨both_plain (PE.imp (pe_slot G e1) fun _ _ _ q => tVar_of q) rfl, (fun z => nomatch z), rfl⟩
  | Constant c k p =>
    obtain ⟨t, e1, rfl⟩ := msome h
    exact ⟨both_plain (constT_ok e1) rfl, (fun z => nomatch z), rfl⟩
  | BinOp a op b p =>
    obtain ⟨f, e1, h⟩ := bsome h
    obtain ⟨ma, e2, h⟩ := bsome h
    obtain ⟨mb, e3, rfl⟩ := msome h
    exact ⟨both_plain (PE.imp (pe_op (binF_ok e1) (S Γ a ma e2 X G).pe (S Γ b mb e3 X G).pe) fun _ _ _ q => tOp_of q) rfl, (fun z => nomatch z), rfl⟩
  | UnaryOp op a p =>
    obtain ⟨ma, e1, h⟩ := bsome h
    have b := S Γ a ma e1 X G
    cases op with
    | USub =>
      cases h
      exact ⟨both_plain (PE.imp (pe_un un_negV b.pe) fun _ _ _ q => tUn_of q) rfl, (fun z => nomatch z), rfl⟩
    | Not =>
      cases h
      exact ⟨⟨PE.imp (pe_not b.pe) fun _ _ _ q => tNotV_of q, PT.imp (pt_not b.pt) fun _ _ _ q => tNot_of q⟩, (fun z => nomatch z), rfl⟩
    | _ => cases h
  | BoolOp op es p =>
    have b := semB_ok S G (show semB E Γ op es = some m from h)
    exact ⟨⟨b.pe p, (b.pw p).pt⟩, (fun z => nomatch z), rfl⟩
  | Compare a ops cs p =>
    have hu := G.hu
    simp only [stepE] at h
    split at h
    · split at h
      · cases h
      · rename_i hs
        have hs := Bool.eq_false_iff.mpr hs
        obtain ⟨f, e1, h⟩ := bsome h
        obtain ⟨ma, e2, h⟩ := bsome h
        obtain ⟨mb, e3, rfl⟩ := msome h
        have ba := S Γ a ma e2 X G
        have bb := S Γ _ mb e3 X G
        exact ⟨⟨PE.imp (pe_cmpR (cmpF_ok hu e1) ba.pe bb.pe (mark_of hs)) fun _ _ _ q => tOp_of q, pt_cmpV hu e1 ba.pe bb.pe hs⟩, (fun z => nomatch z), rfl⟩
    · split at h
      · cases h
      · rename_i hs
        have hs := Bool.eq_false_iff.mpr hs
        obtain ⟨f1, e1, h⟩ := bsome h
        obtain ⟨f2, e2, h⟩ := bsome h
        obtain ⟨ma, e3, h⟩ := bsome h
        obtain ⟨mb, e4, h⟩ := bsome h
        obtain ⟨mc, e5, rfl⟩ := msome h
        have ba := S Γ a ma e3 X G
        have bb := S Γ _ mb e4 X G
        have bc := S Γ _ mc e5 X G
        exact ⟨⟨PE.imp (pe_chain (cmpF_ok hu e1) (cmpF_ok hu e2) ba.pe bb.pe bc.pe (mark_of hs)) fun _ _ _ q => tChain_of q, PT.imp (pt_chain (cmpF_ok hu e1) (cmpF_ok hu e2) ba.pe bb.pe bc.pe (mark_of hs)) fun _ _ _ q => tChain_of (rd_of_rdT q)⟩, (fun z => nomatch z), rfl⟩
    · cases h
  | IfExp c a b p =>
    obtain ⟨mc, e1, h⟩ := bsome h
    obtain ⟨ma, e2, h⟩ := bsome h
    obtain ⟨mb, e3, rfl⟩ := msome h
    have bc := S Γ c mc e1 X G
    have ba := S Γ a ma e2 X G
    have bb := S Γ b mb e3 X G
    refine ⟨⟨PE.imp (pe_ifExp bc.pt ba.pe bb.pe) fun _ _ _ q => tIf_of q, ⟨fun pins s σ H Q I q => ?_⟩⟩, (fun z => nomatch z), rfl⟩
    refine isTrue_IfExp ?_
    obtain ⟨S', F, sl, g, r, k, g', rv, e, eb, post⟩ := q
    obtain ⟨⟨c', g1⟩, d1, e⟩ := bsome e
    obtain ⟨b', d2, e⟩ := bsome e
    refine thn (bc.pt.run pins s σ H (fun w H1 => w = b' ∧ ∃ F1, Mv S' F H F1 H1 ∧ RV S' F1 g1 sl σ H1) I ⟨S', F, sl, g, c', b', g1, rv, d1, d2, fun F1 H1 m1 rv1 => ⟨rfl, F1, m1, rv1⟩⟩) fun w s1 ⟨H1, I1, hw, F1, m1, rv1⟩ => ?_
    subst hw
    cases w with
    | true =>
      rw [if_pos rfl] at e ⊢
      exact ba.pt.run pins s1 σ H1 Q I1 ⟨S', F1, sl, g1, r, k, g', rv1, e, eb, fun F2 H2 m2 rv2 => post F2 H2 (m1.trans m2) rv2⟩
    | false =>
      rw [if_neg Bool.false_ne_true] at e ⊢
      exact bb.pt.run pins s1 σ H1 Q I1 ⟨S', F1, sl, g1, r, k, g', rv1, e, eb, fun F2 H2 m2 rv2 => post F2 H2 (m1.trans m2) rv2⟩
  | Subscript a s p =>
    have hu := G.hu
    simp only [stepE] at h
    split at h
    · obtain ⟨ma, e1, rfl⟩ := msome h
      exact ⟨both_plain (pe_rv (S Γ a ma e1 X G).pe) rfl, (fun z => nomatch z), rfl⟩
    · obtain ⟨ma, e1, h⟩ := bsome h
      obtain ⟨l, e2, h⟩ := bsome h
      obtain ⟨u, e3, rfl⟩ := msome h
      exact ⟨both_plain (PE.imp (pe_slice sl_V (S Γ a ma e1 X G).pe (semO_ok S G e2) (semO_ok S G e3)) fun _ _ _ q => tSl_of q) rfl, (fun z => nomatch z), rfl⟩
    · split at h
      · cases h
      · rename_i hs
        obtain ⟨ma, e1, h⟩ := bsome h
        obtain ⟨mb, e2, rfl⟩ := msome h
        exact ⟨both_plain (PE.imp (pe_ix (ix_V (by omega)) (S Γ a ma e1 X G).pe (S Γ s mb e2 X G).pe (plain_of (Bool.eq_false_iff.mpr hs))) fun _ _ _ q => tOp_of q) rfl, (fun z => nomatch z), rfl⟩
  | Tuple es k p =>
    obtain ⟨ms, e1, rfl⟩ := msome h
    exact ⟨both_plain (PE.imp (pe_tup (semL_ok S G e1).1) fun _ _ _ q => tTup_of q) rfl, (fun z => nomatch z), rfl⟩
  | List es p =>
    obtain ⟨ms, e1, rfl⟩ := msome h
    exact ⟨both_plain (PE.imp (pe_lst (semL_ok S G e1).1) fun _ _ _ q => tLst_of q) rfl, fun _ => PE.imp (pe_lst (semL_ok S G e1).1) fun _ _ _ q => tLst_ofF q, rfl⟩
  | Dict ks vs p =>
    simp only [stepE] at h
    split at h
    · cases h
      exact ⟨both_plain (PE.imp pe_dnewK fun _ _ _ q => tDNewK_of q) rfl, fun _ => PE.imp pe_dnewK fun _ _ _ q => tDNewK_ofF q, rfl⟩
    · cases h
  | ListComp elt gs scope p =>
    obtain ⟨⟨tg, iter, ifs⟩, e1, h⟩ := bsome h
    obtain ⟨q, e2, h⟩ := bsome h
    obtain ⟨me, e3, rfl⟩ := msome h
    have eg := one_some e1
    subst eg
    have hd := semH_ok S G e2
    have pe := pe_lc G.calm G.nd hd.pi hd.ok hd.pg hd.pt (fun s H C cl fp => (S _ elt me e3 _ (good_blk G s H scope C cl fp)).pe) hd.fold (pos := p)
    rw [← hd.vs] at pe
    exact ⟨both_plain (PE.imp pe fun _ _ _ z => tLc_of hd.idx (fun _ _ _ z => z) (fun _ _ _ z => z) z) rfl, fun _ => PE.imp pe fun _ _ _ z => tLc_ofF hd.idx (fun _ _ _ z => z) (fun _ _ _ z => z) z, rfl⟩
  | DictComp kx vx gs scope p =>
    obtain ⟨⟨tg, iter, ifs⟩, e1, h⟩ := bsome h
    obtain ⟨q, e2, h⟩ := bsome h
    obtain ⟨mk, e3, h⟩ := bsome h
    obtain ⟨me, e4, rfl⟩ := msome h
    have eg := one_some e1
    subst eg
    have hd := semH_ok S G e2
    have pe := pe_dc G.calm G.nd hd.pi hd.ok hd.pg hd.pt (fun s H C cl fp => (S _ kx mk e3 _ (good_blk G s H scope C cl fp)).pe) (fun s H C cl fp => (S _ vx me e4 _ (good_blk G s H scope C cl fp)).pe) hd.fold (pos := p)
    rw [← hd.vs] at pe
    exact ⟨both_plain (PE.imp pe fun _ _ _ z => tDc_of hd.idx (fun _ _ _ z => z) (fun _ _ _ z => z) (fun _ _ _ z => z) z) rfl, fun _ => PE.imp pe fun _ _ _ z => tDc_ofF hd.idx (fun _ _ _ z => z) (fun _ _ _ z => z) (fun _ _ _ z => z) z, rfl⟩
  | Call f args kw p =>
    refine ⟨both_plain (semC_ok S G h) rfl, fun z => ?_, rfl⟩
    unfold frB at z
    split at z
    · rename_i q; cases q
      exact semC_okF S G z h
    all_goals first | (rename_i q; cases q; done) | (rename_i q _; cases q; done) | cases z
  | _ => cases h
/-- the spring's parts, in the def that draws -/
def strmE (Γ : Ga) (e : Expr) : Option Ex := Γ.dr.bind fun x => match e with
  | .Subscript (.Name y _) (.Constant (.int k) _ _) _ => if y = x then (slot Γ y).map fun i => eSt i k else none
  | .Compare (.Subscript (.Name y _) (.Constant (.int 0) _ _) _) [.NotEq] [.List [] _] _ => if y = x then (slot Γ y).map eStNe else none
  | _ => none
theorem strmE_ok {Γ : Ga} {X : Cx} (G : Good Γ X) {e : Expr} {m : Ex} (h : strmE Γ e = some m) : BothF X e m := by
  have hu := G.hu
  unfold strmE at h
  obtain ⟨x, e0, h⟩ := bsome h
  split at h
  · split at h
    · obtain ⟨i, e1, rfl⟩ := msome h
      exact ⟨both_plain (PE.imp (pe_ix ix_list (pe_slot G e1) pe_int (plain_of rfl)) fun _ _ _ q => tSt_of q) rfl, (fun z => nomatch z), rfl⟩
    · cases h
  · split at h
    · obtain ⟨i, e1, rfl⟩ := msome h
      exact ⟨⟨PE.imp (pe_cmpR (op_neD (by omega)) (pe_ix ix_list (pe_slot G e1) pe_int (plain_of rfl)) (pe_lst pa_nil) rfl) fun _ _ _ q => tStNe_of q, PT.imp (pt_cmpR (op_neD (by omega)) (pe_ix ix_list (pe_slot G e1) pe_int (plain_of rfl)) (pe_lst pa_nil) rfl) fun _ _ _ q => tStNe_of (rd_of_rdT q)⟩, (fun z => nomatch z), rfl⟩
    · cases h
  · cases h
/-- what is not read is never to be reached -/
def eNo : Ex := fun _ _ => none
def orNo (e : Expr) (m : Option Ex) : Option Ex := match m with
  | some m => some m
  | none => if starB e = true then none else some eNo
theorem both_no {X : Cx} {e : Expr} (h : starB e = false) : BothF X e eNo :=
  ⟨⟨⟨fun _ _ _ _ _ _ q => by obtain ⟨_, _, _, _, _, _, _, e, _⟩ := q; cases e⟩, ⟨fun _ _ _ _ _ _ q => by obtain ⟨_, _, _, _, _, _, _, _, e, _⟩ := q; cases e⟩⟩, fun _ => ⟨fun _ _ _ _ _ _ q => by obtain ⟨_, _, _, _, _, _, _, e, _⟩ := q; cases e⟩, h⟩
def semE : Nat → SemE
  | 0 => fun _ e => orNo e none
  | n + 1 => fun Γ e => match strmE Γ e with
    | some m => some m
    | none => orNo e (stepE (semE n) Γ e)
theorem orNo_ok {X : Cx} {e : Expr} {o : Option Ex} {m : Ex} (h : orNo e o = some m) (k : ∀ m, o = some m → BothF X e m) : BothF X e m := by
  unfold orNo at h
  split at h
  · cases h
    exact k _ rfl
  · split at h
    · cases h
    · rename_i c
      cases h
      exact both_no (Bool.eq_false_iff.mpr c)
theorem semE_ok : ∀ n, SoundE (semE n)
  | 0 => fun Γ e m h X G => orNo_ok (o := none) h fun m' z => by cases z
  | n + 1 => fun Γ e m h X G => by
    unfold semE at h
    split at h
    · rename_i m' e1
      cases h
      exact strmE_ok G e1
    · exact orNo_ok h fun m' z => stepE_ok (semE_ok n) Γ e m' z X G
end VM
/-! V21: the text read: statements -/
namespace VM
open PySem PySem.Spec PyProof.Rows L2

/-- how a def is read: its fuel, names that are written, what each def wants clean -/
structure Op where
  fuel : Nat
  mv : List Str
  cl : List (Str × List Bool)
/-! ### what is handed on -/
def pick1 : List Bool → List Expr → List Expr
  | true :: bs, e :: es => e :: pick1 bs es
  | false :: bs, _ :: es => pick1 bs es
  | _, _ => []
def nmOf (es : List Expr) : List Str := es.filterMap nameOf
def esc (o : Op) : Nat → Expr → List Str
  | 0, _ => []
  | n + 1, e => match e with
    | .Tuple es _ _ => nmOf es ++ es.flatMap (esc o n)
    | .List es _ => nmOf es ++ es.flatMap (esc o n)
    | .BinOp a _ b _ => esc o n a ++ esc o n b
    | .BoolOp _ es _ => es.flatMap (esc o n)
    | .UnaryOp _ a _ => esc o n a
    | .Compare a _ es _ => esc o n a ++ es.flatMap (esc o n)
    | .IfExp c a b _ => esc o n c ++ nmOf [a, b] ++ esc o n a ++ esc o n b
    | .Subscript a b _ => esc o n a ++ esc o n b
    | .Call (.Name f _) es _ _ => nmOf (pick1 ((o.cl.lookup f).getD []) es) ++ es.flatMap (esc o n)
    | .Call (.Attribute a _ _) es _ _ => esc o n a ++ es.flatMap (esc o n)
    | .ListComp a gs _ _ => nmOf [a] ++ esc o n a ++ gs.flatMap fun g => esc o n g.iter ++ g.ifs.flatMap (esc o n)
    | .DictComp a b gs _ _ => nmOf [b] ++ esc o n a ++ esc o n b ++ gs.flatMap fun g => esc o n g.iter ++ g.ifs.flatMap (esc o n)
    | _ => []
def slots (Γ : Ga) (xs : List Str) : List Nat := xs.filterMap (look Γ.N)
/-- freeze where there is something -/
def frzIf (is : List Nat) (m : Sm) : Sm := match is with
  | [] => m
  | _ => mFrz is m
section
variable {σ : L2.St} {H : Hp} {D : Ends} {m : Sm}
theorem frzIf_of {is : List Nat} (h : rdM (frzIf is m) D σ H) : rdM m D σ H := by
  cases is with
  | nil => exact h
  | cons i is => exact rdM_frz h
end
theorem PS.frz {X : Cx} {st : Stmt} {m : Sm} (h : PS X st (rdM m)) (is : List Nat) : PS X st (rdM (frzIf is m)) := PS.imp h fun _ _ _ q => frzIf_of q
/-! ### assignments -/
/-- the plain local names on one line -/
def locNames (env : Env) (line : Nat) (ts : List Expr) : List Str := ts.filterMap fun
    | .Name id pos => if env.kindOf id == some .local && pos.line == line then some id else none
    | _ => none
def locNamesG (sc : Scope) (line : Nat) (ts : List Expr) : List Str := ts.filterMap fun
    | .Name id pos => if sc.names.lookup id == some .local && pos.line == line then some id else none
    | _ => none
def lineOf (ts : List Expr) : Nat := (ts.head?.map (·.pos.line)).getD 0
def fnKind : ScopeKind → Bool
  | .function => true
  | _ => false
/-- the stores of a, b = x, y: from the right with no tuple (some names), or by a tuple -/
def swB (Γ : Ga) (ts vs : List Expr) : Option (Option (List Str)) :=
  if (!(ts.length == 2 || ts.length == 3) || vs.length != ts.length || !fnKind Γ.sc.kind) = true then none
  else if (vs.any starB) = true then none
  else if ((locNamesG Γ.sc (lineOf ts) ts).length != ts.length || (locNamesG Γ.sc (lineOf ts) ts).eraseDups.length != (locNamesG Γ.sc (lineOf ts) ts).length) = true then some none
  else if (vs.all (foldedForSure 8)) = true then some none
  else if (vs.all (constantsAlone 8)) = true then none
  else some (some (locNamesG Γ.sc (lineOf ts) ts))
theorem star_fun : (fun | .Starred .. => true | _ => false : Expr → Bool) = starB := by
  funext e
  cases e <;> rfl
theorem fnKind_ok {k : ScopeKind} (h : fnKind k = true) : k = .function := by
  cases k <;> first | rfl | cases h
theorem swB_ok {Γ : Ga} {X : Cx} (G : Good Γ X) {ts vs : List Expr} {k k2 : Nat} {p p2 : Pos} {b : Option (List Str)} (h : swB Γ ts vs = some b) :
    swappedStores [.Tuple ts k p] (.Tuple vs k2 p2) X.env = pure b := by
  have e1 : locNames X.env (lineOf ts) ts = locNamesG Γ.sc (lineOf ts) ts := by
    unfold locNames locNamesG
    have : ∀ id, X.env.kindOf id = Γ.sc.names.lookup id := fun id => by rw [← G.sc]; rfl
    simp only [this]
  unfold swB at h
  split at h
  · cases h
  rename_i c1
  split at h
  · cases h
  rename_i c2
  have c1' := Bool.eq_false_iff.mpr c1
  rw [Bool.or_eq_false_iff, Bool.or_eq_false_iff] at c1'
  have hk : X.env.blockKind = .function := by
    have := fnKind_ok (by simpa using c1'.2 : fnKind Γ.sc.kind = true)
    unfold Env.blockKind
    rw [G.sc, this]
    rfl
  have d1 : (!(ts.length == 2 || ts.length == 3) || vs.length != ts.length || X.env.blockKind != .function) = false := by
    rw [hk, c1'.1.1, c1'.1.2]
    rfl
  unfold swappedStores
  dsimp only
  rw [if_neg (by rw [d1]; exact Bool.false_ne_true)]
  show (if (vs.any starB) = true then (pure none : Sem (Option (List Str))) else if ((locNames X.env (lineOf ts) ts).length != ts.length || (locNames X.env (lineOf ts) ts).eraseDups.length != (locNames X.env (lineOf ts) ts).length) = true then (pure none : Sem (Option (List Str))) else if vs.all (foldedForSure 8) = true then pure none
    else if vs.all (constantsAlone 8) = true then (unsupported (α := PUnit) "assign.tuple-of-constant-expressions:order-of-the-stores" >>= fun _ => pure (some (locNames X.env (lineOf ts) ts))) else pure (some (locNames X.env (lineOf ts) ts))) = pure b
  rw [if_neg c2, e1]
  split at h
  · rename_i c3
    cases h
    rw [if_pos c3]
  rename_i c3
  rw [if_neg c3]
  split at h
  · rename_i c4
    cases h
    rw [if_pos c4]
  rename_i c4
  rw [if_neg c4]
  split at h
  · cases h
  rename_i c5
  cases h
  rw [if_neg c5]
end VM
/-! V22: the text read: statements, whole -/
namespace VM
open PySem PySem.Spec PyProof.Rows L2

def isLoc (sc : Scope) (x : Str) : Bool := match sc.names.lookup x with
  | some .local => true
  | _ => false
theorem isLoc_ok {Γ : Ga} {X : Cx} (G : Good Γ X) {x : Str} (h : isLoc Γ.sc x = true) : X.env.scope.names.lookup x = some .local := by
  unfold isLoc at h
  rw [G.sc]
  split at h
  · assumption
  · cases h
/-- whether name = [..] stores ahead of letting go -/
def swE (Γ : Ga) (x : Str) (px : Pos) (scope : Scope) (p : Pos) : Bool := isLoc Γ.sc x && (px.line == p.line) && !(scope.names.any fun (n, k) => n == x && (k == .local || k == .cell))
theorem kind_fn {Γ : Ga} {X : Cx} (G : Good Γ X) (h : fnKind Γ.sc.kind = true) : X.env.blockKind = .function ∧ X.env.scope.kind = .function := by
  have := fnKind_ok h
  unfold Env.blockKind
  rw [G.sc, this]
  exact ⟨rfl, rfl⟩
theorem kindOf_loc {Γ : Ga} {X : Cx} (G : Good Γ X) (x : Str) : (X.env.kindOf x == some NameKind.local) = isLoc Γ.sc x := by
  have : X.env.kindOf x = Γ.sc.names.lookup x := by rw [← G.sc]; rfl
  rw [this]
  unfold isLoc
  cases Γ.sc.names.lookup x with
  | none => rfl
  | some k => cases k <;> rfl
theorem swE_lc {Γ : Ga} {X : Cx} (G : Good Γ X) (hk : fnKind Γ.sc.kind = true) {x : Str} {px p : Pos} {scope : Scope} {elt : Expr} {gs : List Comprehension} {l : Nat} : swapsWith (.ListComp elt gs scope p) (some (.Name x px)) l X.env = pure (swE Γ x px scope p) := by
  unfold swapsWith swE
  dsimp only
  rw [(kind_fn G hk).1, kindOf_loc G x]
  rfl
theorem swE_dc {Γ : Ga} {X : Cx} (G : Good Γ X) (hk : fnKind Γ.sc.kind = true) {x : Str} {px p : Pos} {scope : Scope} {kx vx : Expr} {gs : List Comprehension} {l : Nat} : swapsWith (.DictComp kx vx gs scope p) (some (.Name x px)) l X.env = pure (swE Γ x px scope p) := by
  unfold swapsWith swE
  dsimp only
  rw [(kind_fn G hk).1, kindOf_loc G x]
  rfl
theorem swap_notName {e t : Expr} (h : ∀ x p, t ≠ .Name x p) (l : Nat) (env : Env) : swapsWith e (some t) l env = pure false := by
  unfold swapsWith
  split
  · split
    · rename_i q; cases q
    · rename_i y p q; cases q; exact absurd rfl (h _ _)
    · rfl
  · rfl
/-- is a name one that is written, and the thing new -/
def frM (o : Op) (x : Str) (e : Expr) : Bool := frB e && decide (x ∈ o.mv)
theorem pe_G {X : Cx} {e : Expr} {m : Ex} (b : BothF X e m) {o : Op} {x : Str} : PE X e (rdG (frM o x e) m) := by
  unfold rdG
  split
  · rename_i h
    unfold frM at h
    rw [Bool.and_eq_true] at h
    exact b.pf h.1
  · exact b.pe
def popOf (e : Expr) : Option Str := match callK e with
  | .at_ (.Name y _) m [] => if m = "pop" then some y else none
  | _ => none
theorem popOf_some {e : Expr} {y : Str} (h : popOf e = some y) : ∃ py ap p, e = .Call (.Attribute (.Name y py) "pop" ap) [] [] p ∧ (ap.endLine == p.line) = true := by
  unfold popOf at h
  split at h
  · rename_i y' py m ck
    split at h
    · rename_i c
      cases h
      obtain ⟨ap, p, rfl, hl⟩ := callK_at ck
      subst c
      exact ⟨_, _, _, rfl, hl⟩
    · cases h
  · cases h
def mSet' (f : Bool) (i : Nat) (m : Ex) : Sm := if f = true then mSetF i m else mSet i m
theorem tAsgG_of {f : Bool} {i : Nat} {m : Ex} {D : Ends} {σ : L2.St} {H : Hp} (h : rdM (mSet' f i m) D σ H) : tAsg (rdG f m) (gName i) D σ H := by
  unfold mSet' at h
  unfold rdG
  cases f with
  | true => exact tAsg_ofF h
  | false => exact tAsg_of h
/-- name = e -/
def semNm (E : SemE) (o : Op) (Γ : Ga) (x : Str) (px : Pos) (e : Expr) : Option Sm := (slotL Γ x).bind fun j => match popOf e with
  | some y => (slot Γ y).map fun i => mPop j i
  | none => match e with
    | .ListComp elt gs scope p => if fnKind Γ.sc.kind = true then (if swE Γ x px scope p = true then
        (one gs).bind fun q => (semH E Γ q.1 q.2.1 q.2.2 scope).bind fun w => (E (inBlk Γ scope) elt).map fun me => mSet' (frM o x e) j (eLc w.mi w.tg w.mt me w.vs)
      else (E Γ e).map fun m => mSet' (frM o x e) j m) else none
    | .DictComp _ _ _ scope p => if fnKind Γ.sc.kind = true ∧ swE Γ x px scope p = false then (E Γ e).map fun m => mSet' (frM o x e) j m else none
    | .SetComp _ _ _ _ => none
    | e => (E Γ e).map fun m => mSet' (frM o x e) j m
theorem semNm_set {E : SemE} (S : SoundE E) {o : Op} {Γ : Ga} {X : Cx} (G : Good Γ X) {x : Str} {px pos : Pos} {e : Expr} {j : Nat} {m : Sm} (hj : slotL Γ x = some j) (hs : swapsWith e (some (.Name x px)) pos.line X.env = pure false)
    (h : (E Γ e).map (fun m => mSet' (frM o x e) j m) = some m) : PS X (.Assign [.Name x px] e pos) (rdM m) := by
  obtain ⟨me, e1, rfl⟩ := msome h
  obtain ⟨a, b, c⟩ := slotL_ok G hj
  exact PS.imp (ps_set G.nd a b (pe_G (S Γ e me e1 X G)) hs c) fun _ _ _ q => tAsgG_of q
theorem semNm_ok {E : SemE} (S : SoundE E) {o : Op} {Γ : Ga} {X : Cx} (G : Good Γ X) {x : Str} {px pos : Pos} {e : Expr} {m : Sm} (h : semNm E o Γ x px e = some m) : PS X (.Assign [.Name x px] e pos) (rdM m) := by
  unfold semNm at h
  obtain ⟨j, hj, h⟩ := bsome h
  cases hy : popOf e with
  | some y =>
    rw [hy] at h
    obtain ⟨i, hi, rfl⟩ := msome h
    obtain ⟨py, ap, p, rfl, hl⟩ := popOf_some hy
    obtain ⟨a, b, c⟩ := slotL_ok G hj
    have pe : PE X (.Call (.Attribute (.Name y py) "pop" ap) [] [] p) (tBM0 X.K "list" rPop (tVar i)) := pe_bm0 F.plainAttrs_list F.slot_list_pop F.type_list_pop mt_pop (pe_slot G hi) rfl hl
    exact PS.imp (ps_set G.nd a b pe (swap_of rfl _ _ _) c) fun _ _ _ q => tPop_of q
  | none =>
    rw [hy] at h
    cases e with
    | ListComp elt gs scope p =>
      dsimp only at h
      split at h
      · rename_i hk
        split at h
        · rename_i hsw
          obtain ⟨⟨tg, iter, ifs⟩, e1, h⟩ := bsome h
          obtain ⟨w, e2, h⟩ := bsome h
          obtain ⟨me, e3, rfl⟩ := msome h
          have eg := one_some e1
          subst eg
          have hd := semH_ok S G e2
          obtain ⟨a, b, c⟩ := slotL_ok G hj
          have hloc : X.env.scope.names.lookup x = some .local := by
            unfold swE at hsw
            rw [Bool.and_eq_true, Bool.and_eq_true] at hsw
            exact isLoc_ok G hsw.1.1
          have hsw' : swapsWith (.ListComp elt [⟨tg, iter, ifs, 0⟩] scope p) (some (.Name x px)) pos.line X.env = pure true := by
            rw [swE_lc G hk, hsw]
          have ps := ps_setLc G.calm G.nd a hloc hsw' hd.pi hd.ok hd.pg hd.pt (fun s H C cl fp => (S _ elt me e3 _ (good_blk G s H scope C cl fp)).pe) hd.fold (py := px) (pos := p) (spos := pos)
          rw [← hd.vs] at ps
          refine PS.imp ps fun D σ H q => ?_
          unfold mSet' at q
          split at q
          · exact tLc_ofF hd.idx (fun _ _ _ z => z) (fun _ _ _ z => z) (tAsg_ofF q)
          · exact tLc_of hd.idx (fun _ _ _ z => z) (fun _ _ _ z => z) (tAsg_of q)
        · rename_i hsw
          refine semNm_set S G hj ?_ h
          rw [swE_lc G hk, Bool.eq_false_iff.mpr hsw]
      · cases h
    | DictComp kx vx gs scope p =>
      dsimp only at h
      split at h
      · rename_i hc
        refine semNm_set S G hj ?_ h
        rw [swE_dc G hc.1, hc.2]
      · cases h
    | SetComp a b c d => cases h
    | _ => exact semNm_set S G hj (swap_of rfl _ _ _) h
end VM
/-! V23: the text read: statements, blocks, defs -/
namespace VM
open PySem PySem.Spec PyProof.Rows L2

/-! ### a, b = .. -/
def semT2 (E : SemE) (o : Op) (Γ : Ga) (x y : Str) (ts : List Expr) (a b : Expr) : Option Sm :=
  (slotL Γ x).bind fun i => (slotL Γ y).bind fun j => (E Γ a).bind fun ma => (E Γ b).bind fun mb => if i = j then none else match swB Γ ts [a, b] with
    | some none => some (mPar2 i j (frM o x a) (frM o y b) ma mb)
    | some (some ns) => if ns = [x, y] ∧ isLoc Γ.sc x = true ∧ isLoc Γ.sc y = true then some (mPar2 i j (frM o x a) (frM o y b) ma mb) else none
    | none => none
theorem semT2_ok {E : SemE} (S : SoundE E) {o : Op} {Γ : Ga} {X : Cx} (G : Good Γ X) {x y : Str} {px py pt p2 pos : Pos} {kt k2 : Nat} {a b : Expr} {m : Sm} (h : semT2 E o Γ x y [.Name x px, .Name y py] a b = some m) :
    PS X (.Assign [.Tuple [.Name x px, .Name y py] kt pt] (.Tuple [a, b] k2 p2) pos) (rdM m) := by
  unfold semT2 at h
  obtain ⟨i, hi, h⟩ := bsome h
  obtain ⟨j, hj, h⟩ := bsome h
  obtain ⟨ma, e1, h⟩ := bsome h
  obtain ⟨mb, e2, h⟩ := bsome h
  split at h
  · cases h
  rename_i hij
  have ba := S Γ a ma e1 X G
  have bb := S Γ b mb e2 X G
  obtain ⟨a1, a2, a3⟩ := slotL_ok G hi
  obtain ⟨b1, b2, b3⟩ := slotL_ok G hj
  have pa : PA X [a, b] (tCons (rdG (frM o x a) ma) (tCons (rdG (frM o y b) mb) tNil)) := pa_cons (pe_G ba) (pa_cons (pe_G bb) pa_nil (star1 bb.ns [] X.env)) (star1 ba.ns [b] X.env)
  split at h
  · rename_i hw
    cases h
    exact PS.imp (ps_asg (pe_tup pa) (pg_tup G.calm (pgs_cons (pg_name G.nd a1 a2 a3) (pgs_cons (pg_name G.nd b1 b2 b3) pgs_nil rfl) rfl) rfl rfl) rfl (swB_ok G hw) rfl) fun _ _ _ q => tPar_ofT q
  · rename_i ns hw
    split at h
    · rename_i hc
      cases h
      obtain ⟨rfl, c1, c2⟩ := hc
      exact PS.imp (ps_par G.calm G.nd a1 b1 hij (isLoc_ok G c1) (isLoc_ok G c2) pa (swB_ok G hw) rfl) fun _ _ _ q => tPar_of q
    · cases h
  · cases h
def semT3 (E : SemE) (o : Op) (Γ : Ga) (x y z : Str) (ts : List Expr) (a b c : Expr) : Option Sm :=
  (slotL Γ x).bind fun i => (slotL Γ y).bind fun j => (slotL Γ z).bind fun l => (E Γ a).bind fun ma => (E Γ b).bind fun mb => (E Γ c).bind fun mc => if i = j ∨ i = l ∨ j = l then none else match swB Γ ts [a, b, c] with
    | some none => some (mPar3 i j l (frM o x a) (frM o y b) (frM o z c) ma mb mc)
    | some (some ns) => if ns = [x, y, z] ∧ isLoc Γ.sc x = true ∧ isLoc Γ.sc y = true ∧ isLoc Γ.sc z = true then some (mPar3 i j l (frM o x a) (frM o y b) (frM o z c) ma mb mc) else none
    | none => none
theorem semT3_ok {E : SemE} (S : SoundE E) {o : Op} {Γ : Ga} {X : Cx} (G : Good Γ X) {x y z : Str} {px py pz pt p2 pos : Pos} {kt k2 : Nat} {a b c : Expr} {m : Sm} (h : semT3 E o Γ x y z [.Name x px, .Name y py, .Name z pz] a b c = some m) :
    PS X (.Assign [.Tuple [.Name x px, .Name y py, .Name z pz] kt pt] (.Tuple [a, b, c] k2 p2) pos) (rdM m) := by
  unfold semT3 at h
  obtain ⟨i, hi, h⟩ := bsome h
  obtain ⟨j, hj, h⟩ := bsome h
  obtain ⟨l, hl, h⟩ := bsome h
  obtain ⟨ma, e1, h⟩ := bsome h
  obtain ⟨mb, e2, h⟩ := bsome h
  obtain ⟨mc, e3, h⟩ := bsome h
  split at h
  · cases h
  rename_i hn
  rw [not_or, not_or] at hn
  have ba := S Γ a ma e1 X G
  have bb := S Γ b mb e2 X G
  have bc := S Γ c mc e3 X G
  obtain ⟨a1, a2, a3⟩ := slotL_ok G hi
  obtain ⟨b1, b2, b3⟩ := slotL_ok G hj
  obtain ⟨c1, c2, c3⟩ := slotL_ok G hl
  have pa : PA X [a, b, c] (tCons (rdG (frM o x a) ma) (tCons (rdG (frM o y b) mb) (tCons (rdG (frM o z c) mc) tNil))) := pa_cons (pe_G ba) (pa_cons (pe_G bb) (pa_cons (pe_G bc) pa_nil (star1 bc.ns [] X.env)) (star1 bb.ns [c] X.env)) (star1 ba.ns [b, c] X.env)
  split at h
  · rename_i hw
    cases h
    exact PS.imp (ps_asg (pe_tup pa) (pg_tup G.calm (pgs_cons (pg_name G.nd a1 a2 a3) (pgs_cons (pg_name G.nd b1 b2 b3) (pgs_cons (pg_name G.nd c1 c2 c3) pgs_nil rfl) rfl) rfl) rfl rfl) rfl (swB_ok G hw) rfl) fun _ _ _ q => tPar3_ofT q
  · rename_i ns hw
    split at h
    · rename_i hc
      cases h
      obtain ⟨rfl, d1, d2, d3⟩ := hc
      exact PS.imp (ps_par3 G.calm G.nd a1 b1 c1 hn.1 hn.2.1 hn.2.2 (isLoc_ok G d1) (isLoc_ok G d2) (isLoc_ok G d3) pa (swB_ok G hw) rfl) fun _ _ _ q => tPar3_of q
    · cases h
  · cases h
/-- what kind of assignment -/
inductive AsgK where
  | nm (x : Str) (px : Pos)
  | t2 (x y : Str) (px py : Pos)
  | t3 (x y z : Str) (px py pz : Pos)
  | unp
  | sub (y : Str) (k : Expr)
  | no
def asgK : Expr → Expr → AsgK
  | .Name x px, _ => .nm x px
  | .Tuple [.Name x px, .Name y py] _ _, .Tuple [_, _] _ _ => .t2 x y px py
  | .Tuple [.Name x px, .Name y py, .Name z pz] _ _, .Tuple [_, _, _] _ _ => .t3 x y z px py pz
  | .Tuple _ _ _, .Tuple _ _ _ => .no
  | .Tuple _ _ _, _ => .unp
  | .Subscript (.Name y _) k _, _ => .sub y k
  | _, _ => .no
def vals2 : Expr → Option (Expr × Expr)
  | .Tuple [a, b] _ _ => some (a, b)
  | _ => none
def vals3 : Expr → Option (Expr × Expr × Expr)
  | .Tuple [a, b, c] _ _ => some (a, b, c)
  | _ => none
theorem swp_none {t e : Expr} (h : tupEB e = false) (env : Env) : swappedStores [t] e env = pure none := by
  unfold swappedStores
  cases e <;> first | (cases t <;> rfl) | cases h
def semA (E : SemE) (o : Op) (Γ : Ga) (t e : Expr) : Option Sm := match asgK t e with
  | .nm x px => semNm E o Γ x px e
  | .t2 x y px py => (vals2 e).bind fun v => semT2 E o Γ x y [.Name x px, .Name y py] v.1 v.2
  | .t3 x y z px py pz => (vals3 e).bind fun v => semT3 E o Γ x y z [.Name x px, .Name y py, .Name z pz] v.1 v.2.1 v.2.2
  | .unp => if tupEB e = true then none else (tgN 8 Γ t).bind fun g => (E Γ e).map fun m => mUnp g m
  | .sub y k => (slot Γ y).bind fun i => (E Γ k).bind fun mk => (E Γ e).map fun mv => mPutD i mk mv
  | .no => none
theorem semA_ok {E : SemE} (S : SoundE E) {o : Op} {Γ : Ga} {X : Cx} (G : Good Γ X) {t e : Expr} {pos : Pos} {m : Sm} (h : semA E o Γ t e = some m) : PS X (.Assign [t] e pos) (rdM m) := by
  have hu := G.hu
  unfold semA at h
  cases ak : asgK t e with
  | no => rw [ak] at h; cases h
  | nm x px =>
    rw [ak] at h
    have : t = .Name x px := by
      unfold asgK at ak
      split at ak <;> cases ak
      rfl
    subst this
    exact semNm_ok S G h
  | t2 x y px py =>
    rw [ak] at h
    obtain ⟨⟨a, b⟩, ev, h⟩ := bsome h
    have : ∃ kt pt k2 p2, t = .Tuple [.Name x px, .Name y py] kt pt ∧ e = .Tuple [a, b] k2 p2 := by
      unfold asgK at ak
      split at ak <;> cases ak
      cases ev
      exact ⟨_, _, _, _, rfl, rfl⟩
    obtain ⟨kt, pt, k2, p2, rfl, rfl⟩ := this
    exact semT2_ok S G h
  | t3 x y z px py pz =>
    rw [ak] at h
    obtain ⟨⟨a, b, c⟩, ev, h⟩ := bsome h
    have : ∃ kt pt k2 p2, t = .Tuple [.Name x px, .Name y py, .Name z pz] kt pt ∧ e = .Tuple [a, b, c] k2 p2 := by
      unfold asgK at ak
      split at ak <;> cases ak
      cases ev
      exact ⟨_, _, _, _, rfl, rfl⟩
    obtain ⟨kt, pt, k2, p2, rfl, rfl⟩ := this
    exact semT3_ok S G h
  | unp =>
    rw [ak] at h
    dsimp only at h
    split at h
    · cases h
    rename_i hte
    obtain ⟨g, e1, h⟩ := bsome h
    obtain ⟨me, e2, rfl⟩ := msome h
    have ht : tupEB t = true := by
      unfold asgK at ak
      split at ak <;> cases ak <;> rfl
    obtain ⟨pg, ns⟩ := tgN_ok G e1
    have nn : ∀ x p, t ≠ .Name x p := fun x p z => by rw [z] at ht; cases ht
    exact PS.imp (ps_asg (S Γ e me e2 X G).pe pg (swap_notName nn _ _) (swp_none (Bool.eq_false_iff.mpr hte) _) (by rw [asg1 ns]; rfl)) fun _ _ _ q => tUnp_of q
  | sub y k =>
    rw [ak] at h
    obtain ⟨i, e1, h⟩ := bsome h
    obtain ⟨mk, e2, h⟩ := bsome h
    obtain ⟨mv, e3, rfl⟩ := msome h
    have : ∃ py p, t = .Subscript (.Name y py) k p := by
      unfold asgK at ak
      split at ak <;> cases ak
      exact ⟨_, _, rfl⟩
    obtain ⟨py, p, rfl⟩ := this
    exact PS.imp (ps_dput (by omega) (pe_slot G e1) (S Γ k mk e2 X G).pe (S Γ e mv e3 X G).pe (swap_notName (fun _ _ z => by cases z) _ _)) fun _ _ _ q => sDPut_of q
/-! ### expressions as statements -/
theorem few1 {a : Expr} {env : Env} {pos : Pos} (h : starB a = false) : ((backTo pos (starEach [a] env)).all (fun x => !x.1) && (backToKw pos (keywordEach [] env)).all (fun x => x.1.isSome) && decide (([a] : List Expr).length + ([] : List Keyword).length + (if ([] : List Keyword).isEmpty then 0 else 1) < 30)) = true := by
  rw [star_all (by rw [List.any_cons, h]; rfl)]
  rfl
def semX (E : SemE) (o : Op) (Γ : Ga) (e : Expr) : Option Sm := match callK e with
  | .at_ (.Name y _) m [a] => (slot Γ y).bind fun i => (semL E Γ [a]).bind fun ms =>
      if m = "append" then some (mMeth fAppend i ms) else if m = "extend" then some (mMeth fExtend i ms) else if m = "update" then some (mMeth fUpdate i ms) else none
  | _ => if compB e = true then none else (E Γ e).map mDrop
theorem semX_ok {E : SemE} (S : SoundE E) {o : Op} {Γ : Ga} {X : Cx} (G : Good Γ X) {e : Expr} {pos : Pos} {m : Sm} (h : semX E o Γ e = some m) : PS X (.Expr e pos) (rdM m) := by
  unfold semX at h
  split at h
  · rename_i y py q a ck
    obtain ⟨i, e1, h1⟩ := bsome h
    obtain ⟨ms, e2, h2⟩ := bsome h1
    clear h h1
    obtain ⟨pa, ns⟩ := semL_ok S G e2
    rw [List.any_cons, Bool.or_eq_false_iff] at ns
    obtain ⟨ap, p, rfl, hl⟩ := callK_at ck
    by_cases c1 : q = "append"
    · rw [if_pos c1] at h2
      subst c1
      cases h2
      exact PS.imp (ps_expr (pe_bm F.plainAttrs_list F.slot_list_append F.type_list_append mt_append (pe_slot G e1) pa rfl (few1 ns.1) hl (star1 ns.1 [] X.env) rfl) (swap_of rfl _ _ _)) fun _ _ _ z => tMeth_of append_V append_ty z
    rw [if_neg c1] at h2
    by_cases c2 : q = "extend"
    · rw [if_pos c2] at h2
      subst c2
      cases h2
      exact PS.imp (ps_expr (pe_bm F.plainAttrs_list F.slot_list_extend F.type_list_extend mt_extend (pe_slot G e1) pa rfl (few1 ns.1) hl (star1 ns.1 [] X.env) rfl) (swap_of rfl _ _ _)) fun _ _ _ z => tMeth_of extend_V extend_ty z
    rw [if_neg c2] at h2
    by_cases c3 : q = "update"
    · rw [if_pos c3] at h2
      subst c3
      cases h2
      exact PS.imp (ps_expr (pe_bm F.plainAttrs_dict F.slot_dict_update F.type_dict_update mt_upd (pe_slot G e1) pa rfl (few1 ns.1) hl (star1 ns.1 [] X.env) rfl) (swap_of rfl _ _ _)) fun _ _ _ z => tMeth_of update_V update_ty z
    rw [if_neg c3] at h2
    cases h2
  · split at h
    · cases h
    · rename_i hc
      obtain ⟨me, e1, rfl⟩ := msome h
      exact PS.imp (ps_expr (S Γ e me e1 X G).pe (swap_of (Bool.eq_false_iff.mpr hc) _ _ _)) fun _ _ _ z => tDrop_of z
theorem swap_sub {e a b : Expr} {p : Pos} (l : Nat) (env : Env) : swapsWithSole [.Subscript a b p] e l env = pure false := by
  show swapsWith e (some (.Subscript a b p)) l env = pure false
  exact swap_notName (t := .Subscript a b p) (fun x q z => by cases z) l env
theorem swp_sub {e a b : Expr} {p : Pos} (env : Env) : swappedStores [.Subscript a b p] e env = pure none := by
  unfold swappedStores
  cases e <;> rfl
/-! ### the spring's parts are written -/
def strmS (E : SemE) (Γ : Ga) (t e : Expr) : Option Sm := Γ.dr.bind fun x => match t with
  | .Subscript (.Name y _) (.Constant (.int k) _ _) _ => if y = x then (slot Γ y).bind fun i => (E Γ e).map fun m => mStSet i k m else none
  | .Name z _ => (match e with
    | .Call (.Attribute (.Subscript (.Name y _) (.Constant (.int 0) _ _) _) q ap) [.Constant (.int 0) _ _] [] p => if y = x ∧ q = "pop" ∧ (ap.endLine == p.line) = true then (slot Γ y).bind fun i => (slotL Γ z).map fun j => mStPop j i else none
    | _ => none)
  | _ => none
theorem strmS_ok {E : SemE} (S : SoundE E) {Γ : Ga} {X : Cx} (G : Good Γ X) {t e : Expr} {pos : Pos} {m : Sm} (h : strmS E Γ t e = some m) : PS X (.Assign [t] e pos) (rdM m) := by
  unfold strmS at h
  obtain ⟨x, e0, h⟩ := bsome h
  split at h
  · split at h
    · obtain ⟨i, e1, h⟩ := bsome h
      obtain ⟨me, e2, rfl⟩ := msome h
      exact PS.imp (ps_asg (S Γ e me e2 X G).pe (pg_sub (pe_slot G e1) pe_int set_list (by intro _; rfl)) (swap_sub _ _) (swp_sub _) rfl) fun _ _ _ q => tStSet_of q
    · cases h
  · split at h
    · split at h
      · rename_i c
        obtain ⟨i, e1, h⟩ := bsome h
        obtain ⟨j, e2, rfl⟩ := msome h
        obtain ⟨_, c2, c3⟩ := c
        subst c2
        obtain ⟨a, b, c⟩ := slotL_ok G e2
        exact PS.imp (ps_set G.nd a b (pe_bm F.plainAttrs_list F.slot_list_pop F.type_list_pop mt_popAt (pe_ix ix_list (pe_slot G e1) pe_int (plain_of rfl)) (pa_cons pe_int pa_nil rfl) (base_of rfl _ _ _) rfl c3 rfl rfl) (swap_of rfl _ _ _) c) fun _ _ _ q => tStPop_of q
      · cases h
    · cases h
  · cases h
/-! ### return [own.pop(e) for ..] -/
def semPop (E : SemE) (Γ : Ga) (e : Expr) : Option Sm := match e with
  | .ListComp elt gs scope _ => (match callK elt with
    | .at_ (.Name y _) q [a] => if q = "pop" then (one gs).bind fun w => if w.2.2 = [] then (semH E Γ w.1 w.2.1 w.2.2 scope).bind fun h => (slot (inBlk Γ scope) y).bind fun i => (E (inBlk Γ scope) a).map fun me => mPopC i h.mi h.tg me h.vs else none else none
    | _ => none)
  | _ => none
theorem semPop_ok {E : SemE} (S : SoundE E) {Γ : Ga} {X : Cx} (G : Good Γ X) {e : Expr} {pos : Pos} {m : Sm} (h : semPop E Γ e = some m) : PS X (.Return (some e) pos) (rdM m) := by
  unfold semPop at h
  split at h
  · rename_i elt gs scope p
    split at h
    · rename_i y py q a ck
      split at h
      · rename_i hq
        obtain ⟨⟨tg, iter, ifs⟩, e1, h⟩ := bsome h
        split at h
        · rename_i hi
          obtain ⟨w, e2, h⟩ := bsome h
          obtain ⟨i, e3, h⟩ := bsome h
          obtain ⟨me, e4, rfl⟩ := msome h
          obtain ⟨ap, p', rfl, hl⟩ := callK_at ck
          subst hq
          have eg := one_some e1
          subst eg
          dsimp only at hi
          subst hi
          have hd := semH_ok S G e2
          have pe := pe_lc (te := tBM X.K "list" rPopAt (tVar i) (tCons (rd me) tNil)) (tt := tYes) (pos := p) G.calm G.nd hd.pi hd.ok hd.pg (fun s H C cl fp => pts_nil) (fun s H C cl fp => by
            have G' := good_blk G s H scope C cl fp
            have b := S _ a me e4 _ G'
            exact pe_bm F.plainAttrs_list F.slot_list_pop F.type_list_pop mt_popAt (pe_slot (pos := py) G' e3) (pa_cons b.pe pa_nil (star1 b.ns [] _)) rfl (few1 b.ns) hl (star1 b.ns [] _) rfl) hd.fold
          rw [← hd.vs] at pe
          exact PS.imp (ps_ret pe) fun _ _ _ z => tPopC_of hd.idx z
        · cases h
      · cases h
    · cases h
  · cases h
/-! ### statements -/
def augF : Operator → Option (T → T → Option T)
  | .Add => some fIadd
  | .Sub => some fIsub
  | _ => none
theorem augF_ok {X : Cx} {op : Operator} {f : T → T → Option T} (h : augF op = some f) : PIp X op (R2of (op2 f)) := by
  unfold augF at h
  split at h <;> cases h
  · exact ip_addV
  · exact ip_subV
def fuelW : Nat := 1000000
def semBlk (f : Stmt → Option Sm) : List Stmt → Option Sm
  | [] => some mNx
  | [s] => f s
  | s :: ss => (f s).bind fun a => (semBlk f ss).map fun b => mSeq a b
theorem semBlk_ok {X : Cx} {f : Stmt → Option Sm} (hf : ∀ s m, f s = some m → PS X s (rdM m)) : ∀ {ss : List Stmt} {m : Sm}, semBlk f ss = some m → PSs X ss (rdM m)
  | [], m, h => by cases h; exact PSs.imp pss_nil fun _ _ _ q => tNext_of q
  | [s], m, h => pss_one (hf s m h)
  | s :: s2 :: ss, m, h => by
    unfold semBlk at h
    obtain ⟨a, e1, h⟩ := bsome h
    obtain ⟨b, e2, rfl⟩ := msome h
    exact PSs.imp (pss_cons (hf s a e1) (semBlk_ok hf e2)) fun _ _ _ q => tSeq_of q
def orMNo (f : Stmt → Option Sm) (s : Stmt) : Option Sm := some ((f s).getD mNo)
theorem orMNo_ok {X : Cx} {f : Stmt → Option Sm} (hf : ∀ s m, f s = some m → PS X s (rdM m)) (s : Stmt) (m : Sm) (h : orMNo f s = some m) : PS X s (rdM m) := by
  unfold orMNo at h
  cases e : f s with
  | none =>
    rw [e] at h
    cases h
    exact PS.imp ps_never fun _ _ _ q => tNever_of q
  | some k =>
    rw [e] at h
    cases h
    exact hf s _ e
def semS (E : SemE) (o : Op) (Γ : Ga) : Nat → Stmt → Option Sm
  | 0, _ => none
  | n + 1, st => match st with
    | .Pass _ => some mNx
    | .Break _ => some mBk
    | .Continue _ => some mCt
    | .Raise _ _ _ => some mNo
    | .Return none _ => some mRetN
    | .Return (some e) _ => (match semPop E Γ e with
      | some m => some m
      | none => (E Γ e).map fun m => frzIf (slots Γ (o.mv)) (mRet m))
    | .Assign ts e _ => (match ts with
      | [t] => (match strmS E Γ t e with
        | some m => some m
        | none => (semA E o Γ t e).map fun m => frzIf (slots Γ (nmOf [e] ++ esc o 12 e)) m)
      | _ => none)
    | .AugAssign (.Name x _) op e _ => (slotL Γ x).bind fun i => (augF op).bind fun f => (E Γ e).map fun m => frzIf (slots Γ (esc o 12 e)) (mAug i f m)
    | .Expr e _ => (semX E o Γ e).map fun m => frzIf (slots Γ (esc o 12 e ++ (match e with
      | .Call (.Attribute _ _ _) es _ _ => nmOf es
      | _ => []))) m
    | .If c a b _ => (E Γ c).bind fun mc => (semBlk (orMNo (semS E o Γ n)) a).bind fun ma => (semBlk (orMNo (semS E o Γ n)) b).map fun mb => frzIf (slots Γ (esc o 12 c)) (mIf mc ma mb)
    | .While c b els _ => (match els with
      | [] => (E Γ c).bind fun mc => (semBlk (orMNo (semS E o Γ n)) b).map fun mb => mWhile fuelW mc mb
      | _ => none)
    | .For t it b els _ => (match els with
      | [] => if setB it = true then none else (semI E Γ t it).bind fun mi => (tgN 8 Γ t).bind fun g => (semBlk (orMNo (semS E o Γ n)) b).map fun mb => frzIf (slots Γ (nmOf [it] ++ esc o 12 it ++ (match it with
        | .Call (.Name _ _) es _ _ => nmOf es
        | .Call (.Attribute a _ _) _ _ _ => nmOf [a]
        | _ => []))) (mFor mi g mb)
      | _ => none)
    | _ => none
theorem passes {Γ : Ga} {X : Cx} (G : Good Γ X) : PassesOwn (model X.prog X.w) X.A X.env X.xe := by
  rw [G.xe]
  exact PassesOwn.never
theorem semS_ok {E : SemE} (S : SoundE E) {o : Op} {Γ : Ga} {X : Cx} (G : Good Γ X) : ∀ (n : Nat) (st : Stmt) (m : Sm), semS E o Γ n st = some m → PS X st (rdM m)
  | 0, _, _, h => nomatch h
  | n + 1, st, m, h => by
    have ih := orMNo_ok (semS_ok S (o := o) G n)
    cases st with
    | Pass p => cases h; exact PS.imp ps_pass fun _ _ _ q => tNext_of q
    | Break p => cases h; exact PS.imp ps_break fun _ _ _ q => tBreak_of q
    | Continue p => cases h; exact PS.imp ps_continue fun _ _ _ q => tCont_of q
    | Raise a b p => cases h; exact PS.imp ps_never fun _ _ _ q => tNever_of q
    | Return e p =>
      cases e with
      | none => cases h; exact PS.imp ps_retN fun _ _ _ q => tRetN_of q
      | some e =>
        simp only [semS] at h
        split at h
        · rename_i es
          cases h
          exact semPop_ok S G es
        · obtain ⟨me, e1, rfl⟩ := msome h
          exact PS.frz (PS.imp (ps_ret (S Γ e me e1 X G).pe) fun _ _ _ q => tRet_of q) _
    | Assign ts e p =>
      simp only [semS] at h
      split at h
      · split at h
        · rename_i es
          cases h
          exact strmS_ok S G es
        · obtain ⟨m1, e1, rfl⟩ := msome h
          exact PS.frz (semA_ok S G e1) _
      · cases h
    | AugAssign t op e p =>
      cases t with
      | Name x px =>
        obtain ⟨i, e1, h⟩ := bsome h
        obtain ⟨f, e2, h⟩ := bsome h
        obtain ⟨me, e3, rfl⟩ := msome h
        obtain ⟨a, b, c⟩ := slotL_ok G e1
        exact PS.frz (PS.imp (ps_aug G.nd a b (S Γ e me e3 X G).pe (augF_ok e2) c) fun _ _ _ q => tAug_of q) _
      | _ => cases h
    | Expr e p =>
      obtain ⟨m1, e1, rfl⟩ := msome h
      exact PS.frz (semX_ok S G e1) _
    | If c a b p =>
      obtain ⟨mc, e1, h⟩ := bsome h
      obtain ⟨ma, e2, h⟩ := bsome h
      obtain ⟨mb, e3, rfl⟩ := msome h
      exact PS.frz (PS.imp (ps_if (S Γ c mc e1 X G).pt (semBlk_ok ih e2) (semBlk_ok ih e3)) fun _ _ _ q => tIfS_of q) _
    | While c b els p =>
      simp only [semS] at h
      split at h
      · obtain ⟨mc, e1, h⟩ := bsome h
        obtain ⟨mb, e2, rfl⟩ := msome h
        exact PS.imp (ps_while (passes G) (S Γ c mc e1 X G).pt (semBlk_ok ih e2)) fun _ _ _ q => tWhile_of q
      · cases h
    | For t it b els p =>
      simp only [semS] at h
      split at h
      · split at h
        · cases h
        · rename_i hs
          obtain ⟨mi, e1, h⟩ := bsome h
          obtain ⟨g, e2, h⟩ := bsome h
          obtain ⟨mb, e3, rfl⟩ := msome h
          exact PS.frz (PS.imp (ps_for (passes G) G.calm (semI_ok S G e1) (tgN_ok G e2).1 (semBlk_ok ih e3) (fold_of (Bool.eq_false_iff.mpr hs) X.env)) fun _ _ _ q => tFor_of q) _
      · cases h
    | _ => cases h
end VM
/-! V24: defs -/
namespace VM
open PySem PySem.Spec PyProof.Rows L2

def fnDen (n N : Nat) (body : Sm) : Den := fun as g => if as.length = n then (body (as ++ List.replicate (N - n) .un) g).bind fun r => match r.1 with
  | .rt t => some (t, r.2.2)
  | .nx => some (.none, r.2.2)
  | _ => none
  else none
structure TabOk (P : Program) (w : World) (K : PySem.W.Frag) (mg : Str → Option Value) (base : Heap) (k : Nat) (tab : List (Str × FnI)) : Prop where
  fn : ∀ x i, tab.lookup x = some i → ∃ k' f fd ps, k' ≤ k ∧ FnOk P w K mg base CX0 k' f fd ps (spV i.den) ∧ mg x = some (.ref f) ∧ PySem.W.keepIn K (.ref f) = true ∧ Binds K fd ps []
theorem TabOk.nil {P : Program} {w : World} {K : PySem.W.Frag} {mg : Str → Option Value} {base : Heap} {k : Nat} : TabOk P w K mg base k [] := ⟨fun _ _ h => by cases h⟩
theorem TabOk.cons {P : Program} {w : World} {K : PySem.W.Frag} {mg : Str → Option Value} {base : Heap} {k : Nat} {tab : List (Str × FnI)} {y : Str} {j : FnI} {f : Addr} {fd : FuncData} {ps : List Str} (t : TabOk P w K mg base k tab)
    (F : FnOk P w K mg base CX0 (k + 1) f fd ps (spV j.den)) (hm : mg y = some (.ref f)) (hk : PySem.W.keepIn K (.ref f) = true) (hb : Binds K fd ps []) : TabOk P w K mg base (k + 1) ((y, j) :: tab) := by
  refine ⟨fun x i h => ?_⟩
  rw [List.lookup_cons] at h
  by_cases e : x = y
  · subst e
    have hh : (x == x) = true := beq_self_eq_true x
    rw [hh] at h
    cases h
    exact ⟨k + 1, f, fd, ps, Nat.le_refl _, F, hm, hk, hb⟩
  · have hh : (x == y) = false := beq_eq_false_iff_ne.mpr e
    rw [hh] at h
    obtain ⟨k', f', fd', ps', h1, h2⟩ := t.fn x i h
    exact ⟨k', f', fd', ps', Nat.le_succ_of_le h1, h2⟩
theorem fnOk_none {P : Program} {w : World} {K : PySem.W.Frag} {mg : Str → Option Value} {base : Heap} {k : Nat} {f : Addr} {fd : FuncData} {ps : List Str} : FnOk P w K mg base CX0 k f fd ps (spV fun _ _ => none) :=
  ⟨fun vs H Q E h => (by obtain ⟨_, _, _, _, _, _, _, _, _, e, _⟩ := h; cases e), fun A outer s H args us vs Q E _ _ _ _ h => (by obtain ⟨_, _, _, _, _, _, _, _, _, e, _⟩ := h; cases e)⟩
theorem TabOk.mono {P : Program} {w : World} {K : PySem.W.Frag} {mg : Str → Option Value} {base : Heap} {k k2 : Nat} {tab : List (Str × FnI)} (t : TabOk P w K mg base k tab) (h : k ≤ k2) : TabOk P w K mg base k2 tab := ⟨fun x i e => by
  obtain ⟨k', f, fd, ps, h1, h2⟩ := t.fn x i e
  exact ⟨k', f, fd, ps, Nat.le_trans h1 h, h2⟩⟩
/-- .. a def at its own level -/
theorem TabOk.consR {P : Program} {w : World} {K : PySem.W.Frag} {mg : Str → Option Value} {base : Heap} {k n : Nat} {tab : List (Str × FnI)} {y : Str} {j : FnI} {f : Addr} {fd : FuncData} {ps : List Str} (t : TabOk P w K mg base k tab)
    (F : FnOk P w K mg base CX0 (k + n) f fd ps (spV j.den)) (hm : mg y = some (.ref f)) (hk : PySem.W.keepIn K (.ref f) = true) (hb : Binds K fd ps []) : TabOk P w K mg base (k + n) ((y, j) :: tab) := by
  refine ⟨fun x i h => ?_⟩
  rw [List.lookup_cons] at h
  by_cases e : x = y
  · subst e
    have hh : (x == x) = true := beq_self_eq_true x
    rw [hh] at h
    cases h
    exact ⟨k + n, f, fd, ps, Nat.le_refl _, F, hm, hk, hb⟩
  · have hh : (x == y) = false := beq_eq_false_iff_ne.mpr e
    rw [hh] at h
    obtain ⟨k', f', fd', ps', h1, h2⟩ := t.fn x i h
    exact ⟨k', f', fd', ps', Nat.le_trans h1 (Nat.le_add_right _ _), h2⟩
theorem getv_start {N : List Str} {vs : List V} {i : Nat} : getv (L2.start N vs) i = vs[i]? := by
  unfold getv L2.start
  rw [List.getElem?_append]
  split
  · rename_i h
    rw [List.getElem?_map]
    cases vs[i]? <;> rfl
  · rename_i h
    rw [List.length_map] at h
    rw [List.getElem?_eq_none (Nat.le_of_not_lt h), List.getElem?_replicate]
    split <;> rfl
theorem gets_start {as : List Sl} {n i : Nat} : gets (as ++ List.replicate n .un) i = as.getD i .un := by
  unfold gets
  rw [List.getD_eq_getElem?_getD, List.getD_eq_getElem?_getD, List.getElem?_append]
  split
  · rfl
  · rename_i h
    rw [List.getElem?_eq_none (Nat.le_of_not_lt h), List.getElem?_replicate]
    split <;> rfl
theorem ArgsOk.at {S : Sp2} {H : Hp} {F : Addr → Prop} : ∀ {as : List Sl} {vs : List V} (i : Nat), ArgsOk S H F as vs → SlOk H F S (as.getD i .un) vs[i]? ∧ isOw (as.getD i .un) = false
  | _, _, i, .nil => by simp [SlOk, isOw]
  | _, _, 0, .cons ha h l => by
    refine ⟨by simpa using h, ?_⟩
    simp only [List.getD_cons_zero]
    rename_i a v as vs
    cases a <;> first | rfl | cases ha
  | _, _, i + 1, .cons ha h l => by
    have := ArgsOk.at i l
    simpa using this
theorem rv_start {S : Sp2} {F : Addr → Prop} {H : Hp} {g : G} {as : List Sl} {vs : List V} {N : List Str} (h : ArgsOk S H F as vs) (d : dF F H) (st : StmAt H F S g) (hl : vs.length ≤ N.length) : RV S F g (as ++ List.replicate (N.length - vs.length) .un) (L2.start N vs) H := by
  have l := h.len
  refine ⟨?_, d, st, fun i => ?_, fun i j a h1 => ?_⟩
  · unfold L2.start
    simp [l]
  · rw [gets_start, getv_start]
    exact (h.at i).1
  · rw [gets_start, (h.at i).2] at h1
    cases h1
theorem own_start {as : List Sl} {vs : List V} {N : List Str} {S : Sp2} {H : Hp} {F : Addr → Prop} (h : ArgsOk S H F as vs) {n : Nat} (a : Addr) : ¬ OwnA (as ++ List.replicate n .un) (L2.start N vs) a := fun ⟨i, h1, _⟩ => by
  rw [gets_start, (h.at i).2] at h1
  cases h1
theorem GoR.start {as : List Sl} {vs : List V} {N : List Str} {S : Sp2} {H H' : Hp} {F F' : Addr → Prop} {n : Nat} (h : ArgsOk S H F as vs) (a : GoR S (as ++ List.replicate n .un) (L2.start N vs) F H F' H') : Mv S F H F' H' :=
  ⟨⟨a.sub, fun x f => (a.new x f).imp id fun z => z.resolve_right (own_start h x)⟩, a.kp.mono fun x z => z.resolve_right (own_start h x)⟩
/-- a def by its text -/
theorem fn_ok {P : Program} {w : World} {K : PySem.W.Frag} {mg : Str → Option Value} {base : Heap} {k : Nat} {x qual : Str} {params : Arguments} {body : List Stmt} {scope : Scope} {kws : List (Str × V)} {f : Addr} {fd : FuncData} {N ps : List Str} {tab : List (Str × FnI)} {o : Op} {m : Sm} {n1 n2 : Nat} {dr : Option Str}
    (F : FunD K x qual params body scope [] kws f fd) (Sc : FnScope N ps scope) (hb : ∀ x ∈ bnames, mg x = none) (t : TabOk P w K mg base k tab)
    (h : semBlk (orMNo (semS (semE n1) o ⟨N, scope, fun _ => true, tab, dr⟩ n2)) body = some m) : FnOk P w K mg base CX0 (k + 1) f fd ps (spV (fnDen ps.length N.length m)) := by
  have hN : ps.length ≤ N.length := by
    have := congrArg List.length Sc.pre
    rw [List.length_take] at this
    omega
  refine F.ok Sc (fun vs H Q E hs => ?_) (fun cdv A outer s H vs Q E hr hs => ?_)
  · obtain ⟨S, F0, as, g, r, g', ha, _, _, e, _⟩ := hs
    unfold fnDen at e
    split at e
    · rename_i hl
      rw [← ha.len, hl]
    · cases e
  · obtain ⟨S, F0, as, g, r, g', ha, d, st, e, post⟩ := hs
    have G : Good ⟨N, scope, fun _ => true, tab, dr⟩ (cxOf CX0 P w K mg base N qual scope f cdv A outer s H E).nox := by
      refine ⟨rfl, rfl, Sc.nd, rfl, rfl, fun _ _ => rfl, ?_, hb, fun y i hy => ?_⟩
      · have := hr.un
        show (A.deeper _).units + 100 < cLine
        omega
      · obtain ⟨k', f', fd', ps', h1, h2, h3, h4, h5⟩ := t.fn y i hy
        exact ⟨k', f', fd', ps', h2, hr.mono h1, h3, h4, h5⟩
    refine ⟨rdM m, PSs.nox (semBlk_ok (orMNo_ok (semS_ok (semE_ok n1) G n2)) h), ?_⟩
    unfold fnDen at e
    split at e
    · rename_i hl
      obtain ⟨⟨fl, sl', g2⟩, e1, e2⟩ := bsome e
      have hv : vs.length = ps.length := by rw [← ha.len, hl]
      refine ⟨S, F0, _, g, fl, sl', g2, rv_start ha d st (by omega), by rw [hv]; exact e1, ?_⟩
      cases fl with
      | nx =>
        cases e2
        exact fun F' σ' H' a r' => post F' .non H' (GoR.start ha a.toGoR) r'.d r'.st .none
      | rt t =>
        cases e2
        exact fun F' v H' a d' st' v' => post F' v H' (GoR.start ha a) d' st' v'
      | bk => cases e2
      | ct => cases e2
    · cases e
end VM
/-! V25: the law's own def: the spring is made, the rest is read -/
namespace VM
open PySem PySem.Spec PyProof.Rows L2

def startT (body : List Stmt) : Bool := match body with
  | [.Return (some (.List [.Call (.Name f _) [.Name x _] [] _, .Constant (.int a) _ _, .Constant (.int b) _ _, .Constant (.int c) _ _] _)) _] => decide (f = "list") && decide (x = "script") && decide (a = 0) && decide (b = 0) && decide (c = 61)
  | _ => false
def startS (st : Stmt) : Bool := match st with
  | .Assign [.Name x _] (.Call (.Name f _) [.Name y _] [] _) _ => decide (x = "stream") && decide (f = "_law_start") && decide (y = "script")
  | _ => false
def spStart (K : PySem.W.Frag) : Sp := fun vs H Q _ => ∃ (a : Addr) (ns : List Int), vs = [.ref a] ∧ SqL K H a (ns.map V.int) ∧
  ∀ b s, H b = none → upd H b (.lst (ns.map V.int)) s = none → Q (.ref s) (upd (upd H b (.lst (ns.map V.int))) s (.lst [.ref b, .int 0, .int 0, .int 61]))
theorem start_ok {P : Program} {w : World} {K : PySem.W.Frag} {mg : Str → Option Value} {base : Heap} {x qual : Str} {params : Arguments} {body : List Stmt} {scope : Scope} {kws : List (Str × V)} {f : Addr} {fd : FuncData}
    (F : FunD K x qual params body scope [] kws f fd) (Sc : FnScope ["script"] ["script"] scope) (hm : mg "list" = none) (hg : gloB scope "list" = true) (hl : visB scope "script" = true) (hb : startT body = true) : FnOk P w K mg base CX0 1 f fd ["script"] (spStart K) := by
  unfold startT at hb
  split at hb
  case h_2 => cases hb
  simp only [Bool.and_eq_true, decide_eq_true_eq] at hb
  obtain ⟨⟨⟨⟨rfl, rfl⟩, rfl⟩, rfl⟩, rfl⟩ := hb
  refine F.ok Sc (fun vs H Q E h => ?_) (fun cdv A outer s H vs Q E hr h => ⟨tRet (tLst (tCons (tCB (fun xs H Q => ∃ p ys, xs = [.ref p] ∧ (SqL K H p ys ∨ SqT K H p ys) ∧ ∀ l, H l = none → Q (.ref l) (upd H l (.lst ys))) (tCons (tVar 0) tNil)) (tCons (tC (.int 0)) (tCons (tC (.int 0)) (tCons (tC (.int 61)) tNil))))), PSs.nox ?_, ?_⟩)
  · obtain ⟨a, ns, rfl, _⟩ := h
    rfl
  · have gl : Gl (cxOf CX0 P w K mg base ["script"] qual scope f cdv A outer s H E).nox "list" := by
      unfold gloB at hg
      split at hg
      · assumption
      · cases hg
    have vs : Vis (cxOf CX0 P w K mg base ["script"] qual scope f cdv A outer s H E).nox.env.scope "script" := visB_ok hl
    exact pss_one (ps_ret (pe_lst (pa_cons (pe_callTy call_list_of gl hm boot_list (pa_cons (pe_var (i := 0) rfl vs) pa_nil)) (pa_cons pe_int (pa_cons pe_int (pa_cons pe_int pa_nil))))))
  · obtain ⟨a, ns, rfl, hS, q⟩ := h
    refine ⟨.ref a, rfl, a, ns.map V.int, rfl, .inl hS, fun b hb => ⟨(by rw [sizeLine_eq]; simp : ([V.ref b, .int 0, .int 0, .int 61] : List V).length ≤ sizeLine), fun s hs => q b s hb hs⟩⟩
/-- the law: what its rest does with the spring -/
def lawSl (N : List Str) (j : Nat) : Sls := (List.replicate N.length Sl.un).set j .stm
def spLaw (K : PySem.W.Frag) (Pr : List Int → Prop) : Sp := fun vs H Q _ => ∃ (a : Addr) (ns : List Int), vs = [.ref a] ∧ SqL K H a (ns.map V.int) ∧ Pr ns ∧ ∀ H', Q (.bl true) H'
theorem law_ok {P : Program} {w : World} {K : PySem.W.Frag} {mg : Str → Option Value} {base : Heap} {k : Nat} {x qual : Str} {params : Arguments} {body rest : List Stmt} {st0 : Stmt} {scope : Scope} {kws : List (Str × V)} {f fS : Addr} {fd fdS : FuncData} {N : List Str} {tab : List (Str × FnI)} {o : Op} {m : Sm} {n1 n2 j : Nat} {Pr : List Int → Prop}
    (F : FunD K x qual params body scope [] kws f fd) (Sc : FnScope N ["script"] scope) (hb : ∀ x ∈ bnames, mg x = none) (t : TabOk P w K mg base k tab)
    (hst : startS st0 = true) (hbody : body = st0 :: rest)
    (FS : FnOk P w K mg base CX0 1 fS fdS ["script"] (spStart K)) (hS : mg "_law_start" = some (.ref fS)) (kS : PySem.W.keepIn K (.ref fS) = true) (bS : Binds K fdS ["script"] [])
    (hg : gloB scope "_law_start" = true) (hv : visB scope "script" = true) (hN0 : N[0]? = some ("script" : Str)) (hj : slotL ⟨N, scope, fun _ => true, tab, none⟩ "stream" = some j)
    (h : semBlk (orMNo (semS (semE n1) o ⟨N, scope, fun _ => true, tab, none⟩ n2)) rest = some m) (hk : 1 ≤ k)
    (pure_ : ∀ ns, Pr ns → ∃ sl' g', m (lawSl N j) (some ⟨ns, 0, 0, 61⟩) = some (.rt (.bool true), sl', g')) : FnOk P w K mg base CX0 (k + 1) f fd ["script"] (spLaw K Pr) := by
  subst hbody
  unfold startS at hst
  split at hst
  case h_2 => cases hst
  simp only [Bool.and_eq_true, decide_eq_true_eq] at hst
  obtain ⟨⟨rfl, rfl⟩, rfl⟩ := hst
  refine F.ok Sc (fun vs H Q E hs => ?_) (fun cdv A outer s H vs Q E hr hs => ?_)
  · obtain ⟨a, ns, rfl, _⟩ := hs
    rfl
  · obtain ⟨a, ns, rfl, hq, hp, q⟩ := hs
    have G : Good ⟨N, scope, fun _ => true, tab, none⟩ (cxOf CX0 P w K mg base N qual scope f cdv A outer s H E).nox := by
      refine ⟨rfl, rfl, Sc.nd, rfl, rfl, fun _ _ => rfl, ?_, hb, fun y i hy => ?_⟩
      · have := hr.un
        show (A.deeper _).units + 100 < cLine
        omega
      · obtain ⟨k', f', fd', ps', h1, h2, h3, h4, h5⟩ := t.fn y i hy
        exact ⟨k', f', fd', ps', h2, hr.mono h1, h3, h4, h5⟩
    obtain ⟨s1, s2, s3⟩ := slotL_ok G hj
    refine ⟨tSeq (tAsg (tCall (spStart K) [] E0 (tCons (tVar 0) tNil)) (gName j)) (rdM m), PSs.nox (pss_cons (ps_set G.nd s1 s2 (pe_call FS (hr.mono hk) (gloB_ok G hg) hS kS bS .nil pass0 (pa_cons (pe_var (i := 0) hN0 (by rw [G.sc]; exact visB_ok hv)) pa_nil) (by decide +kernel)) (by rfl) s3) (semBlk_ok (orMNo_ok (semS_ok (semE_ok n1) G n2)) h)), ?_⟩
    have hlen : 1 ≤ N.length := by
      rcases N with _ | ⟨y, ys⟩
      · cases hN0
      · simp
    refine ⟨.ref a, ?_, a, ns, rfl, hq, fun b st hb0 hs0 => ?_⟩
    · show (L2.start N [.ref a])[0]? = _
      simp [L2.start]
    · obtain ⟨sl', g', e⟩ := pure_ ns hp
      have hne : st ≠ b := fun z => by rw [z, upd_same] at hs0; cases hs0
      have sm : StmAt (upd (upd H b (.lst (ns.map V.int))) st (.lst [.ref b, .int 0, .int 0, .int 61])) (fun _ => False) (some (st, b)) (some ⟨ns, 0, 0, 61⟩) :=
        ⟨hne, (fun z => z), (fun z => z), upd_same, by rw [upd_ne (Ne.symm hne), upd_same]⟩
      have hj2 : j < N.length := by
        have : N[j]? = some _ := s1
        rcases Nat.lt_or_ge j N.length with z | z
        · exact z
        · rw [List.getElem?_eq_none z] at this; cases this
      have ls : (L2.start N [V.ref a]).length = N.length := by
        simp [L2.start]
        omega
      have gun : ∀ i, gets (List.replicate N.length Sl.un) i = .un := fun i => by
        unfold gets
        rw [List.getD_eq_getElem?_getD, List.getElem?_replicate]
        split <;> rfl
      have rv : RV (some (st, b)) (fun _ => False) (some ⟨ns, 0, 0, 61⟩) (lawSl N j) ((L2.start N [V.ref a]).set j (some (.ref st))) (upd (upd H b (.lst (ns.map V.int))) st (.lst [.ref b, .int 0, .int 0, .int 61])) := by
        refine ⟨by simp [lawSl, ls], fun _ z => z.elim, sm, fun i => ?_, fun i l c h1 => ?_⟩
        · unfold lawSl
          rw [gets_set, getv_set, ls, List.length_replicate]
          split
          · exact ⟨b, rfl⟩
          · rw [gun]
            trivial
        · unfold lawSl at h1
          rw [gets_set, gun] at h1
          split at h1 <;> cases h1
      refine ⟨_, _, _, _, _, _, _, rv, e, fun F' v H' _ _ _ hv' => ?_⟩
      have : v = .bl true := Bt.bool (.inl hv')
      subst this
      exact q H'
end VM
/-! P1: what the read terms come to, in plain words -/
namespace VM
open PySem L2

theorem gets_0 (x : Sl) (xs : Sls) : gets (x :: xs) 0 = x := rfl
theorem gets_s (x : Sl) (xs : Sls) (n : Nat) : gets (x :: xs) (n + 1) = gets xs n := rfl
/-- a comprehension whose parts draw nothing -/
theorem lc_pure {tg : Tg} {mt me : Ex} {sl : Sls} {g : G} (b : T → Sls) (p : T → Bool) (q : T → T) : ∀ {xs : List T}, (∀ x ∈ xs, bindT tg x sl = some (b x) ∧ mt (b x) g = some ((.bool (p x), false), g) ∧ (p x = true → me (b x) g = some ((q x, false), g))) →
    lcGo tg mt me sl xs g = some ((xs.filter p).map q, g)
  | [], _ => rfl
  | x :: xs, h => by
    obtain ⟨h1, h2, h3⟩ := h x (.head _)
    have ih := lc_pure b p q fun y hy => h y (.tail _ hy)
    unfold lcGo
    rw [h1]
    simp only [Option.bind_some, h2, boolOf]
    cases hp : p x with
    | true =>
      rw [if_pos rfl, h3 hp]
      simp only [Option.bind_some, clean, ih, Option.map_some]
      rw [List.filter_cons_of_pos hp, List.map_cons]
    | false =>
      rw [if_neg Bool.false_ne_true, ih, List.filter_cons_of_neg (by rw [hp]; exact Bool.false_ne_true)]
/-- .. that takes all -/
theorem lc_all {tg : Tg} {me : Ex} {sl : Sls} {g : G} (b : T → Sls) (q : T → T) {xs : List T} (h : ∀ x ∈ xs, bindT tg x sl = some (b x) ∧ me (b x) g = some ((q x, false), g)) : lcGo tg (eLit (.bool true)) me sl xs g = some (xs.map q, g) := by
  have := lc_pure (mt := eLit (.bool true)) b (fun _ => true) q (xs := xs) (g := g) fun x hx => ⟨(h x hx).1, rfl, fun _ => (h x hx).2⟩
  rw [this]
  congr 2
  rw [List.filter_eq_self.mpr (fun _ _ => rfl)]
theorem putD_new {ds : List (T × T)} {k v : T} (h : ∀ p ∈ ds, PyData.eqv p.1 k = false) : putD ds k v = ds ++ [(k, v)] := by
  unfold putD
  rw [if_neg]
  intro c
  obtain ⟨p, hp, e⟩ := List.any_eq_true.mp c
  rw [h p hp] at e
  cases e
/-- a dict comprehension with unlike keys -/
theorem dc_pure {tg : Tg} {mt mk me : Ex} {sl : Sls} {g : G} (b : T → Sls) (p : T → Bool) (k q : T → T) : ∀ {xs : List T} {ds : List (T × T)}, (∀ x ∈ xs, bindT tg x sl = some (b x) ∧ mt (b x) g = some ((.bool (p x), false), g) ∧ (p x = true → mk (b x) g = some ((k x, false), g) ∧ (keyOf (k x)).isSome = true ∧ me (b x) g = some ((q x, false), g))) →
    (xs.filter p).Pairwise (fun x y => PyData.eqv (k x) (k y) = false) → (∀ x ∈ xs.filter p, ∀ d ∈ ds, PyData.eqv d.1 (k x) = false) → ds.length + xs.length ≤ cap →
    dcGo tg mt mk me sl xs ds g = some (ds ++ (xs.filter p).map (fun x => (k x, q x)), g)
  | [], ds, _, _, _, _ => by simp [dcGo]
  | x :: xs, ds, h, hw, hd, hl => by
    obtain ⟨h1, h2, h3⟩ := h x (.head _)
    rw [List.length_cons] at hl
    unfold dcGo
    rw [h1]
    simp only [Option.bind_some, h2, boolOf]
    cases hp : p x with
    | true =>
      obtain ⟨e1, e2, e3⟩ := h3 hp
      rw [List.filter_cons_of_pos hp] at hw hd ⊢
      rw [if_pos rfl, e1]
      obtain ⟨kk, ek⟩ := Option.isSome_iff_exists.mp e2
      simp only [Option.bind_some, ek, e3, clean]
      rw [if_pos (by omega), putD_new (hd x (.head _))]
      have ih := dc_pure b p k q (xs := xs) (ds := ds ++ [(k x, q x)]) (fun y hy => h y (.tail _ hy)) (List.pairwise_cons.mp hw).2 (fun y hy d hd' => by
        rcases List.mem_append.mp hd' with z | z
        · exact hd y (.tail _ hy) d z
        · rw [List.mem_singleton.mp z]
          exact (List.pairwise_cons.mp hw).1 y hy) (by rw [List.length_append, List.length_singleton]; omega)
      rw [ih, List.map_cons, List.append_assoc]
      rfl
    | false =>
      rw [List.filter_cons_of_neg (by rw [hp]; exact Bool.false_ne_true)] at hw hd ⊢
      rw [if_neg Bool.false_ne_true]
      exact dc_pure b p k q (fun y hy => h y (.tail _ hy)) hw hd (by omega)
/-- a loop by an invariant -/
theorem for_inv {tg : Tg} {mb : Sm} (I : List T → Sls → G → Prop) (step : ∀ x xs sl g, I (x :: xs) sl g → ∃ sl1 sl2 g2 f, bindT tg x sl = some sl1 ∧ mb sl1 g = some (f, sl2, g2) ∧ (f = .nx ∨ f = .ct) ∧ I xs sl2 g2) :
    ∀ (xs : List T) (sl : Sls) (g : G), I xs sl g → ∃ sl' g', forGo tg mb xs sl g = some (.nx, sl', g') ∧ I [] sl' g'
  | [], sl, g, h => ⟨sl, g, rfl, h⟩
  | x :: xs, sl, g, h => by
    obtain ⟨sl1, sl2, g2, f, e1, e2, hf, h2⟩ := step x xs sl g h
    obtain ⟨sl', g', e3, h3⟩ := for_inv I step xs sl2 g2 h2
    refine ⟨sl', g', ?_, h3⟩
    unfold forGo
    rw [e1]
    simp only [Option.bind_some, e2]
    rcases hf with rfl | rfl <;> exact e3
theorem intsOf_map (is : List Int) : intsOf (is.map PyData.int) = some is := by
  induction is with
  | nil => rfl
  | cons i is ih => rw [List.map_cons, intsOf, ih]; rfl
theorem boolsOf_map (is : List Bool) : boolsOf (is.map PyData.bool) = some is := by
  induction is with
  | nil => rfl
  | cons i is ih => rw [List.map_cons, boolsOf, ih]; rfl
theorem keyStrs_map (is : List Str) : keyStrs (is.map PyData.str) = some is := by
  induction is with
  | nil => rfl
  | cons i is ih => rw [List.map_cons, keyStrs, ih]; rfl
/-! ### the spring -/
def LIM : Int := 2 ^ 40
/-- at least k draws are left -/
def Bud (k : Nat) (g : G) : Prop := ∃ ds : DS, g = some ds ∧ ds.cells.length ≤ 63 ∧ 0 ≤ ds.cnt ∧ ds.cnt + k ≤ LIM ∧ 0 ≤ ds.mix ∧ ds.mix < 2147483647 ∧ 0 ≤ ds.left
theorem Bud.mono {k j : Nat} {g : G} (h : Bud k g) (l : j ≤ k) : Bud j g := by
  obtain ⟨ds, e, a, b, c, d⟩ := h
  exact ⟨ds, e, a, b, by omega, d⟩
theorem Bud.start {ns : List Int} (h : ns.length ≤ 63) {k : Nat} (hk : k ≤ 1000000) : Bud k (some ⟨ns, 0, 0, 61⟩) := ⟨_, rfl, h, Int.le_refl 0, (by show (0 : Int) + k ≤ 2 ^ 40; omega), (by show (0 : Int) ≤ 61; decide), (by show (61 : Int) < 2147483647; decide), Int.le_refl 0⟩
end VM
/-! P2: small laws of operations; a draw -/
namespace VM
open PySem L2

theorem shaped_int (i : Int) : SeqAt.shaped (.int i) = true := by simp [SeqAt.shaped, PyData.canLay0, PyData.depth]
theorem shaped_str {x : Str} (h : PyData.strOk x = true) : SeqAt.shaped (.str x) = true := by simp [SeqAt.shaped, PyData.canLay0, PyData.depth, h]
theorem shaped_bool (x : Bool) : SeqAt.shaped (.bool x) = true := by simp [SeqAt.shaped, PyData.canLay0, PyData.depth]
theorem eqv_int (i j : Int) : PyData.eqv (.int i) (.int j) = decide (i = j) := by
  simp only [PyData.eqv]
  rw [Bool.eq_iff_iff]
  simp
theorem eqv_str (x y : Str) : PyData.eqv (.str x) (.str y) = decide (x = y) := by
  rw [Bool.eq_iff_iff]
  simp [PyData.eqv]
theorem bEq_int (i j : Int) : bEq (.int i) (.int j) = some (tb (decide (i = j))) := by
  simp [bEq, eqB, shaped_int, eqv_int]
theorem bNe_int (i j : Int) : bNe (.int i) (.int j) = some (tb (!decide (i = j))) := by
  simp [bNe, eqB, shaped_int, eqv_int]
theorem bEq_str {i j : Str} (h : PyData.strOk i = true) (k : PyData.strOk j = true) : bEq (.str i) (.str j) = some (tb (decide (i = j))) := by
  simp [bEq, eqB, shaped_str h, shaped_str k, eqv_str]
theorem bNe_str {i j : Str} (h : PyData.strOk i = true) (k : PyData.strOk j = true) : bNe (.str i) (.str j) = some (tb (!decide (i = j))) := by
  simp [bNe, eqB, shaped_str h, shaped_str k, eqv_str]
theorem bPow_eq {i j : Int} (h : 0 ≤ j ∧ j ≤ 1000000 ∧ i.natAbs < 2 ^ 64) : bPow (.int i) (.int j) = some (.int (i ^ j.toNat)) := by
  simp only [bPow]
  rw [if_pos h]
theorem bMul_eq {i j : Int} (h : small64 i = true ∨ small64 j = true) : bMul (.int i) (.int j) = some (.int (i * j)) := by
  simp only [bMul]
  rw [if_pos h]
theorem bMod_eq {i j : Int} (h : 0 < j) : bMod (.int i) (.int j) = some (.int (i % j)) := by
  simp only [bMod]
  rw [if_pos h]
theorem bDiv_eq {i j : Int} (h : 0 < j ∧ j < 1073741824) : bDiv (.int i) (.int j) = some (.int (i / j)) := by
  simp only [bDiv]
  rw [if_pos h]
/-! ### a draw -/
def wCond : Ex := eAnd (eOp bEq (eSt 0 1) (eLit (.int 0))) (eStNe 0)
def wBody : Sm := mSeq (mStPop 3 0)
  (mSeq (mStSet 0 3 (eOp bMod (eBi (bi1 intB) (aCons (eOp bAdd (eOp bAdd (eOp bMul (eSt 0 3) (eLit (.int 69313))) (eVar 3)) (eLit (.int 31))) aNil)) (eLit (.int 2147483647))))
  (mStSet 0 1 (eIf (eOp bGe (eVar 3) (eOp bPow (eLit (.int 10)) (eLit (.int 18)))) (eVar 3) (eLit (.int 0)))))
def iPart : Sm := frzIf [] (mIf (eOp bGt (eSt 0 1) (eLit (.int 0)))
  (mSeq (frzIf [] (mSet' false 4 (eOp bMod (eBi (bi1 intB) (aCons (eSt 0 1) aNil)) (eVar 1))))
  (mSeq (mStSet 0 1 (eOp bDiv (eSt 0 1) (eVar 1)))
  (frzIf [0] (mRet (eVar 4)))))
  mNx)
def mPart : Sm := frzIf [] (mSet' false 2 (eOp bMod (eBi (bi1 intB) (aCons (eOp bPow (eOp bAdd (eOp bAdd (eSt 0 3) (eOp bMul (eLit (.int 9041)) (eSt 0 2))) (eLit (.int 171007))) (eLit (.int 5))) aNil)) (eLit (.int 2147483629))))
def rPart : Sm := frzIf [0] (mRet (eOp bMod (eOp bMod (eBi (bi1 intB) (aCons (eOp bPow (eOp bAdd (eOp bAdd (eOp bMul (eVar 2) (eLit (.int 56003))) (eOp bMul (eLit (.int 73013)) (eSt 0 2))) (eLit (.int 53))) (eLit (.int 3))) aNil)) (eLit (.int 1000000007))) (eVar 1)))
def mDraw : Sm := mSeq (mStSet 0 2 (eOp bAdd (eSt 0 2) (eLit (.int 1)))) (mSeq (mWhile fuelW wCond wBody) (mSeq iPart (mSeq mPart rPart)))
def dDraw : Den := fnDen 2 5 mDraw
theorem mSeq_nx {a b : Sm} {sl sl1 : Sls} {g g1 : G} (h : a sl g = some (.nx, sl1, g1)) : mSeq a b sl g = b sl1 g1 := by
  unfold mSeq
  rw [h]
  rfl
theorem mSeq_rt {a b : Sm} {sl sl1 : Sls} {g g1 : G} {t : T} (h : a sl g = some (.rt t, sl1, g1)) : mSeq a b sl g = some (.rt t, sl1, g1) := by
  unfold mSeq
  rw [h]
  rfl
def dSl (m : Int) (x : Sl) : Sls := [.stm, .cl (.int m), .un, x, .un]
theorem wCond_eq (m : Int) (x : Sl) (ds : DS) : wCond (dSl m x) (some ds) = some ((.bool (decide (ds.left = 0) && !ds.cells.isEmpty), false), some ds) := by
  unfold wCond eAnd
  have h1 : eOp bEq (eSt 0 1) (eLit (.int 0)) (dSl m x) (some ds) = some ((.bool (decide (ds.left = 0)), false), some ds) := by
    show ((bEq (.int ds.left) (.int 0)).map fun t => ((t, false), some ds)) = _
    rw [bEq_int]
    rfl
  rw [h1]
  simp only [Option.bind_some, boolOf]
  cases h : decide (ds.left = 0) with
  | true => rfl
  | false => rfl
theorem wBody_eq (m : Int) (x : Sl) (ds : DS) (c : Int) (cs : List Int) (hc : ds.cells = c :: cs) (h0 : 0 ≤ ds.mix) (h1 : ds.mix < 2147483647) :
    wBody (dSl m x) (some ds) = some (.nx, dSl m (.cl (.int c)), some { cells := cs, left := if 10 ^ 18 ≤ c then c else 0, cnt := ds.cnt, mix := (ds.mix * 69313 + c + 31) % 2147483647 }) := by
  obtain ⟨cells, left, cnt, mix⟩ := ds
  dsimp only at hc h0 h1
  subst hc
  have a1 : mStPop 3 0 (dSl m x) (some ⟨c :: cs, left, cnt, mix⟩) = some (.nx, dSl m (.cl (.int c)), some ⟨cs, left, cnt, mix⟩) := rfl
  have hm : bMul (.int mix) (.int 69313) = some (.int (mix * 69313)) := by
    exact if_pos (show small64 mix = true ∨ small64 69313 = true from .inr (by decide))
  have a2 : mStSet 0 3 (eOp bMod (eBi (bi1 intB) (aCons (eOp bAdd (eOp bAdd (eOp bMul (eSt 0 3) (eLit (.int 69313))) (eVar 3)) (eLit (.int 31))) aNil)) (eLit (.int 2147483647))) (dSl m (.cl (.int c))) (some ⟨cs, left, cnt, mix⟩) =
      some (.nx, dSl m (.cl (.int c)), some ⟨cs, left, cnt, (mix * 69313 + c + 31) % 2147483647⟩) := by
    have e1 : eOp bMul (eSt 0 3) (eLit (.int 69313)) (dSl m (.cl (.int c))) (some ⟨cs, left, cnt, mix⟩) = some ((.int (mix * 69313), false), some ⟨cs, left, cnt, mix⟩) := by
      show ((bMul (.int mix) (.int 69313)).map fun t => ((t, false), _)) = _
      rw [hm]
      rfl
    have e2 : eBi (bi1 intB) (aCons (eOp bAdd (eOp bAdd (eOp bMul (eSt 0 3) (eLit (.int 69313))) (eVar 3)) (eLit (.int 31))) aNil) (dSl m (.cl (.int c))) (some ⟨cs, left, cnt, mix⟩) = some ((.int (mix * 69313 + c + 31), false), some ⟨cs, left, cnt, mix⟩) := by
      unfold eBi aCons
      have : eOp bAdd (eOp bAdd (eOp bMul (eSt 0 3) (eLit (.int 69313))) (eVar 3)) (eLit (.int 31)) (dSl m (.cl (.int c))) (some ⟨cs, left, cnt, mix⟩) = some ((.int (mix * 69313 + c + 31), false), some ⟨cs, left, cnt, mix⟩) := by
        show (((eOp bMul (eSt 0 3) (eLit (.int 69313)) (dSl m (.cl (.int c))) (some ⟨cs, left, cnt, mix⟩)).bind fun a => (eVar 3 (dSl m (.cl (.int c))) a.2).bind fun b => (bAdd a.1.1 b.1.1).map fun t => ((t, false), b.2)).bind fun a => (eLit (.int 31) (dSl m (.cl (.int c))) a.2).bind fun b => (bAdd a.1.1 b.1.1).map fun t => ((t, false), b.2)) = _
        rw [e1]
        rfl
      rw [this]
      rfl
    unfold mStSet
    rw [if_pos (show isStm (gets (dSl m (.cl (.int c))) 0) = true from rfl)]
    have e3 : eOp bMod (eBi (bi1 intB) (aCons (eOp bAdd (eOp bAdd (eOp bMul (eSt 0 3) (eLit (.int 69313))) (eVar 3)) (eLit (.int 31))) aNil)) (eLit (.int 2147483647)) (dSl m (.cl (.int c))) (some ⟨cs, left, cnt, mix⟩) = some ((.int ((mix * 69313 + c + 31) % 2147483647), false), some ⟨cs, left, cnt, mix⟩) := by
      show ((eBi (bi1 intB) (aCons (eOp bAdd (eOp bAdd (eOp bMul (eSt 0 3) (eLit (.int 69313))) (eVar 3)) (eLit (.int 31))) aNil) (dSl m (.cl (.int c))) (some ⟨cs, left, cnt, mix⟩)).bind fun a => (eLit (.int 2147483647) (dSl m (.cl (.int c))) a.2).bind fun b => (bMod a.1.1 b.1.1).map fun t => ((t, false), b.2)) = _
      rw [e2]
      rfl
    rw [e3]
    rfl
  have hp : bPow (.int 10) (.int 18) = some (.int (10 ^ 18)) := by
    exact bPow_eq (by decide)
  have a3 : mStSet 0 1 (eIf (eOp bGe (eVar 3) (eOp bPow (eLit (.int 10)) (eLit (.int 18)))) (eVar 3) (eLit (.int 0))) (dSl m (.cl (.int c))) (some ⟨cs, left, cnt, (mix * 69313 + c + 31) % 2147483647⟩) =
      some (.nx, dSl m (.cl (.int c)), some ⟨cs, if 10 ^ 18 ≤ c then c else 0, cnt, (mix * 69313 + c + 31) % 2147483647⟩) := by
    have e1 : eOp bGe (eVar 3) (eOp bPow (eLit (.int 10)) (eLit (.int 18))) (dSl m (.cl (.int c))) (some ⟨cs, left, cnt, (mix * 69313 + c + 31) % 2147483647⟩) = some ((.bool (decide (10 ^ 18 ≤ c)), false), some ⟨cs, left, cnt, (mix * 69313 + c + 31) % 2147483647⟩) := by
      show (((bPow (.int 10) (.int 18)).map fun t => ((t, false), _)).bind fun b => (bGe (.int c) b.1.1).map fun t => ((t, false), b.2)) = _
      rw [hp]
      rfl
    unfold mStSet eIf
    rw [if_pos (show isStm (gets (dSl m (.cl (.int c))) 0) = true from rfl), e1]
    simp only [Option.bind_some, boolOf]
    by_cases h : (10 : Int) ^ 18 ≤ c
    · rw [decide_eq_true h, if_pos rfl, if_pos h]
      rfl
    · rw [decide_eq_false h, if_neg Bool.false_ne_true, if_neg h]
      rfl
  unfold wBody mSeq
  rw [a1]
  simp only [Option.bind_some]
  rw [a2]
  simp only [Option.bind_some]
  exact a3
/-- what the cells come to -/
theorem while_eq (m : Int) : ∀ (cs : List Int) (n : Nat) (x : Sl) (ds : DS), cs.length < n → ds.cells = cs → 0 ≤ ds.mix → ds.mix < 2147483647 → 0 ≤ ds.left →
    ∃ x' ds', whileGo wCond wBody n (dSl m x) (some ds) = some (.nx, dSl m x', some ds') ∧ ds'.cells.length ≤ cs.length ∧ ds'.cnt = ds.cnt ∧ 0 ≤ ds'.mix ∧ ds'.mix < 2147483647 ∧ 0 ≤ ds'.left := by
  intro cs
  induction cs with
  | nil =>
    intro n x ds hn hc h0 h1 h2
    obtain ⟨k, rfl⟩ : ∃ k, n = k + 1 := ⟨n - 1, by simp at hn; omega⟩
    refine ⟨x, ds, ?_, by rw [hc]; exact Nat.le_refl _, rfl, h0, h1, h2⟩
    unfold whileGo
    rw [wCond_eq, hc]
    simp [boolOf]
  | cons c cs ih =>
    intro n x ds hn hc h0 h1 h2
    obtain ⟨k, rfl⟩ : ∃ k, n = k + 1 := ⟨n - 1, by simp at hn; omega⟩
    by_cases hl : ds.left = 0
    · have hb := wBody_eq m x ds c cs hc h0 h1
      have hm0 : 0 ≤ (ds.mix * 69313 + c + 31) % 2147483647 := Int.emod_nonneg _ (by decide)
      have hm1 : (ds.mix * 69313 + c + 31) % 2147483647 < 2147483647 := Int.emod_lt_of_pos _ (by decide)
      obtain ⟨x', ds', e, a, b, d⟩ := ih k (.cl (.int c)) { cells := cs, left := if 10 ^ 18 ≤ c then c else 0, cnt := ds.cnt, mix := (ds.mix * 69313 + c + 31) % 2147483647 } (by simp at hn; omega) rfl hm0 hm1 (by
        show (0 : Int) ≤ if 10 ^ 18 ≤ c then c else 0
        split
        · rename_i q
          exact Int.le_trans (by decide) q
        · decide)
      refine ⟨x', ds', ?_, by rw [List.length_cons]; omega, b, d⟩
      unfold whileGo
      rw [wCond_eq, hc]
      simp only [Option.bind_some, boolOf, hl, decide_true, List.isEmpty_cons, Bool.not_false, Bool.and_self, if_true]
      rw [hb]
      simp only [Option.bind_some]
      exact e
    · refine ⟨x, ds, ?_, by rw [hc]; exact Nat.le_refl _, rfl, h0, h1, h2⟩
      unfold whileGo
      rw [wCond_eq]
      simp [boolOf, hl]
theorem small_of {i : Int} (h : 0 ≤ i) (k : i < 2 ^ 64) : small64 i = true := by
  unfold small64
  rw [Bool.and_eq_true]
  exact ⟨decide_eq_true (by omega), decide_eq_true k⟩
/-- a draw from m: at least one is left, m not too great -/
theorem draw_ok {k : Nat} {g : G} {m : Int} (hb : Bud (k + 1) g) (h0 : 0 < m) (h1 : m < 1073741824) : ∃ v g', dDraw [.stm, .cl (.int m)] g = some (.int v, g') ∧ 0 ≤ v ∧ v < m ∧ Bud k g' := by
  obtain ⟨ds, rfl, c1, c2, c3, c4, c5, c6⟩ := hb
  have lim : LIM = 1099511627776 := by decide
  rw [lim] at c3
  have q1 : mStSet 0 2 (eOp bAdd (eSt 0 2) (eLit (.int 1))) (dSl m .un) (some ds) = some (.nx, dSl m .un, some { ds with cnt := ds.cnt + 1 }) := rfl
  obtain ⟨x, ds2, q2, d1, d2, d3, d4, d5⟩ := while_eq m ds.cells fuelW .un { ds with cnt := ds.cnt + 1 } (by unfold fuelW; omega) rfl c4 c5 c6
  have d2 : ds2.cnt = ds.cnt + 1 := d2
  obtain ⟨cells, left, cnt, mix⟩ := ds2
  dsimp only at d1 d2 d3 d4 d5
  have start : dDraw [.stm, .cl (.int m)] (some ds) = (mDraw (dSl m .un) (some ds)).bind fun r => match r.1 with
    | .rt t => some (t, r.2.2)
    | .nx => some (.none, r.2.2)
    | _ => none := rfl
  rw [start]
  have q2 : mWhile fuelW wCond wBody (dSl m .un) (some { ds with cnt := ds.cnt + 1 }) = some (.nx, dSl m x, some ⟨cells, left, cnt, mix⟩) := q2
  unfold mDraw
  rw [mSeq_nx q1, mSeq_nx q2]
  have qc : eOp bGt (eSt 0 1) (eLit (.int 0)) (dSl m x) (some ⟨cells, left, cnt, mix⟩) = some ((.bool (decide (0 < left)), false), some ⟨cells, left, cnt, mix⟩) := rfl
  by_cases hl : 0 < left
  · refine ⟨left % m, some ⟨cells, left / m, cnt, mix⟩, ?_, Int.emod_nonneg _ (by omega), Int.emod_lt_of_pos _ h0, _, rfl, (by show cells.length ≤ 63; omega), (by show 0 ≤ cnt; omega), (by rw [lim]; show cnt + (k : Int) ≤ 1099511627776; omega), d3, d4, Int.ediv_nonneg (by omega) (by omega)⟩
    have r1 : eOp bMod (eBi (bi1 intB) (aCons (eSt 0 1) aNil)) (eVar 1) (dSl m x) (some ⟨cells, left, cnt, mix⟩) = some ((.int (left % m), false), some ⟨cells, left, cnt, mix⟩) := by
      show ((bMod (.int left) (.int m)).map fun t => ((t, false), _)) = _
      rw [bMod_eq h0]
      rfl
    have r2 : eOp bDiv (eSt 0 1) (eVar 1) [.stm, .cl (.int m), .un, x, .cl (.int (left % m))] (some ⟨cells, left, cnt, mix⟩) = some ((.int (left / m), false), some ⟨cells, left, cnt, mix⟩) := by
      show ((bDiv (.int left) (.int m)).map fun t => ((t, false), _)) = _
      rw [bDiv_eq ⟨h0, h1⟩]
      rfl
    have r3 : frzIf [] (mSet' false 4 (eOp bMod (eBi (bi1 intB) (aCons (eSt 0 1) aNil)) (eVar 1))) (dSl m x) (some ⟨cells, left, cnt, mix⟩) = some (.nx, [.stm, .cl (.int m), .un, x, .cl (.int (left % m))], some ⟨cells, left, cnt, mix⟩) := by
      show ((eOp bMod (eBi (bi1 intB) (aCons (eSt 0 1) aNil)) (eVar 1) (dSl m x) (some ⟨cells, left, cnt, mix⟩)).bind fun r => (clean r.1).map fun t => ((.nx : Fl), (dSl m x).set 4 (.cl t), r.2)) = _
      rw [r1]
      rfl
    have r4 : mStSet 0 1 (eOp bDiv (eSt 0 1) (eVar 1)) [.stm, .cl (.int m), .un, x, .cl (.int (left % m))] (some ⟨cells, left, cnt, mix⟩) = some (.nx, [.stm, .cl (.int m), .un, x, .cl (.int (left % m))], some ⟨cells, left / m, cnt, mix⟩) := by
      unfold mStSet
      rw [if_pos (show isStm (gets [.stm, .cl (.int m), .un, x, .cl (.int (left % m))] 0) = true from rfl), r2]
      rfl
    have r5 : frzIf [0] (mRet (eVar 4)) [.stm, .cl (.int m), .un, x, .cl (.int (left % m))] (some ⟨cells, left / m, cnt, mix⟩) = some (.rt (.int (left % m)), [.stm, .cl (.int m), .un, x, .cl (.int (left % m))], some ⟨cells, left / m, cnt, mix⟩) := rfl
    have r6 : iPart (dSl m x) (some ⟨cells, left, cnt, mix⟩) = some (.rt (.int (left % m)), [.stm, .cl (.int m), .un, x, .cl (.int (left % m))], some ⟨cells, left / m, cnt, mix⟩) := by
      unfold iPart
      show mIf _ _ _ (dSl m x) (some ⟨cells, left, cnt, mix⟩) = _
      unfold mIf
      rw [qc]
      simp only [Option.bind_some, boolOf, hl, decide_true, if_true]
      rw [mSeq_nx r3, mSeq_nx r4]
      exact r5
    rw [mSeq_rt r6]
    rfl
  · have hmix : 0 ≤ mix + 9041 * cnt + 171007 := by omega
    have hmix2 : mix + 9041 * cnt + 171007 < 2 ^ 64 := by omega
    generalize hA : (mix + 9041 * cnt + 171007) ^ 5 % 2147483629 = A
    have hA0 : 0 ≤ A := by rw [← hA]; exact Int.emod_nonneg _ (by decide)
    have hA1 : A < 2147483629 := by rw [← hA]; exact Int.emod_lt_of_pos _ (by decide)
    refine ⟨(A * 56003 + 73013 * cnt + 53) ^ 3 % 1000000007 % m, some ⟨cells, left, cnt, mix⟩, ?_, Int.emod_nonneg _ (by omega), Int.emod_lt_of_pos _ h0, _, rfl, (by show cells.length ≤ 63; omega), (by show 0 ≤ cnt; omega), (by rw [lim]; show cnt + (k : Int) ≤ 1099511627776; omega), d3, d4, d5⟩
    have r1 : iPart (dSl m x) (some ⟨cells, left, cnt, mix⟩) = some (.nx, dSl m x, some ⟨cells, left, cnt, mix⟩) := by
      unfold iPart
      show mIf _ _ _ (dSl m x) (some ⟨cells, left, cnt, mix⟩) = _
      unfold mIf
      rw [qc]
      simp only [Option.bind_some, boolOf, hl, decide_false]
      rfl
    rw [mSeq_nx r1]
    have b1 : bMul (.int 9041) (.int cnt) = some (.int (9041 * cnt)) := bMul_eq (.inl (by decide))
    have b2 : bPow (.int (mix + 9041 * cnt + 171007)) (.int 5) = some (.int ((mix + 9041 * cnt + 171007) ^ 5)) := bPow_eq ⟨by decide, by decide, by omega⟩
    have s1 : eOp bMul (eLit (.int 9041)) (eSt 0 2) (dSl m x) (some ⟨cells, left, cnt, mix⟩) = some ((.int (9041 * cnt), false), some ⟨cells, left, cnt, mix⟩) := by
      show ((bMul (.int 9041) (.int cnt)).map fun t => ((t, false), _)) = _
      rw [b1]
      rfl
    have s2 : eOp bAdd (eOp bAdd (eSt 0 3) (eOp bMul (eLit (.int 9041)) (eSt 0 2))) (eLit (.int 171007)) (dSl m x) (some ⟨cells, left, cnt, mix⟩) = some ((.int (mix + 9041 * cnt + 171007), false), some ⟨cells, left, cnt, mix⟩) := by
      show ((((eOp bMul (eLit (.int 9041)) (eSt 0 2) (dSl m x) (some ⟨cells, left, cnt, mix⟩)).bind fun b => (bAdd (.int mix) b.1.1).map fun t => ((t, false), b.2))).bind fun a => (bAdd a.1.1 (.int 171007)).map fun t => ((t, false), a.2)) = _
      rw [s1]
      rfl
    have s3 : eBi (bi1 intB) (aCons (eOp bPow (eOp bAdd (eOp bAdd (eSt 0 3) (eOp bMul (eLit (.int 9041)) (eSt 0 2))) (eLit (.int 171007))) (eLit (.int 5))) aNil) (dSl m x) (some ⟨cells, left, cnt, mix⟩) = some ((.int ((mix + 9041 * cnt + 171007) ^ 5), false), some ⟨cells, left, cnt, mix⟩) := by
      have : eOp bPow (eOp bAdd (eOp bAdd (eSt 0 3) (eOp bMul (eLit (.int 9041)) (eSt 0 2))) (eLit (.int 171007))) (eLit (.int 5)) (dSl m x) (some ⟨cells, left, cnt, mix⟩) = some ((.int ((mix + 9041 * cnt + 171007) ^ 5), false), some ⟨cells, left, cnt, mix⟩) := by
        show ((eOp bAdd (eOp bAdd (eSt 0 3) (eOp bMul (eLit (.int 9041)) (eSt 0 2))) (eLit (.int 171007)) (dSl m x) (some ⟨cells, left, cnt, mix⟩)).bind fun a => (bPow a.1.1 (.int 5)).map fun t => ((t, false), a.2)) = _
        rw [s2]
        simp only [Option.bind_some]
        rw [b2]
        rfl
      unfold eBi aCons
      rw [this]
      rfl
    have s4 : mPart (dSl m x) (some ⟨cells, left, cnt, mix⟩) = some (.nx, [.stm, .cl (.int m), .cl (.int A), x, .un], some ⟨cells, left, cnt, mix⟩) := by
      have : eOp bMod (eBi (bi1 intB) (aCons (eOp bPow (eOp bAdd (eOp bAdd (eSt 0 3) (eOp bMul (eLit (.int 9041)) (eSt 0 2))) (eLit (.int 171007))) (eLit (.int 5))) aNil)) (eLit (.int 2147483629)) (dSl m x) (some ⟨cells, left, cnt, mix⟩) = some ((.int A, false), some ⟨cells, left, cnt, mix⟩) := by
        show ((eBi (bi1 intB) (aCons (eOp bPow (eOp bAdd (eOp bAdd (eSt 0 3) (eOp bMul (eLit (.int 9041)) (eSt 0 2))) (eLit (.int 171007))) (eLit (.int 5))) aNil) (dSl m x) (some ⟨cells, left, cnt, mix⟩)).bind fun a => (bMod a.1.1 (.int 2147483629)).map fun t => ((t, false), a.2)) = _
        rw [s3]
        simp only [Option.bind_some]
        rw [bMod_eq (by decide), hA]
        rfl
      show ((eOp bMod (eBi (bi1 intB) (aCons (eOp bPow (eOp bAdd (eOp bAdd (eSt 0 3) (eOp bMul (eLit (.int 9041)) (eSt 0 2))) (eLit (.int 171007))) (eLit (.int 5))) aNil)) (eLit (.int 2147483629)) (dSl m x) (some ⟨cells, left, cnt, mix⟩)).bind fun r => (clean r.1).map fun t => ((.nx : Fl), (dSl m x).set 2 (.cl t), r.2)) = _
      rw [this]
      rfl
    rw [mSeq_nx s4]
    have b3 : bMul (.int A) (.int 56003) = some (.int (A * 56003)) := bMul_eq (.inr (by decide))
    have b4 : bMul (.int 73013) (.int cnt) = some (.int (73013 * cnt)) := bMul_eq (.inl (by decide))
    have b5 : bPow (.int (A * 56003 + 73013 * cnt + 53)) (.int 3) = some (.int ((A * 56003 + 73013 * cnt + 53) ^ 3)) := bPow_eq ⟨by decide, by decide, by omega⟩
    generalize hsl : ([.stm, .cl (.int m), .cl (.int A), x, .un] : Sls) = sl
    have v2 : eVar 2 sl (some ⟨cells, left, cnt, mix⟩) = some ((.int A, false), some ⟨cells, left, cnt, mix⟩) := by subst hsl; rfl
    have v1 : eVar 1 sl (some ⟨cells, left, cnt, mix⟩) = some ((.int m, false), some ⟨cells, left, cnt, mix⟩) := by subst hsl; rfl
    have vs : eSt 0 2 sl (some ⟨cells, left, cnt, mix⟩) = some ((.int cnt, false), some ⟨cells, left, cnt, mix⟩) := by subst hsl; rfl
    have vf : frz [0] sl = sl := by subst hsl; rfl
    have t1 : eOp bMod (eOp bMod (eBi (bi1 intB) (aCons (eOp bPow (eOp bAdd (eOp bAdd (eOp bMul (eVar 2) (eLit (.int 56003))) (eOp bMul (eLit (.int 73013)) (eSt 0 2))) (eLit (.int 53))) (eLit (.int 3))) aNil)) (eLit (.int 1000000007))) (eVar 1) sl (some ⟨cells, left, cnt, mix⟩) =
        some ((.int ((A * 56003 + 73013 * cnt + 53) ^ 3 % 1000000007 % m), false), some ⟨cells, left, cnt, mix⟩) := by
      simp only [eOp, eBi, aCons, aNil, eLit, v2, v1, vs, Option.bind_some, Option.map_some, b3, b4, b5, bAdd, bi1, intB, clean, bMod_eq h0, bMod_eq (show (0 : Int) < 1000000007 by decide)]
    have t2 : rPart sl (some ⟨cells, left, cnt, mix⟩) = some (.rt (.int ((A * 56003 + 73013 * cnt + 53) ^ 3 % 1000000007 % m)), sl, some ⟨cells, left, cnt, mix⟩) := by
      unfold rPart
      show mRet _ (frz [0] sl) _ = _
      unfold mRet
      rw [vf, t1]
      rfl
    rw [t2]
    rfl
end VM
/-! P3: things in a drawn order -/
namespace VM
open PySem L2

theorem fnDen_rt {n N : Nat} {m : Sm} {as : Sls} {g : G} {t : T} {sl' : Sls} {g' : G} (hl : as.length = n) (h : m (as ++ List.replicate (N - n) .un) g = some (.rt t, sl', g')) : fnDen n N m as g = some (t, g') := by
  unfold fnDen
  rw [if_pos hl, h]
  rfl
theorem fnDen_nx {n N : Nat} {m : Sm} {as : Sls} {g : G} {sl' : Sls} {g' : G} (hl : as.length = n) (h : m (as ++ List.replicate (N - n) .un) g = some (.nx, sl', g')) : fnDen n N m as g = some (.none, g') := by
  unfold fnDen
  rw [if_pos hl, h]
  rfl
def meMix : Ex := eFn dDraw (asStm 0 (asVal (eBi (bi1 lenB) (aCons (eVar 2) aNil)) asNil))
def mMixed : Sm := mSeq (frzIf [] (mSet' true 2 (eBi (bi1 listB) (aCons (eVar 1) aNil)))) (mPopC 2 (iRng rngOf (aCons (eBi (bi1 lenB) (aCons (eVar 2) aNil)) aNil)) (.nm 3) meMix [3])
def dMixed : Den := fnDen 2 4 mMixed
def xSl (a : T) (ts : List T) (x : Sl) : Sls := [.stm, .cl a, .ow (.list ts), x]
theorem meMix_eq {a : T} {ts : List T} {x : Sl} {k : Nat} {g : G} (hb : Bud (k + 1) g) (h0 : 0 < ts.length) (h1 : (ts.length : Int) < 1073741824) : ∃ v g', meMix (xSl a ts x) g = some ((.int v, false), g') ∧ 0 ≤ v ∧ v < ts.length ∧ Bud k g' := by
  obtain ⟨v, g', e, a1, a2, b⟩ := draw_ok hb (show (0 : Int) < (ts.length : Int) by omega) h1
  refine ⟨v, g', ?_, a1, a2, b⟩
  have as : asStm 0 (asVal (eBi (bi1 lenB) (aCons (eVar 2) aNil)) asNil) (xSl a ts x) g = some ([.stm, .cl (.int ts.length)], g) := rfl
  unfold meMix eFn
  rw [as]
  simp only [Option.bind_some, List.any_cons, isStm, Bool.true_or, if_true]
  rw [e]
  rfl
theorem eraseIdx_perm : ∀ (l : List T) (i : Nat) (h : i < l.length), (l[i] :: l.eraseIdx i).Perm l := by
  intro l
  induction l with
  | nil => intro i h; simp at h
  | cons x l ih =>
    intro i h
    cases i with
    | zero => exact .refl _
    | succ i =>
      have hi : i < l.length := by simpa using h
      exact (List.Perm.swap x l[i] (l.eraseIdx i)).trans ((ih i hi).cons x)
theorem popGo_ok {a : T} {k : Nat} : ∀ (items : List T) (ts : List T) (x : Sl) (g : G), items.length = ts.length → (ts.length : Int) < 1073741824 → Bud (ts.length + k) g →
    ∃ us sl' g', popGo 2 (.nm 3) meMix [3] items (xSl a ts x) g = some (us, sl', g') ∧ us.Perm ts ∧ Bud k g' := by
  intro items
  induction items with
  | nil =>
    intro ts x g hl _ hb
    have : ts = [] := List.length_eq_zero_iff.mp hl.symm
    subst this
    exact ⟨[], _, g, rfl, .refl _, hb.mono (by simp)⟩
  | cons y items ih =>
    intro ts x g hl h1 hb
    have hpos : 0 < ts.length := by rw [← hl]; simp
    have hb' : Bud (ts.length - 1 + k + 1) g := hb.mono (by omega)
    obtain ⟨v, g', e, a1, a2, b⟩ := meMix_eq (a := a) (ts := ts) (x := .cl y) hb' hpos h1
    have hv : v.toNat < ts.length := by omega
    have hlen : (ts.eraseIdx v.toNat).length = ts.length - 1 := List.length_eraseIdx_of_lt hv
    obtain ⟨us, sl', g2, e2, p, b2⟩ := ih (ts.eraseIdx v.toNat) x g' (by rw [hlen]; simp at hl; omega) (by rw [hlen]; omega) (by rw [hlen]; exact b)
    refine ⟨ts[v.toNat] :: us, sl', g2, ?_, ?_, b2⟩
    · have hbind : bindT (.nm 3) y (wipeS (xSl a ts x) [3]) = some (xSl a ts (.cl y)) := rfl
      have hg : gets (xSl a ts x) 2 = .ow (.list ts) := rfl
      have hs : (xSl a ts x).set 2 (.ow (.list (ts.eraseIdx v.toNat))) = xSl a (ts.eraseIdx v.toNat) x := rfl
      rw [popGo, hbind]
      simp only [Option.bind_some, e, hg]
      rw [if_pos ⟨a1, a2, by omega⟩, List.getElem?_eq_getElem hv]
      simp only [Option.bind_some]
      rw [hs, e2]
      rfl
    · exact (p.cons _).trans (eraseIdx_perm ts _ hv)
theorem rng_len {n : Nat} (h : n ≤ cap) : rngOf [(.int (n : Int), false)] = some (rangeT 0 n) := by
  have hc : cap = 16777216 := rfl
  simp only [rngOf]
  rw [if_pos (And.intro (by omega) (by omega))]
  simp only [Int.toNat_natCast]
theorem as_len {a : T} {ts : List T} {x : Sl} {g : G} : aCons (eBi (bi1 lenB) (aCons (eVar 2) aNil)) aNil (xSl a ts x) g = some ([(.int (ts.length : Int), false)], g) := rfl
theorem iRng_of {f : List R → Option (List T)} {ms : Exs} {sl : Sls} {g g' : G} {rs : List R} {ts : List T} (h1 : ms sl g = some (rs, g')) (h2 : f rs = some ts) : iRng f ms sl g = some ((ts, false), g') := by
  simp only [iRng, h1, Option.bind_some, h2, Option.map_some]
/-- the things in some order -/
theorem mixed_ok {ts : List T} {k : Nat} {g : G} (hb : Bud (ts.length + k) g) (h1 : ts.length ≤ cap) : ∃ us g', dMixed [.stm, .cl (.list ts)] g = some (.list us, g') ∧ us.Perm ts ∧ Bud k g' := by
  have hc : cap = 16777216 := rfl
  have hlt : (ts.length : Int) < 1073741824 := by omega
  obtain ⟨us, sl', g', e, p, b⟩ := popGo_ok (a := .list ts) (k := k) (rangeT 0 ts.length) ts .un g (by simp [rangeT]) hlt hb
  refine ⟨us, g', ?_, p, b⟩
  have q1 : frzIf [] (mSet' true 2 (eBi (bi1 listB) (aCons (eVar 1) aNil))) [.stm, .cl (.list ts), .un, .un] g = some (.nx, xSl (.list ts) ts .un, g) := rfl
  have q2 : iRng rngOf (aCons (eBi (bi1 lenB) (aCons (eVar 2) aNil)) aNil) (xSl (.list ts) ts .un) g = some ((rangeT 0 ts.length, false), g) := iRng_of as_len (rng_len h1)
  have q3 : mPopC 2 (iRng rngOf (aCons (eBi (bi1 lenB) (aCons (eVar 2) aNil)) aNil)) (.nm 3) meMix [3] (xSl (.list ts) ts .un) g = some (.rt (.list us), sl', g') := by
    unfold mPopC
    rw [if_neg (by simp [idxT]), q2]
    simp only [Option.bind_some, Bool.false_eq_true, if_false]
    rw [e]
    have hm : mkL us = some (.list us) := by
      unfold mkL
      rw [if_pos (by rw [p.length_eq]; exact h1)]
    simp only [Option.bind_some, hm, Option.map_some]
  have q4 : mMixed [.stm, .cl (.list ts), .un, .un] g = some (.rt (.list us), sl', g') := by
    unfold mMixed
    rw [mSeq_nx q1]
    exact q3
  have q5 : ([.stm, .cl (.list ts)] : Sls) ++ List.replicate (4 - 2) .un = [.stm, .cl (.list ts), .un, .un] := rfl
  unfold dMixed
  refine fnDen_rt (sl' := sl') rfl ?_
  rw [q5]
  exact q4
end VM
set_option maxHeartbeats 0
namespace Lw
open PySem PySem.Spec PyProof.Rows L2 VM
def top (i : Nat) : Stmt := PySem.Challenge.pw_duehalls_k83_main_tasks_and_units.main.body.getD i (.Pass ⟨0, 0, 0, 0⟩)
def recD : Nat := 12
def n_law_draw : List Str := ["stream", "many", "mixed", "cell", "digit"]
def m_law_draw : Sm :=
  (mSeq (mStSet 0 2 (eOp bAdd (eSt 0 2) (eLit (.int 1))))
  (mSeq (mWhile fuelW (eAnd (eOp bEq (eSt 0 1) (eLit (.int 0))) (eStNe 0))
  (mSeq (mStPop 3 0)
  (mSeq (mStSet 0 3 (eOp bMod (eBi (bi1 intB) (aCons (eOp bAdd (eOp bAdd (eOp bMul (eSt 0 3) (eLit (.int 69313))) (eVar 3)) (eLit (.int 31))) aNil)) (eLit (.int 2147483647))))
  (mStSet 0 1 (eIf (eOp bGe (eVar 3) (eOp bPow (eLit (.int 10)) (eLit (.int 18)))) (eVar 3) (eLit (.int 0)))))))
  (mSeq (frzIf [] (mIf (eOp bGt (eSt 0 1) (eLit (.int 0)))
  (mSeq (frzIf [] (mSet' false 4 (eOp bMod (eBi (bi1 intB) (aCons (eSt 0 1) aNil)) (eVar 1))))
  (mSeq (mStSet 0 1 (eOp bDiv (eSt 0 1) (eVar 1)))
  (frzIf [0] (mRet (eVar 4)))))
  mNx))
  (mSeq (frzIf [] (mSet' false 2 (eOp bMod (eBi (bi1 intB) (aCons (eOp bPow (eOp bAdd (eOp bAdd (eSt 0 3) (eOp bMul (eLit (.int 9041)) (eSt 0 2))) (eLit (.int 171007))) (eLit (.int 5))) aNil)) (eLit (.int 2147483629)))))
  (frzIf [0] (mRet (eOp bMod (eOp bMod (eBi (bi1 intB) (aCons (eOp bPow (eOp bAdd (eOp bAdd (eOp bMul (eVar 2) (eLit (.int 56003))) (eOp bMul (eLit (.int 73013)) (eSt 0 2))) (eLit (.int 53))) (eLit (.int 3))) aNil)) (eLit (.int 1000000007))) (eVar 1))))))))
def d_law_draw : Den := fnDen 2 5 m_law_draw
def t_law_draw : List (Str × FnI) := ("_law_draw", ⟨d_law_draw, true⟩) :: []
def n_law_mixed : List Str := ["stream", "some", "left", "k"]
def m_law_mixed : Sm :=
  (mSeq (frzIf [] (mSet' true 2 (eBi (bi1 listB) (aCons (eVar 1) aNil))))
  (mPopC 2 (iRng rngOf (aCons (eBi (bi1 lenB) (aCons (eVar 2) aNil)) aNil)) (.nm 3) (eFn d_law_draw (asStm 0 (asVal (eBi (bi1 lenB) (aCons (eVar 2) aNil)) asNil))) [3]))
def d_law_mixed : Den := fnDen 2 4 m_law_mixed
def t_law_mixed : List (Str × FnI) := ("_law_mixed", ⟨d_law_mixed, true⟩) :: t_law_draw
def n_law_d_names : List Str := ["stream", "many", "pool", "row", "number"]
def m_law_d_names : Sm :=
  (mSeq (frzIf [] (mSet' false 2 (eLst (aCons (eLit (.str "a")) (aCons (eLit (.str "b")) (aCons (eLit (.str "c")) (aCons (eLit (.str "d")) (aCons (eLit (.str "e1")) (aCons (eLit (.str "zoe")) (aCons (eLit (.str "k")) (aCons (eLit (.str "w3")) (aCons (eLit (.str "ann")) (aCons (eLit (.str "bo")) (aCons (eLit (.str "y7")) (aCons (eLit (.str "q")) (aCons (eLit (.str "sam")) (aCons (eLit (.str "twelvesigns0")) (aCons (eLit (.str "n0")) (aCons (eLit (.str "z9")) aNil)))))))))))))))))))
  (mSeq (frzIf [] (mSet' false 3 (eFn d_law_mixed (asStm 0 (asVal (eOp bAdd (eVar 2) (eLc (iRng rngOf (aCons (eBi (bi2 max2B) (aCons (eLit (.int 0)) (aCons (eOp bSub (eVar 1) (eLit (.int 16))) aNil))) aNil)) (.nm 4) (eLit (.bool true)) (eOp bAdd (eLit (.str "v")) (eBi (bi1 strB) (aCons (eVar 4) aNil))) [4])) asNil)))))
  (frzIf [] (mRet (eCut2 (eVar 3) none (some (eVar 1)))))))
def d_law_d_names : Den := fnDen 2 5 m_law_d_names
def t_law_d_names : List (Str × FnI) := ("_law_d_names", ⟨d_law_d_names, true⟩) :: t_law_mixed
def n_law_turned : List Str := ["stream", "given"]
def m_law_turned : Sm :=
  (frzIf [] (mRet (eBi (bi1 dictB) (aCons (eFn d_law_mixed (asStm 0 (asVal (eLi (eVar 1)) asNil))) aNil))))
def d_law_turned : Den := fnDen 2 2 m_law_turned
def t_law_turned : List (Str × FnI) := ("_law_turned", ⟨d_law_turned, true⟩) :: t_law_d_names
def n_law_units_of : List Str := ["tasks", "length", "name"]
def m_law_units_of : Sm :=
  (frzIf [] (mRet (eBi (bi1 dictB) (aCons (eLc (iVal (eVar 0)) (.nm 2) (eLit (.bool true)) (eTup (aCons (eVar 2) (aCons (eTup (aCons (eLit (.int 0)) (aCons (eOp bDiv (eOp bIdx (eOp bIdx (eVar 0) (eVar 2)) (eLit (.int 1))) (eVar 1)) (aCons (eLit (.int 1)) aNil)))) aNil))) [2]) aNil))))
def d_law_units_of : Den := fnDen 2 3 m_law_units_of
def t_law_units_of : List (Str × FnI) := ("_law_units_of", ⟨d_law_units_of, false⟩) :: t_law_turned
def n_law_in_time : List Str := ["tasks", "lot", "length", "rows", "name", "at", "due"]
def m_law_in_time : Sm :=
  (mSeq (frzIf [] (mSet' false 3 (eBi (bi1 sortedB) (aCons (eLc (iVal (eVar 1)) (.nm 4) (eLit (.bool true)) (eOp bIdx (eOp bIdx (eVar 0) (eVar 4)) (eLit (.int 1))) [4]) aNil))))
  (frzIf [] (mRet (eBi (bi1 allB) (aCons (eLc (iArgs enumOf (aCons (eVar 3) aNil)) (.tp [(.nm 5), (.nm 6)]) (eLit (.bool true)) (eOp bLe (eOp bMul (eVar 2) (eOp bAdd (eVar 5) (eLit (.int 1)))) (eVar 6)) [5, 6]) aNil)))))
def d_law_in_time : Den := fnDen 3 7 m_law_in_time
def t_law_in_time : List (Str × FnI) := ("_law_in_time", ⟨d_law_in_time, false⟩) :: t_law_units_of
def n_law_lots : List Str := ["tasks", "length", "found", "name", "lot"]
def m_law_lots : Sm :=
  (mSeq (frzIf [] (mSet' true 2 (eLst (aCons (eLst aNil) aNil))))
  (mSeq (frzIf [0] (mFor (iVal (eBi (bi1 sortedB) (aCons (eVar 0) aNil))) (.nm 3)
  (frzIf [3, 3] (mMeth fExtend 2 (aCons (eLc (iVal (eVar 2)) (.nm 4) (eFn d_law_in_time (asVal (eVar 0) (asVal (eOp bAdd (eVar 4) (eLst (aCons (eVar 3) aNil))) (asVal (eVar 1) asNil)))) (eOp bAdd (eVar 4) (eLst (aCons (eVar 3) aNil))) [4]) aNil)))))
  (frzIf [2] (mRet (eVar 2)))))
def d_law_lots : Den := fnDen 2 5 m_law_lots
def t_law_lots : List (Str × FnI) := ("_law_lots", ⟨d_law_lots, false⟩) :: t_law_in_time
def n_dues_of : List Str := ["some", "lot", "name"]
def m_dues_of : Sm :=
  (frzIf [] (mRet (eBi (bi1 sortedB) (aCons (eDc (iVal (eVar 1)) (.nm 2) (eLit (.bool true)) (eOp bIdx (eOp bIdx (eVar 0) (eVar 2)) (eLit (.int 1))) (eLit (.bool true)) [2]) aNil))))
def d_dues_of : Den := fnDen 2 3 m_dues_of
def t_dues_of : List (Str × FnI) := ("dues_of", ⟨d_dues_of, false⟩) :: t_law_lots
def n_first_ones : List Str := ["lengths", "due", "found", "whole", "length"]
def m_first_ones : Sm :=
  (mSeq (frzIf [] (mPar2 2 3 true false (eLst aNil) (eLit (.int 0))))
  (mSeq (frzIf [0] (mFor (iVal (eVar 0)) (.nm 4)
  (mSeq (frzIf [] (mIf (eOp bGt (eOp bAdd (eVar 3) (eVar 4)) (eVar 1))
  (frzIf [2] (mRet (eVar 2)))
  mNx))
  (mSeq (frzIf [4] (mMeth fAppend 2 (aCons (eVar 4) aNil)))
  (frzIf [] (mAug 3 fIadd (eVar 4)))))))
  (frzIf [2] (mRet (eVar 2)))))
def d_first_ones : Den := fnDen 2 5 m_first_ones
def t_first_ones : List (Str × FnI) := ("first_ones", ⟨d_first_ones, false⟩) :: t_dues_of
def n_ladder_of : List Str := ["some", "rows", "here", "due", "name"]
def m_ladder_of : Sm :=
  (mSeq (frzIf [] (mPar2 1 2 true false (eLst aNil) (eLst aNil)))
  (mSeq (frzIf [0, 0, 0] (mFor (iVal (eFn d_dues_of (asVal (eVar 0) (asVal (eVar 0) asNil)))) (.nm 3)
  (mSeq (frzIf [] (mSet' false 2 (eFn d_first_ones (asVal (eBi (bi1 sortedB) (aCons (eOp bAdd (eVar 2) (eLc (iVal (eVar 0)) (.nm 4) (eOp bEq (eOp bIdx (eOp bIdx (eVar 0) (eVar 4)) (eLit (.int 1))) (eVar 3)) (eOp bIdx (eOp bIdx (eVar 0) (eVar 4)) (eLit (.int 0))) [4])) aNil)) (asVal (eVar 3) asNil)))))
  (frzIf [3] (mMeth fAppend 1 (aCons (eTup (aCons (eVar 3) (aCons (eBi (bi1 listB) (aCons (eVar 2) aNil)) aNil))) aNil))))))
  (frzIf [1] (mRet (eVar 1)))))
def d_ladder_of : Den := fnDen 1 5 m_ladder_of
def t_ladder_of : List (Str × FnI) := ("ladder_of", ⟨d_ladder_of, false⟩) :: t_first_ones
def n_is_name : List Str := ["thing", "sign"]
def m_is_name : Sm :=
  (mSeq (frzIf [] (mIf (eOr (eNot (eIs ["str"] (eVar 0))) (eNot (eChain bLt bLt (eLit (.int 0)) (eBi (bi1 lenB) (aCons (eVar 0) aNil)) (eLit (.int 13)))))
  (frzIf [] (mRet (eLit (.bool false))))
  mNx))
  (frzIf [] (mRet (eAnd (eOp bIn (eOp bIdx (eVar 0) (eLit (.int 0))) (eLit (.str "abcdefghijklmnopqrstuvwxyz"))) (eBi (bi1 allB) (aCons (eLc (iVal (eVar 0)) (.nm 1) (eLit (.bool true)) (eOp bIn (eVar 1) (eLit (.str "abcdefghijklmnopqrstuvwxyz0123456789"))) [1]) aNil))))))
def d_is_name : Den := fnDen 1 2 m_is_name
def t_is_name : List (Str × FnI) := ("is_name", ⟨d_is_name, false⟩) :: t_ladder_of
def n_is_list : List Str := ["thing"]
def m_is_list : Sm :=
  (frzIf [] (mRet (eIs ["list", "tuple"] (eVar 0))))
def d_is_list : Den := fnDen 1 1 m_is_list
def t_is_list : List (Str × FnI) := ("is_list", ⟨d_is_list, false⟩) :: t_is_name
def n_is_integer : List Str := ["thing"]
def m_is_integer : Sm :=
  (frzIf [] (mRet (eAnd (eIs ["int"] (eVar 0)) (eNot (eIs ["bool"] (eVar 0))))))
def d_is_integer : Den := fnDen 1 1 m_is_integer
def t_is_integer : List (Str × FnI) := ("is_integer", ⟨d_is_integer, false⟩) :: t_is_list
def n_is_number : List Str := ["thing"]
def m_is_number : Sm :=
  (frzIf [] (mRet (eAnd (eFn d_is_integer (asVal (eVar 0) asNil)) (eOp bGe (eVar 0) (eLit (.int 0))))))
def d_is_number : Den := fnDen 1 1 m_is_number
def t_is_number : List (Str × FnI) := ("is_number", ⟨d_is_number, false⟩) :: t_is_integer
def n_is_task : List Str := ["thing"]
def m_is_task : Sm :=
  (frzIf [] (mRet (eAnd (eFn d_is_list (asVal (eVar 0) asNil)) (eAnd (eOp bEq (eBi (bi1 lenB) (aCons (eVar 0) aNil)) (eLit (.int 2))) (eAnd (eFn d_is_number (asVal (eOp bIdx (eVar 0) (eLit (.int 0))) asNil)) (eAnd (eOp bGt (eOp bIdx (eVar 0) (eLit (.int 0))) (eLit (.int 0))) (eFn d_is_integer (asVal (eOp bIdx (eVar 0) (eLit (.int 1))) asNil))))))))
def d_is_task : Den := fnDen 1 1 m_is_task
def t_is_task : List (Str × FnI) := ("is_task", ⟨d_is_task, false⟩) :: t_is_number
def n_checked_tasks : List Str := ["tasks", "name"]
def m_checked_tasks : Sm :=
  (mSeq (frzIf [1] (mIf (eOr (eNot (eIs ["dict"] (eVar 0))) (eNot (eBi (bi1 allB) (aCons (eLc (iVal (eVar 0)) (.nm 1) (eLit (.bool true)) (eAnd (eFn d_is_name (asVal (eVar 1) asNil)) (eFn d_is_task (asVal (eOp bIdx (eVar 0) (eVar 1)) asNil))) [1]) aNil))))
  mNo
  mNx))
  (frzIf [] (mRet (eDc (iVal (eBi (bi1 sortedB) (aCons (eVar 0) aNil))) (.nm 1) (eLit (.bool true)) (eVar 1) (eBi (bi1 tupleB) (aCons (eOp bIdx (eVar 0) (eVar 1)) aNil)) [1]))))
def d_checked_tasks : Den := fnDen 1 2 m_checked_tasks
def t_checked_tasks : List (Str × FnI) := ("checked_tasks", ⟨d_checked_tasks, false⟩) :: t_is_task
def n_ladder : List Str := ["tasks"]
def m_ladder : Sm :=
  (frzIf [] (mRet (eFn d_ladder_of (asVal (eFn d_checked_tasks (asVal (eVar 0) asNil)) asNil))))
def d_ladder : Den := fnDen 1 1 m_ladder
def t_ladder : List (Str × FnI) := ("ladder", ⟨d_ladder, false⟩) :: t_checked_tasks
-- recursive: _law_same
def n_law_same : List Str := ["found", "due", "x", "y"]
def m_law_same (d_law_same : Den) : Sm :=
  (mSeq (frzIf [] (mIf (eIs ["list", "tuple"] (eVar 1))
  (mSeq (frzIf [] (mIf (eOr (eOp bNe (eIs ["list"] (eVar 0)) (eIs ["list"] (eVar 1))) (eOp bNe (eIs ["tuple"] (eVar 0)) (eIs ["tuple"] (eVar 1))))
  (frzIf [] (mRet (eLit (.bool false))))
  mNx))
  (frzIf [] (mRet (eAnd (eOp bEq (eBi (bi1 lenB) (aCons (eVar 0) aNil)) (eBi (bi1 lenB) (aCons (eVar 1) aNil))) (eBi (bi1 allB) (aCons (eLc (iArgs zipOf (aCons (eVar 0) (aCons (eVar 1) aNil))) (.tp [(.nm 2), (.nm 3)]) (eLit (.bool true)) (eFn d_law_same (asVal (eVar 2) (asVal (eVar 3) asNil))) [2, 3]) aNil))))))
  mNx))
  (mSeq (frzIf [] (mIf (eIs ["dict"] (eVar 1))
  (frzIf [] (mRet (eAnd (eIs ["dict"] (eVar 0)) (eFn d_law_same (asVal (eLi (eVar 0)) (asVal (eLi (eVar 1)) asNil))))))
  mNx))
  (mSeq (frzIf [] (mIf (eIs ["int"] (eVar 1))
  (frzIf [] (mRet (eAnd (eIs ["int"] (eVar 0)) (eAnd (eOp bEq (eIs ["bool"] (eVar 0)) (eIs ["bool"] (eVar 1))) (eOp bEq (eVar 0) (eVar 1))))))
  mNx))
  (mSeq (frzIf [] (mIf (eOp bIs (eVar 1) (eLit .none))
  (frzIf [] (mRet (eOp bIs (eVar 0) (eLit .none))))
  mNx))
  (mSeq (frzIf [] (mIf (eIs ["str"] (eVar 1))
  (frzIf [] (mRet (eAnd (eIs ["str"] (eVar 0)) (eOp bEq (eVar 0) (eVar 1)))))
  mNx))
  (frzIf [] (mRet (eAnd (eNot (eIs ["int", "str", "list", "tuple", "dict"] (eVar 0))) (eOp bEq (eVar 0) (eVar 1))))))))))
def d_law_same : Nat → Den
  | 0 => fun _ _ => none
  | n + 1 => fnDen 2 4 (m_law_same (d_law_same n))
def t_law_same : List (Str × FnI) := ("_law_same", ⟨d_law_same recD, false⟩) :: t_ladder
def n_kept_of : List Str := ["some", "kept", "due", "name", "longest", "one"]
def m_kept_of : Sm :=
  (mSeq (frzIf [] (mSet' true 1 (eLst aNil)))
  (mSeq (frzIf [3] (mFor (iVal (eBi (bi1 sortedB) (aCons (eLc (iVal (eVar 0)) (.nm 3) (eLit (.bool true)) (eTup (aCons (eOp bIdx (eOp bIdx (eVar 0) (eVar 3)) (eLit (.int 1))) (aCons (eVar 3) aNil))) [3]) aNil))) (.tp [(.nm 2), (.nm 3)])
  (mSeq (frzIf [3] (mMeth fAppend 1 (aCons (eVar 3) aNil)))
  (frzIf [] (mIf (eOp bGt (eBi (bi1 sumB) (aCons (eLc (iVal (eVar 1)) (.nm 5) (eLit (.bool true)) (eOp bIdx (eOp bIdx (eVar 0) (eVar 5)) (eLit (.int 0))) [5]) aNil)) (eVar 2))
  (mSeq (frzIf [5] (mSet' false 4 (eOp bIdx (eBi (bi1 maxB) (aCons (eLc (iVal (eVar 1)) (.nm 5) (eLit (.bool true)) (eTup (aCons (eOp bIdx (eOp bIdx (eVar 0) (eVar 5)) (eLit (.int 0))) (aCons (eVar 5) aNil))) [5]) aNil)) (eLit (.int 1)))))
  (frzIf [5] (mSet' true 1 (eLc (iVal (eVar 1)) (.nm 5) (eOp bNe (eVar 5) (eVar 4)) (eVar 5) [5]))))
  mNx)))))
  (frzIf [1] (mRet (eBi (bi1 sortedB) (aCons (eVar 1) aNil))))))
def d_kept_of : Den := fnDen 1 6 m_kept_of
def t_kept_of : List (Str × FnI) := ("kept_of", ⟨d_kept_of, false⟩) :: t_law_same
def n_kept_tasks : List Str := ["tasks"]
def m_kept_tasks : Sm :=
  (frzIf [] (mRet (eFn d_kept_of (asVal (eFn d_checked_tasks (asVal (eVar 0) asNil)) asNil))))
def d_kept_tasks : Den := fnDen 1 1 m_kept_tasks
def t_kept_tasks : List (Str × FnI) := ("kept_tasks", ⟨d_kept_tasks, false⟩) :: t_kept_of
def n_rows_by_due : List Str := ["some", "lot", "left", "rows", "hour", "soon", "least", "name"]
def m_rows_by_due : Sm :=
  (mSeq (frzIf [] (mPar3 2 3 4 false true false (eBi (bi1 sortedB) (aCons (eVar 1) aNil)) (eLst aNil) (eLit .none)))
  (mSeq (mWhile fuelW (eOp bNe (eVar 2) (eLst aNil))
  (mSeq (frzIf [] (mSet' false 5 (eBi (bi1 minB) (aCons (eLc (iVal (eVar 2)) (.nm 7) (eLit (.bool true)) (eOp bIdx (eOp bIdx (eVar 0) (eVar 7)) (eLit (.int 0))) [7]) aNil))))
  (mSeq (frzIf [5] (mSet' false 4 (eIf (eOp bIs (eVar 4) (eLit .none)) (eVar 5) (eBi (bi2 max2B) (aCons (eVar 5) (aCons (eOp bAdd (eVar 4) (eLit (.int 1))) aNil))))))
  (mSeq (frzIf [7] (mSet' false 6 (eBi (bi1 minB) (aCons (eLc (iVal (eVar 2)) (.nm 7) (eOp bLe (eOp bIdx (eOp bIdx (eVar 0) (eVar 7)) (eLit (.int 0))) (eVar 4)) (eTup (aCons (eOp bIdx (eOp bIdx (eVar 0) (eVar 7)) (eLit (.int 1))) (aCons (eVar 7) aNil))) [7]) aNil))))
  (mSeq (frzIf [4] (mMeth fAppend 3 (aCons (eTup (aCons (eVar 4) (aCons (eOp bIdx (eVar 6) (eLit (.int 1))) aNil))) aNil)))
  (mSeq (frzIf [] (mIf (eOp bLe (eOp bIdx (eVar 6) (eLit (.int 0))) (eVar 4))
  (frzIf [3] (mRet (eTup (aCons (eVar 3) (aCons (eLit (.bool true)) aNil)))))
  mNx))
  (frzIf [7] (mSet' false 2 (eLc (iVal (eVar 2)) (.nm 7) (eOp bNe (eVar 7) (eOp bIdx (eVar 6) (eLit (.int 1)))) (eVar 7) [7])))))))))
  (frzIf [3] (mRet (eTup (aCons (eVar 3) (aCons (eLit (.bool false)) aNil)))))))
def d_rows_by_due : Den := fnDen 2 8 m_rows_by_due
def t_rows_by_due : List (Str × FnI) := ("rows_by_due", ⟨d_rows_by_due, false⟩) :: t_kept_tasks
def n_does_fit : List Str := ["some", "lot"]
def m_does_fit : Sm :=
  (frzIf [] (mRet (eNot (eOp bIdx (eFn d_rows_by_due (asVal (eVar 0) (asVal (eVar 1) asNil))) (eLit (.int 1))))))
def d_does_fit : Den := fnDen 2 2 m_does_fit
def t_does_fit : List (Str × FnI) := ("does_fit", ⟨d_does_fit, false⟩) :: t_rows_by_due
def n_kept_in_turn : List Str := ["some", "names", "found", "name"]
def m_kept_in_turn : Sm :=
  (mSeq (frzIf [] (mSet' true 2 (eLst aNil)))
  (mSeq (frzIf [1] (mFor (iVal (eVar 1)) (.nm 3)
  (frzIf [3] (mIf (eFn d_does_fit (asVal (eVar 0) (asVal (eOp bAdd (eVar 2) (eLst (aCons (eVar 3) aNil))) asNil)))
  (frzIf [3] (mMeth fAppend 2 (aCons (eVar 3) aNil)))
  mNx))))
  (frzIf [2] (mRet (eVar 2)))))
def d_kept_in_turn : Den := fnDen 2 4 m_kept_in_turn
def t_kept_in_turn : List (Str × FnI) := ("kept_in_turn", ⟨d_kept_in_turn, false⟩) :: t_does_fit
def n_by_weights : List Str := ["some", "weight", "name"]
def m_by_weights : Sm :=
  (frzIf [] (mRet (eLc (iVal (eBi (bi1 sortedB) (aCons (eLc (iVal (eVar 0)) (.nm 2) (eLit (.bool true)) (eTup (aCons (eOp bSub (eLit (.int 0)) (eOp bIdx (eOp bIdx (eVar 0) (eVar 2)) (eLit (.int 2)))) (aCons (eVar 2) aNil))) [2]) aNil))) (.tp [(.nm 1), (.nm 2)]) (eLit (.bool true)) (eVar 2) [1, 2])))
def d_by_weights : Den := fnDen 1 3 m_by_weights
def t_by_weights : List (Str × FnI) := ("by_weights", ⟨d_by_weights, false⟩) :: t_kept_in_turn
def n_best_of : List Str := ["some"]
def m_best_of : Sm :=
  (frzIf [] (mRet (eFn d_kept_in_turn (asVal (eVar 0) (asVal (eFn d_by_weights (asVal (eVar 0) asNil)) asNil)))))
def d_best_of : Den := fnDen 1 1 m_best_of
def t_best_of : List (Str × FnI) := ("best_of", ⟨d_best_of, false⟩) :: t_by_weights
def n_is_unit : List Str := ["thing"]
def m_is_unit : Sm :=
  (mSeq (frzIf [] (mIf (eOr (eNot (eFn d_is_list (asVal (eVar 0) asNil))) (eOp bNe (eBi (bi1 lenB) (aCons (eVar 0) aNil)) (eLit (.int 3))))
  (frzIf [] (mRet (eLit (.bool false))))
  mNx))
  (frzIf [] (mRet (eAnd (eFn d_is_integer (asVal (eOp bIdx (eVar 0) (eLit (.int 0))) asNil)) (eAnd (eFn d_is_integer (asVal (eOp bIdx (eVar 0) (eLit (.int 1))) asNil)) (eFn d_is_number (asVal (eOp bIdx (eVar 0) (eLit (.int 2))) asNil)))))))
def d_is_unit : Den := fnDen 1 1 m_is_unit
def t_is_unit : List (Str × FnI) := ("is_unit", ⟨d_is_unit, false⟩) :: t_best_of
def n_checked_units : List Str := ["units", "name"]
def m_checked_units : Sm :=
  (mSeq (frzIf [1] (mIf (eOr (eNot (eIs ["dict"] (eVar 0))) (eNot (eBi (bi1 allB) (aCons (eLc (iVal (eVar 0)) (.nm 1) (eLit (.bool true)) (eAnd (eFn d_is_name (asVal (eVar 1) asNil)) (eFn d_is_unit (asVal (eOp bIdx (eVar 0) (eVar 1)) asNil))) [1]) aNil))))
  mNo
  mNx))
  (frzIf [] (mRet (eDc (iVal (eBi (bi1 sortedB) (aCons (eVar 0) aNil))) (.nm 1) (eLit (.bool true)) (eVar 1) (eBi (bi1 tupleB) (aCons (eOp bIdx (eVar 0) (eVar 1)) aNil)) [1]))))
def d_checked_units : Den := fnDen 1 2 m_checked_units
def t_checked_units : List (Str × FnI) := ("checked_units", ⟨d_checked_units, false⟩) :: t_is_unit
def n_best_lot : List Str := ["units"]
def m_best_lot : Sm :=
  (frzIf [] (mRet (eBi (bi1 sortedB) (aCons (eFn d_best_of (asVal (eFn d_checked_units (asVal (eVar 0) asNil)) asNil)) aNil))))
def d_best_lot : Den := fnDen 1 1 m_best_lot
def t_best_lot : List (Str × FnI) := ("best_lot", ⟨d_best_lot, false⟩) :: t_checked_units
def n_most_in_time : List Str := ["tasks"]
def m_most_in_time : Sm :=
  (frzIf [] (mRet (eBi (bi1 lenB) (aCons (eFn d_kept_of (asVal (eFn d_checked_tasks (asVal (eVar 0) asNil)) asNil)) aNil))))
def d_most_in_time : Den := fnDen 1 1 m_most_in_time
def t_most_in_time : List (Str × FnI) := ("most_in_time", ⟨d_most_in_time, false⟩) :: t_best_lot
def n_weight_of : List Str := ["some", "lot", "name"]
def m_weight_of : Sm :=
  (frzIf [] (mRet (eBi (bi1 sumB) (aCons (eLc (iVal (eVar 1)) (.nm 2) (eLit (.bool true)) (eOp bIdx (eOp bIdx (eVar 0) (eVar 2)) (eLit (.int 2))) [2]) aNil))))
def d_weight_of : Den := fnDen 2 3 m_weight_of
def t_weight_of : List (Str × FnI) := ("weight_of", ⟨d_weight_of, false⟩) :: t_most_in_time
def n_best_weight : List Str := ["units", "some"]
def m_best_weight : Sm :=
  (mSeq (frzIf [0] (mSet' false 1 (eFn d_checked_units (asVal (eVar 0) asNil))))
  (frzIf [] (mRet (eFn d_weight_of (asVal (eVar 1) (asVal (eFn d_best_of (asVal (eVar 1) asNil)) asNil))))))
def d_best_weight : Den := fnDen 1 2 m_best_weight
def t_best_weight : List (Str × FnI) := ("best_weight", ⟨d_best_weight, false⟩) :: t_weight_of
def n_law_each_once : List Str := ["things", "found", "thing"]
def m_law_each_once : Sm :=
  (mSeq (frzIf [] (mSet' true 1 (eLst aNil)))
  (mSeq (frzIf [0] (mFor (iVal (eVar 0)) (.nm 2)
  (frzIf [] (mIf (eOp bNotIn (eVar 2) (eVar 1))
  (frzIf [2] (mMeth fAppend 1 (aCons (eVar 2) aNil)))
  mNx))))
  (frzIf [1] (mRet (eVar 1)))))
def d_law_each_once : Den := fnDen 1 3 m_law_each_once
def t_law_each_once : List (Str × FnI) := ("_law_each_once", ⟨d_law_each_once, false⟩) :: t_best_weight
def n_first_odd : List Str := ["names", "thing", "index", "name"]
def m_first_odd : Sm :=
  (mSeq (frzIf [] (mIf (eNot (eFn d_is_list (asVal (eVar 1) asNil)))
  (frzIf [] (mRet (eLit (.int 0))))
  mNx))
  (mSeq (frzIf [1] (mFor (iArgs enumOf (aCons (eVar 1) aNil)) (.tp [(.nm 2), (.nm 3)])
  (frzIf [] (mIf (eOr (eNot (eIs ["str"] (eVar 3))) (eOr (eOp bNotIn (eVar 3) (eVar 0)) (eOp bIn (eVar 3) (eCut2 (eVar 1) none (some (eVar 2))))))
  (frzIf [] (mRet (eVar 2)))
  mNx))))
  (frzIf [] (mRet (eLit .none)))))
def d_first_odd : Den := fnDen 2 4 m_first_odd
def t_first_odd : List (Str × FnI) := ("first_odd", ⟨d_first_odd, false⟩) :: t_law_each_once
def n_checked_lot : List Str := ["names", "lot", "odd"]
def m_checked_lot : Sm :=
  (mSeq (frzIf [1] (mSet' false 2 (eFn d_first_odd (asVal (eVar 0) (asVal (eVar 1) asNil)))))
  (mSeq (frzIf [] (mIf (eOp bIsNot (eVar 2) (eLit .none))
  mNo
  mNx))
  (frzIf [] (mRet (eBi (bi1 sortedB) (aCons (eVar 1) aNil))))))
def d_checked_lot : Den := fnDen 2 3 m_checked_lot
def t_checked_lot : List (Str × FnI) := ("checked_lot", ⟨d_checked_lot, false⟩) :: t_first_odd
def n_checked_units_lot : List Str := ["units", "lot", "some"]
def m_checked_units_lot : Sm :=
  (mSeq (frzIf [0] (mSet' false 2 (eFn d_checked_units (asVal (eVar 0) asNil))))
  (frzIf [] (mRet (eTup (aCons (eVar 2) (aCons (eFn d_checked_lot (asVal (eVar 2) (asVal (eVar 1) asNil))) aNil))))))
def d_checked_units_lot : Den := fnDen 2 3 m_checked_units_lot
def t_checked_units_lot : List (Str × FnI) := ("checked_units_lot", ⟨d_checked_units_lot, false⟩) :: t_checked_lot
def n_is_best : List Str := ["some", "lot", "best"]
def m_is_best : Sm :=
  (mSeq (frzIf [0] (mSet' false 2 (eFn d_best_of (asVal (eVar 0) asNil))))
  (frzIf [] (mRet (eAnd (eFn d_does_fit (asVal (eVar 0) (asVal (eVar 1) asNil))) (eAnd (eOp bEq (eBi (bi1 lenB) (aCons (eVar 1) aNil)) (eBi (bi1 lenB) (aCons (eVar 2) aNil))) (eOp bEq (eFn d_weight_of (asVal (eVar 0) (asVal (eVar 1) asNil))) (eFn d_weight_of (asVal (eVar 0) (asVal (eVar 2) asNil)))))))))
def d_is_best : Den := fnDen 2 3 m_is_best
def t_is_best : List (Str × FnI) := ("is_best", ⟨d_is_best, false⟩) :: t_checked_units_lot
def n_is_best_lot : List Str := ["units", "lot", "some", "names"]
def m_is_best_lot : Sm :=
  (mSeq (frzIf [0, 1] (mUnp (.tp [(.nm 2), (.nm 3)]) (eFn d_checked_units_lot (asVal (eVar 0) (asVal (eVar 1) asNil)))))
  (frzIf [] (mRet (eFn d_is_best (asVal (eVar 2) (asVal (eVar 3) asNil))))))
def d_is_best_lot : Den := fnDen 2 4 m_is_best_lot
def t_is_best_lot : List (Str × FnI) := ("is_best_lot", ⟨d_is_best_lot, false⟩) :: t_is_best
def n_late_in : List Str := ["some", "lot", "due", "name"]
def m_late_in : Sm :=
  (mSeq (frzIf [1, 0, 1] (mFor (iVal (eFn d_dues_of (asVal (eVar 0) (asVal (eVar 1) asNil)))) (.nm 2)
  (frzIf [] (mIf (eOp bGt (eBi (bi1 sumB) (aCons (eLc (iVal (eVar 1)) (.nm 3) (eOp bLe (eOp bIdx (eOp bIdx (eVar 0) (eVar 3)) (eLit (.int 1))) (eVar 2)) (eOp bIdx (eOp bIdx (eVar 0) (eVar 3)) (eLit (.int 0))) [3]) aNil)) (eVar 2))
  (frzIf [] (mRet (eVar 2)))
  mNx))))
  (frzIf [] (mRet (eLit .none))))
def d_late_in : Den := fnDen 2 4 m_late_in
def t_late_in : List (Str × FnI) := ("late_in", ⟨d_late_in, false⟩) :: t_is_best_lot
def n_late_at : List Str := ["tasks", "lot", "some"]
def m_late_at : Sm :=
  (mSeq (frzIf [0] (mSet' false 2 (eFn d_checked_tasks (asVal (eVar 0) asNil))))
  (frzIf [] (mRet (eFn d_late_in (asVal (eVar 2) (asVal (eFn d_checked_lot (asVal (eVar 2) (asVal (eVar 1) asNil))) asNil))))))
def d_late_at : Den := fnDen 2 3 m_late_at
def t_late_at : List (Str × FnI) := ("late_at", ⟨d_late_at, false⟩) :: t_late_in
def n_stays_among : List Str := ["some", "name", "step", "rows", "one", "weight"]
def m_stays_among : Sm :=
  (mSeq (frzIf [4, 2] (mSet' false 3 (eBi (bi1 sortedB) (aCons (eLc (iVal (eVar 0)) (.nm 4) (eLit (.bool true)) (eTup (aCons (eOp bAdd (eOp bSub (eLit (.int 0)) (eOp bMul (eLit (.int 2)) (eOp bIdx (eOp bIdx (eVar 0) (eVar 4)) (eLit (.int 2))))) (eIf (eOp bEq (eVar 4) (eVar 1)) (eVar 2) (eLit (.int 0)))) (aCons (eVar 4) aNil))) [4]) aNil))))
  (frzIf [] (mRet (eOp bIn (eVar 1) (eFn d_kept_in_turn (asVal (eVar 0) (asVal (eLc (iVal (eVar 3)) (.tp [(.nm 5), (.nm 4)]) (eLit (.bool true)) (eVar 4) [5, 4]) asNil)))))))
def d_stays_among : Den := fnDen 3 6 m_stays_among
def t_stays_among : List (Str × FnI) := ("stays_among", ⟨d_stays_among, false⟩) :: t_late_at
def n_in_some_best : List Str := ["units", "some", "name"]
def m_in_some_best : Sm :=
  (mSeq (frzIf [0] (mSet' false 1 (eFn d_checked_units (asVal (eVar 0) asNil))))
  (frzIf [] (mRet (eLc (iVal (eVar 1)) (.nm 2) (eFn d_stays_among (asVal (eVar 1) (asVal (eVar 2) (asVal (eOp bSub (eLit (.int 0)) (eLit (.int 1))) asNil)))) (eVar 2) [2]))))
def d_in_some_best : Den := fnDen 1 3 m_in_some_best
def t_in_some_best : List (Str × FnI) := ("in_some_best", ⟨d_in_some_best, false⟩) :: t_stays_among
def n_in_all_best : List Str := ["units", "some", "name"]
def m_in_all_best : Sm :=
  (mSeq (frzIf [0] (mSet' false 1 (eFn d_checked_units (asVal (eVar 0) asNil))))
  (frzIf [] (mRet (eLc (iVal (eVar 1)) (.nm 2) (eFn d_stays_among (asVal (eVar 1) (asVal (eVar 2) (asVal (eLit (.int 1)) asNil)))) (eVar 2) [2]))))
def d_in_all_best : Den := fnDen 1 3 m_in_all_best
def t_in_all_best : List (Str × FnI) := ("in_all_best", ⟨d_in_all_best, false⟩) :: t_in_some_best
def n_law_most_right : List Str := ["tasks", "units", "length", "every", "most", "kept", "best", "found", "great", "whole", "sure", "rows", "due", "last", "inner", "lot", "name"]
def m_law_most_right : Sm :=
  (mSeq (frzIf [0] (mSet' false 3 (eFn d_law_lots (asVal (eVar 0) (asVal (eVar 2) asNil)))))
  (mSeq (frzIf [] (mSet' false 4 (eBi (bi1 maxB) (aCons (eLc (iVal (eVar 3)) (.nm 15) (eLit (.bool true)) (eBi (bi1 lenB) (aCons (eVar 15) aNil)) [15]) aNil))))
  (mSeq (frzIf [0, 1] (mPar2 5 6 false false (eFn d_kept_tasks (asVal (eVar 0) asNil)) (eFn d_best_lot (asVal (eVar 1) asNil))))
  (mSeq (frzIf [0, 1] (mSet' false 7 (eLst (aCons (eFn d_most_in_time (asVal (eVar 0) asNil)) (aCons (eBi (bi1 lenB) (aCons (eVar 5) aNil)) (aCons (eFn d_best_weight (asVal (eVar 1) asNil)) (aCons (eBi (bi1 lenB) (aCons (eVar 6) aNil)) (aCons (eOp bIn (eVar 5) (eLc (iVal (eVar 3)) (.nm 15) (eLit (.bool true)) (eBi (bi1 sortedB) (aCons (eVar 15) aNil)) [15])) aNil))))))))
  (mSeq (frzIf [4, 4, 4, 4, 6] (mIf (eOr (eNot (eFn (d_law_same recD) (asVal (eVar 7) (asVal (eLst (aCons (eVar 4) (aCons (eVar 4) (aCons (eVar 4) (aCons (eVar 4) (aCons (eLit (.bool true)) aNil)))))) asNil)))) (eNot (eFn d_law_in_time (asVal (eVar 0) (asVal (eVar 6) (asVal (eVar 2) asNil))))))
  (frzIf [12] (mRet (eLit (.bool false))))
  mNx))
  (mSeq (frzIf [1, 5, 0, 6] (mIf (eNot (eFn (d_law_same recD) (asVal (eLst (aCons (eFn d_is_best_lot (asVal (eVar 1) (asVal (eVar 5) asNil))) (aCons (eFn d_late_at (asVal (eVar 0) (asVal (eVar 6) asNil))) aNil))) (asVal (eLst (aCons (eLit (.bool true)) (aCons (eLit .none) aNil))) asNil))))
  (frzIf [12] (mRet (eLit (.bool false))))
  mNx))
  (mSeq (frzIf [15] (mSet' false 8 (eLc (iVal (eVar 3)) (.nm 15) (eOp bEq (eBi (bi1 lenB) (aCons (eVar 15) aNil)) (eVar 4)) (eVar 15) [15])))
  (mSeq (frzIf [16] (mSet' false 9 (eLc (iVal (eBi (bi1 sortedB) (aCons (eVar 0) aNil))) (.nm 16) (eBi (bi1 anyB) (aCons (eLc (iVal (eVar 8)) (.nm 15) (eLit (.bool true)) (eOp bIn (eVar 16) (eVar 15)) [15]) aNil)) (eVar 16) [16])))
  (mSeq (frzIf [16] (mSet' false 10 (eLc (iVal (eVar 9)) (.nm 16) (eBi (bi1 allB) (aCons (eLc (iVal (eVar 8)) (.nm 15) (eLit (.bool true)) (eOp bIn (eVar 16) (eVar 15)) [15]) aNil)) (eVar 16) [16])))
  (mSeq (frzIf [1, 1, 9, 10] (mIf (eNot (eFn (d_law_same recD) (asVal (eLst (aCons (eFn d_in_some_best (asVal (eVar 1) asNil)) (aCons (eFn d_in_all_best (asVal (eVar 1) asNil)) aNil))) (asVal (eLst (aCons (eVar 9) (aCons (eVar 10) aNil))) asNil))))
  (frzIf [12] (mRet (eLit (.bool false))))
  mNx))
  (mSeq (frzIf [0] (mSet' false 11 (eFn d_ladder (asVal (eVar 0) asNil))))
  (mSeq (frzIf [] (mSet' true 12 (eLst aNil)))
  (mSeq (frzIf [] (mFor (iVal (eBi (bi1 sortedB) (aCons (eFn d_law_each_once (asVal (eLc (iVal (eVar 0)) (.nm 16) (eLit (.bool true)) (eOp bIdx (eOp bIdx (eVar 0) (eVar 16)) (eLit (.int 1))) [16]) asNil)) aNil))) (.nm 13)
  (mSeq (frzIf [] (mSet' false 14 (eLc (iVal (eVar 3)) (.nm 15) (eBi (bi1 allB) (aCons (eLc (iVal (eVar 15)) (.nm 16) (eLit (.bool true)) (eOp bLe (eOp bIdx (eOp bIdx (eVar 0) (eVar 16)) (eLit (.int 1))) (eVar 13)) [16]) aNil)) (eBi (bi1 lenB) (aCons (eVar 15) aNil)) [15])))
  (frzIf [13, 2] (mMeth fAppend 12 (aCons (eTup (aCons (eVar 13) (aCons (eOp bMul (eLst (aCons (eVar 2) aNil)) (eBi (bi1 maxB) (aCons (eVar 14) aNil))) aNil))) aNil))))))
  (frzIf [12] (mRet (eFn (d_law_same recD) (asVal (eVar 11) (asVal (eVar 12) asNil))))))))))))))))))
def d_law_most_right : Den := fnDen 3 17 m_law_most_right
def t_law_most_right : List (Str × FnI) := ("_law_most_right", ⟨d_law_most_right, false⟩) :: t_in_all_best
def n_checked_number : List Str := ["number"]
def m_checked_number : Sm :=
  (mSeq (frzIf [] (mIf (eNot (eFn d_is_number (asVal (eVar 0) asNil)))
  mNo
  mNx))
  (frzIf [] (mRet (eVar 0))))
def d_checked_number : Den := fnDen 1 1 m_checked_number
def t_checked_number : List (Str × FnI) := ("checked_number", ⟨d_checked_number, false⟩) :: t_law_most_right
def n_is_ladder_row : List Str := ["thing", "length"]
def m_is_ladder_row : Sm :=
  (mSeq (frzIf [] (mIf (eOr (eNot (eFn d_is_list (asVal (eVar 0) asNil))) (eOr (eOp bNe (eBi (bi1 lenB) (aCons (eVar 0) aNil)) (eLit (.int 2))) (eOr (eNot (eFn d_is_integer (asVal (eOp bIdx (eVar 0) (eLit (.int 0))) asNil))) (eNot (eFn d_is_list (asVal (eOp bIdx (eVar 0) (eLit (.int 1))) asNil))))))
  (frzIf [] (mRet (eLit (.bool false))))
  mNx))
  (frzIf [] (mRet (eBi (bi1 allB) (aCons (eLc (iVal (eOp bIdx (eVar 0) (eLit (.int 1)))) (.nm 1) (eLit (.bool true)) (eFn d_is_number (asVal (eVar 1) asNil)) [1]) aNil)))))
def d_is_ladder_row : Den := fnDen 1 2 m_is_ladder_row
def t_is_ladder_row : List (Str × FnI) := ("is_ladder_row", ⟨d_is_ladder_row, false⟩) :: t_checked_number
def n_is_kept_or_ladder : List Str := ["tasks", "number", "thing", "some", "rows", "row"]
def m_is_kept_or_ladder : Sm :=
  (mSeq (frzIf [0] (mSet' false 3 (eFn d_checked_tasks (asVal (eVar 0) asNil))))
  (mSeq (frzIf [1] (mDrop (eFn d_checked_number (asVal (eVar 1) asNil))))
  (mSeq (frzIf [] (mIf (eOr (eNot (eFn d_is_list (asVal (eVar 2) asNil))) (eOr (eOp bNe (eBi (bi1 lenB) (aCons (eVar 2) aNil)) (eLit (.int 2))) (eNot (eIs ["str"] (eOp bIdx (eVar 2) (eLit (.int 0)))))))
  (frzIf [] (mRet (eLit (.bool false))))
  mNx))
  (mSeq (frzIf [] (mIf (eOp bEq (eOp bIdx (eVar 2) (eLit (.int 0))) (eLit (.str "kept")))
  (frzIf [] (mRet (eAnd (eOp bIs (eFn d_first_odd (asVal (eVar 3) (asVal (eOp bIdx (eVar 2) (eLit (.int 1))) asNil))) (eLit .none)) (eAnd (eOp bGe (eBi (bi1 lenB) (aCons (eOp bIdx (eVar 2) (eLit (.int 1))) aNil)) (eVar 1)) (eOp bIs (eFn d_late_in (asVal (eVar 3) (asVal (eOp bIdx (eVar 2) (eLit (.int 1))) asNil))) (eLit .none))))))
  mNx))
  (mSeq (frzIf [] (mIf (eOr (eOp bNe (eOp bIdx (eVar 2) (eLit (.int 0))) (eLit (.str "ladder"))) (eOr (eNot (eFn d_is_list (asVal (eOp bIdx (eVar 2) (eLit (.int 1))) asNil))) (eNot (eBi (bi1 allB) (aCons (eLc (iVal (eOp bIdx (eVar 2) (eLit (.int 1)))) (.nm 5) (eLit (.bool true)) (eFn d_is_ladder_row (asVal (eVar 5) asNil)) [5]) aNil)))))
  (frzIf [] (mRet (eLit (.bool false))))
  mNx))
  (mSeq (frzIf [] (mSet' false 4 (eLc (iVal (eOp bIdx (eVar 2) (eLit (.int 1)))) (.nm 5) (eLit (.bool true)) (eTup (aCons (eOp bIdx (eVar 5) (eLit (.int 0))) (aCons (eBi (bi1 listB) (aCons (eOp bIdx (eVar 5) (eLit (.int 1))) aNil)) aNil))) [5])))
  (frzIf [] (mRet (eAnd (eOp bEq (eVar 4) (eFn d_ladder_of (asVal (eVar 3) asNil))) (eOp bLt (eBi (bi1 lenB) (aCons (eOp bIdx (eOp bIdx (eOp bAdd (eCut2 (eVar 4) (some (eUn bNeg (eLit (.int 1)))) none) (eLst (aCons (eTup (aCons (eLit (.int 0)) (aCons (eLst aNil) aNil))) aNil))) (eLit (.int 0))) (eLit (.int 1))) aNil)) (eVar 1)))))))))))
def d_is_kept_or_ladder : Den := fnDen 3 6 m_is_kept_or_ladder
def t_is_kept_or_ladder : List (Str × FnI) := ("is_kept_or_ladder", ⟨d_is_kept_or_ladder, false⟩) :: t_is_ladder_row
def n_are_prices : List Str := ["thing", "hour"]
def m_are_prices : Sm :=
  (frzIf [] (mRet (eAnd (eIs ["dict"] (eVar 0)) (eBi (bi1 allB) (aCons (eLc (iVal (eVar 0)) (.nm 1) (eLit (.bool true)) (eAnd (eFn d_is_integer (asVal (eVar 1) asNil)) (eFn d_is_number (asVal (eOp bIdx (eVar 0) (eVar 1)) asNil))) [1]) aNil)))))
def d_are_prices : Den := fnDen 1 2 m_are_prices
def t_are_prices : List (Str × FnI) := ("are_prices", ⟨d_are_prices, false⟩) :: t_is_kept_or_ladder
def n_above_least : List Str := ["some", "prices", "name", "comes", "due", "weight", "inner", "least", "hour"]
def m_above_least : Sm :=
  (mSeq (frzIf [] (mUnp (.tp [(.nm 3), (.nm 4), (.nm 5)]) (eOp bIdx (eVar 0) (eVar 2))))
  (mSeq (frzIf [] (mSet' false 6 (eLc (iVal (eVar 1)) (.nm 8) (eChain bLe bLt (eVar 3) (eVar 8) (eVar 4)) (eOp bIdx (eVar 1) (eVar 8)) [8])))
  (mSeq (frzIf [] (mIf (eOp bLe (eVar 4) (eVar 3))
  (frzIf [] (mRet (eLit (.int 0))))
  mNx))
  (mSeq (frzIf [] (mSet' false 7 (eIf (eOp bEq (eBi (bi1 lenB) (aCons (eVar 6) aNil)) (eOp bSub (eVar 4) (eVar 3))) (eBi (bi1 minB) (aCons (eVar 6) aNil)) (eLit (.int 0)))))
  (frzIf [] (mRet (eBi (bi2 max2B) (aCons (eLit (.int 0)) (aCons (eOp bSub (eVar 5) (eVar 7)) aNil)))))))))
def d_above_least : Den := fnDen 3 9 m_above_least
def t_above_least : List (Str × FnI) := ("above_least", ⟨d_above_least, false⟩) :: t_are_prices
def n_worth_of : List Str := ["some", "prices", "name"]
def m_worth_of : Sm :=
  (frzIf [] (mRet (eOp bAdd (eSv (eVar 1)) (eBi (bi1 sumB) (aCons (eLc (iVal (eVar 0)) (.nm 2) (eLit (.bool true)) (eFn d_above_least (asVal (eVar 0) (asVal (eVar 1) (asVal (eVar 2) asNil)))) [2]) aNil)))))
def d_worth_of : Den := fnDen 2 3 m_worth_of
def t_worth_of : List (Str × FnI) := ("worth_of", ⟨d_worth_of, false⟩) :: t_above_least
def n_is_lot_or_prices : List Str := ["units", "number", "thing", "some"]
def m_is_lot_or_prices : Sm :=
  (mSeq (frzIf [0] (mSet' false 3 (eFn d_checked_units (asVal (eVar 0) asNil))))
  (mSeq (frzIf [1] (mDrop (eFn d_checked_number (asVal (eVar 1) asNil))))
  (mSeq (frzIf [] (mIf (eOr (eNot (eFn d_is_list (asVal (eVar 2) asNil))) (eOr (eOp bNe (eBi (bi1 lenB) (aCons (eVar 2) aNil)) (eLit (.int 2))) (eNot (eIs ["str"] (eOp bIdx (eVar 2) (eLit (.int 0)))))))
  (frzIf [] (mRet (eLit (.bool false))))
  mNx))
  (mSeq (frzIf [] (mIf (eOp bEq (eOp bIdx (eVar 2) (eLit (.int 0))) (eLit (.str "lot")))
  (mSeq (frzIf [] (mIf (eOp bIsNot (eFn d_first_odd (asVal (eVar 3) (asVal (eOp bIdx (eVar 2) (eLit (.int 1))) asNil))) (eLit .none))
  (frzIf [] (mRet (eLit (.bool false))))
  mNx))
  (frzIf [] (mRet (eAnd (eFn d_does_fit (asVal (eVar 3) (asVal (eOp bIdx (eVar 2) (eLit (.int 1))) asNil))) (eOp bGe (eFn d_weight_of (asVal (eVar 3) (asVal (eOp bIdx (eVar 2) (eLit (.int 1))) asNil))) (eVar 1))))))
  mNx))
  (frzIf [] (mRet (eAnd (eOp bEq (eOp bIdx (eVar 2) (eLit (.int 0))) (eLit (.str "prices"))) (eAnd (eFn d_are_prices (asVal (eOp bIdx (eVar 2) (eLit (.int 1))) asNil)) (eOp bLt (eFn d_worth_of (asVal (eVar 3) (asVal (eOp bIdx (eVar 2) (eLit (.int 1))) asNil))) (eVar 1))))))))))
def d_is_lot_or_prices : Den := fnDen 3 4 m_is_lot_or_prices
def t_is_lot_or_prices : List (Str × FnI) := ("is_lot_or_prices", ⟨d_is_lot_or_prices, false⟩) :: t_worth_of
def n_kept_or_ladder : List Str := ["tasks", "number", "some", "kept"]
def m_kept_or_ladder : Sm :=
  (mSeq (frzIf [0] (mSet' false 2 (eFn d_checked_tasks (asVal (eVar 0) asNil))))
  (mSeq (frzIf [2] (mSet' false 3 (eFn d_kept_of (asVal (eVar 2) asNil))))
  (mSeq (frzIf [1] (mIf (eOp bGe (eBi (bi1 lenB) (aCons (eVar 3) aNil)) (eFn d_checked_number (asVal (eVar 1) asNil)))
  (frzIf [] (mRet (eTup (aCons (eLit (.str "kept")) (aCons (eVar 3) aNil)))))
  mNx))
  (frzIf [] (mRet (eTup (aCons (eLit (.str "ladder")) (aCons (eFn d_ladder_of (asVal (eVar 2) asNil)) aNil))))))))
def d_kept_or_ladder : Den := fnDen 2 4 m_kept_or_ladder
def t_kept_or_ladder : List (Str × FnI) := ("kept_or_ladder", ⟨d_kept_or_ladder, false⟩) :: t_is_lot_or_prices
def n_placing_by : List Str := ["some", "lot", "rows", "is_late", "hours", "hour", "name"]
def m_placing_by : Sm :=
  (mSeq (frzIf [] (mUnp (.tp [(.nm 2), (.nm 3)]) (eFn d_rows_by_due (asVal (eVar 0) (asVal (eVar 1) asNil)))))
  (mSeq (frzIf [] (mIf (eVar 3)
  (frzIf [] (mRet (eLit .none)))
  mNx))
  (mSeq (frzIf [5] (mSet' false 4 (eDc (iVal (eVar 2)) (.tp [(.nm 5), (.nm 6)]) (eLit (.bool true)) (eVar 6) (eVar 5) [5, 6])))
  (frzIf [] (mRet (eDc (iVal (eBi (bi1 sortedB) (aCons (eVar 4) aNil))) (.nm 6) (eLit (.bool true)) (eVar 6) (eOp bIdx (eVar 4) (eVar 6)) [6]))))))
def d_placing_by : Den := fnDen 2 7 m_placing_by
def t_placing_by : List (Str × FnI) := ("placing_by", ⟨d_placing_by, false⟩) :: t_kept_or_ladder
def n_full_hours : List Str := ["some", "best", "weight", "heavy", "placing", "owners", "found", "waiting", "name", "hour"]
def m_full_hours : Sm :=
  (mSeq (frzIf [8] (mSet' false 3 (eLc (iVal (eVar 0)) (.nm 8) (eOp bGe (eOp bIdx (eOp bIdx (eVar 0) (eVar 8)) (eLit (.int 2))) (eVar 2)) (eVar 8) [8])))
  (mSeq (frzIf [8] (mSet' false 4 (eFn d_placing_by (asVal (eVar 0) (asVal (eLc (iVal (eVar 1)) (.nm 8) (eOp bGe (eOp bIdx (eOp bIdx (eVar 0) (eVar 8)) (eLit (.int 2))) (eVar 2)) (eVar 8) [8]) asNil)))))
  (mSeq (frzIf [8] (mPar2 5 6 false true (eDc (iOf pairsOf (eVar 4)) (.tp [(.nm 8), (.nm 9)]) (eLit (.bool true)) (eVar 9) (eVar 8) [8, 9]) eD0))
  (mSeq (frzIf [8] (mSet' true 7 (eLc (iVal (eVar 3)) (.nm 8) (eOp bNotIn (eVar 8) (eVar 4)) (eVar 8) [8])))
  (mSeq (mWhile fuelW (eOp bNe (eVar 7) (eLst aNil))
  (mSeq (frzIf [] (mPop 8 7))
  (frzIf [] (mFor (iRng rng2Of (aCons (eOp bIdx (eOp bIdx (eVar 0) (eVar 8)) (eLit (.int 0))) (aCons (eOp bIdx (eOp bIdx (eVar 0) (eVar 8)) (eLit (.int 1))) aNil))) (.nm 9)
  (frzIf [] (mIf (eOp bNotIn (eVar 9) (eVar 6))
  (mSeq (frzIf [] (mPutD 6 (eVar 9) (eLit (.bool true))))
  (frzIf [] (mMeth fAppend 7 (aCons (eOp bIdx (eVar 5) (eVar 9)) aNil))))
  mNx))))))
  (frzIf [7, 6] (mRet (eBi (bi1 sortedB) (aCons (eVar 6) aNil)))))))))
def d_full_hours : Den := fnDen 3 10 m_full_hours
def t_full_hours : List (Str × FnI) := ("full_hours", ⟨d_full_hours, false⟩) :: t_placing_by
def n_prices_by : List Str := ["some", "best", "prices", "weight", "hour", "name"]
def m_prices_by : Sm :=
  (mSeq (frzIf [0] (mPar2 1 2 false true (eFn d_best_of (asVal (eVar 0) asNil)) eD0))
  (mSeq (frzIf [] (mFor (iVal (eBi (bi1 sortedB) (aCons (eDc (iVal (eVar 0)) (.nm 5) (eOp bGt (eOp bIdx (eOp bIdx (eVar 0) (eVar 5)) (eLit (.int 2))) (eLit (.int 0))) (eOp bIdx (eOp bIdx (eVar 0) (eVar 5)) (eLit (.int 2))) (eLit (.bool true)) [5]) aNil))) (.nm 3)
  (frzIf [3, 0, 1] (mMeth fUpdate 2 (aCons (eDc (iVal (eFn d_full_hours (asVal (eVar 0) (asVal (eVar 1) (asVal (eVar 3) asNil))))) (.nm 4) (eLit (.bool true)) (eVar 4) (eVar 3) [4]) aNil)))))
  (frzIf [2] (mRet (eDc (iVal (eBi (bi1 sortedB) (aCons (eVar 2) aNil))) (.nm 4) (eLit (.bool true)) (eVar 4) (eOp bIdx (eVar 2) (eVar 4)) [4])))))
def d_prices_by : Den := fnDen 1 6 m_prices_by
def t_prices_by : List (Str × FnI) := ("prices_by", ⟨d_prices_by, false⟩) :: t_full_hours
def n_lot_or_prices : List Str := ["units", "number", "some", "best"]
def m_lot_or_prices : Sm :=
  (mSeq (frzIf [0] (mSet' false 2 (eFn d_checked_units (asVal (eVar 0) asNil))))
  (mSeq (frzIf [2] (mSet' false 3 (eFn d_best_of (asVal (eVar 2) asNil))))
  (mSeq (frzIf [3, 1] (mIf (eOp bGe (eFn d_weight_of (asVal (eVar 2) (asVal (eVar 3) asNil))) (eFn d_checked_number (asVal (eVar 1) asNil)))
  (frzIf [] (mRet (eTup (aCons (eLit (.str "lot")) (aCons (eBi (bi1 sortedB) (aCons (eVar 3) aNil)) aNil)))))
  mNx))
  (frzIf [] (mRet (eTup (aCons (eLit (.str "prices")) (aCons (eFn d_prices_by (asVal (eVar 2) asNil)) aNil))))))))
def d_lot_or_prices : Den := fnDen 2 4 m_lot_or_prices
def t_lot_or_prices : List (Str × FnI) := ("lot_or_prices", ⟨d_lot_or_prices, false⟩) :: t_prices_by
def n_best_prices : List Str := ["units"]
def m_best_prices : Sm :=
  (frzIf [] (mRet (eFn d_prices_by (asVal (eFn d_checked_units (asVal (eVar 0) asNil)) asNil))))
def d_best_prices : Den := fnDen 1 1 m_best_prices
def t_best_prices : List (Str × FnI) := ("best_prices", ⟨d_best_prices, false⟩) :: t_lot_or_prices
def n_law_numbers_right : List Str := ["stream", "tasks", "units", "most", "number", "is_less", "found", "words"]
def m_law_numbers_right : Sm :=
  (mSeq (frzIf [3] (mFor (iVal (eTup (aCons (eBi (bi2 max2B) (aCons (eLit (.int 0)) (aCons (eOp bSub (eVar 3) (eLit (.int 1))) aNil))) (aCons (eVar 3) (aCons (eOp bAdd (eVar 3) (eLit (.int 1))) (aCons (eOp bAdd (eOp bAdd (eVar 3) (eLit (.int 2))) (eFn d_law_draw (asStm 0 (asVal (eLit (.int 5)) asNil)))) aNil)))))) (.nm 4)
  (mSeq (frzIf [] (mSet' false 5 (eOp bLe (eVar 4) (eVar 3))))
  (mSeq (frzIf [1, 4, 2, 4] (mSet' true 6 (eLst (aCons (eOp bIdx (eFn d_kept_or_ladder (asVal (eVar 1) (asVal (eVar 4) asNil))) (eLit (.int 0))) (aCons (eOp bIdx (eFn d_lot_or_prices (asVal (eVar 2) (asVal (eVar 4) asNil))) (eLit (.int 0))) aNil)))))
  (mSeq (frzIf [1, 4, 2] (mMeth fAppend 6 (aCons (eFn d_is_kept_or_ladder (asVal (eVar 1) (asVal (eVar 4) (asVal (eTup (aCons (eLit (.str "kept")) (aCons (eFn d_best_lot (asVal (eVar 2) asNil)) aNil))) asNil)))) aNil)))
  (mSeq (frzIf [2, 4, 1] (mMeth fAppend 6 (aCons (eFn d_is_lot_or_prices (asVal (eVar 2) (asVal (eVar 4) (asVal (eTup (aCons (eLit (.str "lot")) (aCons (eFn d_kept_tasks (asVal (eVar 1) asNil)) aNil))) asNil)))) aNil)))
  (mSeq (frzIf [1, 4, 1] (mMeth fAppend 6 (aCons (eFn d_is_kept_or_ladder (asVal (eVar 1) (asVal (eVar 4) (asVal (eTup (aCons (eLit (.str "ladder")) (aCons (eFn d_ladder (asVal (eVar 1) asNil)) aNil))) asNil)))) aNil)))
  (mSeq (frzIf [2, 4, 2] (mMeth fAppend 6 (aCons (eFn d_is_lot_or_prices (asVal (eVar 2) (asVal (eVar 4) (asVal (eTup (aCons (eLit (.str "prices")) (aCons (eFn d_best_prices (asVal (eVar 2) asNil)) aNil))) asNil)))) aNil)))
  (mSeq (frzIf [] (mSet' false 7 (eIf (eVar 5) (eLst (aCons (eLit (.str "kept")) (aCons (eLit (.str "lot")) aNil))) (eLst (aCons (eLit (.str "ladder")) (aCons (eLit (.str "prices")) aNil))))))
  (frzIf [5, 5] (mIf (eNot (eFn (d_law_same recD) (asVal (eVar 6) (asVal (eOp bAdd (eVar 7) (eLst (aCons (eVar 5) (aCons (eVar 5) (aCons (eNot (eVar 5)) (aCons (eNot (eVar 5)) aNil)))))) asNil))))
  (frzIf [6] (mRet (eLit (.bool false))))
  mNx)))))))))))
  (frzIf [6] (mRet (eLit (.bool true)))))
def d_law_numbers_right : Den := fnDen 4 8 m_law_numbers_right
def t_law_numbers_right : List (Str × FnI) := ("_law_numbers_right", ⟨d_law_numbers_right, true⟩) :: t_best_prices
def n_law_d_lot : List Str := ["stream", "known", "row"]
def m_law_d_lot : Sm :=
  (mSeq (frzIf [] (mSet' false 2 (eFn d_law_mixed (asStm 0 (asVal (eBi (bi1 sortedB) (aCons (eVar 1) aNil)) asNil)))))
  (frzIf [] (mRet (eCut2 (eVar 2) none (some (eFn d_law_draw (asStm 0 (asVal (eOp bAdd (eBi (bi1 lenB) (aCons (eVar 2) aNil)) (eLit (.int 1))) asNil))))))))
def d_law_d_lot : Den := fnDen 2 3 m_law_d_lot
def t_law_d_lot : List (Str × FnI) := ("_law_d_lot", ⟨d_law_d_lot, true⟩) :: t_law_numbers_right
def n_unit_fits : List Str := ["units", "lot", "some", "names"]
def m_unit_fits : Sm :=
  (mSeq (frzIf [0, 1] (mUnp (.tp [(.nm 2), (.nm 3)]) (eFn d_checked_units_lot (asVal (eVar 0) (asVal (eVar 1) asNil)))))
  (frzIf [] (mRet (eFn d_does_fit (asVal (eVar 2) (asVal (eVar 3) asNil))))))
def d_unit_fits : Den := fnDen 2 4 m_unit_fits
def t_unit_fits : List (Str × FnI) := ("unit_fits", ⟨d_unit_fits, false⟩) :: t_law_d_lot
def n_checked_fitting : List Str := ["units", "lot", "some", "names"]
def m_checked_fitting : Sm :=
  (mSeq (frzIf [0, 1] (mUnp (.tp [(.nm 2), (.nm 3)]) (eFn d_checked_units_lot (asVal (eVar 0) (asVal (eVar 1) asNil)))))
  (mSeq (frzIf [] (mIf (eNot (eFn d_does_fit (asVal (eVar 2) (asVal (eVar 3) asNil))))
  mNo
  mNx))
  (frzIf [] (mRet (eTup (aCons (eVar 2) (aCons (eVar 3) aNil)))))))
def d_checked_fitting : Den := fnDen 2 4 m_checked_fitting
def t_checked_fitting : List (Str × FnI) := ("checked_fitting", ⟨d_checked_fitting, false⟩) :: t_unit_fits
def n_unit_adding : List Str := ["units", "lot", "some", "names", "name"]
def m_unit_adding : Sm :=
  (mSeq (frzIf [0, 1] (mUnp (.tp [(.nm 2), (.nm 3)]) (eFn d_checked_fitting (asVal (eVar 0) (asVal (eVar 1) asNil)))))
  (frzIf [] (mRet (eLc (iVal (eVar 2)) (.nm 4) (eAnd (eOp bNotIn (eVar 4) (eVar 3)) (eFn d_does_fit (asVal (eVar 2) (asVal (eOp bAdd (eVar 3) (eLst (aCons (eVar 4) aNil))) asNil)))) (eVar 4) [4]))))
def d_unit_adding : Den := fnDen 2 5 m_unit_adding
def t_unit_adding : List (Str × FnI) := ("unit_adding", ⟨d_unit_adding, false⟩) :: t_checked_fitting
def n_stretch_of : List Str := ["some", "rows", "last", "due", "first", "hour", "name"]
def m_stretch_of : Sm :=
  (mSeq (frzIf [] (mPar2 2 3 false false (eOp bIdx (eOp bIdx (eVar 1) (eUn bNeg (eLit (.int 1)))) (eLit (.int 0))) (eOp bIdx (eOp bIdx (eVar 0) (eOp bIdx (eOp bIdx (eVar 1) (eUn bNeg (eLit (.int 1)))) (eLit (.int 1)))) (eLit (.int 1)))))
  (mSeq (frzIf [2] (mSet' false 4 (eVar 2)))
  (mSeq (frzIf [] (mFor (iVal (eUn bRev (eCut2 (eVar 1) none (some (eUn bNeg (eLit (.int 1))))))) (.tp [(.nm 5), (.nm 6)])
  (mSeq (frzIf [] (mIf (eOr (eOp bNe (eVar 5) (eOp bSub (eVar 4) (eLit (.int 1)))) (eOp bGt (eOp bIdx (eOp bIdx (eVar 0) (eVar 6)) (eLit (.int 1))) (eVar 3)))
  mBk
  mNx))
  (frzIf [5] (mSet' false 4 (eVar 5))))))
  (frzIf [] (mRet (eTup (aCons (eVar 4) (aCons (eVar 3) aNil))))))))
def d_stretch_of : Den := fnDen 2 7 m_stretch_of
def t_stretch_of : List (Str × FnI) := ("stretch_of", ⟨d_stretch_of, false⟩) :: t_unit_adding
def n_placing_or_stretch : List Str := ["units", "lot", "some", "names", "rows", "is_late", "first", "last"]
def m_placing_or_stretch : Sm :=
  (mSeq (frzIf [0, 1] (mUnp (.tp [(.nm 2), (.nm 3)]) (eFn d_checked_units_lot (asVal (eVar 0) (asVal (eVar 1) asNil)))))
  (mSeq (frzIf [] (mUnp (.tp [(.nm 4), (.nm 5)]) (eFn d_rows_by_due (asVal (eVar 2) (asVal (eVar 3) asNil)))))
  (mSeq (frzIf [] (mIf (eNot (eVar 5))
  (frzIf [] (mRet (eTup (aCons (eLit (.str "placing")) (aCons (eFn d_placing_by (asVal (eVar 2) (asVal (eVar 3) asNil))) aNil)))))
  mNx))
  (mSeq (frzIf [] (mUnp (.tp [(.nm 6), (.nm 7)]) (eFn d_stretch_of (asVal (eVar 2) (asVal (eVar 4) asNil)))))
  (frzIf [] (mRet (eTup (aCons (eLit (.str "stretch")) (aCons (eVar 6) (aCons (eVar 7) aNil))))))))))
def d_placing_or_stretch : Den := fnDen 2 8 m_placing_or_stretch
def t_placing_or_stretch : List (Str × FnI) := ("placing_or_stretch", ⟨d_placing_or_stretch, false⟩) :: t_stretch_of
def n_law_lot_right : List Str := ["stream", "tasks", "units", "length", "lot", "due", "found", "late", "more", "name"]
def m_law_lot_right : Sm :=
  (mSeq (frzIf [] (mSet' false 4 (eFn d_law_d_lot (asStm 0 (asVal (eVar 1) asNil)))))
  (mSeq (frzIf [4] (mSet' false 5 (eFn d_law_in_time (asVal (eVar 1) (asVal (eVar 4) (asVal (eVar 3) asNil))))))
  (mSeq (frzIf [1, 2] (mSet' true 6 (eLst (aCons (eOp bIs (eFn d_late_at (asVal (eVar 1) (asVal (eBi (bi1 listB) (aCons (eVar 4) aNil)) asNil))) (eLit .none)) (aCons (eFn d_unit_fits (asVal (eVar 2) (asVal (eBi (bi1 listB) (aCons (eVar 4) aNil)) asNil))) aNil)))))
  (mSeq (frzIf [2] (mMeth fAppend 6 (aCons (eOp bEq (eOp bIdx (eFn d_placing_or_stretch (asVal (eVar 2) (asVal (eBi (bi1 listB) (aCons (eVar 4) aNil)) asNil))) (eLit (.int 0))) (eLit (.str "placing"))) aNil)))
  (mSeq (frzIf [5] (mIf (eNot (eFn (d_law_same recD) (asVal (eVar 6) (asVal (eOp bMul (eLst (aCons (eVar 5) aNil)) (eLit (.int 3))) asNil))))
  (frzIf [6] (mRet (eLit (.bool false))))
  mNx))
  (mSeq (frzIf [] (mIf (eVar 5)
  (mSeq (frzIf [9, 9] (mSet' false 8 (eLc (iVal (eBi (bi1 sortedB) (aCons (eVar 1) aNil))) (.nm 9) (eAnd (eOp bNotIn (eVar 9) (eVar 4)) (eFn d_law_in_time (asVal (eVar 1) (asVal (eOp bAdd (eVar 4) (eLst (aCons (eVar 9) aNil))) (asVal (eVar 3) asNil))))) (eVar 9) [9])))
  (frzIf [6] (mRet (eFn (d_law_same recD) (asVal (eFn d_unit_adding (asVal (eVar 2) (asVal (eBi (bi1 listB) (aCons (eVar 4) aNil)) asNil))) (asVal (eVar 8) asNil))))))
  mNx))
  (mSeq (frzIf [1] (mSet' false 7 (eFn d_late_at (asVal (eVar 1) (asVal (eBi (bi1 listB) (aCons (eVar 4) aNil)) asNil)))))
  (frzIf [6] (mRet (eOp bGt (eOp bMul (eVar 3) (eBi (bi1 lenB) (aCons (eLc (iVal (eVar 4)) (.nm 9) (eOp bLe (eOp bIdx (eOp bIdx (eVar 1) (eVar 9)) (eLit (.int 1))) (eVar 7)) (eVar 9) [9]) aNil))) (eVar 7)))))))))))
def d_law_lot_right : Den := fnDen 4 10 m_law_lot_right
def t_law_lot_right : List (Str × FnI) := ("_law_lot_right", ⟨d_law_lot_right, true⟩) :: t_placing_or_stretch
def n_law : List Str := ["script", "stream", "turn", "length", "tasks", "name", "units", "k"]
def m_law : Sm :=
  (mSeq (frzIf [] (mFor (iRng rngOf (aCons (eLit (.int 9)) aNil)) (.nm 2)
  (mSeq (frzIf [] (mPar2 3 4 false true (eOp bAdd (eLit (.int 1)) (eFn d_law_draw (asStm 1 (asVal (eLit (.int 4)) asNil)))) eD0))
  (mSeq (frzIf [1] (mFor (iVal (eFn d_law_d_names (asStm 1 (asVal (eFn d_law_draw (asStm 1 (asVal (eOp bIdx (eLst (aCons (eLit (.int 7)) (aCons (eLit (.int 10)) aNil))) (eOp bMod (eVar 2) (eLit (.int 2)))) asNil))) asNil)))) (.nm 5)
  (frzIf [3] (mPutD 4 (eVar 5) (eTup (aCons (eVar 3) (aCons (eOp bSub (eFn d_law_draw (asStm 1 (asVal (eOp bMul (eVar 3) (eLit (.int 7))) asNil))) (eLit (.int 2))) aNil)))))))
  (mSeq (frzIf [] (mSet' false 4 (eFn d_law_turned (asStm 1 (asVal (eVar 4) asNil)))))
  (mSeq (frzIf [4] (mSet' false 6 (eFn d_law_units_of (asVal (eVar 4) (asVal (eVar 3) asNil)))))
  (mSeq (frzIf [4, 6, 3] (mIf (eNot (eFn d_law_most_right (asVal (eVar 4) (asVal (eVar 6) (asVal (eVar 3) asNil)))))
  (frzIf [4] (mRet (eLit (.bool false))))
  mNx))
  (mSeq (frzIf [] (mFor (iRng rngOf (aCons (eLit (.int 4)) aNil)) (.nm 7)
  (frzIf [4, 6] (mIf (eNot (eFn d_law_lot_right (asStm 1 (asVal (eVar 4) (asVal (eVar 6) (asVal (eVar 3) asNil))))))
  (frzIf [4] (mRet (eLit (.bool false))))
  mNx))))
  (frzIf [4, 6, 4] (mIf (eNot (eFn d_law_numbers_right (asStm 1 (asVal (eVar 4) (asVal (eVar 6) (asVal (eFn d_most_in_time (asVal (eVar 4) asNil)) asNil))))))
  (frzIf [4] (mRet (eLit (.bool false))))
  mNx))))))))))
  (frzIf [4] (mRet (eLit (.bool true)))))
def d_law : Den := fnDen 1 8 m_law
def t_law : List (Str × FnI) := ("law", ⟨d_law, false⟩) :: t_law_lot_right
def o_law_draw : Op := ⟨30, ["stream"], []⟩
theorem s_law_draw : semBlk (orMNo (semS (semE 30) o_law_draw ⟨n_law_draw, defScope (top 65), fun _ => true, [], (some "stream")⟩ 30)) (defBody (top 65)) = some m_law_draw := by kernel_rfl
def o_law_mixed : Op := ⟨30, ["left"], []⟩
theorem s_law_mixed : semBlk (orMNo (semS (semE 30) o_law_mixed ⟨n_law_mixed, defScope (top 66), fun _ => true, t_law_draw, none⟩ 30)) (defBody (top 66)) = some m_law_mixed := by kernel_rfl
def o_law_d_names : Op := ⟨30, [], []⟩
theorem s_law_d_names : semBlk (orMNo (semS (semE 30) o_law_d_names ⟨n_law_d_names, defScope (top 70), fun _ => true, t_law_mixed, none⟩ 30)) (defBody (top 70)) = some m_law_d_names := by kernel_rfl
def o_law_turned : Op := ⟨30, [], []⟩
theorem s_law_turned : semBlk (orMNo (semS (semE 30) o_law_turned ⟨n_law_turned, defScope (top 69), fun _ => true, t_law_d_names, none⟩ 30)) (defBody (top 69)) = some m_law_turned := by kernel_rfl
def o_law_units_of : Op := ⟨30, [], []⟩
theorem s_law_units_of : semBlk (orMNo (semS (semE 30) o_law_units_of ⟨n_law_units_of, defScope (top 72), fun _ => true, t_law_turned, none⟩ 30)) (defBody (top 72)) = some m_law_units_of := by kernel_rfl
def o_law_in_time : Op := ⟨30, [], []⟩
theorem s_law_in_time : semBlk (orMNo (semS (semE 30) o_law_in_time ⟨n_law_in_time, defScope (top 73), fun _ => true, t_law_units_of, none⟩ 30)) (defBody (top 73)) = some m_law_in_time := by kernel_rfl
def o_law_lots : Op := ⟨30, ["found"], [("_law_in_time", [false, true, false])]⟩
theorem s_law_lots : semBlk (orMNo (semS (semE 30) o_law_lots ⟨n_law_lots, defScope (top 74), fun _ => true, t_law_in_time, none⟩ 30)) (defBody (top 74)) = some m_law_lots := by kernel_rfl
def o_dues_of : Op := ⟨30, [], []⟩
theorem s_dues_of : semBlk (orMNo (semS (semE 30) o_dues_of ⟨n_dues_of, defScope (top 48), fun _ => true, t_law_lots, none⟩ 30)) (defBody (top 48)) = some m_dues_of := by kernel_rfl
def o_first_ones : Op := ⟨30, ["found"], []⟩
theorem s_first_ones : semBlk (orMNo (semS (semE 30) o_first_ones ⟨n_first_ones, defScope (top 54), fun _ => true, t_dues_of, none⟩ 30)) (defBody (top 54)) = some m_first_ones := by kernel_rfl
def o_ladder_of : Op := ⟨30, ["rows"], [("dues_of", [false, true]), ("first_ones", [true, false])]⟩
theorem s_ladder_of : semBlk (orMNo (semS (semE 30) o_ladder_of ⟨n_ladder_of, defScope (top 55), fun _ => true, t_first_ones, none⟩ 30)) (defBody (top 55)) = some m_ladder_of := by kernel_rfl
def o_is_name : Op := ⟨30, [], []⟩
theorem s_is_name : semBlk (orMNo (semS (semE 30) o_is_name ⟨n_is_name, defScope (top 11), fun _ => true, t_ladder_of, none⟩ 30)) (defBody (top 11)) = some m_is_name := by kernel_rfl
def o_is_list : Op := ⟨30, [], []⟩
theorem s_is_list : semBlk (orMNo (semS (semE 30) o_is_list ⟨n_is_list, defScope (top 8), fun _ => true, t_is_name, none⟩ 30)) (defBody (top 8)) = some m_is_list := by kernel_rfl
def o_is_integer : Op := ⟨30, [], []⟩
theorem s_is_integer : semBlk (orMNo (semS (semE 30) o_is_integer ⟨n_is_integer, defScope (top 9), fun _ => true, t_is_list, none⟩ 30)) (defBody (top 9)) = some m_is_integer := by kernel_rfl
def o_is_number : Op := ⟨30, [], []⟩
theorem s_is_number : semBlk (orMNo (semS (semE 30) o_is_number ⟨n_is_number, defScope (top 10), fun _ => true, t_is_integer, none⟩ 30)) (defBody (top 10)) = some m_is_number := by kernel_rfl
def o_is_task : Op := ⟨30, [], []⟩
theorem s_is_task : semBlk (orMNo (semS (semE 30) o_is_task ⟨n_is_task, defScope (top 46), fun _ => true, t_is_number, none⟩ 30)) (defBody (top 46)) = some m_is_task := by kernel_rfl
def o_checked_tasks : Op := ⟨30, [], [("is_name", [true])]⟩
theorem s_checked_tasks : semBlk (orMNo (semS (semE 30) o_checked_tasks ⟨n_checked_tasks, defScope (top 47), fun _ => true, t_is_task, none⟩ 30)) (defBody (top 47)) = some m_checked_tasks := by kernel_rfl
def o_ladder : Op := ⟨30, [], [("ladder_of", [true]), ("checked_tasks", [true])]⟩
theorem s_ladder : semBlk (orMNo (semS (semE 30) o_ladder ⟨n_ladder, defScope (top 56), fun _ => true, t_checked_tasks, none⟩ 30)) (defBody (top 56)) = some m_ladder := by kernel_rfl
def o_law_same : Op := ⟨30, [], []⟩
theorem s_law_same (n : Den) : semBlk (orMNo (semS (semE 30) o_law_same ⟨n_law_same, defScope (top 67), fun _ => true, ("_law_same", ⟨n, false⟩) :: t_ladder, none⟩ 30)) (defBody (top 67)) = some (m_law_same n) := by kernel_rfl
def o_kept_of : Op := ⟨30, ["kept"], []⟩
theorem s_kept_of : semBlk (orMNo (semS (semE 30) o_kept_of ⟨n_kept_of, defScope (top 51), fun _ => true, t_law_same, none⟩ 30)) (defBody (top 51)) = some m_kept_of := by kernel_rfl
def o_kept_tasks : Op := ⟨30, [], [("kept_of", [true]), ("checked_tasks", [true])]⟩
theorem s_kept_tasks : semBlk (orMNo (semS (semE 30) o_kept_tasks ⟨n_kept_tasks, defScope (top 52), fun _ => true, t_kept_of, none⟩ 30)) (defBody (top 52)) = some m_kept_tasks := by kernel_rfl
def o_rows_by_due : Op := ⟨30, ["rows"], []⟩
theorem s_rows_by_due : semBlk (orMNo (semS (semE 30) o_rows_by_due ⟨n_rows_by_due, defScope (top 18), fun _ => true, t_kept_tasks, none⟩ 30)) (defBody (top 18)) = some m_rows_by_due := by kernel_rfl
def o_does_fit : Op := ⟨30, [], []⟩
theorem s_does_fit : semBlk (orMNo (semS (semE 30) o_does_fit ⟨n_does_fit, defScope (top 20), fun _ => true, t_rows_by_due, none⟩ 30)) (defBody (top 20)) = some m_does_fit := by kernel_rfl
def o_kept_in_turn : Op := ⟨30, ["found"], []⟩
theorem s_kept_in_turn : semBlk (orMNo (semS (semE 30) o_kept_in_turn ⟨n_kept_in_turn, defScope (top 28), fun _ => true, t_does_fit, none⟩ 30)) (defBody (top 28)) = some m_kept_in_turn := by kernel_rfl
def o_by_weights : Op := ⟨30, [], []⟩
theorem s_by_weights : semBlk (orMNo (semS (semE 30) o_by_weights ⟨n_by_weights, defScope (top 27), fun _ => true, t_kept_in_turn, none⟩ 30)) (defBody (top 27)) = some m_by_weights := by kernel_rfl
def o_best_of : Op := ⟨30, [], [("kept_in_turn", [false, true]), ("by_weights", [true])]⟩
theorem s_best_of : semBlk (orMNo (semS (semE 30) o_best_of ⟨n_best_of, defScope (top 29), fun _ => true, t_by_weights, none⟩ 30)) (defBody (top 29)) = some m_best_of := by kernel_rfl
def o_is_unit : Op := ⟨30, [], []⟩
theorem s_is_unit : semBlk (orMNo (semS (semE 30) o_is_unit ⟨n_is_unit, defScope (top 13), fun _ => true, t_best_of, none⟩ 30)) (defBody (top 13)) = some m_is_unit := by kernel_rfl
def o_checked_units : Op := ⟨30, [], [("is_name", [true])]⟩
theorem s_checked_units : semBlk (orMNo (semS (semE 30) o_checked_units ⟨n_checked_units, defScope (top 14), fun _ => true, t_is_unit, none⟩ 30)) (defBody (top 14)) = some m_checked_units := by kernel_rfl
def o_best_lot : Op := ⟨30, [], [("best_of", [true]), ("checked_units", [true])]⟩
theorem s_best_lot : semBlk (orMNo (semS (semE 30) o_best_lot ⟨n_best_lot, defScope (top 31), fun _ => true, t_checked_units, none⟩ 30)) (defBody (top 31)) = some m_best_lot := by kernel_rfl
def o_most_in_time : Op := ⟨30, [], [("kept_of", [true]), ("checked_tasks", [true])]⟩
theorem s_most_in_time : semBlk (orMNo (semS (semE 30) o_most_in_time ⟨n_most_in_time, defScope (top 53), fun _ => true, t_best_lot, none⟩ 30)) (defBody (top 53)) = some m_most_in_time := by kernel_rfl
def o_weight_of : Op := ⟨30, [], []⟩
theorem s_weight_of : semBlk (orMNo (semS (semE 30) o_weight_of ⟨n_weight_of, defScope (top 30), fun _ => true, t_most_in_time, none⟩ 30)) (defBody (top 30)) = some m_weight_of := by kernel_rfl
def o_best_weight : Op := ⟨30, [], [("checked_units", [true]), ("weight_of", [false, true]), ("best_of", [true])]⟩
theorem s_best_weight : semBlk (orMNo (semS (semE 30) o_best_weight ⟨n_best_weight, defScope (top 32), fun _ => true, t_weight_of, none⟩ 30)) (defBody (top 32)) = some m_best_weight := by kernel_rfl
def o_law_each_once : Op := ⟨30, ["found"], []⟩
theorem s_law_each_once : semBlk (orMNo (semS (semE 30) o_law_each_once ⟨n_law_each_once, defScope (top 68), fun _ => true, t_best_weight, none⟩ 30)) (defBody (top 68)) = some m_law_each_once := by kernel_rfl
def o_first_odd : Op := ⟨30, [], []⟩
theorem s_first_odd : semBlk (orMNo (semS (semE 30) o_first_odd ⟨n_first_odd, defScope (top 15), fun _ => true, t_law_each_once, none⟩ 30)) (defBody (top 15)) = some m_first_odd := by kernel_rfl
def o_checked_lot : Op := ⟨30, [], [("first_odd", [false, true])]⟩
theorem s_checked_lot : semBlk (orMNo (semS (semE 30) o_checked_lot ⟨n_checked_lot, defScope (top 16), fun _ => true, t_first_odd, none⟩ 30)) (defBody (top 16)) = some m_checked_lot := by kernel_rfl
def o_checked_units_lot : Op := ⟨30, [], [("checked_units", [true]), ("checked_lot", [false, true])]⟩
theorem s_checked_units_lot : semBlk (orMNo (semS (semE 30) o_checked_units_lot ⟨n_checked_units_lot, defScope (top 17), fun _ => true, t_checked_lot, none⟩ 30)) (defBody (top 17)) = some m_checked_units_lot := by kernel_rfl
def o_is_best : Op := ⟨30, [], [("best_of", [true]), ("weight_of", [false, true])]⟩
theorem s_is_best : semBlk (orMNo (semS (semE 30) o_is_best ⟨n_is_best, defScope (top 61), fun _ => true, t_checked_units_lot, none⟩ 30)) (defBody (top 61)) = some m_is_best := by kernel_rfl
def o_is_best_lot : Op := ⟨30, [], [("checked_units_lot", [true, true]), ("is_best", [true, true])]⟩
theorem s_is_best_lot : semBlk (orMNo (semS (semE 30) o_is_best_lot ⟨n_is_best_lot, defScope (top 62), fun _ => true, t_is_best, none⟩ 30)) (defBody (top 62)) = some m_is_best_lot := by kernel_rfl
def o_late_in : Op := ⟨30, [], [("dues_of", [false, true])]⟩
theorem s_late_in : semBlk (orMNo (semS (semE 30) o_late_in ⟨n_late_in, defScope (top 49), fun _ => true, t_is_best_lot, none⟩ 30)) (defBody (top 49)) = some m_late_in := by kernel_rfl
def o_late_at : Op := ⟨30, [], [("checked_tasks", [true]), ("late_in", [true, true]), ("checked_lot", [false, true])]⟩
theorem s_late_at : semBlk (orMNo (semS (semE 30) o_late_at ⟨n_late_at, defScope (top 50), fun _ => true, t_late_in, none⟩ 30)) (defBody (top 50)) = some m_late_at := by kernel_rfl
def o_stays_among : Op := ⟨30, [], [("kept_in_turn", [false, true])]⟩
theorem s_stays_among : semBlk (orMNo (semS (semE 30) o_stays_among ⟨n_stays_among, defScope (top 42), fun _ => true, t_late_at, none⟩ 30)) (defBody (top 42)) = some m_stays_among := by kernel_rfl
def o_in_some_best : Op := ⟨30, [], [("checked_units", [true]), ("stays_among", [true, false, true])]⟩
theorem s_in_some_best : semBlk (orMNo (semS (semE 30) o_in_some_best ⟨n_in_some_best, defScope (top 43), fun _ => true, t_stays_among, none⟩ 30)) (defBody (top 43)) = some m_in_some_best := by kernel_rfl
def o_in_all_best : Op := ⟨30, [], [("checked_units", [true]), ("stays_among", [true, false, true])]⟩
theorem s_in_all_best : semBlk (orMNo (semS (semE 30) o_in_all_best ⟨n_in_all_best, defScope (top 44), fun _ => true, t_in_some_best, none⟩ 30)) (defBody (top 44)) = some m_in_all_best := by kernel_rfl
def o_law_most_right : Op := ⟨30, ["due"], [("_law_lots", [true, false]), ("ladder", [true]), ("kept_tasks", [true]), ("best_lot", [true]), ("most_in_time", [true]), ("best_weight", [true]), ("_law_each_once", [true]), ("_law_in_time", [false, true, false]), ("is_best_lot", [true, true]), ("late_at", [true, true]), ("in_some_best", [true]), ("in_all_best", [true])]⟩
theorem s_law_most_right : semBlk (orMNo (semS (semE 30) o_law_most_right ⟨n_law_most_right, defScope (top 76), fun _ => true, t_in_all_best, none⟩ 30)) (defBody (top 76)) = some m_law_most_right := by kernel_rfl
def o_checked_number : Op := ⟨30, [], []⟩
theorem s_checked_number : semBlk (orMNo (semS (semE 30) o_checked_number ⟨n_checked_number, defScope (top 39), fun _ => true, t_law_most_right, none⟩ 30)) (defBody (top 39)) = some m_checked_number := by kernel_rfl
def o_is_ladder_row : Op := ⟨30, [], []⟩
theorem s_is_ladder_row : semBlk (orMNo (semS (semE 30) o_is_ladder_row ⟨n_is_ladder_row, defScope (top 58), fun _ => true, t_checked_number, none⟩ 30)) (defBody (top 58)) = some m_is_ladder_row := by kernel_rfl
def o_is_kept_or_ladder : Op := ⟨30, [], [("checked_tasks", [true]), ("checked_number", [true]), ("ladder_of", [true]), ("first_odd", [false, true]), ("late_in", [true, true])]⟩
theorem s_is_kept_or_ladder : semBlk (orMNo (semS (semE 30) o_is_kept_or_ladder ⟨n_is_kept_or_ladder, defScope (top 59), fun _ => true, t_is_ladder_row, none⟩ 30)) (defBody (top 59)) = some m_is_kept_or_ladder := by kernel_rfl
def o_are_prices : Op := ⟨30, [], []⟩
theorem s_are_prices : semBlk (orMNo (semS (semE 30) o_are_prices ⟨n_are_prices, defScope (top 33), fun _ => true, t_is_kept_or_ladder, none⟩ 30)) (defBody (top 33)) = some m_are_prices := by kernel_rfl
def o_above_least : Op := ⟨30, [], []⟩
theorem s_above_least : semBlk (orMNo (semS (semE 30) o_above_least ⟨n_above_least, defScope (top 34), fun _ => true, t_are_prices, none⟩ 30)) (defBody (top 34)) = some m_above_least := by kernel_rfl
def o_worth_of : Op := ⟨30, [], [("above_least", [false, true, false])]⟩
theorem s_worth_of : semBlk (orMNo (semS (semE 30) o_worth_of ⟨n_worth_of, defScope (top 35), fun _ => true, t_above_least, none⟩ 30)) (defBody (top 35)) = some m_worth_of := by kernel_rfl
def o_is_lot_or_prices : Op := ⟨30, [], [("checked_units", [true]), ("checked_number", [true]), ("are_prices", [true]), ("first_odd", [false, true]), ("worth_of", [true, true]), ("weight_of", [false, true])]⟩
theorem s_is_lot_or_prices : semBlk (orMNo (semS (semE 30) o_is_lot_or_prices ⟨n_is_lot_or_prices, defScope (top 41), fun _ => true, t_worth_of, none⟩ 30)) (defBody (top 41)) = some m_is_lot_or_prices := by kernel_rfl
def o_kept_or_ladder : Op := ⟨30, [], [("checked_tasks", [true]), ("kept_of", [true]), ("checked_number", [true]), ("ladder_of", [true])]⟩
theorem s_kept_or_ladder : semBlk (orMNo (semS (semE 30) o_kept_or_ladder ⟨n_kept_or_ladder, defScope (top 57), fun _ => true, t_is_lot_or_prices, none⟩ 30)) (defBody (top 57)) = some m_kept_or_ladder := by kernel_rfl
def o_placing_by : Op := ⟨30, [], []⟩
theorem s_placing_by : semBlk (orMNo (semS (semE 30) o_placing_by ⟨n_placing_by, defScope (top 19), fun _ => true, t_kept_or_ladder, none⟩ 30)) (defBody (top 19)) = some m_placing_by := by kernel_rfl
def o_full_hours : Op := ⟨30, ["waiting", "found"], []⟩
theorem s_full_hours : semBlk (orMNo (semS (semE 30) o_full_hours ⟨n_full_hours, defScope (top 36), fun _ => true, t_placing_by, none⟩ 30)) (defBody (top 36)) = some m_full_hours := by kernel_rfl
def o_prices_by : Op := ⟨30, ["prices"], [("best_of", [true]), ("full_hours", [true, true, false])]⟩
theorem s_prices_by : semBlk (orMNo (semS (semE 30) o_prices_by ⟨n_prices_by, defScope (top 37), fun _ => true, t_full_hours, none⟩ 30)) (defBody (top 37)) = some m_prices_by := by kernel_rfl
def o_lot_or_prices : Op := ⟨30, [], [("checked_units", [true]), ("best_of", [true]), ("weight_of", [false, true]), ("checked_number", [true]), ("prices_by", [true])]⟩
theorem s_lot_or_prices : semBlk (orMNo (semS (semE 30) o_lot_or_prices ⟨n_lot_or_prices, defScope (top 40), fun _ => true, t_prices_by, none⟩ 30)) (defBody (top 40)) = some m_lot_or_prices := by kernel_rfl
def o_best_prices : Op := ⟨30, [], [("prices_by", [true]), ("checked_units", [true])]⟩
theorem s_best_prices : semBlk (orMNo (semS (semE 30) o_best_prices ⟨n_best_prices, defScope (top 38), fun _ => true, t_lot_or_prices, none⟩ 30)) (defBody (top 38)) = some m_best_prices := by kernel_rfl
def o_law_numbers_right : Op := ⟨30, ["found"], [("is_kept_or_ladder", [true, true, false]), ("is_lot_or_prices", [true, true, false]), ("kept_or_ladder", [true, true]), ("lot_or_prices", [true, true]), ("best_lot", [true]), ("kept_tasks", [true]), ("ladder", [true]), ("best_prices", [true])]⟩
theorem s_law_numbers_right : semBlk (orMNo (semS (semE 30) o_law_numbers_right ⟨n_law_numbers_right, defScope (top 77), fun _ => true, t_best_prices, none⟩ 30)) (defBody (top 77)) = some m_law_numbers_right := by kernel_rfl
def o_law_d_lot : Op := ⟨30, [], []⟩
theorem s_law_d_lot : semBlk (orMNo (semS (semE 30) o_law_d_lot ⟨n_law_d_lot, defScope (top 71), fun _ => true, t_law_numbers_right, none⟩ 30)) (defBody (top 71)) = some m_law_d_lot := by kernel_rfl
def o_unit_fits : Op := ⟨30, [], [("checked_units_lot", [true, true])]⟩
theorem s_unit_fits : semBlk (orMNo (semS (semE 30) o_unit_fits ⟨n_unit_fits, defScope (top 21), fun _ => true, t_law_d_lot, none⟩ 30)) (defBody (top 21)) = some m_unit_fits := by kernel_rfl
def o_checked_fitting : Op := ⟨30, [], [("checked_units_lot", [true, true])]⟩
theorem s_checked_fitting : semBlk (orMNo (semS (semE 30) o_checked_fitting ⟨n_checked_fitting, defScope (top 24), fun _ => true, t_unit_fits, none⟩ 30)) (defBody (top 24)) = some m_checked_fitting := by kernel_rfl
def o_unit_adding : Op := ⟨30, [], [("checked_fitting", [true, true])]⟩
theorem s_unit_adding : semBlk (orMNo (semS (semE 30) o_unit_adding ⟨n_unit_adding, defScope (top 25), fun _ => true, t_checked_fitting, none⟩ 30)) (defBody (top 25)) = some m_unit_adding := by kernel_rfl
def o_stretch_of : Op := ⟨30, [], []⟩
theorem s_stretch_of : semBlk (orMNo (semS (semE 30) o_stretch_of ⟨n_stretch_of, defScope (top 22), fun _ => true, t_unit_adding, none⟩ 30)) (defBody (top 22)) = some m_stretch_of := by kernel_rfl
def o_placing_or_stretch : Op := ⟨30, [], [("checked_units_lot", [true, true])]⟩
theorem s_placing_or_stretch : semBlk (orMNo (semS (semE 30) o_placing_or_stretch ⟨n_placing_or_stretch, defScope (top 23), fun _ => true, t_stretch_of, none⟩ 30)) (defBody (top 23)) = some m_placing_or_stretch := by kernel_rfl
def o_law_lot_right : Op := ⟨30, ["found"], [("_law_in_time", [false, true, false]), ("late_at", [true, true]), ("unit_fits", [true, true]), ("unit_adding", [true, true]), ("placing_or_stretch", [true, true])]⟩
theorem s_law_lot_right : semBlk (orMNo (semS (semE 30) o_law_lot_right ⟨n_law_lot_right, defScope (top 75), fun _ => true, t_placing_or_stretch, none⟩ 30)) (defBody (top 75)) = some m_law_lot_right := by kernel_rfl
def o_law : Op := ⟨30, ["tasks"], [("_law_units_of", [true, false]), ("_law_most_right", [true, true, true]), ("_law_numbers_right", [false, true, true, false]), ("_law_lot_right", [false, true, true, false]), ("most_in_time", [true])]⟩
theorem s_law : semBlk (orMNo (semS (semE 30) o_law ⟨n_law, defScope (top 78), fun _ => true, t_law_lot_right, none⟩ 30)) ((defBody (top 78)).tail) = some m_law := by kernel_rfl
def mkD (g n : Str) (i : Nat) : He.DefD := ⟨(g, none), n, n, defArgs (top i), defBody (top i), defScope (top i), [], []⟩
def fn : List He.DefD := [mkD "is_list" "is_list" 8, mkD "is_integer" "is_integer" 9, mkD "is_number" "is_number" 10, mkD "is_name" "is_name" 11, mkD "is_unit" "is_unit" 13, mkD "checked_units" "checked_units" 14, mkD "first_odd" "first_odd" 15, mkD "checked_lot" "checked_lot" 16, mkD "checked_units_lot" "checked_units_lot" 17, mkD "rows_by_due" "rows_by_due" 18, mkD "placing_by" "placing_by" 19, mkD "does_fit" "does_fit" 20, mkD "unit_fits" "unit_fits" 21, mkD "stretch_of" "stretch_of" 22, mkD "placing_or_stretch" "placing_or_stretch" 23, mkD "checked_fitting" "checked_fitting" 24, mkD "unit_adding" "unit_adding" 25, mkD "by_weights" "by_weights" 27, mkD "kept_in_turn" "kept_in_turn" 28, mkD "best_of" "best_of" 29, mkD "weight_of" "weight_of" 30, mkD "best_lot" "best_lot" 31, mkD "best_weight" "best_weight" 32, mkD "are_prices" "are_prices" 33, mkD "above_least" "above_least" 34, mkD "worth_of" "worth_of" 35, mkD "full_hours" "full_hours" 36, mkD "prices_by" "prices_by" 37, mkD "best_prices" "best_prices" 38, mkD "checked_number" "checked_number" 39, mkD "lot_or_prices" "lot_or_prices" 40, mkD "is_lot_or_prices" "is_lot_or_prices" 41, mkD "stays_among" "stays_among" 42, mkD "in_some_best" "in_some_best" 43, mkD "in_all_best" "in_all_best" 44, mkD "is_task" "is_task" 46, mkD "checked_tasks" "checked_tasks" 47, mkD "dues_of" "dues_of" 48, mkD "late_in" "late_in" 49, mkD "late_at" "late_at" 50, mkD "kept_of" "kept_of" 51, mkD "kept_tasks" "kept_tasks" 52, mkD "most_in_time" "most_in_time" 53, mkD "first_ones" "first_ones" 54, mkD "ladder_of" "ladder_of" 55, mkD "ladder" "ladder" 56, mkD "kept_or_ladder" "kept_or_ladder" 57, mkD "is_ladder_row" "is_ladder_row" 58, mkD "is_kept_or_ladder" "is_kept_or_ladder" 59, mkD "is_best" "is_best" 61, mkD "is_best_lot" "is_best_lot" 62, mkD "_law_start" "_law_start" 64, mkD "_law_draw" "_law_draw" 65, mkD "_law_mixed" "_law_mixed" 66, mkD "_law_same" "_law_same" 67, mkD "_law_each_once" "_law_each_once" 68, mkD "_law_turned" "_law_turned" 69, mkD "_law_d_names" "_law_d_names" 70, mkD "_law_d_lot" "_law_d_lot" 71, mkD "_law_units_of" "_law_units_of" 72, mkD "_law_in_time" "_law_in_time" 73, mkD "_law_lots" "_law_lots" 74, mkD "_law_lot_right" "_law_lot_right" 75, mkD "_law_most_right" "_law_most_right" 76, mkD "_law_numbers_right" "_law_numbers_right" 77, mkD "law" "law" 78]
def fa : List He.Fa := [.glo "is_list", .glo "is_integer", .glo "is_number", .glo "is_name", .glo "is_unit", .glo "checked_units", .glo "first_odd", .glo "checked_lot", .glo "checked_units_lot", .glo "rows_by_due", .glo "placing_by", .glo "does_fit", .glo "unit_fits", .glo "stretch_of", .glo "placing_or_stretch", .glo "checked_fitting", .glo "unit_adding", .glo "by_weights", .glo "kept_in_turn", .glo "best_of", .glo "weight_of", .glo "best_lot", .glo "best_weight", .glo "are_prices", .glo "above_least", .glo "worth_of", .glo "full_hours", .glo "prices_by", .glo "best_prices", .glo "checked_number", .glo "lot_or_prices", .glo "is_lot_or_prices", .glo "stays_among", .glo "in_some_best", .glo "in_all_best", .glo "is_task", .glo "checked_tasks", .glo "dues_of", .glo "late_in", .glo "late_at", .glo "kept_of", .glo "kept_tasks", .glo "most_in_time", .glo "first_ones", .glo "ladder_of", .glo "ladder", .glo "kept_or_ladder", .glo "is_ladder_row", .glo "is_kept_or_ladder", .glo "is_best", .glo "is_best_lot", .glo "_law_start", .glo "_law_draw", .glo "_law_mixed", .glo "_law_same", .glo "_law_each_once", .glo "_law_turned", .glo "_law_d_names", .glo "_law_d_lot", .glo "_law_units_of", .glo "_law_in_time", .glo "_law_lots", .glo "_law_lot_right", .glo "_law_most_right", .glo "_law_numbers_right", .glo "law", .free "len", .free "list", .free "tuple", .free "int", .free "str", .free "sum", .free "any", .free "all", .free "max", .free "min", .free "sorted", .free "dict", .free "isinstance", .free "range", .free "enumerate", .free "zip", .free "bool"]
abbrev Rw : PySem.W.OpenRow := PySem.W.OpenLaw.row PySem.Challenge.rw_duehalls_k83_main_tasks_and_units
abbrev hk : PySem.W.Hook := He.hookD 4 fa fn
def ob (s : PySem.W.SharedT) : He.AlD := He.obsDG 4 fa fn (HandSHeadRun.getT s)
theorem ob_eq (s : PySem.W.SharedT) : ob s = hk.obs s.abs := He.obsDG_eq (HandSHeadRun.getT_eq s)
def loose0 : List PySem.Str := ["DueError", "BadLot", "BadNumber", "BadTasks", "BadUnits", "NotFitting", "is_list", "is_integer", "is_number", "is_name", "is_unit", "checked_units", "first_odd", "checked_lot", "checked_units_lot", "rows_by_due", "placing_by", "does_fit", "unit_fits", "stretch_of", "placing_or_stretch", "checked_fitting", "unit_adding", "by_weights"]
def loose1 : List PySem.Str := ["kept_in_turn", "best_of", "weight_of", "best_lot", "best_weight", "are_prices", "above_least", "worth_of", "full_hours", "prices_by", "best_prices", "checked_number", "lot_or_prices", "is_lot_or_prices", "stays_among", "in_some_best", "in_all_best", "is_task", "checked_tasks", "dues_of", "late_in", "late_at", "kept_of", "kept_tasks"]
def loose2 : List PySem.Str := ["most_in_time", "first_ones", "ladder_of", "ladder", "kept_or_ladder", "is_ladder_row", "is_kept_or_ladder", "is_best", "is_best_lot", "_law_start", "_law_draw", "_law_mixed", "_law_same", "_law_each_once", "_law_turned", "_law_d_names", "_law_d_lot", "_law_units_of", "_law_in_time", "_law_lots", "_law_lot_right", "_law_most_right", "_law_numbers_right"]
def loose : List PySem.Str := loose0 ++ loose1 ++ loose2
theorem run (w : World) : HandSHeadRun.RunEq Rw (PySem.W.view Rw.prog [78]) hk ob 12000 loose w := by
  intro os
  kernel_rfl
variable {P : Program} {w : World} {K : PySem.W.Frag} {mg : Str → Option Value} {base : Heap} {k : Nat} {f : Addr} {fd : FuncData}
theorem c_law_draw : FnScope n_law_draw ["stream", "many"] (defScope (top 65)) := ⟨rfl, rfl, rfl, by decide +kernel, rfl, by decide +kernel, by decide +kernel⟩
theorem f_law_draw (F : FunD K "_law_draw" "_law_draw" (defArgs (top 65)) (defBody (top 65)) (defScope (top 65)) [] [] f fd) (hb : ∀ x ∈ bnames, mg x = none) (t : TabOk P w K mg base k []) (hm : mg "_law_draw" = some (.ref f)) : TabOk P w K mg base (k + 1) t_law_draw := t.cons (fn_ok F c_law_draw hb t s_law_draw) hm F.kp (F.bindsN fun _ _ _ _ _ _ us hl => match us, hl with | [_, _], _ => rfl)
theorem c_law_mixed : FnScope n_law_mixed ["stream", "some"] (defScope (top 66)) := ⟨rfl, rfl, rfl, by decide +kernel, rfl, by decide +kernel, by decide +kernel⟩
theorem f_law_mixed (F : FunD K "_law_mixed" "_law_mixed" (defArgs (top 66)) (defBody (top 66)) (defScope (top 66)) [] [] f fd) (hb : ∀ x ∈ bnames, mg x = none) (t : TabOk P w K mg base k t_law_draw) (hm : mg "_law_mixed" = some (.ref f)) : TabOk P w K mg base (k + 1) t_law_mixed := t.cons (fn_ok F c_law_mixed hb t s_law_mixed) hm F.kp (F.bindsN fun _ _ _ _ _ _ us hl => match us, hl with | [_, _], _ => rfl)
theorem c_law_d_names : FnScope n_law_d_names ["stream", "many"] (defScope (top 70)) := ⟨rfl, rfl, rfl, by decide +kernel, rfl, by decide +kernel, by decide +kernel⟩
theorem f_law_d_names (F : FunD K "_law_d_names" "_law_d_names" (defArgs (top 70)) (defBody (top 70)) (defScope (top 70)) [] [] f fd) (hb : ∀ x ∈ bnames, mg x = none) (t : TabOk P w K mg base k t_law_mixed) (hm : mg "_law_d_names" = some (.ref f)) : TabOk P w K mg base (k + 1) t_law_d_names := t.cons (fn_ok F c_law_d_names hb t s_law_d_names) hm F.kp (F.bindsN fun _ _ _ _ _ _ us hl => match us, hl with | [_, _], _ => rfl)
theorem c_law_turned : FnScope n_law_turned ["stream", "given"] (defScope (top 69)) := ⟨rfl, rfl, rfl, by decide +kernel, rfl, by decide +kernel, by decide +kernel⟩
theorem f_law_turned (F : FunD K "_law_turned" "_law_turned" (defArgs (top 69)) (defBody (top 69)) (defScope (top 69)) [] [] f fd) (hb : ∀ x ∈ bnames, mg x = none) (t : TabOk P w K mg base k t_law_d_names) (hm : mg "_law_turned" = some (.ref f)) : TabOk P w K mg base (k + 1) t_law_turned := t.cons (fn_ok F c_law_turned hb t s_law_turned) hm F.kp (F.bindsN fun _ _ _ _ _ _ us hl => match us, hl with | [_, _], _ => rfl)
theorem c_law_units_of : FnScope n_law_units_of ["tasks", "length"] (defScope (top 72)) := ⟨rfl, rfl, rfl, by decide +kernel, rfl, by decide +kernel, by decide +kernel⟩
theorem f_law_units_of (F : FunD K "_law_units_of" "_law_units_of" (defArgs (top 72)) (defBody (top 72)) (defScope (top 72)) [] [] f fd) (hb : ∀ x ∈ bnames, mg x = none) (t : TabOk P w K mg base k t_law_turned) (hm : mg "_law_units_of" = some (.ref f)) : TabOk P w K mg base (k + 1) t_law_units_of := t.cons (fn_ok F c_law_units_of hb t s_law_units_of) hm F.kp (F.bindsN fun _ _ _ _ _ _ us hl => match us, hl with | [_, _], _ => rfl)
theorem c_law_in_time : FnScope n_law_in_time ["tasks", "lot", "length"] (defScope (top 73)) := ⟨rfl, rfl, rfl, by decide +kernel, rfl, by decide +kernel, by decide +kernel⟩
theorem f_law_in_time (F : FunD K "_law_in_time" "_law_in_time" (defArgs (top 73)) (defBody (top 73)) (defScope (top 73)) [] [] f fd) (hb : ∀ x ∈ bnames, mg x = none) (t : TabOk P w K mg base k t_law_units_of) (hm : mg "_law_in_time" = some (.ref f)) : TabOk P w K mg base (k + 1) t_law_in_time := t.cons (fn_ok F c_law_in_time hb t s_law_in_time) hm F.kp (F.bindsN fun _ _ _ _ _ _ us hl => match us, hl with | [_, _, _], _ => rfl)
theorem c_law_lots : FnScope n_law_lots ["tasks", "length"] (defScope (top 74)) := ⟨rfl, rfl, rfl, by decide +kernel, rfl, by decide +kernel, by decide +kernel⟩
theorem f_law_lots (F : FunD K "_law_lots" "_law_lots" (defArgs (top 74)) (defBody (top 74)) (defScope (top 74)) [] [] f fd) (hb : ∀ x ∈ bnames, mg x = none) (t : TabOk P w K mg base k t_law_in_time) (hm : mg "_law_lots" = some (.ref f)) : TabOk P w K mg base (k + 1) t_law_lots := t.cons (fn_ok F c_law_lots hb t s_law_lots) hm F.kp (F.bindsN fun _ _ _ _ _ _ us hl => match us, hl with | [_, _], _ => rfl)
theorem c_dues_of : FnScope n_dues_of ["some", "lot"] (defScope (top 48)) := ⟨rfl, rfl, rfl, by decide +kernel, rfl, by decide +kernel, by decide +kernel⟩
theorem f_dues_of (F : FunD K "dues_of" "dues_of" (defArgs (top 48)) (defBody (top 48)) (defScope (top 48)) [] [] f fd) (hb : ∀ x ∈ bnames, mg x = none) (t : TabOk P w K mg base k t_law_lots) (hm : mg "dues_of" = some (.ref f)) : TabOk P w K mg base (k + 1) t_dues_of := t.cons (fn_ok F c_dues_of hb t s_dues_of) hm F.kp (F.bindsN fun _ _ _ _ _ _ us hl => match us, hl with | [_, _], _ => rfl)
theorem c_first_ones : FnScope n_first_ones ["lengths", "due"] (defScope (top 54)) := ⟨rfl, rfl, rfl, by decide +kernel, rfl, by decide +kernel, by decide +kernel⟩
theorem f_first_ones (F : FunD K "first_ones" "first_ones" (defArgs (top 54)) (defBody (top 54)) (defScope (top 54)) [] [] f fd) (hb : ∀ x ∈ bnames, mg x = none) (t : TabOk P w K mg base k t_dues_of) (hm : mg "first_ones" = some (.ref f)) : TabOk P w K mg base (k + 1) t_first_ones := t.cons (fn_ok F c_first_ones hb t s_first_ones) hm F.kp (F.bindsN fun _ _ _ _ _ _ us hl => match us, hl with | [_, _], _ => rfl)
theorem c_ladder_of : FnScope n_ladder_of ["some"] (defScope (top 55)) := ⟨rfl, rfl, rfl, by decide +kernel, rfl, by decide +kernel, by decide +kernel⟩
theorem f_ladder_of (F : FunD K "ladder_of" "ladder_of" (defArgs (top 55)) (defBody (top 55)) (defScope (top 55)) [] [] f fd) (hb : ∀ x ∈ bnames, mg x = none) (t : TabOk P w K mg base k t_first_ones) (hm : mg "ladder_of" = some (.ref f)) : TabOk P w K mg base (k + 1) t_ladder_of := t.cons (fn_ok F c_ladder_of hb t s_ladder_of) hm F.kp (F.bindsN fun _ _ _ _ _ _ us hl => match us, hl with | [_], _ => rfl)
theorem c_is_name : FnScope n_is_name ["thing"] (defScope (top 11)) := ⟨rfl, rfl, rfl, by decide +kernel, rfl, by decide +kernel, by decide +kernel⟩
theorem f_is_name (F : FunD K "is_name" "is_name" (defArgs (top 11)) (defBody (top 11)) (defScope (top 11)) [] [] f fd) (hb : ∀ x ∈ bnames, mg x = none) (t : TabOk P w K mg base k t_ladder_of) (hm : mg "is_name" = some (.ref f)) : TabOk P w K mg base (k + 1) t_is_name := t.cons (fn_ok F c_is_name hb t s_is_name) hm F.kp (F.bindsN fun _ _ _ _ _ _ us hl => match us, hl with | [_], _ => rfl)
theorem c_is_list : FnScope n_is_list ["thing"] (defScope (top 8)) := ⟨rfl, rfl, rfl, by decide +kernel, rfl, by decide +kernel, by decide +kernel⟩
theorem f_is_list (F : FunD K "is_list" "is_list" (defArgs (top 8)) (defBody (top 8)) (defScope (top 8)) [] [] f fd) (hb : ∀ x ∈ bnames, mg x = none) (t : TabOk P w K mg base k t_is_name) (hm : mg "is_list" = some (.ref f)) : TabOk P w K mg base (k + 1) t_is_list := t.cons (fn_ok F c_is_list hb t s_is_list) hm F.kp (F.bindsN fun _ _ _ _ _ _ us hl => match us, hl with | [_], _ => rfl)
theorem c_is_integer : FnScope n_is_integer ["thing"] (defScope (top 9)) := ⟨rfl, rfl, rfl, by decide +kernel, rfl, by decide +kernel, by decide +kernel⟩
theorem f_is_integer (F : FunD K "is_integer" "is_integer" (defArgs (top 9)) (defBody (top 9)) (defScope (top 9)) [] [] f fd) (hb : ∀ x ∈ bnames, mg x = none) (t : TabOk P w K mg base k t_is_list) (hm : mg "is_integer" = some (.ref f)) : TabOk P w K mg base (k + 1) t_is_integer := t.cons (fn_ok F c_is_integer hb t s_is_integer) hm F.kp (F.bindsN fun _ _ _ _ _ _ us hl => match us, hl with | [_], _ => rfl)
theorem c_is_number : FnScope n_is_number ["thing"] (defScope (top 10)) := ⟨rfl, rfl, rfl, by decide +kernel, rfl, by decide +kernel, by decide +kernel⟩
theorem f_is_number (F : FunD K "is_number" "is_number" (defArgs (top 10)) (defBody (top 10)) (defScope (top 10)) [] [] f fd) (hb : ∀ x ∈ bnames, mg x = none) (t : TabOk P w K mg base k t_is_integer) (hm : mg "is_number" = some (.ref f)) : TabOk P w K mg base (k + 1) t_is_number := t.cons (fn_ok F c_is_number hb t s_is_number) hm F.kp (F.bindsN fun _ _ _ _ _ _ us hl => match us, hl with | [_], _ => rfl)
theorem c_is_task : FnScope n_is_task ["thing"] (defScope (top 46)) := ⟨rfl, rfl, rfl, by decide +kernel, rfl, by decide +kernel, by decide +kernel⟩
theorem f_is_task (F : FunD K "is_task" "is_task" (defArgs (top 46)) (defBody (top 46)) (defScope (top 46)) [] [] f fd) (hb : ∀ x ∈ bnames, mg x = none) (t : TabOk P w K mg base k t_is_number) (hm : mg "is_task" = some (.ref f)) : TabOk P w K mg base (k + 1) t_is_task := t.cons (fn_ok F c_is_task hb t s_is_task) hm F.kp (F.bindsN fun _ _ _ _ _ _ us hl => match us, hl with | [_], _ => rfl)
theorem c_checked_tasks : FnScope n_checked_tasks ["tasks"] (defScope (top 47)) := ⟨rfl, rfl, rfl, by decide +kernel, rfl, by decide +kernel, by decide +kernel⟩
theorem f_checked_tasks (F : FunD K "checked_tasks" "checked_tasks" (defArgs (top 47)) (defBody (top 47)) (defScope (top 47)) [] [] f fd) (hb : ∀ x ∈ bnames, mg x = none) (t : TabOk P w K mg base k t_is_task) (hm : mg "checked_tasks" = some (.ref f)) : TabOk P w K mg base (k + 1) t_checked_tasks := t.cons (fn_ok F c_checked_tasks hb t s_checked_tasks) hm F.kp (F.bindsN fun _ _ _ _ _ _ us hl => match us, hl with | [_], _ => rfl)
theorem c_ladder : FnScope n_ladder ["tasks"] (defScope (top 56)) := ⟨rfl, rfl, rfl, by decide +kernel, rfl, by decide +kernel, by decide +kernel⟩
theorem f_ladder (F : FunD K "ladder" "ladder" (defArgs (top 56)) (defBody (top 56)) (defScope (top 56)) [] [] f fd) (hb : ∀ x ∈ bnames, mg x = none) (t : TabOk P w K mg base k t_checked_tasks) (hm : mg "ladder" = some (.ref f)) : TabOk P w K mg base (k + 1) t_ladder := t.cons (fn_ok F c_ladder hb t s_ladder) hm F.kp (F.bindsN fun _ _ _ _ _ _ us hl => match us, hl with | [_], _ => rfl)
theorem c_law_same : FnScope n_law_same ["found", "due"] (defScope (top 67)) := ⟨rfl, rfl, rfl, by decide +kernel, rfl, by decide +kernel, by decide +kernel⟩
theorem g_law_same (F : FunD K "_law_same" "_law_same" (defArgs (top 67)) (defBody (top 67)) (defScope (top 67)) [] [] f fd) (hb : ∀ x ∈ bnames, mg x = none) (t : TabOk P w K mg base k t_ladder) (hm : mg "_law_same" = some (.ref f)) : ∀ n : Nat, FnOk P w K mg base CX0 (k + n) f fd ["found", "due"] (spV (d_law_same n))
  | 0 => fnOk_none
  | n + 1 => fn_ok (N := n_law_same) F c_law_same hb (t.consR (g_law_same F hb t hm n) hm F.kp (F.bindsN fun _ _ _ _ _ _ us hl => match us, hl with | [_, _], _ => rfl)) (s_law_same (d_law_same n))
theorem f_law_same (F : FunD K "_law_same" "_law_same" (defArgs (top 67)) (defBody (top 67)) (defScope (top 67)) [] [] f fd) (hb : ∀ x ∈ bnames, mg x = none) (t : TabOk P w K mg base k t_ladder) (hm : mg "_law_same" = some (.ref f)) : TabOk P w K mg base (k + recD) t_law_same := t.consR (g_law_same F hb t hm recD) hm F.kp (F.bindsN fun _ _ _ _ _ _ us hl => match us, hl with | [_, _], _ => rfl)
theorem c_kept_of : FnScope n_kept_of ["some"] (defScope (top 51)) := ⟨rfl, rfl, rfl, by decide +kernel, rfl, by decide +kernel, by decide +kernel⟩
theorem f_kept_of (F : FunD K "kept_of" "kept_of" (defArgs (top 51)) (defBody (top 51)) (defScope (top 51)) [] [] f fd) (hb : ∀ x ∈ bnames, mg x = none) (t : TabOk P w K mg base k t_law_same) (hm : mg "kept_of" = some (.ref f)) : TabOk P w K mg base (k + 1) t_kept_of := t.cons (fn_ok F c_kept_of hb t s_kept_of) hm F.kp (F.bindsN fun _ _ _ _ _ _ us hl => match us, hl with | [_], _ => rfl)
theorem c_kept_tasks : FnScope n_kept_tasks ["tasks"] (defScope (top 52)) := ⟨rfl, rfl, rfl, by decide +kernel, rfl, by decide +kernel, by decide +kernel⟩
theorem f_kept_tasks (F : FunD K "kept_tasks" "kept_tasks" (defArgs (top 52)) (defBody (top 52)) (defScope (top 52)) [] [] f fd) (hb : ∀ x ∈ bnames, mg x = none) (t : TabOk P w K mg base k t_kept_of) (hm : mg "kept_tasks" = some (.ref f)) : TabOk P w K mg base (k + 1) t_kept_tasks := t.cons (fn_ok F c_kept_tasks hb t s_kept_tasks) hm F.kp (F.bindsN fun _ _ _ _ _ _ us hl => match us, hl with | [_], _ => rfl)
theorem c_rows_by_due : FnScope n_rows_by_due ["some", "lot"] (defScope (top 18)) := ⟨rfl, rfl, rfl, by decide +kernel, rfl, by decide +kernel, by decide +kernel⟩
theorem f_rows_by_due (F : FunD K "rows_by_due" "rows_by_due" (defArgs (top 18)) (defBody (top 18)) (defScope (top 18)) [] [] f fd) (hb : ∀ x ∈ bnames, mg x = none) (t : TabOk P w K mg base k t_kept_tasks) (hm : mg "rows_by_due" = some (.ref f)) : TabOk P w K mg base (k + 1) t_rows_by_due := t.cons (fn_ok F c_rows_by_due hb t s_rows_by_due) hm F.kp (F.bindsN fun _ _ _ _ _ _ us hl => match us, hl with | [_, _], _ => rfl)
theorem c_does_fit : FnScope n_does_fit ["some", "lot"] (defScope (top 20)) := ⟨rfl, rfl, rfl, by decide +kernel, rfl, by decide +kernel, by decide +kernel⟩
theorem f_does_fit (F : FunD K "does_fit" "does_fit" (defArgs (top 20)) (defBody (top 20)) (defScope (top 20)) [] [] f fd) (hb : ∀ x ∈ bnames, mg x = none) (t : TabOk P w K mg base k t_rows_by_due) (hm : mg "does_fit" = some (.ref f)) : TabOk P w K mg base (k + 1) t_does_fit := t.cons (fn_ok F c_does_fit hb t s_does_fit) hm F.kp (F.bindsN fun _ _ _ _ _ _ us hl => match us, hl with | [_, _], _ => rfl)
theorem c_kept_in_turn : FnScope n_kept_in_turn ["some", "names"] (defScope (top 28)) := ⟨rfl, rfl, rfl, by decide +kernel, rfl, by decide +kernel, by decide +kernel⟩
theorem f_kept_in_turn (F : FunD K "kept_in_turn" "kept_in_turn" (defArgs (top 28)) (defBody (top 28)) (defScope (top 28)) [] [] f fd) (hb : ∀ x ∈ bnames, mg x = none) (t : TabOk P w K mg base k t_does_fit) (hm : mg "kept_in_turn" = some (.ref f)) : TabOk P w K mg base (k + 1) t_kept_in_turn := t.cons (fn_ok F c_kept_in_turn hb t s_kept_in_turn) hm F.kp (F.bindsN fun _ _ _ _ _ _ us hl => match us, hl with | [_, _], _ => rfl)
theorem c_by_weights : FnScope n_by_weights ["some"] (defScope (top 27)) := ⟨rfl, rfl, rfl, by decide +kernel, rfl, by decide +kernel, by decide +kernel⟩
theorem f_by_weights (F : FunD K "by_weights" "by_weights" (defArgs (top 27)) (defBody (top 27)) (defScope (top 27)) [] [] f fd) (hb : ∀ x ∈ bnames, mg x = none) (t : TabOk P w K mg base k t_kept_in_turn) (hm : mg "by_weights" = some (.ref f)) : TabOk P w K mg base (k + 1) t_by_weights := t.cons (fn_ok F c_by_weights hb t s_by_weights) hm F.kp (F.bindsN fun _ _ _ _ _ _ us hl => match us, hl with | [_], _ => rfl)
theorem c_best_of : FnScope n_best_of ["some"] (defScope (top 29)) := ⟨rfl, rfl, rfl, by decide +kernel, rfl, by decide +kernel, by decide +kernel⟩
theorem f_best_of (F : FunD K "best_of" "best_of" (defArgs (top 29)) (defBody (top 29)) (defScope (top 29)) [] [] f fd) (hb : ∀ x ∈ bnames, mg x = none) (t : TabOk P w K mg base k t_by_weights) (hm : mg "best_of" = some (.ref f)) : TabOk P w K mg base (k + 1) t_best_of := t.cons (fn_ok F c_best_of hb t s_best_of) hm F.kp (F.bindsN fun _ _ _ _ _ _ us hl => match us, hl with | [_], _ => rfl)
theorem c_is_unit : FnScope n_is_unit ["thing"] (defScope (top 13)) := ⟨rfl, rfl, rfl, by decide +kernel, rfl, by decide +kernel, by decide +kernel⟩
theorem f_is_unit (F : FunD K "is_unit" "is_unit" (defArgs (top 13)) (defBody (top 13)) (defScope (top 13)) [] [] f fd) (hb : ∀ x ∈ bnames, mg x = none) (t : TabOk P w K mg base k t_best_of) (hm : mg "is_unit" = some (.ref f)) : TabOk P w K mg base (k + 1) t_is_unit := t.cons (fn_ok F c_is_unit hb t s_is_unit) hm F.kp (F.bindsN fun _ _ _ _ _ _ us hl => match us, hl with | [_], _ => rfl)
theorem c_checked_units : FnScope n_checked_units ["units"] (defScope (top 14)) := ⟨rfl, rfl, rfl, by decide +kernel, rfl, by decide +kernel, by decide +kernel⟩
theorem f_checked_units (F : FunD K "checked_units" "checked_units" (defArgs (top 14)) (defBody (top 14)) (defScope (top 14)) [] [] f fd) (hb : ∀ x ∈ bnames, mg x = none) (t : TabOk P w K mg base k t_is_unit) (hm : mg "checked_units" = some (.ref f)) : TabOk P w K mg base (k + 1) t_checked_units := t.cons (fn_ok F c_checked_units hb t s_checked_units) hm F.kp (F.bindsN fun _ _ _ _ _ _ us hl => match us, hl with | [_], _ => rfl)
theorem c_best_lot : FnScope n_best_lot ["units"] (defScope (top 31)) := ⟨rfl, rfl, rfl, by decide +kernel, rfl, by decide +kernel, by decide +kernel⟩
theorem f_best_lot (F : FunD K "best_lot" "best_lot" (defArgs (top 31)) (defBody (top 31)) (defScope (top 31)) [] [] f fd) (hb : ∀ x ∈ bnames, mg x = none) (t : TabOk P w K mg base k t_checked_units) (hm : mg "best_lot" = some (.ref f)) : TabOk P w K mg base (k + 1) t_best_lot := t.cons (fn_ok F c_best_lot hb t s_best_lot) hm F.kp (F.bindsN fun _ _ _ _ _ _ us hl => match us, hl with | [_], _ => rfl)
theorem c_most_in_time : FnScope n_most_in_time ["tasks"] (defScope (top 53)) := ⟨rfl, rfl, rfl, by decide +kernel, rfl, by decide +kernel, by decide +kernel⟩
theorem f_most_in_time (F : FunD K "most_in_time" "most_in_time" (defArgs (top 53)) (defBody (top 53)) (defScope (top 53)) [] [] f fd) (hb : ∀ x ∈ bnames, mg x = none) (t : TabOk P w K mg base k t_best_lot) (hm : mg "most_in_time" = some (.ref f)) : TabOk P w K mg base (k + 1) t_most_in_time := t.cons (fn_ok F c_most_in_time hb t s_most_in_time) hm F.kp (F.bindsN fun _ _ _ _ _ _ us hl => match us, hl with | [_], _ => rfl)
theorem c_weight_of : FnScope n_weight_of ["some", "lot"] (defScope (top 30)) := ⟨rfl, rfl, rfl, by decide +kernel, rfl, by decide +kernel, by decide +kernel⟩
theorem f_weight_of (F : FunD K "weight_of" "weight_of" (defArgs (top 30)) (defBody (top 30)) (defScope (top 30)) [] [] f fd) (hb : ∀ x ∈ bnames, mg x = none) (t : TabOk P w K mg base k t_most_in_time) (hm : mg "weight_of" = some (.ref f)) : TabOk P w K mg base (k + 1) t_weight_of := t.cons (fn_ok F c_weight_of hb t s_weight_of) hm F.kp (F.bindsN fun _ _ _ _ _ _ us hl => match us, hl with | [_, _], _ => rfl)
theorem c_best_weight : FnScope n_best_weight ["units"] (defScope (top 32)) := ⟨rfl, rfl, rfl, by decide +kernel, rfl, by decide +kernel, by decide +kernel⟩
theorem f_best_weight (F : FunD K "best_weight" "best_weight" (defArgs (top 32)) (defBody (top 32)) (defScope (top 32)) [] [] f fd) (hb : ∀ x ∈ bnames, mg x = none) (t : TabOk P w K mg base k t_weight_of) (hm : mg "best_weight" = some (.ref f)) : TabOk P w K mg base (k + 1) t_best_weight := t.cons (fn_ok F c_best_weight hb t s_best_weight) hm F.kp (F.bindsN fun _ _ _ _ _ _ us hl => match us, hl with | [_], _ => rfl)
theorem c_law_each_once : FnScope n_law_each_once ["things"] (defScope (top 68)) := ⟨rfl, rfl, rfl, by decide +kernel, rfl, by decide +kernel, by decide +kernel⟩
theorem f_law_each_once (F : FunD K "_law_each_once" "_law_each_once" (defArgs (top 68)) (defBody (top 68)) (defScope (top 68)) [] [] f fd) (hb : ∀ x ∈ bnames, mg x = none) (t : TabOk P w K mg base k t_best_weight) (hm : mg "_law_each_once" = some (.ref f)) : TabOk P w K mg base (k + 1) t_law_each_once := t.cons (fn_ok F c_law_each_once hb t s_law_each_once) hm F.kp (F.bindsN fun _ _ _ _ _ _ us hl => match us, hl with | [_], _ => rfl)
theorem c_first_odd : FnScope n_first_odd ["names", "thing"] (defScope (top 15)) := ⟨rfl, rfl, rfl, by decide +kernel, rfl, by decide +kernel, by decide +kernel⟩
theorem f_first_odd (F : FunD K "first_odd" "first_odd" (defArgs (top 15)) (defBody (top 15)) (defScope (top 15)) [] [] f fd) (hb : ∀ x ∈ bnames, mg x = none) (t : TabOk P w K mg base k t_law_each_once) (hm : mg "first_odd" = some (.ref f)) : TabOk P w K mg base (k + 1) t_first_odd := t.cons (fn_ok F c_first_odd hb t s_first_odd) hm F.kp (F.bindsN fun _ _ _ _ _ _ us hl => match us, hl with | [_, _], _ => rfl)
theorem c_checked_lot : FnScope n_checked_lot ["names", "lot"] (defScope (top 16)) := ⟨rfl, rfl, rfl, by decide +kernel, rfl, by decide +kernel, by decide +kernel⟩
theorem f_checked_lot (F : FunD K "checked_lot" "checked_lot" (defArgs (top 16)) (defBody (top 16)) (defScope (top 16)) [] [] f fd) (hb : ∀ x ∈ bnames, mg x = none) (t : TabOk P w K mg base k t_first_odd) (hm : mg "checked_lot" = some (.ref f)) : TabOk P w K mg base (k + 1) t_checked_lot := t.cons (fn_ok F c_checked_lot hb t s_checked_lot) hm F.kp (F.bindsN fun _ _ _ _ _ _ us hl => match us, hl with | [_, _], _ => rfl)
theorem c_checked_units_lot : FnScope n_checked_units_lot ["units", "lot"] (defScope (top 17)) := ⟨rfl, rfl, rfl, by decide +kernel, rfl, by decide +kernel, by decide +kernel⟩
theorem f_checked_units_lot (F : FunD K "checked_units_lot" "checked_units_lot" (defArgs (top 17)) (defBody (top 17)) (defScope (top 17)) [] [] f fd) (hb : ∀ x ∈ bnames, mg x = none) (t : TabOk P w K mg base k t_checked_lot) (hm : mg "checked_units_lot" = some (.ref f)) : TabOk P w K mg base (k + 1) t_checked_units_lot := t.cons (fn_ok F c_checked_units_lot hb t s_checked_units_lot) hm F.kp (F.bindsN fun _ _ _ _ _ _ us hl => match us, hl with | [_, _], _ => rfl)
theorem c_is_best : FnScope n_is_best ["some", "lot"] (defScope (top 61)) := ⟨rfl, rfl, rfl, by decide +kernel, rfl, by decide +kernel, by decide +kernel⟩
theorem f_is_best (F : FunD K "is_best" "is_best" (defArgs (top 61)) (defBody (top 61)) (defScope (top 61)) [] [] f fd) (hb : ∀ x ∈ bnames, mg x = none) (t : TabOk P w K mg base k t_checked_units_lot) (hm : mg "is_best" = some (.ref f)) : TabOk P w K mg base (k + 1) t_is_best := t.cons (fn_ok F c_is_best hb t s_is_best) hm F.kp (F.bindsN fun _ _ _ _ _ _ us hl => match us, hl with | [_, _], _ => rfl)
theorem c_is_best_lot : FnScope n_is_best_lot ["units", "lot"] (defScope (top 62)) := ⟨rfl, rfl, rfl, by decide +kernel, rfl, by decide +kernel, by decide +kernel⟩
theorem f_is_best_lot (F : FunD K "is_best_lot" "is_best_lot" (defArgs (top 62)) (defBody (top 62)) (defScope (top 62)) [] [] f fd) (hb : ∀ x ∈ bnames, mg x = none) (t : TabOk P w K mg base k t_is_best) (hm : mg "is_best_lot" = some (.ref f)) : TabOk P w K mg base (k + 1) t_is_best_lot := t.cons (fn_ok F c_is_best_lot hb t s_is_best_lot) hm F.kp (F.bindsN fun _ _ _ _ _ _ us hl => match us, hl with | [_, _], _ => rfl)
theorem c_late_in : FnScope n_late_in ["some", "lot"] (defScope (top 49)) := ⟨rfl, rfl, rfl, by decide +kernel, rfl, by decide +kernel, by decide +kernel⟩
theorem f_late_in (F : FunD K "late_in" "late_in" (defArgs (top 49)) (defBody (top 49)) (defScope (top 49)) [] [] f fd) (hb : ∀ x ∈ bnames, mg x = none) (t : TabOk P w K mg base k t_is_best_lot) (hm : mg "late_in" = some (.ref f)) : TabOk P w K mg base (k + 1) t_late_in := t.cons (fn_ok F c_late_in hb t s_late_in) hm F.kp (F.bindsN fun _ _ _ _ _ _ us hl => match us, hl with | [_, _], _ => rfl)
theorem c_late_at : FnScope n_late_at ["tasks", "lot"] (defScope (top 50)) := ⟨rfl, rfl, rfl, by decide +kernel, rfl, by decide +kernel, by decide +kernel⟩
theorem f_late_at (F : FunD K "late_at" "late_at" (defArgs (top 50)) (defBody (top 50)) (defScope (top 50)) [] [] f fd) (hb : ∀ x ∈ bnames, mg x = none) (t : TabOk P w K mg base k t_late_in) (hm : mg "late_at" = some (.ref f)) : TabOk P w K mg base (k + 1) t_late_at := t.cons (fn_ok F c_late_at hb t s_late_at) hm F.kp (F.bindsN fun _ _ _ _ _ _ us hl => match us, hl with | [_, _], _ => rfl)
theorem c_stays_among : FnScope n_stays_among ["some", "name", "step"] (defScope (top 42)) := ⟨rfl, rfl, rfl, by decide +kernel, rfl, by decide +kernel, by decide +kernel⟩
theorem f_stays_among (F : FunD K "stays_among" "stays_among" (defArgs (top 42)) (defBody (top 42)) (defScope (top 42)) [] [] f fd) (hb : ∀ x ∈ bnames, mg x = none) (t : TabOk P w K mg base k t_late_at) (hm : mg "stays_among" = some (.ref f)) : TabOk P w K mg base (k + 1) t_stays_among := t.cons (fn_ok F c_stays_among hb t s_stays_among) hm F.kp (F.bindsN fun _ _ _ _ _ _ us hl => match us, hl with | [_, _, _], _ => rfl)
theorem c_in_some_best : FnScope n_in_some_best ["units"] (defScope (top 43)) := ⟨rfl, rfl, rfl, by decide +kernel, rfl, by decide +kernel, by decide +kernel⟩
theorem f_in_some_best (F : FunD K "in_some_best" "in_some_best" (defArgs (top 43)) (defBody (top 43)) (defScope (top 43)) [] [] f fd) (hb : ∀ x ∈ bnames, mg x = none) (t : TabOk P w K mg base k t_stays_among) (hm : mg "in_some_best" = some (.ref f)) : TabOk P w K mg base (k + 1) t_in_some_best := t.cons (fn_ok F c_in_some_best hb t s_in_some_best) hm F.kp (F.bindsN fun _ _ _ _ _ _ us hl => match us, hl with | [_], _ => rfl)
theorem c_in_all_best : FnScope n_in_all_best ["units"] (defScope (top 44)) := ⟨rfl, rfl, rfl, by decide +kernel, rfl, by decide +kernel, by decide +kernel⟩
theorem f_in_all_best (F : FunD K "in_all_best" "in_all_best" (defArgs (top 44)) (defBody (top 44)) (defScope (top 44)) [] [] f fd) (hb : ∀ x ∈ bnames, mg x = none) (t : TabOk P w K mg base k t_in_some_best) (hm : mg "in_all_best" = some (.ref f)) : TabOk P w K mg base (k + 1) t_in_all_best := t.cons (fn_ok F c_in_all_best hb t s_in_all_best) hm F.kp (F.bindsN fun _ _ _ _ _ _ us hl => match us, hl with | [_], _ => rfl)
theorem c_law_most_right : FnScope n_law_most_right ["tasks", "units", "length"] (defScope (top 76)) := ⟨rfl, rfl, rfl, by decide +kernel, rfl, by decide +kernel, by decide +kernel⟩
theorem f_law_most_right (F : FunD K "_law_most_right" "_law_most_right" (defArgs (top 76)) (defBody (top 76)) (defScope (top 76)) [] [] f fd) (hb : ∀ x ∈ bnames, mg x = none) (t : TabOk P w K mg base k t_in_all_best) (hm : mg "_law_most_right" = some (.ref f)) : TabOk P w K mg base (k + 1) t_law_most_right := t.cons (fn_ok F c_law_most_right hb t s_law_most_right) hm F.kp (F.bindsN fun _ _ _ _ _ _ us hl => match us, hl with | [_, _, _], _ => rfl)
theorem c_checked_number : FnScope n_checked_number ["number"] (defScope (top 39)) := ⟨rfl, rfl, rfl, by decide +kernel, rfl, by decide +kernel, by decide +kernel⟩
theorem f_checked_number (F : FunD K "checked_number" "checked_number" (defArgs (top 39)) (defBody (top 39)) (defScope (top 39)) [] [] f fd) (hb : ∀ x ∈ bnames, mg x = none) (t : TabOk P w K mg base k t_law_most_right) (hm : mg "checked_number" = some (.ref f)) : TabOk P w K mg base (k + 1) t_checked_number := t.cons (fn_ok F c_checked_number hb t s_checked_number) hm F.kp (F.bindsN fun _ _ _ _ _ _ us hl => match us, hl with | [_], _ => rfl)
theorem c_is_ladder_row : FnScope n_is_ladder_row ["thing"] (defScope (top 58)) := ⟨rfl, rfl, rfl, by decide +kernel, rfl, by decide +kernel, by decide +kernel⟩
theorem f_is_ladder_row (F : FunD K "is_ladder_row" "is_ladder_row" (defArgs (top 58)) (defBody (top 58)) (defScope (top 58)) [] [] f fd) (hb : ∀ x ∈ bnames, mg x = none) (t : TabOk P w K mg base k t_checked_number) (hm : mg "is_ladder_row" = some (.ref f)) : TabOk P w K mg base (k + 1) t_is_ladder_row := t.cons (fn_ok F c_is_ladder_row hb t s_is_ladder_row) hm F.kp (F.bindsN fun _ _ _ _ _ _ us hl => match us, hl with | [_], _ => rfl)
theorem c_is_kept_or_ladder : FnScope n_is_kept_or_ladder ["tasks", "number", "thing"] (defScope (top 59)) := ⟨rfl, rfl, rfl, by decide +kernel, rfl, by decide +kernel, by decide +kernel⟩
theorem f_is_kept_or_ladder (F : FunD K "is_kept_or_ladder" "is_kept_or_ladder" (defArgs (top 59)) (defBody (top 59)) (defScope (top 59)) [] [] f fd) (hb : ∀ x ∈ bnames, mg x = none) (t : TabOk P w K mg base k t_is_ladder_row) (hm : mg "is_kept_or_ladder" = some (.ref f)) : TabOk P w K mg base (k + 1) t_is_kept_or_ladder := t.cons (fn_ok F c_is_kept_or_ladder hb t s_is_kept_or_ladder) hm F.kp (F.bindsN fun _ _ _ _ _ _ us hl => match us, hl with | [_, _, _], _ => rfl)
theorem c_are_prices : FnScope n_are_prices ["thing"] (defScope (top 33)) := ⟨rfl, rfl, rfl, by decide +kernel, rfl, by decide +kernel, by decide +kernel⟩
theorem f_are_prices (F : FunD K "are_prices" "are_prices" (defArgs (top 33)) (defBody (top 33)) (defScope (top 33)) [] [] f fd) (hb : ∀ x ∈ bnames, mg x = none) (t : TabOk P w K mg base k t_is_kept_or_ladder) (hm : mg "are_prices" = some (.ref f)) : TabOk P w K mg base (k + 1) t_are_prices := t.cons (fn_ok F c_are_prices hb t s_are_prices) hm F.kp (F.bindsN fun _ _ _ _ _ _ us hl => match us, hl with | [_], _ => rfl)
theorem c_above_least : FnScope n_above_least ["some", "prices", "name"] (defScope (top 34)) := ⟨rfl, rfl, rfl, by decide +kernel, rfl, by decide +kernel, by decide +kernel⟩
theorem f_above_least (F : FunD K "above_least" "above_least" (defArgs (top 34)) (defBody (top 34)) (defScope (top 34)) [] [] f fd) (hb : ∀ x ∈ bnames, mg x = none) (t : TabOk P w K mg base k t_are_prices) (hm : mg "above_least" = some (.ref f)) : TabOk P w K mg base (k + 1) t_above_least := t.cons (fn_ok F c_above_least hb t s_above_least) hm F.kp (F.bindsN fun _ _ _ _ _ _ us hl => match us, hl with | [_, _, _], _ => rfl)
theorem c_worth_of : FnScope n_worth_of ["some", "prices"] (defScope (top 35)) := ⟨rfl, rfl, rfl, by decide +kernel, rfl, by decide +kernel, by decide +kernel⟩
theorem f_worth_of (F : FunD K "worth_of" "worth_of" (defArgs (top 35)) (defBody (top 35)) (defScope (top 35)) [] [] f fd) (hb : ∀ x ∈ bnames, mg x = none) (t : TabOk P w K mg base k t_above_least) (hm : mg "worth_of" = some (.ref f)) : TabOk P w K mg base (k + 1) t_worth_of := t.cons (fn_ok F c_worth_of hb t s_worth_of) hm F.kp (F.bindsN fun _ _ _ _ _ _ us hl => match us, hl with | [_, _], _ => rfl)
theorem c_is_lot_or_prices : FnScope n_is_lot_or_prices ["units", "number", "thing"] (defScope (top 41)) := ⟨rfl, rfl, rfl, by decide +kernel, rfl, by decide +kernel, by decide +kernel⟩
theorem f_is_lot_or_prices (F : FunD K "is_lot_or_prices" "is_lot_or_prices" (defArgs (top 41)) (defBody (top 41)) (defScope (top 41)) [] [] f fd) (hb : ∀ x ∈ bnames, mg x = none) (t : TabOk P w K mg base k t_worth_of) (hm : mg "is_lot_or_prices" = some (.ref f)) : TabOk P w K mg base (k + 1) t_is_lot_or_prices := t.cons (fn_ok F c_is_lot_or_prices hb t s_is_lot_or_prices) hm F.kp (F.bindsN fun _ _ _ _ _ _ us hl => match us, hl with | [_, _, _], _ => rfl)
theorem c_kept_or_ladder : FnScope n_kept_or_ladder ["tasks", "number"] (defScope (top 57)) := ⟨rfl, rfl, rfl, by decide +kernel, rfl, by decide +kernel, by decide +kernel⟩
theorem f_kept_or_ladder (F : FunD K "kept_or_ladder" "kept_or_ladder" (defArgs (top 57)) (defBody (top 57)) (defScope (top 57)) [] [] f fd) (hb : ∀ x ∈ bnames, mg x = none) (t : TabOk P w K mg base k t_is_lot_or_prices) (hm : mg "kept_or_ladder" = some (.ref f)) : TabOk P w K mg base (k + 1) t_kept_or_ladder := t.cons (fn_ok F c_kept_or_ladder hb t s_kept_or_ladder) hm F.kp (F.bindsN fun _ _ _ _ _ _ us hl => match us, hl with | [_, _], _ => rfl)
theorem c_placing_by : FnScope n_placing_by ["some", "lot"] (defScope (top 19)) := ⟨rfl, rfl, rfl, by decide +kernel, rfl, by decide +kernel, by decide +kernel⟩
theorem f_placing_by (F : FunD K "placing_by" "placing_by" (defArgs (top 19)) (defBody (top 19)) (defScope (top 19)) [] [] f fd) (hb : ∀ x ∈ bnames, mg x = none) (t : TabOk P w K mg base k t_kept_or_ladder) (hm : mg "placing_by" = some (.ref f)) : TabOk P w K mg base (k + 1) t_placing_by := t.cons (fn_ok F c_placing_by hb t s_placing_by) hm F.kp (F.bindsN fun _ _ _ _ _ _ us hl => match us, hl with | [_, _], _ => rfl)
theorem c_full_hours : FnScope n_full_hours ["some", "best", "weight"] (defScope (top 36)) := ⟨rfl, rfl, rfl, by decide +kernel, rfl, by decide +kernel, by decide +kernel⟩
theorem f_full_hours (F : FunD K "full_hours" "full_hours" (defArgs (top 36)) (defBody (top 36)) (defScope (top 36)) [] [] f fd) (hb : ∀ x ∈ bnames, mg x = none) (t : TabOk P w K mg base k t_placing_by) (hm : mg "full_hours" = some (.ref f)) : TabOk P w K mg base (k + 1) t_full_hours := t.cons (fn_ok F c_full_hours hb t s_full_hours) hm F.kp (F.bindsN fun _ _ _ _ _ _ us hl => match us, hl with | [_, _, _], _ => rfl)
theorem c_prices_by : FnScope n_prices_by ["some"] (defScope (top 37)) := ⟨rfl, rfl, rfl, by decide +kernel, rfl, by decide +kernel, by decide +kernel⟩
theorem f_prices_by (F : FunD K "prices_by" "prices_by" (defArgs (top 37)) (defBody (top 37)) (defScope (top 37)) [] [] f fd) (hb : ∀ x ∈ bnames, mg x = none) (t : TabOk P w K mg base k t_full_hours) (hm : mg "prices_by" = some (.ref f)) : TabOk P w K mg base (k + 1) t_prices_by := t.cons (fn_ok F c_prices_by hb t s_prices_by) hm F.kp (F.bindsN fun _ _ _ _ _ _ us hl => match us, hl with | [_], _ => rfl)
theorem c_lot_or_prices : FnScope n_lot_or_prices ["units", "number"] (defScope (top 40)) := ⟨rfl, rfl, rfl, by decide +kernel, rfl, by decide +kernel, by decide +kernel⟩
theorem f_lot_or_prices (F : FunD K "lot_or_prices" "lot_or_prices" (defArgs (top 40)) (defBody (top 40)) (defScope (top 40)) [] [] f fd) (hb : ∀ x ∈ bnames, mg x = none) (t : TabOk P w K mg base k t_prices_by) (hm : mg "lot_or_prices" = some (.ref f)) : TabOk P w K mg base (k + 1) t_lot_or_prices := t.cons (fn_ok F c_lot_or_prices hb t s_lot_or_prices) hm F.kp (F.bindsN fun _ _ _ _ _ _ us hl => match us, hl with | [_, _], _ => rfl)
theorem c_best_prices : FnScope n_best_prices ["units"] (defScope (top 38)) := ⟨rfl, rfl, rfl, by decide +kernel, rfl, by decide +kernel, by decide +kernel⟩
theorem f_best_prices (F : FunD K "best_prices" "best_prices" (defArgs (top 38)) (defBody (top 38)) (defScope (top 38)) [] [] f fd) (hb : ∀ x ∈ bnames, mg x = none) (t : TabOk P w K mg base k t_lot_or_prices) (hm : mg "best_prices" = some (.ref f)) : TabOk P w K mg base (k + 1) t_best_prices := t.cons (fn_ok F c_best_prices hb t s_best_prices) hm F.kp (F.bindsN fun _ _ _ _ _ _ us hl => match us, hl with | [_], _ => rfl)
theorem c_law_numbers_right : FnScope n_law_numbers_right ["stream", "tasks", "units", "most"] (defScope (top 77)) := ⟨rfl, rfl, rfl, by decide +kernel, rfl, by decide +kernel, by decide +kernel⟩
theorem f_law_numbers_right (F : FunD K "_law_numbers_right" "_law_numbers_right" (defArgs (top 77)) (defBody (top 77)) (defScope (top 77)) [] [] f fd) (hb : ∀ x ∈ bnames, mg x = none) (t : TabOk P w K mg base k t_best_prices) (hm : mg "_law_numbers_right" = some (.ref f)) : TabOk P w K mg base (k + 1) t_law_numbers_right := t.cons (fn_ok F c_law_numbers_right hb t s_law_numbers_right) hm F.kp (F.bindsN fun _ _ _ _ _ _ us hl => match us, hl with | [_, _, _, _], _ => rfl)
theorem c_law_d_lot : FnScope n_law_d_lot ["stream", "known"] (defScope (top 71)) := ⟨rfl, rfl, rfl, by decide +kernel, rfl, by decide +kernel, by decide +kernel⟩
theorem f_law_d_lot (F : FunD K "_law_d_lot" "_law_d_lot" (defArgs (top 71)) (defBody (top 71)) (defScope (top 71)) [] [] f fd) (hb : ∀ x ∈ bnames, mg x = none) (t : TabOk P w K mg base k t_law_numbers_right) (hm : mg "_law_d_lot" = some (.ref f)) : TabOk P w K mg base (k + 1) t_law_d_lot := t.cons (fn_ok F c_law_d_lot hb t s_law_d_lot) hm F.kp (F.bindsN fun _ _ _ _ _ _ us hl => match us, hl with | [_, _], _ => rfl)
theorem c_unit_fits : FnScope n_unit_fits ["units", "lot"] (defScope (top 21)) := ⟨rfl, rfl, rfl, by decide +kernel, rfl, by decide +kernel, by decide +kernel⟩
theorem f_unit_fits (F : FunD K "unit_fits" "unit_fits" (defArgs (top 21)) (defBody (top 21)) (defScope (top 21)) [] [] f fd) (hb : ∀ x ∈ bnames, mg x = none) (t : TabOk P w K mg base k t_law_d_lot) (hm : mg "unit_fits" = some (.ref f)) : TabOk P w K mg base (k + 1) t_unit_fits := t.cons (fn_ok F c_unit_fits hb t s_unit_fits) hm F.kp (F.bindsN fun _ _ _ _ _ _ us hl => match us, hl with | [_, _], _ => rfl)
theorem c_checked_fitting : FnScope n_checked_fitting ["units", "lot"] (defScope (top 24)) := ⟨rfl, rfl, rfl, by decide +kernel, rfl, by decide +kernel, by decide +kernel⟩
theorem f_checked_fitting (F : FunD K "checked_fitting" "checked_fitting" (defArgs (top 24)) (defBody (top 24)) (defScope (top 24)) [] [] f fd) (hb : ∀ x ∈ bnames, mg x = none) (t : TabOk P w K mg base k t_unit_fits) (hm : mg "checked_fitting" = some (.ref f)) : TabOk P w K mg base (k + 1) t_checked_fitting := t.cons (fn_ok F c_checked_fitting hb t s_checked_fitting) hm F.kp (F.bindsN fun _ _ _ _ _ _ us hl => match us, hl with | [_, _], _ => rfl)
theorem c_unit_adding : FnScope n_unit_adding ["units", "lot"] (defScope (top 25)) := ⟨rfl, rfl, rfl, by decide +kernel, rfl, by decide +kernel, by decide +kernel⟩
theorem f_unit_adding (F : FunD K "unit_adding" "unit_adding" (defArgs (top 25)) (defBody (top 25)) (defScope (top 25)) [] [] f fd) (hb : ∀ x ∈ bnames, mg x = none) (t : TabOk P w K mg base k t_checked_fitting) (hm : mg "unit_adding" = some (.ref f)) : TabOk P w K mg base (k + 1) t_unit_adding := t.cons (fn_ok F c_unit_adding hb t s_unit_adding) hm F.kp (F.bindsN fun _ _ _ _ _ _ us hl => match us, hl with | [_, _], _ => rfl)
theorem c_stretch_of : FnScope n_stretch_of ["some", "rows"] (defScope (top 22)) := ⟨rfl, rfl, rfl, by decide +kernel, rfl, by decide +kernel, by decide +kernel⟩
theorem f_stretch_of (F : FunD K "stretch_of" "stretch_of" (defArgs (top 22)) (defBody (top 22)) (defScope (top 22)) [] [] f fd) (hb : ∀ x ∈ bnames, mg x = none) (t : TabOk P w K mg base k t_unit_adding) (hm : mg "stretch_of" = some (.ref f)) : TabOk P w K mg base (k + 1) t_stretch_of := t.cons (fn_ok F c_stretch_of hb t s_stretch_of) hm F.kp (F.bindsN fun _ _ _ _ _ _ us hl => match us, hl with | [_, _], _ => rfl)
theorem c_placing_or_stretch : FnScope n_placing_or_stretch ["units", "lot"] (defScope (top 23)) := ⟨rfl, rfl, rfl, by decide +kernel, rfl, by decide +kernel, by decide +kernel⟩
theorem f_placing_or_stretch (F : FunD K "placing_or_stretch" "placing_or_stretch" (defArgs (top 23)) (defBody (top 23)) (defScope (top 23)) [] [] f fd) (hb : ∀ x ∈ bnames, mg x = none) (t : TabOk P w K mg base k t_stretch_of) (hm : mg "placing_or_stretch" = some (.ref f)) : TabOk P w K mg base (k + 1) t_placing_or_stretch := t.cons (fn_ok F c_placing_or_stretch hb t s_placing_or_stretch) hm F.kp (F.bindsN fun _ _ _ _ _ _ us hl => match us, hl with | [_, _], _ => rfl)
theorem c_law_lot_right : FnScope n_law_lot_right ["stream", "tasks", "units", "length"] (defScope (top 75)) := ⟨rfl, rfl, rfl, by decide +kernel, rfl, by decide +kernel, by decide +kernel⟩
theorem f_law_lot_right (F : FunD K "_law_lot_right" "_law_lot_right" (defArgs (top 75)) (defBody (top 75)) (defScope (top 75)) [] [] f fd) (hb : ∀ x ∈ bnames, mg x = none) (t : TabOk P w K mg base k t_placing_or_stretch) (hm : mg "_law_lot_right" = some (.ref f)) : TabOk P w K mg base (k + 1) t_law_lot_right := t.cons (fn_ok F c_law_lot_right hb t s_law_lot_right) hm F.kp (F.bindsN fun _ _ _ _ _ _ us hl => match us, hl with | [_, _, _, _], _ => rfl)
theorem c_law : FnScope n_law ["script"] (defScope (top 78)) := ⟨rfl, rfl, rfl, by decide +kernel, rfl, by decide +kernel, by decide +kernel⟩
theorem c_law_start : FnScope ["script"] ["script"] (defScope (top 64)) := ⟨rfl, rfl, rfl, by decide +kernel, rfl, by decide +kernel, by decide +kernel⟩
theorem facts {Pr : List Int → Prop} (hp : ∀ ns, Pr ns → ∃ sl' g', m_law (lawSl n_law 1) (some ⟨ns, 0, 0, 61⟩) = some (.rt (.bool true), sl', g')) {h : Heap} (X : K.In h) (G : h.Ns mainGlobals mg) (hfa : mg ("law" : Str) = some (.ref f)) (c : He.SaysD fa fn K) :
    ∃ fd : FuncData, (∀ (s : Shared) (v : Value), BindsTo s fd ⟨[v], []⟩ [("script", v)]) ∧ ∀ base : Heap, K.In base → base.Ns mainGlobals mg → FnOk P w K mg base CX0 ((63 + 1 * recD) + 1) f fd ["script"] (spLaw K Pr) := by
  obtain ⟨fd_law_draw, F_law_draw⟩ := c.def_ 52 (d := mkD "_law_draw" "_law_draw" 65) rfl
  have u_law_draw := He.glo_ok X G (c.fact 52 (f := .glo "_law_draw") rfl)
  obtain ⟨fd_law_mixed, F_law_mixed⟩ := c.def_ 53 (d := mkD "_law_mixed" "_law_mixed" 66) rfl
  have u_law_mixed := He.glo_ok X G (c.fact 53 (f := .glo "_law_mixed") rfl)
  obtain ⟨fd_law_d_names, F_law_d_names⟩ := c.def_ 57 (d := mkD "_law_d_names" "_law_d_names" 70) rfl
  have u_law_d_names := He.glo_ok X G (c.fact 57 (f := .glo "_law_d_names") rfl)
  obtain ⟨fd_law_turned, F_law_turned⟩ := c.def_ 56 (d := mkD "_law_turned" "_law_turned" 69) rfl
  have u_law_turned := He.glo_ok X G (c.fact 56 (f := .glo "_law_turned") rfl)
  obtain ⟨fd_law_units_of, F_law_units_of⟩ := c.def_ 59 (d := mkD "_law_units_of" "_law_units_of" 72) rfl
  have u_law_units_of := He.glo_ok X G (c.fact 59 (f := .glo "_law_units_of") rfl)
  obtain ⟨fd_law_in_time, F_law_in_time⟩ := c.def_ 60 (d := mkD "_law_in_time" "_law_in_time" 73) rfl
  have u_law_in_time := He.glo_ok X G (c.fact 60 (f := .glo "_law_in_time") rfl)
  obtain ⟨fd_law_lots, F_law_lots⟩ := c.def_ 61 (d := mkD "_law_lots" "_law_lots" 74) rfl
  have u_law_lots := He.glo_ok X G (c.fact 61 (f := .glo "_law_lots") rfl)
  obtain ⟨fd_dues_of, F_dues_of⟩ := c.def_ 37 (d := mkD "dues_of" "dues_of" 48) rfl
  have u_dues_of := He.glo_ok X G (c.fact 37 (f := .glo "dues_of") rfl)
  obtain ⟨fd_first_ones, F_first_ones⟩ := c.def_ 43 (d := mkD "first_ones" "first_ones" 54) rfl
  have u_first_ones := He.glo_ok X G (c.fact 43 (f := .glo "first_ones") rfl)
  obtain ⟨fd_ladder_of, F_ladder_of⟩ := c.def_ 44 (d := mkD "ladder_of" "ladder_of" 55) rfl
  have u_ladder_of := He.glo_ok X G (c.fact 44 (f := .glo "ladder_of") rfl)
  obtain ⟨fd_is_name, F_is_name⟩ := c.def_ 3 (d := mkD "is_name" "is_name" 11) rfl
  have u_is_name := He.glo_ok X G (c.fact 3 (f := .glo "is_name") rfl)
  obtain ⟨fd_is_list, F_is_list⟩ := c.def_ 0 (d := mkD "is_list" "is_list" 8) rfl
  have u_is_list := He.glo_ok X G (c.fact 0 (f := .glo "is_list") rfl)
  obtain ⟨fd_is_integer, F_is_integer⟩ := c.def_ 1 (d := mkD "is_integer" "is_integer" 9) rfl
  have u_is_integer := He.glo_ok X G (c.fact 1 (f := .glo "is_integer") rfl)
  obtain ⟨fd_is_number, F_is_number⟩ := c.def_ 2 (d := mkD "is_number" "is_number" 10) rfl
  have u_is_number := He.glo_ok X G (c.fact 2 (f := .glo "is_number") rfl)
  obtain ⟨fd_is_task, F_is_task⟩ := c.def_ 35 (d := mkD "is_task" "is_task" 46) rfl
  have u_is_task := He.glo_ok X G (c.fact 35 (f := .glo "is_task") rfl)
  obtain ⟨fd_checked_tasks, F_checked_tasks⟩ := c.def_ 36 (d := mkD "checked_tasks" "checked_tasks" 47) rfl
  have u_checked_tasks := He.glo_ok X G (c.fact 36 (f := .glo "checked_tasks") rfl)
  obtain ⟨fd_ladder, F_ladder⟩ := c.def_ 45 (d := mkD "ladder" "ladder" 56) rfl
  have u_ladder := He.glo_ok X G (c.fact 45 (f := .glo "ladder") rfl)
  obtain ⟨fd_law_same, F_law_same⟩ := c.def_ 54 (d := mkD "_law_same" "_law_same" 67) rfl
  have u_law_same := He.glo_ok X G (c.fact 54 (f := .glo "_law_same") rfl)
  obtain ⟨fd_kept_of, F_kept_of⟩ := c.def_ 40 (d := mkD "kept_of" "kept_of" 51) rfl
  have u_kept_of := He.glo_ok X G (c.fact 40 (f := .glo "kept_of") rfl)
  obtain ⟨fd_kept_tasks, F_kept_tasks⟩ := c.def_ 41 (d := mkD "kept_tasks" "kept_tasks" 52) rfl
  have u_kept_tasks := He.glo_ok X G (c.fact 41 (f := .glo "kept_tasks") rfl)
  obtain ⟨fd_rows_by_due, F_rows_by_due⟩ := c.def_ 9 (d := mkD "rows_by_due" "rows_by_due" 18) rfl
  have u_rows_by_due := He.glo_ok X G (c.fact 9 (f := .glo "rows_by_due") rfl)
  obtain ⟨fd_does_fit, F_does_fit⟩ := c.def_ 11 (d := mkD "does_fit" "does_fit" 20) rfl
  have u_does_fit := He.glo_ok X G (c.fact 11 (f := .glo "does_fit") rfl)
  obtain ⟨fd_kept_in_turn, F_kept_in_turn⟩ := c.def_ 18 (d := mkD "kept_in_turn" "kept_in_turn" 28) rfl
  have u_kept_in_turn := He.glo_ok X G (c.fact 18 (f := .glo "kept_in_turn") rfl)
  obtain ⟨fd_by_weights, F_by_weights⟩ := c.def_ 17 (d := mkD "by_weights" "by_weights" 27) rfl
  have u_by_weights := He.glo_ok X G (c.fact 17 (f := .glo "by_weights") rfl)
  obtain ⟨fd_best_of, F_best_of⟩ := c.def_ 19 (d := mkD "best_of" "best_of" 29) rfl
  have u_best_of := He.glo_ok X G (c.fact 19 (f := .glo "best_of") rfl)
  obtain ⟨fd_is_unit, F_is_unit⟩ := c.def_ 4 (d := mkD "is_unit" "is_unit" 13) rfl
  have u_is_unit := He.glo_ok X G (c.fact 4 (f := .glo "is_unit") rfl)
  obtain ⟨fd_checked_units, F_checked_units⟩ := c.def_ 5 (d := mkD "checked_units" "checked_units" 14) rfl
  have u_checked_units := He.glo_ok X G (c.fact 5 (f := .glo "checked_units") rfl)
  obtain ⟨fd_best_lot, F_best_lot⟩ := c.def_ 21 (d := mkD "best_lot" "best_lot" 31) rfl
  have u_best_lot := He.glo_ok X G (c.fact 21 (f := .glo "best_lot") rfl)
  obtain ⟨fd_most_in_time, F_most_in_time⟩ := c.def_ 42 (d := mkD "most_in_time" "most_in_time" 53) rfl
  have u_most_in_time := He.glo_ok X G (c.fact 42 (f := .glo "most_in_time") rfl)
  obtain ⟨fd_weight_of, F_weight_of⟩ := c.def_ 20 (d := mkD "weight_of" "weight_of" 30) rfl
  have u_weight_of := He.glo_ok X G (c.fact 20 (f := .glo "weight_of") rfl)
  obtain ⟨fd_best_weight, F_best_weight⟩ := c.def_ 22 (d := mkD "best_weight" "best_weight" 32) rfl
  have u_best_weight := He.glo_ok X G (c.fact 22 (f := .glo "best_weight") rfl)
  obtain ⟨fd_law_each_once, F_law_each_once⟩ := c.def_ 55 (d := mkD "_law_each_once" "_law_each_once" 68) rfl
  have u_law_each_once := He.glo_ok X G (c.fact 55 (f := .glo "_law_each_once") rfl)
  obtain ⟨fd_first_odd, F_first_odd⟩ := c.def_ 6 (d := mkD "first_odd" "first_odd" 15) rfl
  have u_first_odd := He.glo_ok X G (c.fact 6 (f := .glo "first_odd") rfl)
  obtain ⟨fd_checked_lot, F_checked_lot⟩ := c.def_ 7 (d := mkD "checked_lot" "checked_lot" 16) rfl
  have u_checked_lot := He.glo_ok X G (c.fact 7 (f := .glo "checked_lot") rfl)
  obtain ⟨fd_checked_units_lot, F_checked_units_lot⟩ := c.def_ 8 (d := mkD "checked_units_lot" "checked_units_lot" 17) rfl
  have u_checked_units_lot := He.glo_ok X G (c.fact 8 (f := .glo "checked_units_lot") rfl)
  obtain ⟨fd_is_best, F_is_best⟩ := c.def_ 49 (d := mkD "is_best" "is_best" 61) rfl
  have u_is_best := He.glo_ok X G (c.fact 49 (f := .glo "is_best") rfl)
  obtain ⟨fd_is_best_lot, F_is_best_lot⟩ := c.def_ 50 (d := mkD "is_best_lot" "is_best_lot" 62) rfl
  have u_is_best_lot := He.glo_ok X G (c.fact 50 (f := .glo "is_best_lot") rfl)
  obtain ⟨fd_late_in, F_late_in⟩ := c.def_ 38 (d := mkD "late_in" "late_in" 49) rfl
  have u_late_in := He.glo_ok X G (c.fact 38 (f := .glo "late_in") rfl)
  obtain ⟨fd_late_at, F_late_at⟩ := c.def_ 39 (d := mkD "late_at" "late_at" 50) rfl
  have u_late_at := He.glo_ok X G (c.fact 39 (f := .glo "late_at") rfl)
  obtain ⟨fd_stays_among, F_stays_among⟩ := c.def_ 32 (d := mkD "stays_among" "stays_among" 42) rfl
  have u_stays_among := He.glo_ok X G (c.fact 32 (f := .glo "stays_among") rfl)
  obtain ⟨fd_in_some_best, F_in_some_best⟩ := c.def_ 33 (d := mkD "in_some_best" "in_some_best" 43) rfl
  have u_in_some_best := He.glo_ok X G (c.fact 33 (f := .glo "in_some_best") rfl)
  obtain ⟨fd_in_all_best, F_in_all_best⟩ := c.def_ 34 (d := mkD "in_all_best" "in_all_best" 44) rfl
  have u_in_all_best := He.glo_ok X G (c.fact 34 (f := .glo "in_all_best") rfl)
  obtain ⟨fd_law_most_right, F_law_most_right⟩ := c.def_ 63 (d := mkD "_law_most_right" "_law_most_right" 76) rfl
  have u_law_most_right := He.glo_ok X G (c.fact 63 (f := .glo "_law_most_right") rfl)
  obtain ⟨fd_checked_number, F_checked_number⟩ := c.def_ 29 (d := mkD "checked_number" "checked_number" 39) rfl
  have u_checked_number := He.glo_ok X G (c.fact 29 (f := .glo "checked_number") rfl)
  obtain ⟨fd_is_ladder_row, F_is_ladder_row⟩ := c.def_ 47 (d := mkD "is_ladder_row" "is_ladder_row" 58) rfl
  have u_is_ladder_row := He.glo_ok X G (c.fact 47 (f := .glo "is_ladder_row") rfl)
  obtain ⟨fd_is_kept_or_ladder, F_is_kept_or_ladder⟩ := c.def_ 48 (d := mkD "is_kept_or_ladder" "is_kept_or_ladder" 59) rfl
  have u_is_kept_or_ladder := He.glo_ok X G (c.fact 48 (f := .glo "is_kept_or_ladder") rfl)
  obtain ⟨fd_are_prices, F_are_prices⟩ := c.def_ 23 (d := mkD "are_prices" "are_prices" 33) rfl
  have u_are_prices := He.glo_ok X G (c.fact 23 (f := .glo "are_prices") rfl)
  obtain ⟨fd_above_least, F_above_least⟩ := c.def_ 24 (d := mkD "above_least" "above_least" 34) rfl
  have u_above_least := He.glo_ok X G (c.fact 24 (f := .glo "above_least") rfl)
  obtain ⟨fd_worth_of, F_worth_of⟩ := c.def_ 25 (d := mkD "worth_of" "worth_of" 35) rfl
  have u_worth_of := He.glo_ok X G (c.fact 25 (f := .glo "worth_of") rfl)
  obtain ⟨fd_is_lot_or_prices, F_is_lot_or_prices⟩ := c.def_ 31 (d := mkD "is_lot_or_prices" "is_lot_or_prices" 41) rfl
  have u_is_lot_or_prices := He.glo_ok X G (c.fact 31 (f := .glo "is_lot_or_prices") rfl)
  obtain ⟨fd_kept_or_ladder, F_kept_or_ladder⟩ := c.def_ 46 (d := mkD "kept_or_ladder" "kept_or_ladder" 57) rfl
  have u_kept_or_ladder := He.glo_ok X G (c.fact 46 (f := .glo "kept_or_ladder") rfl)
  obtain ⟨fd_placing_by, F_placing_by⟩ := c.def_ 10 (d := mkD "placing_by" "placing_by" 19) rfl
  have u_placing_by := He.glo_ok X G (c.fact 10 (f := .glo "placing_by") rfl)
  obtain ⟨fd_full_hours, F_full_hours⟩ := c.def_ 26 (d := mkD "full_hours" "full_hours" 36) rfl
  have u_full_hours := He.glo_ok X G (c.fact 26 (f := .glo "full_hours") rfl)
  obtain ⟨fd_prices_by, F_prices_by⟩ := c.def_ 27 (d := mkD "prices_by" "prices_by" 37) rfl
  have u_prices_by := He.glo_ok X G (c.fact 27 (f := .glo "prices_by") rfl)
  obtain ⟨fd_lot_or_prices, F_lot_or_prices⟩ := c.def_ 30 (d := mkD "lot_or_prices" "lot_or_prices" 40) rfl
  have u_lot_or_prices := He.glo_ok X G (c.fact 30 (f := .glo "lot_or_prices") rfl)
  obtain ⟨fd_best_prices, F_best_prices⟩ := c.def_ 28 (d := mkD "best_prices" "best_prices" 38) rfl
  have u_best_prices := He.glo_ok X G (c.fact 28 (f := .glo "best_prices") rfl)
  obtain ⟨fd_law_numbers_right, F_law_numbers_right⟩ := c.def_ 64 (d := mkD "_law_numbers_right" "_law_numbers_right" 77) rfl
  have u_law_numbers_right := He.glo_ok X G (c.fact 64 (f := .glo "_law_numbers_right") rfl)
  obtain ⟨fd_law_d_lot, F_law_d_lot⟩ := c.def_ 58 (d := mkD "_law_d_lot" "_law_d_lot" 71) rfl
  have u_law_d_lot := He.glo_ok X G (c.fact 58 (f := .glo "_law_d_lot") rfl)
  obtain ⟨fd_unit_fits, F_unit_fits⟩ := c.def_ 12 (d := mkD "unit_fits" "unit_fits" 21) rfl
  have u_unit_fits := He.glo_ok X G (c.fact 12 (f := .glo "unit_fits") rfl)
  obtain ⟨fd_checked_fitting, F_checked_fitting⟩ := c.def_ 15 (d := mkD "checked_fitting" "checked_fitting" 24) rfl
  have u_checked_fitting := He.glo_ok X G (c.fact 15 (f := .glo "checked_fitting") rfl)
  obtain ⟨fd_unit_adding, F_unit_adding⟩ := c.def_ 16 (d := mkD "unit_adding" "unit_adding" 25) rfl
  have u_unit_adding := He.glo_ok X G (c.fact 16 (f := .glo "unit_adding") rfl)
  obtain ⟨fd_stretch_of, F_stretch_of⟩ := c.def_ 13 (d := mkD "stretch_of" "stretch_of" 22) rfl
  have u_stretch_of := He.glo_ok X G (c.fact 13 (f := .glo "stretch_of") rfl)
  obtain ⟨fd_placing_or_stretch, F_placing_or_stretch⟩ := c.def_ 14 (d := mkD "placing_or_stretch" "placing_or_stretch" 23) rfl
  have u_placing_or_stretch := He.glo_ok X G (c.fact 14 (f := .glo "placing_or_stretch") rfl)
  obtain ⟨fd_law_lot_right, F_law_lot_right⟩ := c.def_ 62 (d := mkD "_law_lot_right" "_law_lot_right" 75) rfl
  have u_law_lot_right := He.glo_ok X G (c.fact 62 (f := .glo "_law_lot_right") rfl)
  obtain ⟨fd_law, F_law⟩ := c.def_ 65 (d := mkD "law" "law" 78) rfl
  have u_law := He.glo_ok X G (c.fact 65 (f := .glo "law") rfl)
  obtain ⟨fd_law_start, F_law_start⟩ := c.def_ 51 (d := mkD "_law_start" "_law_start" 64) rfl
  have u_law_start := He.glo_ok X G (c.fact 51 (f := .glo "_law_start") rfl)
  have hb : ∀ x ∈ bnames, mg x = none := by
    intro x hx
    simp only [bnames, List.mem_cons, List.not_mem_nil, or_false] at hx
    rcases hx with rfl | rfl | rfl | rfl | rfl | rfl | rfl | rfl | rfl | rfl | rfl | rfl | rfl | rfl | rfl | rfl | rfl
    · exact He.free_ok X G (c.fact 66 (f := .free "len") rfl)
    · exact He.free_ok X G (c.fact 67 (f := .free "list") rfl)
    · exact He.free_ok X G (c.fact 68 (f := .free "tuple") rfl)
    · exact He.free_ok X G (c.fact 69 (f := .free "int") rfl)
    · exact He.free_ok X G (c.fact 70 (f := .free "str") rfl)
    · exact He.free_ok X G (c.fact 71 (f := .free "sum") rfl)
    · exact He.free_ok X G (c.fact 72 (f := .free "any") rfl)
    · exact He.free_ok X G (c.fact 73 (f := .free "all") rfl)
    · exact He.free_ok X G (c.fact 74 (f := .free "max") rfl)
    · exact He.free_ok X G (c.fact 75 (f := .free "min") rfl)
    · exact He.free_ok X G (c.fact 76 (f := .free "sorted") rfl)
    · exact He.free_ok X G (c.fact 77 (f := .free "dict") rfl)
    · exact He.free_ok X G (c.fact 78 (f := .free "isinstance") rfl)
    · exact He.free_ok X G (c.fact 79 (f := .free "range") rfl)
    · exact He.free_ok X G (c.fact 80 (f := .free "enumerate") rfl)
    · exact He.free_ok X G (c.fact 81 (f := .free "zip") rfl)
    · exact He.free_ok X G (c.fact 82 (f := .free "bool") rfl)
  have e := hfa.symm.trans u_law
  cases e
  have bL := FunD.bindsA (ps := ["script"]) F_law fun _ _ _ _ _ _ us hl => match us, hl with | [_], _ => rfl
  refine ⟨fd_law, fun s v => bL s [v] rfl, fun base _ _ => ?_⟩
  have q_law_draw := f_law_draw F_law_draw hb (TabOk.nil : TabOk P w K mg base 0 []) u_law_draw
  have q_law_mixed := f_law_mixed F_law_mixed hb q_law_draw u_law_mixed
  have q_law_d_names := f_law_d_names F_law_d_names hb q_law_mixed u_law_d_names
  have q_law_turned := f_law_turned F_law_turned hb q_law_d_names u_law_turned
  have q_law_units_of := f_law_units_of F_law_units_of hb q_law_turned u_law_units_of
  have q_law_in_time := f_law_in_time F_law_in_time hb q_law_units_of u_law_in_time
  have q_law_lots := f_law_lots F_law_lots hb q_law_in_time u_law_lots
  have q_dues_of := f_dues_of F_dues_of hb q_law_lots u_dues_of
  have q_first_ones := f_first_ones F_first_ones hb q_dues_of u_first_ones
  have q_ladder_of := f_ladder_of F_ladder_of hb q_first_ones u_ladder_of
  have q_is_name := f_is_name F_is_name hb q_ladder_of u_is_name
  have q_is_list := f_is_list F_is_list hb q_is_name u_is_list
  have q_is_integer := f_is_integer F_is_integer hb q_is_list u_is_integer
  have q_is_number := f_is_number F_is_number hb q_is_integer u_is_number
  have q_is_task := f_is_task F_is_task hb q_is_number u_is_task
  have q_checked_tasks := f_checked_tasks F_checked_tasks hb q_is_task u_checked_tasks
  have q_ladder := f_ladder F_ladder hb q_checked_tasks u_ladder
  have q_law_same := f_law_same F_law_same hb q_ladder u_law_same
  have q_kept_of := f_kept_of F_kept_of hb q_law_same u_kept_of
  have q_kept_tasks := f_kept_tasks F_kept_tasks hb q_kept_of u_kept_tasks
  have q_rows_by_due := f_rows_by_due F_rows_by_due hb q_kept_tasks u_rows_by_due
  have q_does_fit := f_does_fit F_does_fit hb q_rows_by_due u_does_fit
  have q_kept_in_turn := f_kept_in_turn F_kept_in_turn hb q_does_fit u_kept_in_turn
  have q_by_weights := f_by_weights F_by_weights hb q_kept_in_turn u_by_weights
  have q_best_of := f_best_of F_best_of hb q_by_weights u_best_of
  have q_is_unit := f_is_unit F_is_unit hb q_best_of u_is_unit
  have q_checked_units := f_checked_units F_checked_units hb q_is_unit u_checked_units
  have q_best_lot := f_best_lot F_best_lot hb q_checked_units u_best_lot
  have q_most_in_time := f_most_in_time F_most_in_time hb q_best_lot u_most_in_time
  have q_weight_of := f_weight_of F_weight_of hb q_most_in_time u_weight_of
  have q_best_weight := f_best_weight F_best_weight hb q_weight_of u_best_weight
  have q_law_each_once := f_law_each_once F_law_each_once hb q_best_weight u_law_each_once
  have q_first_odd := f_first_odd F_first_odd hb q_law_each_once u_first_odd
  have q_checked_lot := f_checked_lot F_checked_lot hb q_first_odd u_checked_lot
  have q_checked_units_lot := f_checked_units_lot F_checked_units_lot hb q_checked_lot u_checked_units_lot
  have q_is_best := f_is_best F_is_best hb q_checked_units_lot u_is_best
  have q_is_best_lot := f_is_best_lot F_is_best_lot hb q_is_best u_is_best_lot
  have q_late_in := f_late_in F_late_in hb q_is_best_lot u_late_in
  have q_late_at := f_late_at F_late_at hb q_late_in u_late_at
  have q_stays_among := f_stays_among F_stays_among hb q_late_at u_stays_among
  have q_in_some_best := f_in_some_best F_in_some_best hb q_stays_among u_in_some_best
  have q_in_all_best := f_in_all_best F_in_all_best hb q_in_some_best u_in_all_best
  have q_law_most_right := f_law_most_right F_law_most_right hb q_in_all_best u_law_most_right
  have q_checked_number := f_checked_number F_checked_number hb q_law_most_right u_checked_number
  have q_is_ladder_row := f_is_ladder_row F_is_ladder_row hb q_checked_number u_is_ladder_row
  have q_is_kept_or_ladder := f_is_kept_or_ladder F_is_kept_or_ladder hb q_is_ladder_row u_is_kept_or_ladder
  have q_are_prices := f_are_prices F_are_prices hb q_is_kept_or_ladder u_are_prices
  have q_above_least := f_above_least F_above_least hb q_are_prices u_above_least
  have q_worth_of := f_worth_of F_worth_of hb q_above_least u_worth_of
  have q_is_lot_or_prices := f_is_lot_or_prices F_is_lot_or_prices hb q_worth_of u_is_lot_or_prices
  have q_kept_or_ladder := f_kept_or_ladder F_kept_or_ladder hb q_is_lot_or_prices u_kept_or_ladder
  have q_placing_by := f_placing_by F_placing_by hb q_kept_or_ladder u_placing_by
  have q_full_hours := f_full_hours F_full_hours hb q_placing_by u_full_hours
  have q_prices_by := f_prices_by F_prices_by hb q_full_hours u_prices_by
  have q_lot_or_prices := f_lot_or_prices F_lot_or_prices hb q_prices_by u_lot_or_prices
  have q_best_prices := f_best_prices F_best_prices hb q_lot_or_prices u_best_prices
  have q_law_numbers_right := f_law_numbers_right F_law_numbers_right hb q_best_prices u_law_numbers_right
  have q_law_d_lot := f_law_d_lot F_law_d_lot hb q_law_numbers_right u_law_d_lot
  have q_unit_fits := f_unit_fits F_unit_fits hb q_law_d_lot u_unit_fits
  have q_checked_fitting := f_checked_fitting F_checked_fitting hb q_unit_fits u_checked_fitting
  have q_unit_adding := f_unit_adding F_unit_adding hb q_checked_fitting u_unit_adding
  have q_stretch_of := f_stretch_of F_stretch_of hb q_unit_adding u_stretch_of
  have q_placing_or_stretch := f_placing_or_stretch F_placing_or_stretch hb q_stretch_of u_placing_or_stretch
  have q_law_lot_right := f_law_lot_right F_law_lot_right hb q_placing_or_stretch u_law_lot_right
  have fs := start_ok (P := P) (w := w) (mg := mg) (base := base) F_law_start c_law_start (hb "list" (by decide +kernel)) (by decide +kernel) (by decide +kernel) (by decide +kernel)
  have fin := law_ok (N := n_law) (m := m_law) (j := 1) (Pr := Pr) (n1 := 30) (n2 := 30) (o := o_law) F_law c_law hb q_law_lot_right (st0 := (defBody (top 78)).headD (.Pass ⟨0, 0, 0, 0⟩)) (rest := (defBody (top 78)).tail) (by decide +kernel) rfl fs u_law_start F_law_start.kp (F_law_start.bindsN fun _ _ _ _ _ _ us hl => match us, hl with | [_], _ => rfl) (by decide +kernel) (by decide +kernel) rfl (by kernel_rfl) s_law (by decide) hp
  exact FnOk.mono fin (by decide)
end Lw
open PySem PySem.W PySem.Calls PyProof.Rows in
theorem law_of (hp : ∀ ns : List Int, ns.length ≤ 63 → ∃ sl' g', Lw.m_law (VM.lawSl Lw.n_law 1) (some ⟨ns, 0, 0, 61⟩) = some (.rt (.bool true), sl', g')) : PySem.Challenge.rw_duehalls_k83_main_tasks_and_units.Holds := by
  w_on; o_law
  refine HandSHeadRun.head_any (r := Lw.Rw) (q := view Lw.Rw.prog [78]) (H := Lw.hk) (ob := Lw.ob) (M := 12000) (loose := Lw.loose) (d := HandSHeadRun.topDef Lw.Rw.prog 78) (kwd := []) Lw.ob_eq
    (by kernel_rfl) (fun s => by kernel_rfl) Lw.run (by kernel_rfl) (by kernel_rfl) (by kernel_rfl) (by kernel_rfl) (by first | assumption | decide +kernel) (by decide +kernel) ⟨rfl, rfl, rfl, rfl, rfl, by decide +kernel⟩ ?hw ?hc
  case hw => w_witness2
  case hc =>
    refine L2.walk_ofE (l := PySem.Challenge.rw_duehalls_k83_main_tasks_and_units) (n := 63) (k := (63 + 1 * Lw.recD) + 1) (x := "script") (CX := L2.CX0) rfl (by decide) (by kernel_rfl) ⟨rfl, by decide, by decide⟩ ?F (fun _ _ _ _ z => z)
    intro w mg fa h Y G hmg0
    obtain ⟨K, KX, c⟩ := Y
    have hmg : mg ("law" : PySem.Str) = some (.ref fa) := by
      have e : (HandSHeadRun.topDef Lw.Rw.prog 78).name = ("law" : PySem.Str) := by kernel_rfl
      rw [← e]
      exact hmg0
    obtain ⟨fd, hb, hF⟩ := Lw.facts (P := (PySem.Challenge.rw_duehalls_k83_main_tasks_and_units).prog) (w := w) (Pr := fun ns => ns.length ≤ 63) hp KX G hmg c
    exact ⟨K, fd, VM.spLaw K _, KX, hb, fun H a ns hl _ hS => ⟨a, ns, rfl, hS, hl, fun _ => rfl⟩, hF⟩
set_option maxHeartbeats 2000000
/-! Q1: read terms evaluated by simp -/
namespace VM
open PySem L2

/-! ### slots -/
@[simp] theorem q_gets0 (x : Sl) (xs : Sls) : gets (x :: xs) 0 = x := rfl
@[simp] theorem q_getsS (x : Sl) (xs : Sls) (n : Nat) : gets (x :: xs) (n + 1) = gets xs n := rfl
@[simp] theorem q_gets1 (a x : Sl) (xs : Sls) : gets (a :: x :: xs) 1 = x := rfl
@[simp] theorem q_gets2 (a b x : Sl) (xs : Sls) : gets (a :: b :: x :: xs) 2 = x := rfl
@[simp] theorem q_gets3 (a b c x : Sl) (xs : Sls) : gets (a :: b :: c :: x :: xs) 3 = x := rfl
@[simp] theorem q_gets4 (a b c d x : Sl) (xs : Sls) : gets (a :: b :: c :: d :: x :: xs) 4 = x := rfl
@[simp] theorem q_gets5 (a b c d e x : Sl) (xs : Sls) : gets (a :: b :: c :: d :: e :: x :: xs) 5 = x := rfl
@[simp] theorem q_gets6 (a b c d e f x : Sl) (xs : Sls) : gets (a :: b :: c :: d :: e :: f :: x :: xs) 6 = x := rfl
@[simp] theorem q_gets7 (a b c d e f h x : Sl) (xs : Sls) : gets (a :: b :: c :: d :: e :: f :: h :: x :: xs) 7 = x := rfl
@[simp] theorem q_gets8 (a b c d e f h i x : Sl) (xs : Sls) : gets (a :: b :: c :: d :: e :: f :: h :: i :: x :: xs) 8 = x := rfl
@[simp] theorem q_gets9 (a b c d e f h i j x : Sl) (xs : Sls) : gets (a :: b :: c :: d :: e :: f :: h :: i :: j :: x :: xs) 9 = x := rfl
@[simp] theorem q_gets10 (y0 y1 y2 y3 y4 y5 y6 y7 y8 y9 x : Sl) (xs : Sls) : gets (y0 :: y1 :: y2 :: y3 :: y4 :: y5 :: y6 :: y7 :: y8 :: y9 :: x :: xs) 10 = x := rfl
@[simp] theorem q_gets11 (y0 y1 y2 y3 y4 y5 y6 y7 y8 y9 y10 x : Sl) (xs : Sls) : gets (y0 :: y1 :: y2 :: y3 :: y4 :: y5 :: y6 :: y7 :: y8 :: y9 :: y10 :: x :: xs) 11 = x := rfl
@[simp] theorem q_gets12 (y0 y1 y2 y3 y4 y5 y6 y7 y8 y9 y10 y11 x : Sl) (xs : Sls) : gets (y0 :: y1 :: y2 :: y3 :: y4 :: y5 :: y6 :: y7 :: y8 :: y9 :: y10 :: y11 :: x :: xs) 12 = x := rfl
@[simp] theorem q_gets13 (y0 y1 y2 y3 y4 y5 y6 y7 y8 y9 y10 y11 y12 x : Sl) (xs : Sls) : gets (y0 :: y1 :: y2 :: y3 :: y4 :: y5 :: y6 :: y7 :: y8 :: y9 :: y10 :: y11 :: y12 :: x :: xs) 13 = x := rfl
@[simp] theorem q_gets14 (y0 y1 y2 y3 y4 y5 y6 y7 y8 y9 y10 y11 y12 y13 x : Sl) (xs : Sls) : gets (y0 :: y1 :: y2 :: y3 :: y4 :: y5 :: y6 :: y7 :: y8 :: y9 :: y10 :: y11 :: y12 :: y13 :: x :: xs) 14 = x := rfl
@[simp] theorem q_gets15 (y0 y1 y2 y3 y4 y5 y6 y7 y8 y9 y10 y11 y12 y13 y14 x : Sl) (xs : Sls) : gets (y0 :: y1 :: y2 :: y3 :: y4 :: y5 :: y6 :: y7 :: y8 :: y9 :: y10 :: y11 :: y12 :: y13 :: y14 :: x :: xs) 15 = x := rfl
@[simp] theorem q_gets16 (y0 y1 y2 y3 y4 y5 y6 y7 y8 y9 y10 y11 y12 y13 y14 y15 x : Sl) (xs : Sls) : gets (y0 :: y1 :: y2 :: y3 :: y4 :: y5 :: y6 :: y7 :: y8 :: y9 :: y10 :: y11 :: y12 :: y13 :: y14 :: y15 :: x :: xs) 16 = x := rfl
@[simp] theorem q_gets17 (y0 y1 y2 y3 y4 y5 y6 y7 y8 y9 y10 y11 y12 y13 y14 y15 y16 x : Sl) (xs : Sls) : gets (y0 :: y1 :: y2 :: y3 :: y4 :: y5 :: y6 :: y7 :: y8 :: y9 :: y10 :: y11 :: y12 :: y13 :: y14 :: y15 :: y16 :: x :: xs) 17 = x := rfl
@[simp] theorem q_st2 (y0 y1 x z : Sl) (xs : Sls) : List.set (y0 :: y1 :: x :: xs) 2 z = y0 :: y1 :: z :: xs := rfl
@[simp] theorem q_st3 (y0 y1 y2 x z : Sl) (xs : Sls) : List.set (y0 :: y1 :: y2 :: x :: xs) 3 z = y0 :: y1 :: y2 :: z :: xs := rfl
@[simp] theorem q_st4 (y0 y1 y2 y3 x z : Sl) (xs : Sls) : List.set (y0 :: y1 :: y2 :: y3 :: x :: xs) 4 z = y0 :: y1 :: y2 :: y3 :: z :: xs := rfl
@[simp] theorem q_st5 (y0 y1 y2 y3 y4 x z : Sl) (xs : Sls) : List.set (y0 :: y1 :: y2 :: y3 :: y4 :: x :: xs) 5 z = y0 :: y1 :: y2 :: y3 :: y4 :: z :: xs := rfl
@[simp] theorem q_st6 (y0 y1 y2 y3 y4 y5 x z : Sl) (xs : Sls) : List.set (y0 :: y1 :: y2 :: y3 :: y4 :: y5 :: x :: xs) 6 z = y0 :: y1 :: y2 :: y3 :: y4 :: y5 :: z :: xs := rfl
@[simp] theorem q_st7 (y0 y1 y2 y3 y4 y5 y6 x z : Sl) (xs : Sls) : List.set (y0 :: y1 :: y2 :: y3 :: y4 :: y5 :: y6 :: x :: xs) 7 z = y0 :: y1 :: y2 :: y3 :: y4 :: y5 :: y6 :: z :: xs := rfl
@[simp] theorem q_st8 (y0 y1 y2 y3 y4 y5 y6 y7 x z : Sl) (xs : Sls) : List.set (y0 :: y1 :: y2 :: y3 :: y4 :: y5 :: y6 :: y7 :: x :: xs) 8 z = y0 :: y1 :: y2 :: y3 :: y4 :: y5 :: y6 :: y7 :: z :: xs := rfl
@[simp] theorem q_st9 (y0 y1 y2 y3 y4 y5 y6 y7 y8 x z : Sl) (xs : Sls) : List.set (y0 :: y1 :: y2 :: y3 :: y4 :: y5 :: y6 :: y7 :: y8 :: x :: xs) 9 z = y0 :: y1 :: y2 :: y3 :: y4 :: y5 :: y6 :: y7 :: y8 :: z :: xs := rfl
@[simp] theorem q_st10 (y0 y1 y2 y3 y4 y5 y6 y7 y8 y9 x z : Sl) (xs : Sls) : List.set (y0 :: y1 :: y2 :: y3 :: y4 :: y5 :: y6 :: y7 :: y8 :: y9 :: x :: xs) 10 z = y0 :: y1 :: y2 :: y3 :: y4 :: y5 :: y6 :: y7 :: y8 :: y9 :: z :: xs := rfl
@[simp] theorem q_st11 (y0 y1 y2 y3 y4 y5 y6 y7 y8 y9 y10 x z : Sl) (xs : Sls) : List.set (y0 :: y1 :: y2 :: y3 :: y4 :: y5 :: y6 :: y7 :: y8 :: y9 :: y10 :: x :: xs) 11 z = y0 :: y1 :: y2 :: y3 :: y4 :: y5 :: y6 :: y7 :: y8 :: y9 :: y10 :: z :: xs := rfl
@[simp] theorem q_st12 (y0 y1 y2 y3 y4 y5 y6 y7 y8 y9 y10 y11 x z : Sl) (xs : Sls) : List.set (y0 :: y1 :: y2 :: y3 :: y4 :: y5 :: y6 :: y7 :: y8 :: y9 :: y10 :: y11 :: x :: xs) 12 z = y0 :: y1 :: y2 :: y3 :: y4 :: y5 :: y6 :: y7 :: y8 :: y9 :: y10 :: y11 :: z :: xs := rfl
@[simp] theorem q_st13 (y0 y1 y2 y3 y4 y5 y6 y7 y8 y9 y10 y11 y12 x z : Sl) (xs : Sls) : List.set (y0 :: y1 :: y2 :: y3 :: y4 :: y5 :: y6 :: y7 :: y8 :: y9 :: y10 :: y11 :: y12 :: x :: xs) 13 z = y0 :: y1 :: y2 :: y3 :: y4 :: y5 :: y6 :: y7 :: y8 :: y9 :: y10 :: y11 :: y12 :: z :: xs := rfl
@[simp] theorem q_st14 (y0 y1 y2 y3 y4 y5 y6 y7 y8 y9 y10 y11 y12 y13 x z : Sl) (xs : Sls) : List.set (y0 :: y1 :: y2 :: y3 :: y4 :: y5 :: y6 :: y7 :: y8 :: y9 :: y10 :: y11 :: y12 :: y13 :: x :: xs) 14 z = y0 :: y1 :: y2 :: y3 :: y4 :: y5 :: y6 :: y7 :: y8 :: y9 :: y10 :: y11 :: y12 :: y13 :: z :: xs := rfl
@[simp] theorem q_st15 (y0 y1 y2 y3 y4 y5 y6 y7 y8 y9 y10 y11 y12 y13 y14 x z : Sl) (xs : Sls) : List.set (y0 :: y1 :: y2 :: y3 :: y4 :: y5 :: y6 :: y7 :: y8 :: y9 :: y10 :: y11 :: y12 :: y13 :: y14 :: x :: xs) 15 z = y0 :: y1 :: y2 :: y3 :: y4 :: y5 :: y6 :: y7 :: y8 :: y9 :: y10 :: y11 :: y12 :: y13 :: y14 :: z :: xs := rfl
@[simp] theorem q_st16 (y0 y1 y2 y3 y4 y5 y6 y7 y8 y9 y10 y11 y12 y13 y14 y15 x z : Sl) (xs : Sls) : List.set (y0 :: y1 :: y2 :: y3 :: y4 :: y5 :: y6 :: y7 :: y8 :: y9 :: y10 :: y11 :: y12 :: y13 :: y14 :: y15 :: x :: xs) 16 z = y0 :: y1 :: y2 :: y3 :: y4 :: y5 :: y6 :: y7 :: y8 :: y9 :: y10 :: y11 :: y12 :: y13 :: y14 :: y15 :: z :: xs := rfl
@[simp] theorem q_st17 (y0 y1 y2 y3 y4 y5 y6 y7 y8 y9 y10 y11 y12 y13 y14 y15 y16 x z : Sl) (xs : Sls) : List.set (y0 :: y1 :: y2 :: y3 :: y4 :: y5 :: y6 :: y7 :: y8 :: y9 :: y10 :: y11 :: y12 :: y13 :: y14 :: y15 :: y16 :: x :: xs) 17 z = y0 :: y1 :: y2 :: y3 :: y4 :: y5 :: y6 :: y7 :: y8 :: y9 :: y10 :: y11 :: y12 :: y13 :: y14 :: y15 :: y16 :: z :: xs := rfl
@[simp] theorem q_clean (t : T) : clean (t, false) = some t := rfl
@[simp] theorem q_toSl (t : T) : toSl (t, false) = .cl t := rfl
@[simp] theorem q_toSlL (ts : List T) : toSl (.list ts, true) = .ro (.list ts) := rfl
@[simp] theorem q_toSlD (ts : List (T × T)) : toSl (.dict ts, true) = .ro (.dict ts) := rfl
@[simp] theorem q_isStm1 (t : T) : isStm (.cl t) = false := rfl
@[simp] theorem q_isStm2 (t : T) : isStm (.ro t) = false := rfl
@[simp] theorem q_isStm3 (t : T) : isStm (.ow t) = false := rfl
@[simp] theorem q_isStm4 : isStm .un = false := rfl
@[simp] theorem q_isStm5 : isStm .stm = true := rfl
@[simp] theorem q_bool (b x : Bool) : boolOf (.bool b, x) = some b := rfl
@[simp] theorem q_tb (b : Bool) : tb b = .bool b := rfl

/-! ### expressions -/
@[simp] theorem q_var {i : Nat} {sl : Sls} {g : G} : eVar i sl g = match gets sl i with
  | .cl t => some ((t, false), g)
  | .ow t => some ((t, true), g)
  | .ro t => some ((t, true), g)
  | _ => none := rfl
@[simp] theorem q_lit {t : T} {sl : Sls} {g : G} : eLit t sl g = some ((t, false), g) := rfl
@[simp] theorem q_op {f : T → T → Option T} {ma mb : Ex} {sl : Sls} {g : G} : eOp f ma mb sl g = (ma sl g).bind fun a => (mb sl a.2).bind fun b => (f a.1.1 b.1.1).map fun t => ((t, false), b.2) := rfl
@[simp] theorem q_un {f : T → Option T} {ma : Ex} {sl : Sls} {g : G} : eUn f ma sl g = (ma sl g).bind fun a => (f a.1.1).map fun t => ((t, false), a.2) := rfl
@[simp] theorem q_and {ma mb : Ex} {sl : Sls} {g : G} : eAnd ma mb sl g = (ma sl g).bind fun a => (boolOf a.1).bind fun b => if b = true then mb sl a.2 else some ((.bool false, false), a.2) := rfl
@[simp] theorem q_or {ma mb : Ex} {sl : Sls} {g : G} : eOr ma mb sl g = (ma sl g).bind fun a => (boolOf a.1).bind fun b => if b = true then some ((.bool true, false), a.2) else mb sl a.2 := rfl
@[simp] theorem q_not {ma : Ex} {sl : Sls} {g : G} : eNot ma sl g = (ma sl g).bind fun a => (boolOf a.1).map fun b => ((.bool (!b), false), a.2) := rfl
@[simp] theorem q_if {mc ma mb : Ex} {sl : Sls} {g : G} : eIf mc ma mb sl g = (mc sl g).bind fun c => (boolOf c.1).bind fun b => if b = true then ma sl c.2 else mb sl c.2 := rfl
@[simp] theorem q_chain {f1 f2 : T → T → Option T} {ma mb mc : Ex} {sl : Sls} {g : G} : eChain f1 f2 ma mb mc sl g = (ma sl g).bind fun a => (mb sl a.2).bind fun b => (f1 a.1.1 b.1.1).bind fun t => (boolOf (t, false)).bind fun k =>
  if k = true then (mc sl b.2).bind fun c => (f2 b.1.1 c.1.1).map fun t => ((t, false), c.2) else some ((.bool false, false), b.2) := rfl
@[simp] theorem q_aNil {sl : Sls} {g : G} : aNil sl g = some ([], g) := rfl
@[simp] theorem q_aCons {ma : Ex} {mr : Exs} {sl : Sls} {g : G} : aCons ma mr sl g = (ma sl g).bind fun a => (mr sl a.2).map fun r => (a.1 :: r.1, r.2) := rfl
@[simp] theorem q_tup {ms : Exs} {sl : Sls} {g : G} : eTup ms sl g = (ms sl g).bind fun a => (cleans a.1).bind fun ts => (mkT ts).map fun t => ((t, false), a.2) := rfl
@[simp] theorem q_lst {ms : Exs} {sl : Sls} {g : G} : eLst ms sl g = (ms sl g).bind fun a => (cleans a.1).bind fun ts => (mkL ts).map fun t => ((t, false), a.2) := rfl
@[simp] theorem q_bi {f : List R → Option R} {ms : Exs} {sl : Sls} {g : G} : eBi f ms sl g = (ms sl g).bind fun a => (f a.1).bind fun r => (clean r).map fun t => ((t, false), a.2) := rfl
@[simp] theorem q_bi1 {f : T → Option T} {a : R} : bi1 f [a] = (f a.1).map fun t => (t, false) := rfl
@[simp] theorem q_bi2 {f : T → T → Option T} {a b : R} : bi2 f [a, b] = (f a.1 b.1).map fun t => (t, false) := rfl
@[simp] theorem q_cleans0 : cleans [] = some [] := rfl
@[simp] theorem q_cleansS {r : R} {rs : List R} : cleans (r :: rs) = (clean r).bind fun t => (cleans rs).bind fun ts => some (t :: ts) := rfl
@[simp] theorem q_asNil {sl : Sls} {g : G} : asNil sl g = some ([], g) := rfl
@[simp] theorem q_asVal {m : Ex} {mr : As} {sl : Sls} {g : G} : asVal m mr sl g = (m sl g).bind fun a => (mr sl a.2).map fun r => (toSl a.1 :: r.1, r.2) := rfl
@[simp] theorem q_asStm {i : Nat} {mr : As} {sl : Sls} {g : G} : asStm i mr sl g = if isStm (gets sl i) = true then (mr sl g).map fun r => (.stm :: r.1, r.2) else none := rfl
/-- what a call that draws nothing tells -/
def ret (o : Option (T × G)) (g : G) : Option (R × G) := o.bind fun r => match r.2 with
  | none => some ((r.1, false), g)
  | some _ => none
@[simp] theorem q_ret {t : T} {g : G} : ret (some (t, none)) g = some ((t, false), g) := rfl
def anyS (l : List Sl) : Bool := l.any isStm
@[simp] theorem q_any0 : anyS [] = false := rfl
@[simp] theorem q_anyC (x : Sl) (xs : List Sl) : anyS (x :: xs) = (isStm x || anyS xs) := rfl
@[simp] theorem q_fn {den : Den} {m : As} {sl : Sls} {g : G} : eFn den m sl g = (m sl g).bind fun a => if anyS a.1 = true then (den a.1 a.2).map fun r => ((r.1, false), r.2) else ret (den a.1 none) a.2 := rfl
@[simp] theorem q_is {ns : List String} {m : Ex} {sl : Sls} {g : G} : eIs ns m sl g = (m sl g).bind fun a => if plainD a.1.1 = true then some ((.bool (ns.any (isT (tyName a.1.1))), false), a.2) else none := rfl

/-! ### statements -/
@[simp] theorem q_seq {a b : Sm} {sl : Sls} {g : G} : mSeq a b sl g = (a sl g).bind fun r => match r.1 with
  | .nx => b r.2.1 r.2.2
  | _ => some r := rfl
@[simp] theorem q_mNx {sl : Sls} {g : G} : mNx sl g = some (.nx, sl, g) := rfl
@[simp] theorem q_mBk {sl : Sls} {g : G} : mBk sl g = some (.bk, sl, g) := rfl
@[simp] theorem q_mCt {sl : Sls} {g : G} : mCt sl g = some (.ct, sl, g) := rfl
@[simp] theorem q_drop {m : Ex} {sl : Sls} {g : G} : mDrop m sl g = (m sl g).map fun r => (.nx, sl, r.2) := rfl
@[simp] theorem q_mRet {m : Ex} {sl : Sls} {g : G} : mRet m sl g = (m sl g).bind fun r => (clean r.1).map fun t => (.rt t, sl, r.2) := rfl
@[simp] theorem q_set0 {i : Nat} {m : Ex} {sl : Sls} {g : G} : mSet' false i m sl g = (m sl g).bind fun r => (clean r.1).map fun t => (.nx, sl.set i (.cl t), r.2) := rfl
@[simp] theorem q_set1 {i : Nat} {m : Ex} {sl : Sls} {g : G} : mSet' true i m sl g = (m sl g).map fun r => (.nx, sl.set i (.ow r.1.1), r.2) := rfl
@[simp] theorem q_unp {tg : Tg} {m : Ex} {sl : Sls} {g : G} : mUnp tg m sl g = (m sl g).bind fun r => (clean r.1).bind fun t => (bindT tg t sl).map fun sl1 => (.nx, sl1, r.2) := rfl
@[simp] theorem q_mIf {c : Ex} {a b : Sm} {sl : Sls} {g : G} : mIf c a b sl g = (c sl g).bind fun r => (boolOf r.1).bind fun k => if k = true then a sl r.2 else b sl r.2 := rfl
@[simp] theorem q_aug {i : Nat} {f : T → T → Option T} {m : Ex} {sl : Sls} {g : G} : mAug i f m sl g = (eVar i sl g).bind fun a => (m sl a.2).bind fun b => (f a.1.1 b.1.1).map fun t => (.nx, sl.set i (.cl t), b.2) := rfl
@[simp] theorem q_frz0 {m : Sm} {sl : Sls} {g : G} : frzIf [] m sl g = m sl g := rfl
@[simp] theorem q_frzS {i : Nat} {is : List Nat} {m : Sm} {sl : Sls} {g : G} : frzIf (i :: is) m sl g = m (frz (i :: is) sl) g := rfl
@[simp] theorem q_frzN {sl : Sls} : frz [] sl = sl := rfl
@[simp] theorem q_frzC {i : Nat} {is : List Nat} {sl : Sls} : frz (i :: is) sl = frz is (match gets sl i with
  | .ow t => sl.set i (.cl t)
  | _ => sl) := rfl
@[simp] theorem q_par2 {i j : Nat} {fa fb : Bool} {ma mb : Ex} {sl : Sls} {g : G} : mPar2 i j fa fb ma mb sl g = (ma sl g).bind fun a => (slotOf fa a.1).bind fun x => (mb sl a.2).bind fun b => (slotOf fb b.1).map fun y => (.nx, (sl.set i x).set j y, b.2) := rfl
@[simp] theorem q_par3 {i j l : Nat} {fa fb fc : Bool} {ma mb mc : Ex} {sl : Sls} {g : G} : mPar3 i j l fa fb fc ma mb mc sl g = (ma sl g).bind fun a => (slotOf fa a.1).bind fun x => (mb sl a.2).bind fun b => (slotOf fb b.1).bind fun y => (mc sl b.2).bind fun c => (slotOf fc c.1).map fun z => (.nx, ((sl.set i x).set j y).set l z, c.2) := rfl
@[simp] theorem q_slot0 {r : R} : slotOf false r = (clean r).map .cl := rfl
@[simp] theorem q_slot1 {r : R} : slotOf true r = some (.ow r.1) := rfl
@[simp] theorem q_eD0 {sl : Sls} {g : G} : eD0 sl g = some ((.dict [], false), g) := rfl
@[simp] theorem q_meth {f : T → List T → Option T} {i : Nat} {ms : Exs} {sl : Sls} {g : G} : mMeth f i ms sl g = match gets sl i with
  | .ow t => (ms sl g).bind fun a => (cleans a.1).bind fun ts => (f t ts).map fun t' => (.nx, sl.set i (.ow t'), a.2)
  | _ => none := rfl
@[simp] theorem q_for {mi : Is} {tg : Tg} {mb : Sm} {sl : Sls} {g : G} : mFor mi tg mb sl g = (mi sl g).bind fun a => if a.1.2 = true then none else forGo tg mb a.1.1 sl a.2 := rfl
@[simp] theorem q_while {n : Nat} {c : Ex} {mb : Sm} {sl : Sls} {g : G} : mWhile n c mb sl g = whileGo c mb n sl g := rfl
@[simp] theorem q_iVal {m : Ex} {sl : Sls} {g : G} : iVal m sl g = (m sl g).bind fun a => (itemsOf a.1).map fun r => (r, a.2) := rfl
@[simp] theorem q_iRng {f : List R → Option (List T)} {ms : Exs} {sl : Sls} {g : G} : iRng f ms sl g = (ms sl g).bind fun a => (f a.1).map fun ts => ((ts, false), a.2) := rfl
@[simp] theorem q_iArgs {f : List R → Option (List T × Bool)} {ms : Exs} {sl : Sls} {g : G} : iArgs f ms sl g = (ms sl g).bind fun a => (f a.1).map fun ts => (ts, a.2) := rfl
@[simp] theorem q_iOf {f : R → Option (List T × Bool)} {m : Ex} {sl : Sls} {g : G} : iOf f m sl g = (m sl g).bind fun a => (f a.1).map fun r => (r, a.2) := rfl
@[simp] theorem q_items {ts : List T} {b : Bool} : itemsOf (.list ts, b) = some (ts, b) := rfl
@[simp] theorem q_itemsT {ts : List T} {b : Bool} : itemsOf (.tuple ts, b) = some (ts, false) := rfl
@[simp] theorem q_eLc {mi : Is} {tg : Tg} {mt me : Ex} {vs : List Nat} {sl : Sls} {g : G} : eLc mi tg mt me vs sl g = (mi sl g).bind fun a => (lcGo tg mt me (wipeS sl vs) a.1.1 a.2).bind fun p => (mkL p.1).map fun t => ((t, false), p.2) := rfl
@[simp] theorem q_eDc {mi : Is} {tg : Tg} {mt mk me : Ex} {vs : List Nat} {sl : Sls} {g : G} : eDc mi tg mt mk me vs sl g = (mi sl g).bind fun a => (dcGo tg mt mk me (wipeS sl vs) a.1.1 [] a.2).map fun p => ((.dict p.1, false), p.2) := rfl
@[simp] theorem q_wipe0 {sl : Sls} : wipeS sl [] = sl := rfl
@[simp] theorem q_wipeS {sl : Sls} {v : Nat} {vs : List Nat} : wipeS sl (v :: vs) = (wipeS sl vs).set v .un := rfl
@[simp] theorem q_bindN {i : Nat} {t : T} {sl : Sls} : bindT (.nm i) t sl = some (sl.set i (.cl t)) := by simp [bindT]
@[simp] theorem q_bindP {gs : List Tg} {ts : List T} {sl : Sls} : bindT (.tp gs) (.tuple ts) sl = bindTs gs ts sl := by simp [bindT]
@[simp] theorem q_bind0 {sl : Sls} : bindTs [] [] sl = some sl := by simp [bindTs]
@[simp] theorem q_bindC {g : Tg} {gs : List Tg} {t : T} {ts : List T} {sl : Sls} : bindTs (g :: gs) (t :: ts) sl = (bindT g t sl).bind fun sl1 => bindTs gs ts sl1 := by simp [bindTs]
/-- the result of a def -/
def fin (o : Option (Fl × Sls × G)) : Option (T × G) := o.bind fun r => match r.1 with
  | .rt t => some (t, r.2.2)
  | .nx => some (.none, r.2.2)
  | _ => none
@[simp] theorem q_finR {t : T} {sl : Sls} {g : G} : fin (some (.rt t, sl, g)) = some (t, g) := rfl
@[simp] theorem q_finN {sl : Sls} {g : G} : fin (some (.nx, sl, g)) = some (.none, g) := rfl
theorem q_fnDen {n N : Nat} {m : Sm} {as : Sls} {g : G} (h : as.length = n) : fnDen n N m as g = fin (m (as ++ List.replicate (N - n) .un) g) := by
  unfold fnDen
  rw [if_pos h]
  rfl

@[simp] theorem q_den1 {N : Nat} {m : Sm} {a : Sl} {g : G} : fnDen 1 N m [a] g = fin (m (a :: List.replicate (N - 1) .un) g) := rfl
@[simp] theorem q_den2 {N : Nat} {m : Sm} {a b : Sl} {g : G} : fnDen 2 N m [a, b] g = fin (m (a :: b :: List.replicate (N - 2) .un) g) := rfl
@[simp] theorem q_den3 {N : Nat} {m : Sm} {a b c : Sl} {g : G} : fnDen 3 N m [a, b, c] g = fin (m (a :: b :: c :: List.replicate (N - 3) .un) g) := rfl
@[simp] theorem q_den4 {N : Nat} {m : Sm} {a b c d : Sl} {g : G} : fnDen 4 N m [a, b, c, d] g = fin (m (a :: b :: c :: d :: List.replicate (N - 4) .un) g) := rfl
@[simp] theorem q_den5 {N : Nat} {m : Sm} {a b c d e : Sl} {g : G} : fnDen 5 N m [a, b, c, d, e] g = fin (m (a :: b :: c :: d :: e :: List.replicate (N - 5) .un) g) := rfl

/-! ### operations -/
@[simp] theorem q_addI (i j : Int) : bAdd (.int i) (.int j) = some (.int (i + j)) := rfl
@[simp] theorem q_subI (i j : Int) : bSub (.int i) (.int j) = some (.int (i - j)) := rfl
@[simp] theorem q_negI (i : Int) : bNeg (.int i) = some (.int (-i)) := rfl
@[simp] theorem q_ltI (i j : Int) : bLt (.int i) (.int j) = some (.bool (decide (i < j))) := rfl
@[simp] theorem q_leI (i j : Int) : bLe (.int i) (.int j) = some (.bool (decide (i ≤ j))) := rfl
@[simp] theorem q_gtI (i j : Int) : bGt (.int i) (.int j) = some (.bool (decide (j < i))) := rfl
@[simp] theorem q_geI (i j : Int) : bGe (.int i) (.int j) = some (.bool (decide (j ≤ i))) := rfl
@[simp] theorem q_isT (a c : String) : isT a c = (a == c || (a == "bool" && c == "int")) := rfl
@[simp] theorem q_ty1 : tyName .none = "NoneType" := rfl
@[simp] theorem q_ty2 (b : Bool) : tyName (.bool b) = "bool" := rfl
@[simp] theorem q_ty3 (b : Int) : tyName (.int b) = "int" := rfl
@[simp] theorem q_ty4 (b : Str) : tyName (.str b) = "str" := rfl
@[simp] theorem q_ty5 (b : List T) : tyName (.list b) = "list" := rfl
@[simp] theorem q_ty6 (b : List T) : tyName (.tuple b) = "tuple" := rfl
@[simp] theorem q_eqI (i j : Int) : bEq (.int i) (.int j) = some (.bool (decide (i = j))) := bEq_int i j
@[simp] theorem q_neI (i j : Int) : bNe (.int i) (.int j) = some (.bool (!decide (i = j))) := bNe_int i j
@[simp] theorem q_eqB (i j : Bool) : bEq (.bool i) (.bool j) = some (.bool (i == j)) := by
  have : PyData.eqv (.bool i) (.bool j) = (i == j) := by simp [PyData.eqv]
  simp [bEq, eqB, shaped_bool, this, tb]
@[simp] theorem q_neB (i j : Bool) : bNe (.bool i) (.bool j) = some (.bool (!(i == j))) := by
  have : PyData.eqv (.bool i) (.bool j) = (i == j) := by simp [PyData.eqv]
  simp [bNe, eqB, shaped_bool, this, tb]
@[simp] theorem q_isN (a : T) : bIs a .none = some (.bool (isNonT a)) := rfl
@[simp] theorem q_isNot (a : T) : bIsNot a .none = some (.bool (!isNonT a)) := rfl
@[simp] theorem q_nonN : isNonT .none = true := rfl
@[simp] theorem q_nonI (i : Int) : isNonT (.int i) = false := rfl
@[simp] theorem q_nonS (i : Str) : isNonT (.str i) = false := rfl
@[simp] theorem q_nonL (i : List T) : isNonT (.list i) = false := rfl
@[simp] theorem q_nonT (i : List T) : isNonT (.tuple i) = false := rfl
@[simp] theorem q_nonD (i : List (T × T)) : isNonT (.dict i) = false := rfl
theorem atI_of {α : Type} {xs : List α} {i : Int} {k : Nat} {x : α} (hi : i = k) (h : xs[k]? = some x) : atI xs i = some x := by
  have hk : k < xs.length := (List.getElem?_eq_some_iff.mp h).1
  unfold atI ixN
  rw [if_pos (by omega), if_pos (by omega)]
  subst hi
  simpa using h
theorem atI_last {α : Type} {xs : List α} {x : α} : atI (xs ++ [x]) (-1) = some x := by
  unfold atI ixN
  rw [if_neg (by omega), if_pos (by rw [List.length_append, List.length_singleton]; omega)]
  have : ((-1 : Int) + ((xs ++ [x]).length : Nat)).toNat = xs.length := by rw [List.length_append, List.length_singleton]; omega
  rw [this]
  simp
@[simp] theorem q_ixT0 (a : T) (ts : List T) : bIdx (.tuple (a :: ts)) (.int 0) = some a := atI_of (k := 0) rfl rfl
@[simp] theorem q_ixT1 (a b : T) (ts : List T) : bIdx (.tuple (a :: b :: ts)) (.int 1) = some b := atI_of (k := 1) rfl rfl
@[simp] theorem q_ixT2 (a b c : T) (ts : List T) : bIdx (.tuple (a :: b :: c :: ts)) (.int 2) = some c := atI_of (k := 2) rfl rfl
@[simp] theorem q_ixL0 (a : T) (ts : List T) : bIdx (.list (a :: ts)) (.int 0) = some a := atI_of (k := 0) rfl rfl
@[simp] theorem q_ixL1 (a b : T) (ts : List T) : bIdx (.list (a :: b :: ts)) (.int 1) = some b := atI_of (k := 1) rfl rfl
@[simp] theorem q_lenL (xs : List T) : lenB (.list xs) = some (.int xs.length) := rfl
@[simp] theorem q_lenT (xs : List T) : lenB (.tuple xs) = some (.int xs.length) := rfl
@[simp] theorem q_listL (xs : List T) : listB (.list xs) = some (.list xs) := rfl
@[simp] theorem q_listT (xs : List T) : listB (.tuple xs) = some (.list xs) := rfl
@[simp] theorem q_tupleL (xs : List T) : tupleB (.list xs) = some (.tuple xs) := rfl
@[simp] theorem q_tupleT (xs : List T) : tupleB (.tuple xs) = some (.tuple xs) := rfl
@[simp] theorem q_intI (i : Int) : intB (.int i) = some (.int i) := rfl
@[simp] theorem q_max2 (i j : Int) : max2B (.int i) (.int j) = some (.int (max i j)) := by
  show some (PyData.int (if j > i then j else i)) = _
  congr 2
  omega
@[simp] theorem q_mkT0 : mkT [] = some (.tuple []) := rfl
@[simp] theorem q_mkT1 (a : T) : mkT [a] = some (.tuple [a]) := rfl
@[simp] theorem q_mkT2 (a b : T) : mkT [a, b] = some (.tuple [a, b]) := rfl
@[simp] theorem q_mkT3 (a b c : T) : mkT [a, b, c] = some (.tuple [a, b, c]) := rfl
@[simp] theorem q_mkT4 (a b c d : T) : mkT [a, b, c, d] = some (.tuple [a, b, c, d]) := rfl
@[simp] theorem q_mkL0 : mkL [] = some (.list []) := rfl
@[simp] theorem q_mkL1 (a : T) : mkL [a] = some (.list [a]) := rfl
@[simp] theorem q_mkL2 (a b : T) : mkL [a, b] = some (.list [a, b]) := rfl
@[simp] theorem q_mkL3 (a b c : T) : mkL [a, b, c] = some (.list [a, b, c]) := rfl
@[simp] theorem q_mkL4 (a b c d : T) : mkL [a, b, c, d] = some (.list [a, b, c, d]) := rfl
@[simp] theorem q_mkL5 (a b c d e : T) : mkL [a, b, c, d, e] = some (.list [a, b, c, d, e]) := rfl
theorem q_mkL {ts : List T} (h : ts.length ≤ cap) : mkL ts = some (.list ts) := by
  unfold mkL
  rw [if_pos h]
@[simp] theorem q_sum {α : Type} (l : List α) (f : α → Int) : sumB (.list (l.map fun x => .int (f x))) = some (.int (l.map f).sum) := by
  have : (l.map fun x => PyData.int (f x)) = (l.map f).map PyData.int := by rw [List.map_map]; rfl
  rw [this]
  simp only [sumB, intsOf_map, Option.map_some]
@[simp] theorem q_all {α : Type} (l : List α) (f : α → Bool) : allB (.list (l.map fun x => .bool (f x))) = some (.bool (l.all f)) := by
  have : (l.map fun x => PyData.bool (f x)) = (l.map f).map PyData.bool := by rw [List.map_map]; rfl
  rw [this]
  simp only [allB, boolsOf_map, Option.map_some, List.all_map]
  rfl
@[simp] theorem q_any {α : Type} (l : List α) (f : α → Bool) : anyB (.list (l.map fun x => .bool (f x))) = some (.bool (l.any f)) := by
  have : (l.map fun x => PyData.bool (f x)) = (l.map f).map PyData.bool := by rw [List.map_map]; rfl
  rw [this]
  simp only [anyB, boolsOf_map, Option.map_some, List.any_map]
  rfl
@[simp] theorem q_plI (i : Int) : plainD (.int i) = true := rfl
@[simp] theorem q_plB (i : Bool) : plainD (.bool i) = true := rfl
@[simp] theorem q_plS (i : Str) : plainD (.str i) = true := rfl
@[simp] theorem q_plL (i : List T) : plainD (.list i) = true := rfl
@[simp] theorem q_plT (i : List T) : plainD (.tuple i) = true := rfl
@[simp] theorem q_plN : plainD .none = true := rfl

/-! ### comprehensions over typed lists -/
def lcT {α : Type} (body : α → G → Option (Option T × G)) : List α → G → Option (List T × G)
  | [], g => some ([], g)
  | x :: xs, g => (body x g).bind fun r => (lcT body xs r.2).map fun p => (match r.1 with
    | some t => t :: p.1
    | none => p.1, p.2)
theorem q_lcGo {α : Type} {e : α → T} {tg : Tg} {mt me : Ex} {sl : Sls} : ∀ {xs : List α} {g : G}, lcGo tg mt me sl (xs.map e) g = lcT (fun x g => (bindT tg (e x) sl).bind fun sl1 => (mt sl1 g).bind fun b => (boolOf b.1).bind fun k => if k = true then (me sl1 b.2).bind fun r => (clean r.1).map fun t => (some t, r.2) else some (none, b.2)) xs g
  | [], g => rfl
  | x :: xs, g => by
    unfold lcT
    rw [List.map_cons, lcGo]
    cases h1 : bindT tg (e x) sl with
    | none => rfl
    | some sl1 =>
      simp only [Option.bind_some]
      cases h2 : mt sl1 g with
      | none => rfl
      | some b =>
        simp only [Option.bind_some]
        cases h3 : boolOf b.1 with
        | none => rfl
        | some k =>
          simp only [Option.bind_some]
          cases k with
          | false => 
            simp only [Bool.false_eq_true, if_false, Option.bind_some]
            rw [q_lcGo]
            cases lcT _ xs b.2 <;> rfl
          | true =>
            simp only [if_true]
            cases h4 : me sl1 b.2 with
            | none => rfl
            | some r =>
              simp only [Option.bind_some]
              cases h5 : clean r.1 with
              | none => rfl
              | some t =>
                simp only [Option.bind_some, Option.map_some]
                rw [q_lcGo]
theorem lcT_congr {α : Type} {b1 b2 : α → G → Option (Option T × G)} : ∀ {xs : List α} {g : G}, (∀ x ∈ xs, ∀ g, b1 x g = b2 x g) → lcT b1 xs g = lcT b2 xs g
  | [], g, _ => rfl
  | x :: xs, g, h => by
    unfold lcT
    rw [h x (.head _)]
    congr 1
    funext r
    rw [lcT_congr fun y hy => h y (.tail _ hy)]
@[simp] theorem lcT_all {α : Type} {q : α → T} {xs : List α} {g : G} : lcT (fun x g => some (some (q x), g)) xs g = some (xs.map q, g) := by
  induction xs with
  | nil => rfl
  | cons x xs ih => simp only [lcT, Option.bind_some, ih, Option.map_some, List.map_cons]
@[simp] theorem lcT_fil {α : Type} {p : α → Prop} [i : ∀ x, Decidable (p x)] {q : α → T} {xs : List α} {g : G} : lcT (fun x g => if p x then some (some (q x), g) else some (none, g)) xs g = some ((xs.filter fun x => decide (p x)).map q, g) := by
  induction xs with
  | nil => rfl
  | cons x xs ih =>
    by_cases h : p x
    · simp [lcT, h, ih]
    · simp [lcT, h, ih]
/-- by what the parts come to, for each item -/
theorem lc_of {α : Type} {e : α → T} (p : α → Bool) (q : α → T) {tg : Tg} {mt me : Ex} {sl : Sls} {xs : List α} {g : G} (h : ∀ x ∈ xs, ∃ sl1, bindT tg (e x) sl = some sl1 ∧ mt sl1 g = some ((.bool (p x), false), g) ∧ (p x = true → me sl1 g = some ((q x, false), g))) :
    lcGo tg mt me sl (xs.map e) g = some ((xs.filter p).map q, g) := by
  induction xs with
  | nil => rfl
  | cons x xs ih =>
    obtain ⟨sl1, h1, h2, h3⟩ := h x (.head _)
    have ih := ih fun y hy => h y (.tail _ hy)
    rw [List.map_cons, lcGo, h1]
    simp only [Option.bind_some, h2, boolOf]
    cases hp : p x with
    | true =>
      simp only [if_true, h3 hp, Option.bind_some, clean, ih, Option.map_some]
      rw [List.filter_cons_of_pos hp, List.map_cons]
    | false =>
      rw [if_neg Bool.false_ne_true, ih, List.filter_cons_of_neg (by rw [hp]; exact Bool.false_ne_true)]

/-! ### dicts by names -/
def dN (ns : List Str) (F : Str → T) : T := .dict (ns.map fun n => (.str n, F n))
theorem dgetE_dN {F : Str → T} {x : Str} : ∀ {ns : List Str}, dgetE (ns.map fun n => (.str n, F n)) (.str x) = if x ∈ ns then some (F x) else none
  | [] => rfl
  | n :: ns => by
    rw [List.map_cons, dgetE, eqv_str, dgetE_dN]
    by_cases h : n = x
    · subst h; simp
    · have : ¬ x = n := fun z => h z.symm
      simp [h, this]
theorem dgetB_dN {ns : List Str} {F : Str → T} {x : Str} : dgetB (ns.map fun n => (.str n, F n)) (.str x) = some (if x ∈ ns then some (F x) else none) := by
  cases ns with
  | nil => rfl
  | cons n ns => exact congrArg some (dgetE_dN (F := F) (x := x) (ns := n :: ns))
theorem q_idxN {ns : List Str} {F : Str → T} {x : Str} (h : x ∈ ns) : bIdx (dN ns F) (.str x) = some (F x) := by
  show (dgetB (ns.map fun n => (PyData.str n, F n)) (.str x)).bind id = _
  rw [dgetB_dN, if_pos h]; rfl
@[simp] theorem q_inN {ns : List Str} {F : Str → T} {x : Str} : bIn (.str x) (dN ns F) = some (.bool (decide (x ∈ ns))) := by
  show ((dgetB (ns.map fun n => (PyData.str n, F n)) (.str x)).map Option.isSome).map tb = _
  rw [dgetB_dN]
  by_cases h : x ∈ ns <;> simp [h]
@[simp] theorem q_notInN {ns : List Str} {F : Str → T} {x : Str} : bNotIn (.str x) (dN ns F) = some (.bool (!decide (x ∈ ns))) := by
  show ((dgetB (ns.map fun n => (PyData.str n, F n)) (.str x)).map Option.isSome).map (fun b => tb (!b)) = _
  rw [dgetB_dN]
  by_cases h : x ∈ ns <;> simp [h]
@[simp] theorem q_plN2 {ns : List Str} {F : Str → T} : plainD (dN ns F) = true := by cases ns <;> rfl
@[simp] theorem q_nonDN {ns : List Str} {F : Str → T} : isNonT (dN ns F) = false := rfl
@[simp] theorem q_itemsN {ns : List Str} {F : Str → T} : itemsOf (dN ns F, false) = some (ns.map .str, false) := by
  cases ns with
  | nil => rfl
  | cons n ns =>
    show some ((((n :: ns).map fun n => (PyData.str n, F n)).map (·.1)), false) = _
    rw [List.map_map]; rfl
@[simp] theorem q_lenN {ns : List Str} {F : Str → T} : lenB (dN ns F) = some (.int ns.length) := by
  cases ns with
  | nil => rfl
  | cons n ns =>
    show some (PyData.int (((n :: ns).map fun n => (PyData.str n, F n)).length : Nat)) = _
    rw [List.length_map]
@[simp] theorem q_tyN {ns : List Str} {F : Str → T} : tyName (dN ns F) = "dict" := rfl
theorem dN_congr {ns : List Str} {F F' : Str → T} (h : ∀ x ∈ ns, F x = F' x) : dN ns F = dN ns F' := by
  unfold dN
  rw [List.map_congr_left fun x hx => by rw [h x hx]]
end VM
/-! Q2: lists of names, of numbers, of pairs: order, least, greatest -/
namespace VM
open PySem L2

theorem leT_trans {a b c : T} (h : leT a b = true) (k : leT b c = true) : leT a c = true := leT_tot.trans _ _ _ h k
theorem leT_total (a b : T) : leT a b = true ∨ leT b a = true := leT_tot.total a b
theorem sortT_pw (l : List T) : (sortT l).Pairwise fun a b => leT a b = true := PySem.W.sort_pairwise leT_tot _
theorem sortT_perm (l : List T) : (sortT l).Perm l := List.mergeSort_perm _ _

/-! ### names -/
def sle (x y : Str) : Bool := leT (.str x) (.str y)
theorem sle_refl (x : Str) : sle x x = true := (leT_total (.str x) (.str x)).elim id id
theorem sle_anti {x y : Str} (h : sle x y = true) (k : sle y x = true) : x = y := by
  unfold sle at h k
  rw [leT_str] at h k
  exact PySem.W.str_of_cps (Std.le_antisymm (of_decide_eq_true h) (of_decide_eq_true k))
theorem sle_trans {x y z : Str} (h : sle x y = true) (k : sle y z = true) : sle x z = true := leT_trans h k
theorem sle_total (x y : Str) : sle x y = true ∨ sle y x = true := leT_total _ _
def sortS (l : List Str) : List Str := l.mergeSort sle
theorem sortS_perm (l : List Str) : (sortS l).Perm l := List.mergeSort_perm _ _
theorem sortS_pw (l : List Str) : (sortS l).Pairwise fun a b => sle a b = true := List.pairwise_mergeSort (le := sle) (fun a b c h k => sle_trans h k) (fun a b => by rcases sle_total a b with h | h <;> simp [h]) _
theorem sortT_str (l : List Str) : sortT (l.map PyData.str) = (sortS l).map PyData.str :=
  (List.map_mergeSort (r := sle) (s := leT) (f := PyData.str) (fun _ _ _ _ => rfl)).symm
theorem sorted_eq {l k : List Str} (p : l.Perm k) (h1 : l.Pairwise fun a b => sle a b = true) (h2 : k.Pairwise fun a b => sle a b = true) : l = k :=
  List.Perm.eq_of_pairwise (fun a b _ _ x y => sle_anti x y) h1 h2 p
theorem sortS_eq {l k : List Str} (p : l.Perm k) : sortS l = sortS k := sorted_eq (((sortS_perm l).trans p).trans (sortS_perm k).symm) (sortS_pw l) (sortS_pw k)
theorem sortS_id {l : List Str} (h : l.Pairwise fun a b => sle a b = true) : sortS l = l := sorted_eq (sortS_perm l) (sortS_pw l) h
theorem sortS_sortS (l : List Str) : sortS (sortS l) = sortS l := sortS_id (sortS_pw l)
@[simp] theorem mem_sortS {x : Str} {l : List Str} : x ∈ sortS l ↔ x ∈ l := (sortS_perm l).mem_iff
@[simp] theorem length_sortS {l : List Str} : (sortS l).length = l.length := (sortS_perm l).length_eq
theorem nodup_sortS {l : List Str} : (sortS l).Nodup ↔ l.Nodup := (sortS_perm l).nodup_iff
def okS (l : List Str) : Prop := ∀ x ∈ l, PyData.strOk x = true
theorem alike_str (x y : Str) : PySem.W.alike (.str x) (.str y) = true := by simp [PySem.W.alike]
theorem alike_int (x y : Int) : PySem.W.alike (.int x) (.int y) = true := by simp [PySem.W.alike]
theorem sortOk_str {l : List Str} (h : okS l) (k : l.length ≤ cap) : sortOk (l.map PyData.str) = true := by
  unfold sortOk
  simp only [Bool.and_eq_true, Bool.or_eq_true, List.all_map, List.all_eq_true, decide_eq_true_eq, List.length_map, Function.comp]
  refine ⟨⟨⟨fun x hx y hy => alike_str x y, .inr fun x hx => rfl⟩, fun x hx => shaped_str (h x hx)⟩, k⟩
theorem q_sortedS {l : List Str} (h : okS l) (k : l.length ≤ cap) : sortedB (.list (l.map PyData.str)) = some (.list ((sortS l).map PyData.str)) := by
  show (if sortOk (l.map PyData.str) = true then some (PyData.list (sortT (l.map PyData.str))) else none) = _
  rw [if_pos (sortOk_str h k), sortT_str]
theorem keyStrs_dN (ns : List Str) (F : Str → T) : (ns.map fun n => ((PyData.str n : T), F n)).map (·.1) = ns.map PyData.str := by
  rw [List.map_map]; rfl
theorem q_sortedN {ns : List Str} {F : Str → T} (k : ns.length < 64) : sortedB (dN ns F) = some (.list ((sortS ns).map PyData.str)) := by
  cases ns with
  | nil => simp [dN, sortedB, sortT, sortS, keyStrs]
  | cons n ns =>
    show (if ((keyStrs (((n :: ns).map fun n => ((PyData.str n : T), F n)).map (·.1))).isSome || (intsOf (((n :: ns).map fun n => ((PyData.str n : T), F n)).map (·.1))).isSome) = true ∧ ((n :: ns).map fun n => ((PyData.str n : T), F n)).length < 64 then some (PyData.list (sortT (((n :: ns).map fun n => ((PyData.str n : T), F n)).map (·.1)))) else none) = _
    rw [keyStrs_dN, keyStrs_map, List.length_map, if_pos ⟨rfl, k⟩, sortT_str]

theorem q_sortedS' {α : Type} {l : List α} {f : α → Str} (h : ∀ x ∈ l, PyData.strOk (f x) = true) (k : l.length ≤ cap) : sortedB (.list (l.map fun x => .str (f x))) = some (.list ((sortS (l.map f)).map PyData.str)) := by
  have : (l.map fun x => PyData.str (f x)) = (l.map f).map PyData.str := by rw [List.map_map]; rfl
  rw [this]
  exact q_sortedS (fun x hx => by obtain ⟨y, hy, rfl⟩ := List.mem_map.mp hx; exact h y hy) (by simpa using k)

/-! ### numbers -/
def ile (a b : Int) : Bool := decide (a ≤ b)
def sortI (l : List Int) : List Int := l.mergeSort ile
theorem sortT_int (is : List Int) : sortT (is.map PyData.int) = (sortI is).map PyData.int :=
  (List.map_mergeSort (fun a _ b _ => (leT_int a b).symm)).symm
theorem sortI_perm (l : List Int) : (sortI l).Perm l := List.mergeSort_perm _ _
theorem sortI_pw (l : List Int) : (sortI l).Pairwise (· ≤ ·) :=
  (List.pairwise_mergeSort (le := ile) (fun a b c h k => by simp [ile] at *; omega) (fun a b => by simp [ile]; omega) l).imp fun h => of_decide_eq_true h
theorem sortI_uniq {l k : List Int} (p : l.Perm k) (h1 : l.Pairwise (· ≤ ·)) (h2 : k.Pairwise (· ≤ ·)) : l = k :=
  List.Perm.eq_of_pairwise (fun a b _ _ x y => by omega) h1 h2 p
theorem sortI_eq {l k : List Int} (p : l.Perm k) : sortI l = sortI k := sortI_uniq (((sortI_perm l).trans p).trans (sortI_perm k).symm) (sortI_pw l) (sortI_pw k)
theorem sortI_id {l : List Int} (h : l.Pairwise (· ≤ ·)) : sortI l = l := sortI_uniq (sortI_perm l) (sortI_pw l) h
@[simp] theorem mem_sortI {x : Int} {l : List Int} : x ∈ sortI l ↔ x ∈ l := (sortI_perm l).mem_iff
@[simp] theorem length_sortI {l : List Int} : (sortI l).length = l.length := (sortI_perm l).length_eq
theorem nodup_sortI {l : List Int} : (sortI l).Nodup ↔ l.Nodup := (sortI_perm l).nodup_iff
theorem sortOk_int {l : List Int} (k : l.length ≤ cap) : sortOk (l.map PyData.int) = true := by
  unfold sortOk
  simp only [Bool.and_eq_true, Bool.or_eq_true, List.all_map, List.all_eq_true, decide_eq_true_eq, List.length_map, Function.comp]
  refine ⟨⟨⟨fun x hx y hy => alike_int x y, .inr fun x hx => rfl⟩, fun x hx => shaped_int x⟩, k⟩
theorem q_sortedI {l : List Int} (k : l.length ≤ cap) : sortedB (.list (l.map PyData.int)) = some (.list ((sortI l).map PyData.int)) := by
  show (if sortOk (l.map PyData.int) = true then some (PyData.list (sortT (l.map PyData.int))) else none) = _
  rw [if_pos (sortOk_int k), sortT_int]

theorem q_sortedI' {α : Type} {l : List α} {f : α → Int} (k : l.length ≤ cap) : sortedB (.list (l.map fun x => .int (f x))) = some (.list ((sortI (l.map f)).map PyData.int)) := by
  have : (l.map fun x => PyData.int (f x)) = (l.map f).map PyData.int := by rw [List.map_map]; rfl
  rw [this]
  exact q_sortedI (by simpa using k)
/-! ### a number and a name -/
abbrev Pr := Int × Str
def prT (p : Pr) : T := .tuple [.int p.1, .str p.2]
def ple (p q : Pr) : Bool := leT (prT p) (prT q)
theorem dataLt_pr (p q : Pr) : PySem.W.dataLt (prT p) (prT q) = if p.1 = q.1 then PySem.W.dataLt (.str p.2) (.str q.2) else decide (p.1 < q.1) := by
  unfold prT
  rw [PySem.W.dataLt_tuple]
  by_cases h : p.1 = q.1
  · rw [if_pos h, PySem.W.dataLt_all_yes (alike_int _ _) (by rw [eqv_int]; exact decide_eq_true h)]
    by_cases k : p.2 = q.2
    · rw [PySem.W.dataLt_all_yes (alike_str _ _) (by rw [eqv_str]; exact decide_eq_true k), k, PySem.W.dataLt_str]
      have : ¬ (q.2.cps.toList < q.2.cps.toList) := Std.lt_irrefl
      rw [decide_eq_false this]
      rfl
    · rw [PySem.W.dataLt_all_no (alike_str _ _) (by rw [eqv_str]; exact decide_eq_false k)]
  · rw [if_neg h, PySem.W.dataLt_all_no (alike_int _ _) (by rw [eqv_int]; exact decide_eq_false h), PySem.W.dataLt_int]
theorem ple_iff (p q : Pr) : ple p q = true ↔ p.1 < q.1 ∨ (p.1 = q.1 ∧ sle p.2 q.2 = true) := by
  unfold ple leT sle leT
  rw [dataLt_pr]
  by_cases h : p.1 = q.1
  · simp [h]
  · have h' : ¬ q.1 = p.1 := fun z => h z.symm
    simp [h, h']
    omega
theorem ple_trans {a b c : Pr} (h : ple a b = true) (k : ple b c = true) : ple a c = true := leT_trans h k
theorem ple_total (a b : Pr) : ple a b = true ∨ ple b a = true := leT_total _ _
theorem ple_anti {p q : Pr} (h : ple p q = true) (k : ple q p = true) : p = q := by
  rw [ple_iff] at h k
  obtain ⟨a, x⟩ := p
  obtain ⟨b, y⟩ := q
  dsimp only at h k
  have e : a = b := by omega
  subst e
  have hx : sle x y = true := by rcases h with h | h; omega; exact h.2
  have hy : sle y x = true := by rcases k with h | h; omega; exact h.2
  rw [sle_anti hx hy]
def sortP (l : List Pr) : List Pr := l.mergeSort ple
theorem sortT_pr (l : List Pr) : sortT (l.map prT) = (sortP l).map prT := (List.map_mergeSort (r := ple) (s := leT) (f := prT) (fun _ _ _ _ => rfl)).symm
theorem sortP_perm (l : List Pr) : (sortP l).Perm l := List.mergeSort_perm _ _
theorem sortP_pw (l : List Pr) : (sortP l).Pairwise fun a b => ple a b = true := List.pairwise_mergeSort (le := ple) (fun a b c h k => ple_trans h k) (fun a b => by rcases ple_total a b with h | h <;> simp [h]) _
@[simp] theorem mem_sortP {x : Pr} {l : List Pr} : x ∈ sortP l ↔ x ∈ l := (sortP_perm l).mem_iff
@[simp] theorem length_sortP {l : List Pr} : (sortP l).length = l.length := (sortP_perm l).length_eq
theorem sortP_uniq {l k : List Pr} (p : l.Perm k) (h1 : l.Pairwise fun a b => ple a b = true) (h2 : k.Pairwise fun a b => ple a b = true) : l = k :=
  List.Perm.eq_of_pairwise (fun a b _ _ x y => ple_anti x y) h1 h2 p
theorem alike_pr (p q : Pr) : PySem.W.alike (prT p) (prT q) = true := by simp [prT, PySem.W.alike, PySem.W.alikeAll]
theorem shaped_pr {p : Pr} (h : PyData.strOk p.2 = true) : SeqAt.shaped (prT p) = true := by
  simp [prT, SeqAt.shaped, PyData.canLay0, PyData.canLayAll0, PyData.depth, PyData.depthAll, h]
theorem sortOk_pr {l : List Pr} (h : ∀ p ∈ l, PyData.strOk p.2 = true) (k : l.length ≤ cap) : sortOk (l.map prT) = true := by
  unfold sortOk
  simp only [Bool.and_eq_true, Bool.or_eq_true, List.all_map, List.all_eq_true, decide_eq_true_eq, List.length_map, Function.comp]
  refine ⟨⟨⟨fun x hx y hy => alike_pr x y, .inl fun x hx => rfl⟩, fun x hx => shaped_pr (h x hx)⟩, k⟩
theorem q_sortedP {l : List Pr} (h : ∀ p ∈ l, PyData.strOk p.2 = true) (k : l.length ≤ cap) : sortedB (.list (l.map prT)) = some (.list ((sortP l).map prT)) := by
  show (if sortOk (l.map prT) = true then some (PyData.list (sortT (l.map prT))) else none) = _
  rw [if_pos (sortOk_pr h k), sortT_pr]
theorem q_sortedP' {α : Type} {l : List α} {f : α → Int} {n : α → Str} (h : ∀ x ∈ l, PyData.strOk (n x) = true) (k : l.length ≤ cap) : sortedB (.list (l.map fun x => .tuple [.int (f x), .str (n x)])) = some (.list ((sortP (l.map fun x => (f x, n x))).map prT)) := by
  have : (l.map fun x => PyData.tuple [.int (f x), .str (n x)]) = (l.map fun x => (f x, n x)).map prT := by rw [List.map_map]; rfl
  rw [this]
  exact q_sortedP (fun x hx => by obtain ⟨y, hy, rfl⟩ := List.mem_map.mp hx; exact h y hy) (by simpa using k)
end VM
/-! Q3: least, greatest -/
namespace VM
open PySem L2

theorem leT_refl (a : T) : leT a a = true := (leT_total a a).elim id id
theorem lt_leT {a b : T} (h : PySem.W.dataLt a b = true) : leT a b = true := by
  rcases leT_total a b with k | k
  · exact k
  · unfold leT at k
    rw [h] at k
    cases k
theorem minD_typed {α : Type} (f : α → T) : ∀ (l : List α) (x : α), ∃ m ∈ x :: l, PySem.W.minD (f x) (l.map f) = f m ∧ ∀ y ∈ x :: l, leT (f m) (f y) = true
  | [], x => ⟨x, .head _, rfl, fun y hy => by rcases List.mem_cons.mp hy with rfl | h; exact leT_refl _; cases h⟩
  | y :: l, x => by
    have e : PySem.W.minD (f x) ((y :: l).map f) = PySem.W.minD (if PySem.W.dataLt (f y) (f x) = true then f y else f x) (l.map f) := rfl
    rw [e]
    by_cases h : PySem.W.dataLt (f y) (f x) = true
    · rw [if_pos h]
      obtain ⟨m, hm, e, hl⟩ := minD_typed f l y
      refine ⟨m, .tail _ hm, e, fun z hz => ?_⟩
      rcases List.mem_cons.mp hz with rfl | hz
      · exact leT_trans (hl y (.head _)) (lt_leT h)
      · exact hl z hz
    · rw [if_neg h]
      obtain ⟨m, hm, e, hl⟩ := minD_typed f l x
      have hx : leT (f x) (f y) = true := by unfold leT; simpa using h
      refine ⟨m, ?_, e, fun z hz => ?_⟩
      · rcases List.mem_cons.mp hm with rfl | h
        · exact .head _
        · exact .tail _ (.tail _ h)
      · rcases List.mem_cons.mp hz with rfl | hz
        · exact hl _ (.head _)
        · rcases List.mem_cons.mp hz with rfl | hz
          · exact leT_trans (hl x (.head _)) hx
          · exact hl z (.tail _ hz)
theorem maxD_typed {α : Type} (f : α → T) : ∀ (l : List α) (x : α), ∃ m ∈ x :: l, PySem.W.maxD (f x) (l.map f) = f m ∧ ∀ y ∈ x :: l, leT (f y) (f m) = true
  | [], x => ⟨x, .head _, rfl, fun y hy => by rcases List.mem_cons.mp hy with rfl | h; exact leT_refl _; cases h⟩
  | y :: l, x => by
    have e : PySem.W.maxD (f x) ((y :: l).map f) = PySem.W.maxD (if PySem.W.dataLt (f x) (f y) = true then f y else f x) (l.map f) := rfl
    rw [e]
    by_cases h : PySem.W.dataLt (f x) (f y) = true
    · rw [if_pos h]
      obtain ⟨m, hm, e, hl⟩ := maxD_typed f l y
      refine ⟨m, .tail _ hm, e, fun z hz => ?_⟩
      rcases List.mem_cons.mp hz with rfl | hz
      · exact leT_trans (lt_leT h) (hl y (.head _))
      · exact hl z hz
    · rw [if_neg h]
      obtain ⟨m, hm, e, hl⟩ := maxD_typed f l x
      have hx : leT (f y) (f x) = true := by unfold leT; simpa using h
      refine ⟨m, ?_, e, fun z hz => ?_⟩
      · rcases List.mem_cons.mp hm with rfl | h
        · exact .head _
        · exact .tail _ (.tail _ h)
      · rcases List.mem_cons.mp hz with rfl | hz
        · exact hl _ (.head _)
        · rcases List.mem_cons.mp hz with rfl | hz
          · exact leT_trans hx (hl x (.head _))
          · exact hl z (.tail _ hz)
theorem minB_typed {α : Type} (f : α → T) {l : List α} (h : minOk (l.map f) = true) (n : l ≠ []) : ∃ m ∈ l, minB (.list (l.map f)) = some (f m) ∧ ∀ y ∈ l, leT (f m) (f y) = true := by
  cases l with
  | nil => exact absurd rfl n
  | cons x l =>
    obtain ⟨m, hm, e, hl⟩ := minD_typed f l x
    refine ⟨m, hm, ?_, hl⟩
    show (if minOk (f x :: l.map f) = true then some (PySem.W.minD (f x) (l.map f)) else none) = _
    rw [if_pos (by rw [List.map_cons] at h; exact h), e]
theorem maxB_typed {α : Type} (f : α → T) {l : List α} (h : minOk (l.map f) = true) (n : l ≠ []) : ∃ m ∈ l, maxB (.list (l.map f)) = some (f m) ∧ ∀ y ∈ l, leT (f y) (f m) = true := by
  cases l with
  | nil => exact absurd rfl n
  | cons x l =>
    obtain ⟨m, hm, e, hl⟩ := maxD_typed f l x
    refine ⟨m, hm, ?_, hl⟩
    show (if minOk (f x :: l.map f) = true then some (PySem.W.maxD (f x) (l.map f)) else none) = _
    rw [if_pos (by rw [List.map_cons] at h; exact h), e]
theorem minOk_int (l : List Int) : minOk (l.map PyData.int) = true := by
  unfold minOk
  simp only [Bool.and_eq_true, List.all_map, List.all_eq_true, Function.comp]
  exact ⟨⟨fun x hx y hy => alike_int x y, fun x hx => rfl⟩, fun x hx => shaped_int x⟩
theorem minOk_pr {l : List Pr} (h : ∀ p ∈ l, PyData.strOk p.2 = true) : minOk (l.map prT) = true := by
  unfold minOk
  simp only [Bool.and_eq_true, List.all_map, List.all_eq_true, Function.comp]
  exact ⟨⟨fun x hx y hy => alike_pr x y, fun x hx => rfl⟩, fun x hx => shaped_pr (h x hx)⟩
theorem q_minI {l : List Int} (n : l ≠ []) : ∃ m ∈ l, minB (.list (l.map PyData.int)) = some (.int m) ∧ ∀ y ∈ l, m ≤ y := by
  obtain ⟨m, hm, e, h⟩ := minB_typed PyData.int (minOk_int l) n
  exact ⟨m, hm, e, fun y hy => by have := h y hy; rw [leT_int] at this; exact of_decide_eq_true this⟩
theorem q_maxI {l : List Int} (n : l ≠ []) : ∃ m ∈ l, maxB (.list (l.map PyData.int)) = some (.int m) ∧ ∀ y ∈ l, y ≤ m := by
  obtain ⟨m, hm, e, h⟩ := maxB_typed PyData.int (minOk_int l) n
  exact ⟨m, hm, e, fun y hy => by have := h y hy; rw [leT_int] at this; exact of_decide_eq_true this⟩
theorem q_minP {l : List Pr} (h : ∀ p ∈ l, PyData.strOk p.2 = true) (n : l ≠ []) : ∃ m ∈ l, minB (.list (l.map prT)) = some (prT m) ∧ ∀ y ∈ l, ple m y = true := minB_typed prT (minOk_pr h) n
theorem q_maxP {l : List Pr} (h : ∀ p ∈ l, PyData.strOk p.2 = true) (n : l ≠ []) : ∃ m ∈ l, maxB (.list (l.map prT)) = some (prT m) ∧ ∀ y ∈ l, ple y m = true := maxB_typed prT (minOk_pr h) n

theorem q_maxP' {α : Type} {l : List α} (f : α → Int) (n : α → Str) (h : ∀ x ∈ l, PyData.strOk (n x) = true) (ne : l ≠ []) : ∃ m ∈ l, maxB (.list (l.map fun x => .tuple [.int (f x), .str (n x)])) = some (.tuple [.int (f m), .str (n m)]) ∧ ∀ y ∈ l, ple (f y, n y) (f m, n m) = true := by
  have e : (l.map fun x => PyData.tuple [.int (f x), .str (n x)]) = (l.map fun x => (f x, n x)).map prT := by rw [List.map_map]; rfl
  obtain ⟨m, hm, e1, h1⟩ := q_maxP (l := l.map fun x => (f x, n x)) (fun p hp => by obtain ⟨x, hx, rfl⟩ := List.mem_map.mp hp; exact h x hx) (by simpa using ne)
  obtain ⟨x, hx, rfl⟩ := List.mem_map.mp hm
  exact ⟨x, hx, by rw [e, e1]; rfl, fun y hy => h1 _ (List.mem_map_of_mem hy)⟩
theorem q_minP' {α : Type} {l : List α} (f : α → Int) (n : α → Str) (h : ∀ x ∈ l, PyData.strOk (n x) = true) (ne : l ≠ []) : ∃ m ∈ l, minB (.list (l.map fun x => .tuple [.int (f x), .str (n x)])) = some (.tuple [.int (f m), .str (n m)]) ∧ ∀ y ∈ l, ple (f m, n m) (f y, n y) = true := by
  have e : (l.map fun x => PyData.tuple [.int (f x), .str (n x)]) = (l.map fun x => (f x, n x)).map prT := by rw [List.map_map]; rfl
  obtain ⟨m, hm, e1, h1⟩ := q_minP (l := l.map fun x => (f x, n x)) (fun p hp => by obtain ⟨x, hx, rfl⟩ := List.mem_map.mp hp; exact h x hx) (by simpa using ne)
  obtain ⟨x, hx, rfl⟩ := List.mem_map.mp hm
  exact ⟨x, hx, by rw [e, e1]; rfl, fun y hy => h1 _ (List.mem_map_of_mem hy)⟩
theorem q_maxI' {α : Type} {l : List α} (f : α → Int) (ne : l ≠ []) : ∃ m ∈ l, maxB (.list (l.map fun x => .int (f x))) = some (.int (f m)) ∧ ∀ y ∈ l, f y ≤ f m := by
  have e : (l.map fun x => PyData.int (f x)) = (l.map f).map PyData.int := by rw [List.map_map]; rfl
  obtain ⟨m, hm, e1, h1⟩ := q_maxI (l := l.map f) (by simpa using ne)
  obtain ⟨x, hx, rfl⟩ := List.mem_map.mp hm
  exact ⟨x, hx, by rw [e, e1], fun y hy => h1 _ (List.mem_map_of_mem hy)⟩
theorem q_minI' {α : Type} {l : List α} (f : α → Int) (ne : l ≠ []) : ∃ m ∈ l, minB (.list (l.map fun x => .int (f x))) = some (.int (f m)) ∧ ∀ y ∈ l, f m ≤ f y := by
  have e : (l.map fun x => PyData.int (f x)) = (l.map f).map PyData.int := by rw [List.map_map]; rfl
  obtain ⟨m, hm, e1, h1⟩ := q_minI (l := l.map f) (by simpa using ne)
  obtain ⟨x, hx, rfl⟩ := List.mem_map.mp hm
  exact ⟨x, hx, by rw [e, e1], fun y hy => h1 _ (List.mem_map_of_mem hy)⟩
/-! ### equality, membership -/
theorem eqvAll_strs : ∀ (l k : List Str), PyData.eqvAll (l.map PyData.str) (k.map PyData.str) = decide (l = k)
  | [], [] => rfl
  | [], y :: k => by simp [PyData.eqvAll]
  | x :: l, [] => by simp [PyData.eqvAll]
  | x :: l, y :: k => by
    rw [List.map_cons, List.map_cons, PySem.W.eqv_all_cons, eqv_str, eqvAll_strs l k]
    rw [Bool.eq_iff_iff]
    simp
theorem shaped_strs {l : List Str} (h : okS l) : SeqAt.shaped (.list (l.map PyData.str)) = true := by
  have hc : ∀ l : List Str, okS l → PyData.canLayAll0 (l.map PyData.str) = true := by
    intro l
    induction l with
    | nil => intro _; rfl
    | cons x l ih =>
      intro h
      simp [PyData.canLayAll0, PyData.canLay0, h x (.head _), ih fun y hy => h y (.tail _ hy)]
  have hd : ∀ l : List Str, PyData.depthAll (l.map PyData.str) ≤ 1 := by
    intro l
    induction l with
    | nil => simp [PyData.depthAll]
    | cons x l ih => simp [PyData.depthAll, PyData.depth]; omega
  have := hd l
  simp [SeqAt.shaped, PyData.canLay0, PyData.depth, hc l h]
  omega
theorem shaped_ints (l : List Int) : SeqAt.shaped (.list (l.map PyData.int)) = true := by
  have hc : ∀ l : List Int, PyData.canLayAll0 (l.map PyData.int) = true ∧ PyData.depthAll (l.map PyData.int) ≤ 1 := by
    intro l
    induction l with
    | nil => simp [PyData.canLayAll0, PyData.depthAll]
    | cons x l ih =>
      simp [PyData.canLayAll0, PyData.canLay0, PyData.depthAll, PyData.depth, ih]
  obtain ⟨a, b⟩ := hc l
  simp [SeqAt.shaped, PyData.canLay0, PyData.depth, a]
  omega
theorem q_inI {l : List Int} {x : Int} : bIn (.int x) (.list (l.map PyData.int)) = some (.bool (decide (x ∈ l))) := by
  show (if SeqAt.shaped (.int x) = true ∧ SeqAt.shaped (.list (l.map PyData.int)) = true then some ((l.map PyData.int).any fun y => PyData.eqv y (.int x)) else none).map tb = _
  rw [if_pos ⟨shaped_int x, shaped_ints l⟩]
  simp only [Option.map_some, q_tb, List.any_map, Function.comp_def, eqv_int]
  congr 2
  rw [Bool.eq_iff_iff]
  simp
theorem q_notInI {l : List Int} {x : Int} : bNotIn (.int x) (.list (l.map PyData.int)) = some (.bool (!decide (x ∈ l))) := by
  show (if SeqAt.shaped (.int x) = true ∧ SeqAt.shaped (.list (l.map PyData.int)) = true then some ((l.map PyData.int).any fun y => PyData.eqv y (.int x)) else none).map (fun b => tb (!b)) = _
  rw [if_pos ⟨shaped_int x, shaped_ints l⟩]
  simp only [Option.map_some, q_tb, List.any_map, Function.comp_def, eqv_int]
  congr 3
  rw [Bool.eq_iff_iff]
  simp
def strsT (l : List Str) : T := .list (l.map .str)
theorem shaped_lots {E : List (List Str)} (h : ∀ l ∈ E, okS l) : SeqAt.shaped (.list (E.map strsT)) = true := by
  have hc : ∀ E : List (List Str), (∀ l ∈ E, okS l) → PyData.canLayAll0 (E.map strsT) = true ∧ PyData.depthAll (E.map strsT) ≤ 3 := by
    intro E
    induction E with
    | nil => intro _; simp [PyData.canLayAll0, PyData.depthAll]
    | cons l E ih =>
      intro h
      obtain ⟨a, b⟩ := ih fun k hk => h k (.tail _ hk)
      have hl := shaped_strs (h l (.head _))
      have hc : ∀ l : List Str, okS l → PyData.canLayAll0 (l.map PyData.str) = true ∧ PyData.depthAll (l.map PyData.str) ≤ 1 := by
        intro l
        induction l with
        | nil => intro _; simp [PyData.canLayAll0, PyData.depthAll]
        | cons x l ih =>
          intro h
          obtain ⟨a, b⟩ := ih fun y hy => h y (.tail _ hy)
          simp [PyData.canLayAll0, PyData.canLay0, PyData.depthAll, PyData.depth, h x (.head _), a]
          omega
      obtain ⟨a1, b1⟩ := hc l (h l (.head _))
      simp [strsT, PyData.canLayAll0, PyData.canLay0, PyData.depthAll, PyData.depth, a, a1]
      omega
  obtain ⟨a, b⟩ := hc E h
  simp [SeqAt.shaped, PyData.canLay0, PyData.depth, a]
  omega
theorem q_inLS {E : List (List Str)} {l : List Str} (h : ∀ l ∈ E, okS l) (hl : okS l) : bIn (strsT l) (.list (E.map strsT)) = some (.bool (decide (l ∈ E))) := by
  show (if SeqAt.shaped (strsT l) = true ∧ SeqAt.shaped (.list (E.map strsT)) = true then some ((E.map strsT).any fun y => PyData.eqv y (strsT l)) else none).map tb = _
  rw [if_pos ⟨shaped_strs hl, shaped_lots h⟩]
  have e : ∀ k, PyData.eqv (strsT k) (strsT l) = decide (k = l) := fun k => by
    unfold strsT
    rw [← eqvAll_strs]
    simp [PyData.eqv]
  simp only [Option.map_some, q_tb, List.any_map, Function.comp_def, e]
  congr 2
  rw [Bool.eq_iff_iff]
  simp
theorem q_inS {l : List Str} {x : Str} (h : okS l) (hx : PyData.strOk x = true) : bIn (.str x) (.list (l.map PyData.str)) = some (.bool (decide (x ∈ l))) := by
  show (if SeqAt.shaped (.str x) = true ∧ SeqAt.shaped (.list (l.map PyData.str)) = true then some ((l.map PyData.str).any fun y => PyData.eqv y (.str x)) else none).map tb = _
  rw [if_pos ⟨shaped_str hx, shaped_strs h⟩]
  simp only [Option.map_some, q_tb, List.any_map, Function.comp_def, eqv_str]
  congr 2
  rw [Bool.eq_iff_iff]
  simp
theorem q_notInS {l : List Str} {x : Str} (h : okS l) (hx : PyData.strOk x = true) : bNotIn (.str x) (.list (l.map PyData.str)) = some (.bool (!decide (x ∈ l))) := by
  show (if SeqAt.shaped (.str x) = true ∧ SeqAt.shaped (.list (l.map PyData.str)) = true then some ((l.map PyData.str).any fun y => PyData.eqv y (.str x)) else none).map (fun b => tb (!b)) = _
  rw [if_pos ⟨shaped_str hx, shaped_strs h⟩]
  simp only [Option.map_some, q_tb, List.any_map, Function.comp_def, eqv_str]
  congr 3
  rw [Bool.eq_iff_iff]
  simp
theorem q_eqS0 {l : List Str} (h : okS l) : bEq (.list (l.map PyData.str)) (.list []) = some (.bool (decide (l = []))) := by
  have e := eqvAll_strs l []
  show (if SeqAt.shaped (.list (l.map PyData.str)) = true ∧ SeqAt.shaped (.list []) = true then some (PyData.eqv (.list (l.map PyData.str)) (.list [])) else none).map tb = _
  rw [if_pos ⟨shaped_strs h, rfl⟩]
  simp only [PyData.eqv, Option.map_some, q_tb]
  rw [show (PyData.eqvAll (l.map PyData.str) []) = decide (l = []) from e]
theorem q_neS0 {l : List Str} (h : okS l) : bNe (.list (l.map PyData.str)) (.list []) = some (.bool (!decide (l = []))) := by
  have e := eqvAll_strs l []
  show (if SeqAt.shaped (.list (l.map PyData.str)) = true ∧ SeqAt.shaped (.list []) = true then some (PyData.eqv (.list (l.map PyData.str)) (.list [])) else none).map (fun b => tb (!b)) = _
  rw [if_pos ⟨shaped_strs h, rfl⟩]
  simp only [PyData.eqv, Option.map_some, q_tb]
  rw [show (PyData.eqvAll (l.map PyData.str) []) = decide (l = []) from e]
end VM
/-! Q4: parts of lists, loops -/
namespace VM
open PySem L2
@[simp] theorem q_cut {m : Ex} {lo hi : Option Ex} {sl : Sls} {g : G} : eCut2 m lo hi sl g = (m sl g).bind fun a => (rdO lo sl a.2).bind fun b => (rdO hi sl b.2).bind fun c => (bCut a.1.1 b.1 c.1).map fun t => ((t, false), c.2) := rfl
@[simp] theorem q_rdO0 {sl : Sls} {g : G} : rdO none sl g = some (none, g) := rfl
@[simp] theorem q_rdO1 {l : Ex} {sl : Sls} {g : G} : rdO (some l) sl g = (l sl g).bind fun b => match b.1.1 with
      | .int i => some (some i, b.2)
      | _ => none := rfl
theorem cutL_to {α : Type} (xs : List α) {i : Int} (h : 0 ≤ i) : cutL xs none (some i) = xs.take i.toNat := by
  unfold cutL
  simp only [HT.sIx]
  rw [if_neg (by omega)]
  simp only [List.drop_zero, Nat.sub_zero]
  rcases Nat.le_total i.toNat xs.length with k | k
  · rw [Nat.min_eq_left k]
  · rw [Nat.min_eq_right k, List.take_of_length_le (Nat.le_refl _), List.take_of_length_le k]
theorem cutL_init {α : Type} (xs : List α) : cutL xs none (some (-1)) = xs.dropLast := by
  unfold cutL
  simp only [HT.sIx]
  rw [if_pos (by omega)]
  simp only [List.drop_zero, Nat.sub_zero]
  rw [List.dropLast_eq_take]
  congr 1
  omega
theorem cutL_last {α : Type} (xs : List α) (x : α) : cutL (xs ++ [x]) (some (-1)) none = [x] := by
  unfold cutL
  simp only [HT.sIx]
  rw [if_pos (by omega)]
  have : ((-1 : Int) + ((xs ++ [x]).length : Nat)).toNat = xs.length := by rw [List.length_append, List.length_singleton]; omega
  rw [this]
  simp
@[simp] theorem q_cutL (xs : List T) (lo hi : Option Int) : bCut (.list xs) lo hi = some (.list (cutL xs lo hi)) := rfl
theorem enum_map {α : Type} (e : α → T) (l : List α) : enumT (l.map e) = l.zipIdx.map fun p => .tuple [.int (p.2 : Nat), e p.1] := by
  unfold enumT
  rw [List.zipIdx_map, List.map_map]
  rfl
@[simp] theorem q_enum (ts : List T) (b : Bool) : enumOf [(.list ts, b)] = some (enumT ts, b) := rfl
@[simp] theorem q_zip (ts us : List T) (b c : Bool) : zipOf [(.list ts, b), (.list us, c)] = some (zipT ts us, b || c) := rfl
theorem zip_map {α β : Type} (e : α → T) (f : β → T) (l : List α) (k : List β) : zipT (l.map e) (k.map f) = (l.zip k).map fun p => .tuple [e p.1, f p.2] := by
  unfold zipT
  rw [List.zip_map, List.map_map]
  rfl
/-- a loop whose turns go on, by the slots -/
theorem for_fold {α S : Type} {e : α → T} {tg : Tg} {mb : Sm} {g : G} (enc : S → Sls) (step : S → α → S) : ∀ {xs : List α} {s : S}, (∀ s x, x ∈ xs → (bindT tg (e x) (enc s)).bind (fun sl1 => mb sl1 g) = some (.nx, enc (step s x), g)) → forGo tg mb (xs.map e) (enc s) g = some (.nx, enc (xs.foldl step s), g)
  | [], s, _ => rfl
  | x :: xs, s, h => by
    have h0 := h s x (.head _)
    rw [List.map_cons, forGo]
    cases hb : bindT tg (e x) (enc s) with
    | none => rw [hb] at h0; cases h0
    | some sl1 =>
      rw [hb] at h0
      simp only [Option.bind_some] at h0 ⊢
      rw [h0]
      simp only [Option.bind_some]
      rw [for_fold enc step fun s y hy => h s y (.tail _ hy)]
      rfl
/-- .. by an invariant of what is left -/
theorem for_rel {α : Type} {e : α → T} {tg : Tg} {mb : Sm} {g : G} (I : List α → Sls → Prop) (step : ∀ x xs sl, I (x :: xs) sl → ∃ sl2, (bindT tg (e x) sl).bind (fun sl1 => mb sl1 g) = some (.nx, sl2, g) ∧ I xs sl2) :
    ∀ (xs : List α) (sl : Sls), I xs sl → ∃ sl', forGo tg mb (xs.map e) sl g = some (.nx, sl', g) ∧ I [] sl'
  | [], sl, h => ⟨sl, rfl, h⟩
  | x :: xs, sl, h => by
    obtain ⟨sl2, h0, h2⟩ := step x xs sl h
    rw [List.map_cons, forGo]
    cases hb : bindT tg (e x) sl with
    | none => rw [hb] at h0; cases h0
    | some sl1 =>
      rw [hb] at h0
      simp only [Option.bind_some] at h0 ⊢
      rw [h0]
      simp only [Option.bind_some]
      exact for_rel I step xs sl2 h2
/-- .. that may hand back -/
theorem for_rel2 {α : Type} {e : α → T} {tg : Tg} {mb : Sm} {g : G} (I : List α → Sls → Prop) (Q : T → Prop) (step : ∀ x xs sl, I (x :: xs) sl → ∃ sl2, ((bindT tg (e x) sl).bind (fun sl1 => mb sl1 g) = some (.nx, sl2, g) ∧ I xs sl2) ∨ ∃ t, (bindT tg (e x) sl).bind (fun sl1 => mb sl1 g) = some (.rt t, sl2, g) ∧ Q t) :
    ∀ (xs : List α) (sl : Sls), I xs sl → ∃ sl', (forGo tg mb (xs.map e) sl g = some (.nx, sl', g) ∧ I [] sl') ∨ ∃ t, forGo tg mb (xs.map e) sl g = some (.rt t, sl', g) ∧ Q t
  | [], sl, h => ⟨sl, .inl ⟨rfl, h⟩⟩
  | x :: xs, sl, h => by
    obtain ⟨sl2, h0⟩ := step x xs sl h
    rw [List.map_cons, forGo]
    cases hb : bindT tg (e x) sl with
    | none => 
      rw [hb] at h0
      rcases h0 with ⟨h0, _⟩ | ⟨t, h0, _⟩ <;> cases h0
    | some sl1 =>
      rw [hb] at h0
      simp only [Option.bind_some] at h0 ⊢
      rcases h0 with ⟨h0, h2⟩ | ⟨t, h0, h2⟩
      · rw [h0]
        simp only [Option.bind_some]
        exact for_rel2 I Q step xs sl2 h2
      · rw [h0]
        exact ⟨sl2, .inr ⟨t, rfl, h2⟩⟩
/-- a loop that hands back at the first that is so -/
theorem for_find {α S : Type} {e : α → T} {tg : Tg} {mb : Sm} {g : G} (enc : S → Sls) (p : α → Bool) (r : α → T) : ∀ {xs : List α} {s : S}, (∀ x ∈ xs, ∀ s, ∃ s', (bindT tg (e x) (enc s)).bind (fun sl1 => mb sl1 g) = some (if p x = true then .rt (r x) else .nx, enc s', g)) →
    ∃ s', forGo tg mb (xs.map e) (enc s) g = some (match xs.find? p with | some x => .rt (r x) | none => .nx, enc s', g)
  | [], s, _ => ⟨s, rfl⟩
  | x :: xs, s, h => by
    obtain ⟨s', h0⟩ := h x (.head _) s
    rw [List.map_cons, forGo]
    cases hb : bindT tg (e x) (enc s) with
    | none => rw [hb] at h0; cases h0
    | some sl1 =>
      rw [hb] at h0
      simp only [Option.bind_some] at h0 ⊢
      rw [h0]
      cases hp : p x with
      | true =>
        refine ⟨s', ?_⟩
        simp [List.find?_cons, hp]
      | false =>
        obtain ⟨s2, h2⟩ := for_find enc p r (xs := xs) (s := s') fun y hy => h y (.tail _ hy)
        refine ⟨s2, ?_⟩
        simp [List.find?_cons, hp, h2]
@[simp] theorem q_neL0 : bNe (.list []) (.list []) = some (.bool false) := by
  have := q_neS0 (l := []) (by intro x hx; cases hx)
  simpa using this
@[simp] theorem q_eqL0 : bEq (.list []) (.list []) = some (.bool true) := by
  have := q_eqS0 (l := []) (by intro x hx; cases hx)
  simpa using this
/-- a loop that may stop -/
theorem for_ex {α : Type} {e : α → T} {tg : Tg} {mb : Sm} {g : G} (J : Sls → Prop) : ∀ {xs : List α} {sl : Sls}, (∀ x ∈ xs, ∀ sl, J sl → ∃ f sl2, (bindT tg (e x) sl).bind (fun sl1 => mb sl1 g) = some (f, sl2, g) ∧ (f = .nx ∨ f = .bk) ∧ J sl2) → J sl →
    ∃ sl', forGo tg mb (xs.map e) sl g = some (.nx, sl', g) ∧ J sl'
  | [], sl, _, h => ⟨sl, rfl, h⟩
  | x :: xs, sl, h, hJ => by
    obtain ⟨f, sl2, h0, hf, h2⟩ := h x (.head _) sl hJ
    rw [List.map_cons, forGo]
    cases hb : bindT tg (e x) sl with
    | none => rw [hb] at h0; cases h0
    | some sl1 =>
      rw [hb] at h0
      simp only [Option.bind_some] at h0 ⊢
      rw [h0]
      simp only [Option.bind_some]
      rcases hf with rfl | rfl
      · exact for_ex J (fun y hy => h y (.tail _ hy)) h2
      · exact ⟨sl2, rfl, h2⟩
theorem q_last {xs : List T} {x : T} : bIdx (.list (xs ++ [x])) (.int (-1)) = some x := atI_last
@[simp] theorem q_rev {xs : List T} : bRev (.list xs) = some (.list xs.reverse) := rfl
/-- a while loop by a measure -/
theorem while_rel {c : Ex} {mb : Sm} {g : G} (I : Nat → Sls → Prop) (Q : T → Prop) (P : Sls → Prop)
    (step : ∀ m sl, I m sl → (∃ r, c sl g = some ((.bool false, r), g) ∧ P sl) ∨ (∃ r, c sl g = some ((.bool true, r), g) ∧ ((∃ m' sl', m' < m ∧ mb sl g = some (.nx, sl', g) ∧ I m' sl') ∨ ∃ t sl', mb sl g = some (.rt t, sl', g) ∧ Q t))) :
    ∀ n m sl, m < n → I m sl → ∃ sl', (whileGo c mb n sl g = some (.nx, sl', g) ∧ P sl') ∨ ∃ t, whileGo c mb n sl g = some (.rt t, sl', g) ∧ Q t
  | 0, _, _, h, _ => by omega
  | n + 1, m, sl, h, hI => by
    rcases step m sl hI with ⟨r, e, p⟩ | ⟨r, e, q⟩
    · refine ⟨sl, .inl ⟨?_, p⟩⟩
      rw [whileGo, e]
      rfl
    · rw [whileGo, e]
      simp only [Option.bind_some, boolOf, if_true]
      rcases q with ⟨m', sl', hm, e2, h2⟩ | ⟨t, sl', e2, h2⟩
      · rw [e2]
        exact while_rel I Q P step n m' sl' (by omega) h2
      · rw [e2]
        exact ⟨sl', .inr ⟨t, rfl, h2⟩⟩
/-- things in the order in which they first stand -/
def once (ds : List Int) (xs : List Int) : List Int := xs.foldl (fun ds x => if x ∈ ds then ds else ds ++ [x]) ds
theorem once_mem : ∀ (xs ds : List Int) (x : Int), x ∈ once ds xs ↔ x ∈ ds ∨ x ∈ xs
  | [], ds, x => by simp [once]
  | y :: xs, ds, x => by
    show x ∈ once (if y ∈ ds then ds else ds ++ [y]) xs ↔ _
    rw [once_mem xs]
    by_cases h : y ∈ ds
    · rw [if_pos h]
      constructor
      · rintro (a | a) <;> simp [a]
      · rintro (a | a)
        · exact .inl a
        · rcases List.mem_cons.mp a with rfl | a
          · exact .inl h
          · exact .inr a
    · rw [if_neg h]
      simp [or_assoc]
theorem once_nodup : ∀ (xs ds : List Int), ds.Nodup → (once ds xs).Nodup
  | [], ds, h => h
  | y :: xs, ds, h => by
    show (once (if y ∈ ds then ds else ds ++ [y]) xs).Nodup
    refine once_nodup xs _ ?_
    by_cases hy : y ∈ ds
    · rw [if_pos hy]; exact h
    · rw [if_neg hy]
      exact List.nodup_append.mpr ⟨h, by simp, by rintro a ha b hb rfl; simp at hb; subst hb; exact hy ha⟩
theorem once_len (xs ds : List Int) : (once ds xs).length ≤ ds.length + xs.length := by
  induction xs generalizing ds with
  | nil => simp [once]
  | cons y xs ih =>
    show (once (if y ∈ ds then ds else ds ++ [y]) xs).length ≤ _
    have := ih (if y ∈ ds then ds else ds ++ [y])
    by_cases hy : y ∈ ds
    · rw [if_pos hy] at *
      simp at *; omega
    · rw [if_neg hy] at *
      simp at *; omega
def yes (i : Int) : T × T := (.int i, .bool true)
/-- {k: True for ..} -/
theorem dc_yes {α : Type} {e : α → T} (k : α → Int) {tg : Tg} {mk : Ex} {sl : Sls} {g : G} : ∀ {xs : List α} {ds : List Int}, (∀ x ∈ xs, (bindT tg (e x) sl).bind (fun sl1 => mk sl1 g) = some ((.int (k x), false), g)) → ds.length + xs.length ≤ cap →
    dcGo tg (eLit (.bool true)) mk (eLit (.bool true)) sl (xs.map e) (ds.map yes) g = some ((once ds (xs.map k)).map yes, g)
  | [], ds, _, _ => rfl
  | x :: xs, ds, h, hl => by
    rw [List.length_cons] at hl
    have h0 := h x (.head _)
    rw [List.map_cons]
    unfold dcGo
    cases hb : bindT tg (e x) sl with
    | none => rw [hb] at h0; cases h0
    | some sl1 =>
      rw [hb] at h0
      simp only [Option.bind_some] at h0 ⊢
      simp only [q_lit, Option.bind_some, q_bool, if_true, h0, keyOf, q_clean]
      rw [if_pos (by rw [List.length_map]; omega)]
      have e1 : putD (ds.map yes) (.int (k x)) (.bool true) = (if k x ∈ ds then ds else ds ++ [k x]).map yes := by
        unfold putD
        have : ((ds.map yes).any fun p => PyData.eqv p.1 (.int (k x))) = decide (k x ∈ ds) := by
          rw [List.any_map, Bool.eq_iff_iff]
          simp [yes, eqv_int, Function.comp_def]
        rw [this]
        by_cases hk : k x ∈ ds
        · rw [if_pos (by simp [hk]), if_pos hk, List.map_map]
          refine List.map_congr_left fun i hi => ?_
          exact ite_self (yes i)
        · rw [if_neg (by simp [hk]), if_neg hk, List.map_append]
          rfl
      rw [e1, dc_yes k (fun y hy => h y (.tail _ hy)) (by
        by_cases hk : k x ∈ ds
        · rw [if_pos hk]; omega
        · rw [if_neg hk, List.length_append, List.length_singleton]; omega)]
      rfl
theorem dc_yes0 {α : Type} {e : α → T} (k : α → Int) {tg : Tg} {mk : Ex} {sl : Sls} {g : G} {xs : List α} (h : ∀ x ∈ xs, (bindT tg (e x) sl).bind (fun sl1 => mk sl1 g) = some ((.int (k x), false), g)) (hl : xs.length ≤ cap) :
    dcGo tg (eLit (.bool true)) mk (eLit (.bool true)) sl (xs.map e) [] g = some ((once [] (xs.map k)).map yes, g) := dc_yes k (ds := []) h (by simpa using hl)
theorem dc_yesT {α : Type} {e : α → T} (k : α → Int) {tg : Tg} {mt mk : Ex} {sl : Sls} {g : G} : ∀ {xs : List α} {ds : List (T × T)}, (∀ x ∈ xs, (bindT tg (e x) sl).bind (fun sl1 => mt sl1 g) = some ((.bool true, false), g)) →
    dcGo tg mt mk (eLit (.bool true)) sl (xs.map e) ds g = dcGo tg (eLit (.bool true)) mk (eLit (.bool true)) sl (xs.map e) ds g ∨ ∃ x ∈ xs, ∀ i, (bindT tg (e x) sl).bind (fun sl1 => mk sl1 g) ≠ some ((.int i, false), g)
  | [], ds, _ => .inl rfl
  | x :: xs, ds, h => by
    have h0 := h x (.head _)
    by_cases hi : ∃ i, (bindT tg (e x) sl).bind (fun sl1 => mk sl1 g) = some ((.int i, false), g)
    · obtain ⟨i, hi⟩ := hi
      rw [List.map_cons]
      unfold dcGo
      cases hb : bindT tg (e x) sl with
      | none => exact .inl rfl
      | some sl1 =>
        rw [hb] at h0 hi
        simp only [Option.bind_some] at h0 hi ⊢
        simp only [h0, Option.bind_some, q_bool, if_true, hi, keyOf, q_lit, q_clean]
        by_cases hc : ds.length < cap
        · rw [if_pos hc, if_pos hc]
          rcases dc_yesT k (mk := mk) (mt := mt) (sl := sl) (tg := tg) (xs := xs) (ds := putD ds (.int i) (.bool true)) (fun y hy => h y (.tail _ hy)) with a | ⟨y, hy, b⟩
          · exact .inl a
          · exact .inr ⟨y, .tail _ hy, b⟩
        · rw [if_neg hc, if_neg hc]
          exact .inl rfl
    · exact .inr ⟨x, .head _, fun i z => hi ⟨i, z⟩⟩
theorem dc_yes2 {α : Type} {e : α → T} (k : α → Int) {tg : Tg} {mt mk : Ex} {sl : Sls} {g : G} {xs : List α} (h1 : ∀ x ∈ xs, (bindT tg (e x) sl).bind (fun sl1 => mt sl1 g) = some ((.bool true, false), g)) (h : ∀ x ∈ xs, (bindT tg (e x) sl).bind (fun sl1 => mk sl1 g) = some ((.int (k x), false), g)) (hl : xs.length ≤ cap) :
    dcGo tg mt mk (eLit (.bool true)) sl (xs.map e) [] g = some ((once [] (xs.map k)).map yes, g) := by
  rcases dc_yesT k (mk := mk) (ds := []) h1 with a | ⟨x, hx, b⟩
  · rw [a]; exact dc_yes0 k h hl
  · exact absurd (h x hx) (b _)
theorem q_sortedInt {l : List Int} {v : Int → T} (k : l.length < 64) : sortedB (.dict (l.map fun i => (.int i, v i))) = some (.list ((sortI l).map PyData.int)) := by
  cases l with
  | nil => rw [sortI_id .nil]; simp [sortedB, sortT, keyStrs]
  | cons n l =>
    have hk : ((n :: l).map fun i => ((PyData.int i : T), v i)).map (·.1) = (n :: l).map PyData.int := by rw [List.map_map]; rfl
    show (if ((keyStrs (((n :: l).map fun i => ((PyData.int i : T), v i)).map (·.1))).isSome || (intsOf (((n :: l).map fun i => ((PyData.int i : T), v i)).map (·.1))).isSome) = true ∧ ((n :: l).map fun i => ((PyData.int i : T), v i)).length < 64 then some (PyData.list (sortT (((n :: l).map fun i => ((PyData.int i : T), v i)).map (·.1)))) else none) = _
    rw [hk, intsOf_map, List.length_map, if_pos ⟨by simp, k⟩, sortT_int]
theorem q_sortedY {l : List Int} (k : l.length < 64) : sortedB (.dict (l.map yes)) = some (.list ((sortI l).map PyData.int)) := by
  cases l with
  | nil => rw [sortI_id .nil]; simp [sortedB, sortT, keyStrs]
  | cons n l =>
    have hk : ((n :: l).map yes).map (·.1) = (n :: l).map PyData.int := by rw [List.map_map]; rfl
    show (if ((keyStrs (((n :: l).map yes).map (·.1))).isSome || (intsOf (((n :: l).map yes).map (·.1))).isSome) = true ∧ ((n :: l).map yes).length < 64 then some (PyData.list (sortT (((n :: l).map yes).map (·.1)))) else none) = _
    rw [hk, intsOf_map, List.length_map, if_pos ⟨by simp, k⟩, sortT_int]
theorem dc_of {α : Type} {e : α → T} (p : α → Bool) (k : α → Str) (q : α → T) {tg : Tg} {mt mk me : Ex} {sl : Sls} {g : G} : ∀ {xs : List α} {ds : List (T × T)}, (∀ x ∈ xs, ∃ sl1, bindT tg (e x) sl = some sl1 ∧ mt sl1 g = some ((.bool (p x), false), g) ∧ (p x = true → mk sl1 g = some ((.str (k x), false), g) ∧ me sl1 g = some ((q x, false), g))) →
    ((xs.filter p).map k).Nodup → (∀ x ∈ xs.filter p, ∀ d ∈ ds, PyData.eqv d.1 (.str (k x)) = false) → ds.length + xs.length ≤ cap →
    dcGo tg mt mk me sl (xs.map e) ds g = some (ds ++ (xs.filter p).map (fun x => (.str (k x), q x)), g)
  | [], ds, _, _, _, _ => by simp [dcGo]
  | x :: xs, ds, h, hw, hd, hl => by
    obtain ⟨sl1, h1, h2, h3⟩ := h x (.head _)
    rw [List.length_cons] at hl
    rw [List.map_cons]
    unfold dcGo
    rw [h1]
    simp only [Option.bind_some, h2, boolOf]
    cases hp : p x with
    | true =>
      obtain ⟨e1, e3⟩ := h3 hp
      rw [List.filter_cons_of_pos hp] at hw hd ⊢
      rw [if_pos rfl, e1]
      simp only [Option.bind_some, keyOf, e3, clean]
      rw [if_pos (by omega), putD_new (hd x (.head _))]
      rw [List.map_cons, List.nodup_cons] at hw
      have ih := dc_of p k q (xs := xs) (ds := ds ++ [(.str (k x), q x)]) (fun y hy => h y (.tail _ hy)) hw.2 (fun y hy d hd' => by
        rcases List.mem_append.mp hd' with z | z
        · exact hd y (.tail _ hy) d z
        · rw [List.mem_singleton.mp z, eqv_str]
          refine decide_eq_false fun c => hw.1 ?_
          rw [c]
          exact List.mem_map_of_mem hy) (by rw [List.length_append, List.length_singleton]; omega)
      rw [ih, List.map_cons, List.append_assoc]
      rfl
    | false =>
      rw [List.filter_cons_of_neg (by rw [hp]; exact Bool.false_ne_true)] at hw hd ⊢
      rw [if_neg Bool.false_ne_true]
      exact dc_of p k q (fun y hy => h y (.tail _ hy)) hw hd (by omega)
theorem dc_int {α : Type} {e : α → T} (p : α → Bool) (k : α → Int) (q : α → T) {tg : Tg} {mt mk me : Ex} {sl : Sls} {g : G} : ∀ {xs : List α} {ds : List (T × T)}, (∀ x ∈ xs, ∃ sl1, bindT tg (e x) sl = some sl1 ∧ mt sl1 g = some ((.bool (p x), false), g) ∧ (p x = true → mk sl1 g = some ((.int (k x), false), g) ∧ me sl1 g = some ((q x, false), g))) →
    ((xs.filter p).map k).Nodup → (∀ x ∈ xs.filter p, ∀ d ∈ ds, PyData.eqv d.1 (.int (k x)) = false) → ds.length + xs.length ≤ cap →
    dcGo tg mt mk me sl (xs.map e) ds g = some (ds ++ (xs.filter p).map (fun x => (.int (k x), q x)), g)
  | [], ds, _, _, _, _ => by simp [dcGo]
  | x :: xs, ds, h, hw, hd, hl => by
    obtain ⟨sl1, h1, h2, h3⟩ := h x (.head _)
    rw [List.length_cons] at hl
    rw [List.map_cons]
    unfold dcGo
    rw [h1]
    simp only [Option.bind_some, h2, boolOf]
    cases hp : p x with
    | true =>
      obtain ⟨e1, e3⟩ := h3 hp
      rw [List.filter_cons_of_pos hp] at hw hd ⊢
      rw [if_pos rfl, e1]
      simp only [Option.bind_some, keyOf, e3, clean]
      rw [if_pos (by omega), putD_new (hd x (.head _))]
      rw [List.map_cons, List.nodup_cons] at hw
      have ih := dc_int p k q (xs := xs) (ds := ds ++ [(.int (k x), q x)]) (fun y hy => h y (.tail _ hy)) hw.2 (fun y hy d hd' => by
        rcases List.mem_append.mp hd' with z | z
        · exact hd y (.tail _ hy) d z
        · rw [List.mem_singleton.mp z, eqv_int]
          refine decide_eq_false fun c => hw.1 ?_
          rw [c]
          exact List.mem_map_of_mem hy) (by rw [List.length_append, List.length_singleton]; omega)
      rw [ih, List.map_cons, List.append_assoc]
      rfl
    | false =>
      rw [List.filter_cons_of_neg (by rw [hp]; exact Bool.false_ne_true)] at hw hd ⊢
      rw [if_neg Bool.false_ne_true]
      exact dc_int p k q (fun y hy => h y (.tail _ hy)) hw hd (by omega)
@[simp] theorem q_pairsN {ns : List Str} {F : Str → T} : pairsOf (dN ns F, false) = some (ns.map fun n => .tuple [.str n, F n], false) := by
  cases ns with
  | nil => rfl
  | cons n ns =>
    show some ((((n :: ns).map fun n => (PyData.str n, F n)).map fun p => PyData.tuple [p.1, p.2]), false) = _
    rw [List.map_map]; rfl
theorem dgetE_int {α : Type} {k : α → Int} {v : α → T} {x : α} : ∀ {l : List α}, x ∈ l → (∀ y ∈ l, k y = k x → y = x) → dgetE (l.map fun y => (.int (k y), v y)) (.int (k x)) = some (v x)
  | [], h, _ => nomatch h
  | y :: l, h, inj => by
    rw [List.map_cons, dgetE, eqv_int]
    by_cases c : k y = k x
    · rw [if_pos (by simp [c]), inj y (.head _) c]
    · rw [if_neg (by simp [c])]
      rcases List.mem_cons.mp h with rfl | h
      · exact absurd rfl c
      · exact dgetE_int h fun z hz => inj z (.tail _ hz)
theorem q_idxInt {α : Type} {k : α → Int} {v : α → T} {x : α} {l : List α} (h : x ∈ l) (inj : ∀ y ∈ l, k y = k x → y = x) : bIdx (.dict (l.map fun y => (.int (k y), v y))) (.int (k x)) = some (v x) := by
  cases l with
  | nil => cases h
  | cons y l =>
    have e := dgetE_int (v := v) h inj
    show ((some (dgetE ((y :: l).map fun y => (PyData.int (k y), v y)) (.int (k x)))).bind id) = _
    rw [e]
    rfl
theorem q_rng2 {i j : Int} (h1 : -(2 ^ 62) ≤ i) (h2 : i < 2 ^ 62) (h3 : -(2 ^ 62) ≤ j) (h4 : j < 2 ^ 62) : rng2Of [(.int i, false), (.int j, false)] = some (rangeT i (j - i).toNat) := by
  unfold rng2Of
  exact if_pos ⟨h1, h2, h3, h4⟩
/-- dicts by numbers -/
def dI (l : List Int) (v : Int → T) : T := .dict (l.map fun i => (.int i, v i))
@[simp] theorem q_plI2 {l : List Int} {v : Int → T} : plainD (dI l v) = true := by cases l <;> rfl
@[simp] theorem q_tyI {l : List Int} {v : Int → T} : tyName (dI l v) = "dict" := rfl
@[simp] theorem q_itemsI {l : List Int} {v : Int → T} : itemsOf (dI l v, false) = some (l.map .int, false) := by
  cases l with
  | nil => rfl
  | cons n ns =>
    show some ((((n :: ns).map fun n => ((PyData.int n : T), v n)).map (·.1)), false) = _
    rw [List.map_map]; rfl
theorem q_idxI {l : List Int} {v : Int → T} {i : Int} (h : i ∈ l) : bIdx (dI l v) (.int i) = some (v i) := q_idxInt (k := id) h fun y _ e => e
@[simp] theorem q_pop {i j : Nat} {sl : Sls} {g : G} : mPop j i sl g = match gets sl i with
  | .ow (.list ts) => (ts[ts.length - 1]?).map fun t => (.nx, (sl.set i (.ow (.list ts.dropLast))).set j (.cl t), g)
  | _ => none := rfl
@[simp] theorem q_putD {i : Nat} {mk mv : Ex} {sl : Sls} {g : G} : mPutD i mk mv sl g = (mv sl g).bind fun v => (clean v.1).bind fun t => (mk sl v.2).bind fun k => match gets sl i with
  | .ow (.dict ((.none, .none) :: ds)) => match k.1.1 with
    | .tuple ks => (keysOf ks).bind fun _ => if ds.length < cap then some (.nx, sl.set i (.ow (.dict ((.none, .none) :: putD ds (.tuple ks) t))), k.2) else none
    | _ => none
  | .ow (.dict ds) => (keyOf k.1.1).bind fun _ => if ds.length < cap then some (.nx, sl.set i (.ow (.dict (putD ds k.1.1 t))), k.2) else none
  | _ => none := rfl
/-- a dict by names, from names -/
theorem dc_names {F : Str → T} {i : Nat} {mk me : Ex} {sl : Sls} {g : G} {ns : List Str} (h : ∀ x ∈ ns, mk (sl.set i (.cl (.str x))) g = some ((.str x, false), g) ∧ me (sl.set i (.cl (.str x))) g = some ((F x, false), g)) (nd : ns.Nodup) (l : ns.length ≤ cap) :
    dcGo (.nm i) (eLit (.bool true)) mk me sl (ns.map PyData.str) [] g = some (ns.map (fun x => (.str x, F x)), g) := by
  have := dc_of (e := PyData.str) (fun _ => true) id F (tg := .nm i) (mt := eLit (.bool true)) (mk := mk) (me := me) (sl := sl) (g := g) (xs := ns) (ds := []) (fun x hx => ⟨_, q_bindN, rfl, fun _ => h x hx⟩) (by rw [List.filter_eq_self.mpr (fun _ _ => rfl), List.map_id]; exact nd) (by simp) (by simpa using l)
  rw [this, List.filter_eq_self.mpr (fun _ _ => rfl)]
  rfl
theorem lc_a {α : Type} {e : α → T} {tg : Tg} {me : Ex} {sl : Sls} {xs : List α} {g : G} (q : α → T) (h : ∀ x ∈ xs, (bindT tg (e x) sl).bind (fun sl1 => me sl1 g) = some ((q x, false), g)) :
    lcGo tg (eLit (.bool true)) me sl (xs.map e) g = some (xs.map q, g) := by
  rw [lc_of (fun _ => true) q fun x hx => ?_, List.filter_eq_self.mpr fun _ _ => rfl]
  have h0 := h x hx
  cases hb : bindT tg (e x) sl with
  | none => rw [hb] at h0; cases h0
  | some sl1 => rw [hb] at h0; exact ⟨sl1, rfl, rfl, fun _ => h0⟩
theorem lc_f {α : Type} {e : α → T} {tg : Tg} {mt me : Ex} {sl : Sls} {xs : List α} {g : G} (p : α → Bool) (q : α → T) (h1 : ∀ x ∈ xs, (bindT tg (e x) sl).bind (fun sl1 => mt sl1 g) = some ((.bool (p x), false), g)) (h2 : ∀ x ∈ xs, p x = true → (bindT tg (e x) sl).bind (fun sl1 => me sl1 g) = some ((q x, false), g)) :
    lcGo tg mt me sl (xs.map e) g = some ((xs.filter p).map q, g) := by
  refine lc_of p q fun x hx => ?_
  have h1 := h1 x hx
  have h2 := h2 x hx
  cases hb : bindT tg (e x) sl with
  | none => rw [hb] at h1; cases h1
  | some sl1 => rw [hb] at h1 h2; exact ⟨sl1, rfl, h1, h2⟩
theorem q_mkF {α : Type} {l : List α} {p : α → Bool} {q : α → T} (h : l.length ≤ cap) : mkL ((l.filter p).map q) = some (.list ((l.filter p).map q)) := q_mkL (by rw [List.length_map]; exact Nat.le_trans (List.length_filter_le _ _) h)
theorem q_mkM {α : Type} {l : List α} {q : α → T} (h : l.length ≤ cap) : mkL (l.map q) = some (.list (l.map q)) := q_mkL (by rw [List.length_map]; exact h)
theorem q_app {ts : List T} {t : T} (h : ts.length < cap) : fAppend (.list ts) [t] = some (.list (ts ++ [t])) := if_pos h
theorem q_ext {ts us : List T} (h : ts.length + us.length ≤ cap) : fExtend (.list ts) [.list us] = some (.list (ts ++ us)) := if_pos h
theorem q_addL {xs ys : List T} (h : (xs ++ ys).length ≤ cap) : bAdd (.list xs) (.list ys) = some (.list (xs ++ ys)) := by
  rw [List.length_append] at h
  exact if_pos ⟨by omega, by omega, by rw [List.length_append]; exact h⟩
theorem q_mkR {n : Nat} {t : T} (h : n ≤ cap) : mkL (List.replicate n t) = some (.list (List.replicate n t)) := q_mkL (by simpa using h)
@[simp] theorem q_allR {n : Nat} : allB (.list (List.replicate n (.bool true))) = some (.bool true) := by
  have := q_all (List.replicate n ()) (fun _ => true)
  simpa using this
theorem mergeT_uniq : ∀ (ps ds : List (T × T)), ps.Pairwise (fun a b => PyData.eqv a.1 b.1 = false) → (∀ d ∈ ds, ∀ p ∈ ps, PyData.eqv d.1 p.1 = false) → mergeT ds ps = ds ++ ps := by
  intro ps
  induction ps with
  | nil => intro ds _ _; simp [mergeT]
  | cons p ps ih =>
    intro ds hp hd
    obtain ⟨h1, h2⟩ := List.pairwise_cons.mp hp
    have e : mergeT ds (p :: ps) = mergeT (putD ds p.1 p.2) ps := rfl
    rw [e, putD_new (fun d hd' => hd d hd' p (by simp)), ih _ h2 (fun d hd' q hq => by
      rcases List.mem_append.mp hd' with h | h
      · exact hd d h q (by simp [hq])
      · simp at h; rw [h]; exact h1 q hq)]
    simp
theorem q_dictN {ns : List Str} {F : Str → T} (h : ns.Nodup) : dictB (.list (ns.map fun n => .tuple [.str n, F n])) = some (dN ns F) := by
  have e : ∀ ns : List Str, pairsOfT (ns.map fun n => PyData.tuple [.str n, F n]) = some (ns.map fun n => (.str n, F n)) := by
    intro ns
    induction ns with
    | nil => rfl
    | cons n ns ih => rw [List.map_cons, pairsOfT, ih]; rfl
  show (pairsOfT _).map _ = _
  rw [e, Option.map_some, mergeT_uniq _ _ (List.pairwise_map.mpr (h.imp fun {a b} h => by rw [eqv_str]; exact decide_eq_false h)) (by simp)]
  rfl
/-- texts from texts -/
theorem map_str {α : Type} (l : List α) (f : α → Str) : (l.map fun x => PyData.str (f x)) = (l.map f).map PyData.str := by rw [List.map_map]; rfl
theorem map_int {α : Type} (l : List α) (f : α → Int) : (l.map fun x => PyData.int (f x)) = (l.map f).map PyData.int := by rw [List.map_map]; rfl
theorem map_bool {α : Type} (l : List α) (f : α → Bool) : (l.map fun x => PyData.bool (f x)) = (l.map f).map PyData.bool := by rw [List.map_map]; rfl
theorem map_pr {α : Type} (l : List α) (f : α → Int) (h : α → Str) : (l.map fun x => PyData.tuple [.int (f x), .str (h x)]) = (l.map fun x => (f x, h x)).map prT := by rw [List.map_map]; rfl
theorem all_map {α : Type} (l : List α) (f : α → Bool) : ((l.map f).all id) = l.all f := by rw [List.all_map]; rfl
theorem any_map {α : Type} (l : List α) (f : α → Bool) : ((l.map f).any id) = l.any f := by rw [List.any_map]; rfl
end VM
/-! P5: calls evaluated -/
namespace VM
open PySem L2
theorem eFn_stm {den : Den} {m : As} {sl : Sls} {g g1 g' : G} {as : Sls} {t : T} (h1 : m sl g = some (as, g1)) (h2 : as.any isStm = true) (h3 : den as g1 = some (t, g')) : eFn den m sl g = some ((t, false), g') := by
  simp only [eFn, h1, Option.bind_some, h2, if_true, h3, Option.map_some]
theorem eFn_pure {den : Den} {m : As} {sl : Sls} {g g1 : G} {as : Sls} {t : T} (h1 : m sl g = some (as, g1)) (h2 : as.any isStm = false) (h3 : den as none = some (t, none)) : eFn den m sl g = some ((t, false), g1) := by
  simp only [eFn, h1, Option.bind_some, h2, Bool.false_eq_true, if_false, h3]
theorem asVal_eq {m : Ex} {mr : As} {sl : Sls} {g g1 g2 : G} {r : R} {as : Sls} (h1 : m sl g = some (r, g1)) (h2 : mr sl g1 = some (as, g2)) : asVal m mr sl g = some (toSl r :: as, g2) := by
  simp only [asVal, h1, Option.bind_some, h2, Option.map_some]
theorem asNil_eq {sl : Sls} {g : G} : asNil sl g = some ([], g) := rfl
theorem asStm_eq {i : Nat} {mr : As} {sl : Sls} {g g1 : G} {as : Sls} (h0 : isStm (gets sl i) = true) (h1 : mr sl g = some (as, g1)) : asStm i mr sl g = some (.stm :: as, g1) := by
  simp only [asStm, h0, if_true, h1, Option.map_some]
theorem mRet_eq {m : Ex} {sl : Sls} {g g1 : G} {r : R} {t : T} (h1 : m sl g = some (r, g1)) (h2 : clean r = some t) : mRet m sl g = some (.rt t, sl, g1) := by
  simp only [mRet, h1, Option.bind_some, h2, Option.map_some]
theorem mSetC_eq {i : Nat} {m : Ex} {sl : Sls} {g g1 : G} {r : R} {t : T} (h1 : m sl g = some (r, g1)) (h2 : clean r = some t) : mSet' false i m sl g = some (.nx, sl.set i (.cl t), g1) := by
  simp only [mSet', mSet, Bool.false_eq_true, if_false, h1, Option.bind_some, h2, Option.map_some]
theorem mSetO_eq {i : Nat} {m : Ex} {sl : Sls} {g g1 : G} {r : R} (h1 : m sl g = some (r, g1)) : mSet' true i m sl g = some (.nx, sl.set i (.ow r.1), g1) := by
  simp only [mSet', mSetF, if_true, h1, Option.map_some]
theorem aCons_eq {ma : Ex} {mr : Exs} {sl : Sls} {g g1 g2 : G} {r : R} {rs : List R} (h1 : ma sl g = some (r, g1)) (h2 : mr sl g1 = some (rs, g2)) : aCons ma mr sl g = some (r :: rs, g2) := by
  simp only [aCons, h1, Option.bind_some, h2, Option.map_some]
theorem eBi_eq {f : List R → Option R} {ms : Exs} {sl : Sls} {g g1 : G} {rs : List R} {r : R} {t : T} (h1 : ms sl g = some (rs, g1)) (h2 : f rs = some r) (h3 : clean r = some t) : eBi f ms sl g = some ((t, false), g1) := by
  simp only [eBi, h1, Option.bind_some, h2, h3, Option.map_some]
theorem eOp_eq {f : T → T → Option T} {ma mb : Ex} {sl : Sls} {g g1 g2 : G} {a b : R} {t : T} (h1 : ma sl g = some (a, g1)) (h2 : mb sl g1 = some (b, g2)) (h3 : f a.1 b.1 = some t) : eOp f ma mb sl g = some ((t, false), g2) := by
  simp only [eOp, h1, Option.bind_some, h2, h3, Option.map_some]
theorem cleans_map (ts : List T) : cleans (ts.map fun t => (t, false)) = some ts := by
  induction ts with
  | nil => rfl
  | cons t ts ih => simp only [List.map_cons, cleans, clean, Option.bind_some, ih]
theorem eTup_eq {ms : Exs} {sl : Sls} {g g1 : G} {rs : List R} {ts : List T} {t : T} (h1 : ms sl g = some (rs, g1)) (h2 : cleans rs = some ts) (h3 : mkT ts = some t) : eTup ms sl g = some ((t, false), g1) := by
  simp only [eTup, h1, Option.bind_some, h2, h3, Option.map_some]
theorem eLst_eq {ms : Exs} {sl : Sls} {g g1 : G} {rs : List R} {ts : List T} {t : T} (h1 : ms sl g = some (rs, g1)) (h2 : cleans rs = some ts) (h3 : mkL ts = some t) : eLst ms sl g = some ((t, false), g1) := by
  simp only [eLst, h1, Option.bind_some, h2, h3, Option.map_some]
theorem eAnd_t {ma mb : Ex} {sl : Sls} {g g1 : G} {a : R} (h1 : ma sl g = some (a, g1)) (h2 : boolOf a = some true) : eAnd ma mb sl g = mb sl g1 := by
  simp only [eAnd, h1, Option.bind_some, h2, if_true]
theorem eAnd_f {ma mb : Ex} {sl : Sls} {g g1 : G} {a : R} (h1 : ma sl g = some (a, g1)) (h2 : boolOf a = some false) : eAnd ma mb sl g = some ((.bool false, false), g1) := by
  simp only [eAnd, h1, Option.bind_some, h2, Bool.false_eq_true, if_false]
theorem eOr_t {ma mb : Ex} {sl : Sls} {g g1 : G} {a : R} (h1 : ma sl g = some (a, g1)) (h2 : boolOf a = some true) : eOr ma mb sl g = some ((.bool true, false), g1) := by
  simp only [eOr, h1, Option.bind_some, h2, if_true]
theorem eOr_f {ma mb : Ex} {sl : Sls} {g g1 : G} {a : R} (h1 : ma sl g = some (a, g1)) (h2 : boolOf a = some false) : eOr ma mb sl g = mb sl g1 := by
  simp only [eOr, h1, Option.bind_some, h2, Bool.false_eq_true, if_false]
end VM
/-! P6: dicts made of rows -/
namespace VM
open PySem L2
theorem eVar_cl {i : Nat} {sl : Sls} {g : G} {t : T} (h : gets sl i = .cl t) : eVar i sl g = some ((t, false), g) := by
  simp only [eVar, h]
theorem mergeT_new : ∀ (ps ds : List (T × T)), ps.Pairwise (fun a b => PyData.eqv a.1 b.1 = false) → (∀ d ∈ ds, ∀ p ∈ ps, PyData.eqv d.1 p.1 = false) → mergeT ds ps = ds ++ ps := by
  intro ps
  induction ps with
  | nil => intro ds _ _; simp [mergeT]
  | cons p ps ih =>
    intro ds hp hd
    obtain ⟨h1, h2⟩ := List.pairwise_cons.mp hp
    have e : mergeT ds (p :: ps) = mergeT (putD ds p.1 p.2) ps := rfl
    rw [e, putD_new (fun d hd' => hd d hd' p (by simp)), ih _ h2 (fun d hd' q hq => by
      rcases List.mem_append.mp hd' with h | h
      · exact hd d h q (by simp [hq])
      · simp at h; rw [h]; exact h1 q hq)]
    simp
end VM
/-! M1: unit jobs with dues: what fits, and the exchange -/
namespace M1
variable {α : Type} [DecidableEq α]
def ct (D : α → Nat) (l : List α) (t : Nat) : Nat := l.countP (fun x => decide (D x < t))
def Fit (D : α → Nat) (l : List α) : Prop := ∀ t, ct D l (t + 1) ≤ t
theorem last_fail (P : Nat → Prop) : ∀ n, ¬ P 0 → P n → ∃ t, t < n ∧ ¬ P t ∧ ∀ s, t < s → s ≤ n → P s := by
  intro n
  induction n with
  | zero => intro a b; exact absurd b a
  | succ n ih =>
    intro a b
    by_cases h : P n
    · obtain ⟨t, h1, h2, h3⟩ := ih a h
      refine ⟨t, by omega, h2, fun s hs hn => ?_⟩
      by_cases e : s = n + 1
      · exact e ▸ b
      · exact h3 s hs (by omega)
    · refine ⟨n, by omega, h, fun s hs hn => ?_⟩
      have : s = n + 1 := by omega
      exact this ▸ b
theorem sub_len : ∀ (l m : List α), l.Nodup → (∀ x ∈ l, x ∈ m) → l.length ≤ m.length := by
  intro l
  induction l with
  | nil => intro m _ _; simp
  | cons x l ih =>
    intro m hn hs
    have hx : x ∈ m := hs x (by simp)
    have hn' := List.nodup_cons.mp hn
    have := ih (m.erase x) hn'.2 (fun y hy => (List.mem_erase_of_ne (fun (e : y = x) => hn'.1 (by rw [← e]; exact hy))).mpr (hs y (by simp [hy])))
    have h2 := List.length_erase_of_mem hx
    have h3 : 0 < m.length := List.length_pos_of_mem hx
    simp only [List.length_cons]
    omega
theorem bound (D : α → Nat) : ∀ l : List α, ∃ N, ∀ x ∈ l, D x < N := by
  intro l
  induction l with
  | nil => exact ⟨0, by simp⟩
  | cons x l ih =>
    obtain ⟨N, h⟩ := ih
    refine ⟨max N (D x + 1), fun y hy => ?_⟩
    rcases List.mem_cons.mp hy with rfl | hy
    · omega
    · have := h y hy; omega
theorem ct_all {D : α → Nat} {l : List α} {N : Nat} (h : ∀ x ∈ l, D x < N) : ct D l N = l.length :=
  List.countP_eq_length.mpr (fun x hx => by simpa using h x hx)
theorem ct_zero {D : α → Nat} {l : List α} : ct D l 0 = 0 := by
  simp [ct]
theorem ct_split (D : α → Nat) (l : List α) (t : Nat) : l.length = ct D l t + (l.filter (fun x => decide (t ≤ D x))).length := by
  induction l with
  | nil => rfl
  | cons x l ih =>
    unfold ct at *
    by_cases h : D x < t
    · have : ¬ t ≤ D x := by omega
      simp [List.countP_cons, List.filter_cons, h, this]; omega
    · have : t ≤ D x := by omega
      simp [List.countP_cons, List.filter_cons, h, this]; omega
theorem ct_cons (D : α → Nat) (x : α) (l : List α) (t : Nat) : ct D (x :: l) t = ct D l t + if D x < t then 1 else 0 := by
  simp [ct, List.countP_cons]
theorem exchange {D : α → Nat} {A B : List α} (hB : B.Nodup) (fA : Fit D A) (fB : Fit D B) (h : A.length < B.length) : ∃ b, b ∈ B ∧ b ∉ A ∧ Fit D (b :: A) := by
  obtain ⟨N, hN⟩ := bound D (A ++ B)
  have aA : ∀ n, N ≤ n → ct D A n = A.length := fun n hn => ct_all (fun x hx => Nat.lt_of_lt_of_le (hN x (by simp [hx])) hn)
  have aB : ∀ n, N ≤ n → ct D B n = B.length := fun n hn => ct_all (fun x hx => Nat.lt_of_lt_of_le (hN x (by simp [hx])) hn)
  obtain ⟨t, h1, h2, h3⟩ := last_fail (fun t => ct D A t < ct D B t) N (by simp [ct_zero]) (by rw [aA N (by omega), aB N (by omega)]; exact h)
  have sA := ct_split D A t
  have sB := ct_split D B t
  have : ∃ b, b ∈ B ∧ t ≤ D b ∧ b ∉ A := by
    apply Classical.byContradiction
    intro hc
    have := sub_len (B.filter (fun x => decide (t ≤ D x))) (A.filter (fun x => decide (t ≤ D x))) (hB.sublist List.filter_sublist) (fun x hx => by
      obtain ⟨q1, q2⟩ := List.mem_filter.mp hx
      refine List.mem_filter.mpr ⟨?_, q2⟩
      apply Classical.byContradiction
      intro hxa
      exact hc ⟨x, q1, by simpa using q2, hxa⟩)
    omega
  obtain ⟨b, b1, b2, b3⟩ := this
  refine ⟨b, b1, b3, fun s => ?_⟩
  rw [ct_cons]
  have fa := fA s
  have fb := fB s
  by_cases hs : D b < s + 1
  · rw [if_pos hs]
    by_cases hn : s + 1 ≤ N
    · have := h3 (s + 1) (by omega) hn
      omega
    · rw [aA _ (by omega)]
      rw [aB _ (by omega)] at fb
      omega
  · rw [if_neg hs]; omega

theorem Fit.sub {D : α → Nat} {A B : List α} (hs : ∀ t, ct D A t ≤ ct D B t) (h : Fit D B) : Fit D A := fun t => Nat.le_trans (hs (t + 1)) (h t)
theorem Fit.perm {D : α → Nat} {A B : List α} (p : A.Perm B) (h : Fit D B) : Fit D A := h.sub (fun t => Nat.le_of_eq (p.countP_eq _))
theorem Fit.nil {D : α → Nat} : Fit D [] := fun t => by simp [ct]
theorem Fit.tail {D : α → Nat} {x : α} {A : List α} (h : Fit D (x :: A)) : Fit D A := h.sub (fun t => by rw [ct_cons]; omega)
/-- greedy: names in turn, each kept if what is kept then fits -/
def greedy (D : α → Nat) (ok : List α → Bool) : List α → List α → List α
  | found, [] => found
  | found, x :: xs => greedy D ok (if ok (x :: found) then x :: found else found) xs
theorem greedy_ok {D : α → Nat} {ok : List α → Bool} (hok : ∀ l, ok l = true ↔ Fit D l) : ∀ (xs found : List α), Fit D found → (found ++ xs).Nodup →
    Fit D (greedy D ok found xs) ∧ (greedy D ok found xs).Nodup ∧ (∀ x ∈ found, x ∈ greedy D ok found xs) ∧ (∀ x ∈ greedy D ok found xs, x ∈ found ++ xs) ∧
    (∀ x ∈ xs, x ∉ greedy D ok found xs → ¬ Fit D (x :: greedy D ok found xs)) := by
  intro xs
  induction xs with
  | nil => intro found hf hn; simp only [greedy, List.append_nil] at *; exact ⟨hf, hn, fun x h => h, fun x h => h, fun x h => by simp at h⟩
  | cons y xs ih =>
    intro found hf hn
    have hn1 : (y :: (found ++ xs)).Nodup := List.perm_middle.nodup_iff.mp hn
    by_cases h : Fit D (y :: found)
    · have e : greedy D ok found (y :: xs) = greedy D ok (y :: found) xs := by
        rw [greedy, if_pos ((hok _).mpr h)]
      rw [e]
      obtain ⟨a, b, c, d, f⟩ := ih (y :: found) h (by simpa using hn1)
      refine ⟨a, b, fun x hx => c x (by simp [hx]), fun x hx => ?_, fun x hx hx' => ?_⟩
      · have := d x hx; simp at this ⊢; rcases this with rfl | h | h <;> simp [*]
      · rcases List.mem_cons.mp hx with rfl | hx
        · exact absurd (c _ (by simp)) hx'
        · exact f x hx hx'
    · have e : greedy D ok found (y :: xs) = greedy D ok found xs := by
        rw [greedy, if_neg (fun z => h ((hok _).mp z))]
      rw [e]
      obtain ⟨a, b, c, d, f⟩ := ih found hf (List.nodup_cons.mp hn1).2
      refine ⟨a, b, c, fun x hx => ?_, fun x hx hx' => ?_⟩
      · have := d x hx; simp at this ⊢; rcases this with h | h <;> simp [*]
      · rcases List.mem_cons.mp hx with rfl | hx
        · intro hfit
          refine h (hfit.sub fun t => ?_)
          rw [ct_cons, ct_cons]
          have : ct D found t ≤ ct D (greedy D ok found xs) t := by
            unfold ct
            rw [List.countP_eq_length_filter, List.countP_eq_length_filter]
            refine sub_len _ _ ((List.nodup_append.mp hn).1.sublist List.filter_sublist) (fun z hz => ?_)
            obtain ⟨q1, q2⟩ := List.mem_filter.mp hz
            exact List.mem_filter.mpr ⟨c z q1, q2⟩
          omega
        · exact f x hx hx'
/-- the greedy lot has the most members -/
theorem greedy_most {D : α → Nat} {ok : List α → Bool} (hok : ∀ l, ok l = true ↔ Fit D l) {xs B : List α} (hn : xs.Nodup) (hB : B.Nodup) (sB : ∀ x ∈ B, x ∈ xs) (fB : Fit D B) : B.length ≤ (greedy D ok [] xs).length := by
  obtain ⟨a, b, c, d, f⟩ := greedy_ok hok xs [] .nil (by simpa using hn)
  apply Classical.byContradiction
  intro h
  obtain ⟨z, z1, z2, z3⟩ := exchange hB a fB (by omega)
  exact f z (sB z z1) z2 z3
end M1
/-! M2: sorted dues in a row -/
namespace M1
/-- from the k-th hour on, every due comes after its hour -/
def Row : Nat → List Nat → Prop
  | _, [] => True
  | k, d :: ds => k + 1 ≤ d ∧ Row (k + 1) ds
def cn (ds : List Nat) (t : Nat) : Nat := ds.countP (fun d => decide (d < t))
theorem cn_cons (d : Nat) (ds : List Nat) (t : Nat) : cn (d :: ds) t = cn ds t + if d < t then 1 else 0 := by
  simp [cn, List.countP_cons]
theorem cn_zero {ds : List Nat} {t : Nat} : cn ds t = 0 ↔ ∀ d ∈ ds, t ≤ d := by
  simp [cn, List.countP_eq_zero]
theorem row_iff : ∀ (ds : List Nat) (k : Nat), ds.Pairwise (· ≤ ·) → (Row k ds ↔ ∀ t, k + cn ds (t + 1) ≤ t ∨ cn ds (t + 1) = 0) := by
  intro ds
  induction ds with
  | nil => intro k _; simp [Row, cn]
  | cons d ds ih =>
    intro k hp
    obtain ⟨h1, h2⟩ := List.pairwise_cons.mp hp
    have i := ih (k + 1) h2
    simp only [Row]
    constructor
    · rintro ⟨a, b⟩ t
      have b' := i.mp b t
      rw [cn_cons]
      by_cases ht : d < t + 1
      · rw [if_pos ht]; left; omega
      · rw [if_neg ht]; right
        have : cn ds (t + 1) = 0 := cn_zero.mpr (fun z hz => by have := h1 z hz; omega)
        omega
    · intro h
      have hd := h d
      rw [cn_cons, if_pos (by omega)] at hd
      refine ⟨by omega, i.mpr fun t => ?_⟩
      have ht := h t
      rw [cn_cons] at ht
      by_cases hdt : d < t + 1
      · rw [if_pos hdt] at ht; left; omega
      · right
        exact cn_zero.mpr (fun z hz => by have := h1 z hz; omega)
theorem row_fit {ds : List Nat} (h : ds.Pairwise (· ≤ ·)) : Row 0 ds ↔ ∀ t, cn ds (t + 1) ≤ t :=
  (row_iff ds 0 h).trans ⟨fun a t => by have := a t; omega, fun a t => .inl (by have := a t; omega)⟩
theorem cn_map {α : Type} (D : α → Nat) (l : List α) (t : Nat) : cn (l.map D) t = ct D l t := by
  simp [cn, ct, List.countP_map, Function.comp_def]
/-- the dues of l in order, taken hour by hour -/
theorem row_of_fit {α : Type} {D : α → Nat} {l : List α} {ds : List Nat} (p : ds.Perm (l.map D)) (h : ds.Pairwise (· ≤ ·)) : Row 0 ds ↔ Fit D l := by
  rw [row_fit h]
  have e : ∀ t, cn ds t = ct D l t := fun t => (p.countP_eq _).trans (cn_map D l t)
  simp only [Fit, e]
theorem row_get : ∀ (ds : List Nat) (k : Nat), Row k ds ↔ ∀ i (h : i < ds.length), k + i + 1 ≤ ds[i] := by
  intro ds
  induction ds with
  | nil => intro k; simp [Row]
  | cons d ds ih =>
    intro k
    simp only [Row, ih]
    constructor
    · rintro ⟨a, b⟩ i hi
      cases i with
      | zero => simpa using a
      | succ i => have := b i (by simpa using hi); simp only [List.getElem_cons_succ]; omega
    · intro h
      refine ⟨h 0 (Nat.succ_pos _), fun i hi => ?_⟩
      have := h (i + 1) (by simpa using hi)
      simp only [List.getElem_cons_succ] at this
      omega
/-- dues of length L: L (i + 1) ≤ due says i + 1 ≤ due / L -/
theorem due_div {L i due : Nat} (h : 0 < L) : L * (i + 1) ≤ due ↔ i + 1 ≤ due / L := by
  rw [Nat.le_div_iff_mul_le h, Nat.mul_comm]
end M1
/-! M3: by dues, dropping one when late: the most -/
namespace M1
variable {α : Type} [DecidableEq α]
inductive Kept (D : α → Nat) : List α → List α → Prop
  | nil : Kept D [] []
  | grow {xs k : List α} {x : α} : Kept D xs k → k.length + 1 ≤ D x → Kept D (x :: xs) (k ++ [x])
  | swap {xs k k' : List α} {x : α} : Kept D xs k → D x < k.length + 1 → k'.length = k.length → (∀ z ∈ k', z ∈ k ++ [x]) → (∀ t, ct D k' t ≤ ct D (k ++ [x]) t) → Kept D (x :: xs) k'
theorem ct_app (D : α → Nat) (l : List α) (x : α) (t : Nat) : ct D (l ++ [x]) t = ct D l t + if D x < t then 1 else 0 := by
  simp [ct, List.countP_cons]
theorem ct_len (D : α → Nat) (l : List α) (t : Nat) : ct D l t ≤ l.length := List.countP_le_length
theorem kept_mem {D : α → Nat} {xs k : List α} (h : Kept D xs k) : ∀ z ∈ k, z ∈ xs := by
  induction h with
  | nil => intro z h; exact h
  | grow hk hd ih =>
    intro z hz
    rcases List.mem_append.mp hz with h | h
    · simp [ih z h]
    · simp at h; simp [h]
  | swap hk hd hl hm hc ih =>
    intro z hz
    rcases List.mem_append.mp (hm z hz) with h | h
    · simp [ih z h]
    · simp at h; simp [h]
/-- xs: what was looked at, the last first; dues fall along xs -/
theorem kept_fit {D : α → Nat} {xs k : List α} (h : Kept D xs k) : xs.Pairwise (fun a b => D b ≤ D a) → Fit D k := by
  induction h with
  | nil => intro _; exact .nil
  | @grow xs k x hk hd ih =>
    intro hp
    obtain ⟨p1, p2⟩ := List.pairwise_cons.mp hp
    have f := ih p2
    intro t
    rw [ct_app]
    have := f t
    have := ct_len D k (t + 1)
    by_cases h : D x < t + 1
    · rw [if_pos h]; omega
    · rw [if_neg h]; omega
  | @swap xs k k' x hk hd hl hm hc ih =>
    intro hp
    obtain ⟨p1, p2⟩ := List.pairwise_cons.mp hp
    have f := ih p2
    have hn : k.length ≤ D x := by
      have := f (D x)
      rw [ct_all (fun y hy => by have := p1 y (kept_mem hk y hy); omega)] at this
      exact this
    intro t
    have h1 := hc (t + 1)
    have h2 := ct_len D k' (t + 1)
    rw [ct_app] at h1
    have := f t
    by_cases h : D x < t + 1
    · omega
    · rw [if_neg h] at h1; omega
/-- no fitting lot among what was looked at is longer -/
theorem kept_most {D : α → Nat} {xs k : List α} (h : Kept D xs k) : xs.Pairwise (fun a b => D b ≤ D a) → ∀ B : List α, B.Nodup → (∀ z ∈ B, z ∈ xs) → Fit D B → B.length ≤ k.length := by
  induction h with
  | nil =>
    intro _ B _ hs _
    cases B with
    | nil => simp
    | cons z B => exact absurd (hs z (by simp)) (by simp)
  | @grow xs k x hk hd ih =>
    intro hp B hn hs hf
    obtain ⟨p1, p2⟩ := List.pairwise_cons.mp hp
    have h := ih p2 (B.erase x) (hn.erase x) (fun z hz => by
      have h1 := (hn.mem_erase_iff).mp hz
      rcases List.mem_cons.mp (hs z h1.2) with h | h
      · exact absurd h h1.1
      · exact h) (hf.sub fun t => List.Sublist.countP_le List.erase_sublist)
    have : B.length ≤ (B.erase x).length + 1 := by
      rw [List.length_erase]; split <;> omega
    simp only [List.length_append, List.length_singleton]
    omega
  | @swap xs k k' x hk hd hl hm hc ih =>
    intro hp B hn hs hf
    obtain ⟨p1, p2⟩ := List.pairwise_cons.mp hp
    have := hf (D x)
    rw [ct_all (fun y hy => by
      rcases List.mem_cons.mp (hs y hy) with h | h
      · rw [h]; omega
      · have := p1 y h; omega)] at this
    omega
end M1
/-! M4: lots in some, in all best lots -/
namespace M1
variable {α : Type} [DecidableEq α]
def Best (D : α → Nat) (xs l : List α) : Prop := l.Nodup ∧ (∀ z ∈ l, z ∈ xs) ∧ Fit D l ∧ ∀ B : List α, B.Nodup → (∀ z ∈ B, z ∈ xs) → Fit D B → B.length ≤ l.length
theorem Best.len {D : α → Nat} {xs l m : List α} (a : Best D xs l) (b : Best D xs m) : l.length = m.length :=
  Nat.le_antisymm (b.2.2.2 l a.1 a.2.1 a.2.2.1) (a.2.2.2 m b.1 b.2.1 b.2.2.1)
theorem best_of_len {D : α → Nat} {xs l m : List α} (a : Best D xs l) (h1 : m.Nodup) (h2 : ∀ z ∈ m, z ∈ xs) (h3 : Fit D m) (h4 : l.length ≤ m.length) : Best D xs m :=
  ⟨h1, h2, h3, fun B b1 b2 b3 => Nat.le_trans (a.2.2.2 B b1 b2 b3) h4⟩
/-- a fitting lot grows to a best one out of a best one -/
theorem grow {D : α → Nat} {xs b : List α} (hb : Best D xs b) : ∀ n (l : List α), b.length - l.length = n → l.Nodup → (∀ z ∈ l, z ∈ xs) → Fit D l → ∃ e : List α, Best D xs (e ++ l) ∧ ∀ z ∈ e, z ∈ b ∧ z ∉ l := by
  intro n
  induction n with
  | zero => intro l hl h1 h2 h3; exact ⟨[], (best_of_len hb h1 h2 h3 (by omega) : Best D xs l), by simp⟩
  | succ n ih =>
    intro l hl h1 h2 h3
    obtain ⟨z, z1, z2, z3⟩ := exchange hb.1 h3 hb.2.2.1 (by omega)
    obtain ⟨e, e1, e2⟩ := ih (z :: l) (by simp; omega) (List.nodup_cons.mpr ⟨z2, h1⟩) (fun y hy => by
      rcases List.mem_cons.mp hy with rfl | h
      · exact hb.2.1 _ z1
      · exact h2 y h) z3
    refine ⟨e ++ [z], by simpa using e1, fun y hy => ?_⟩
    rcases List.mem_append.mp hy with h | h
    · have := e2 y h; exact ⟨this.1, fun q => this.2 (by simp [q])⟩
    · have : y = z := by simpa using h
      rw [this]; exact ⟨z1, z2⟩
/-- x is in some best lot iff it fits alone -/
theorem in_some {D : α → Nat} {xs b : List α} {x : α} (hb : Best D xs b) (hx : x ∈ xs) : (∃ l, Best D xs l ∧ x ∈ l) ↔ 0 < D x := by
  constructor
  · rintro ⟨l, hl, hm⟩
    apply Nat.pos_of_ne_zero
    intro h
    have := hl.2.2.1 0
    have : 0 < ct D l 1 := List.countP_pos_iff.mpr ⟨x, hm, by simp [h]⟩
    simp only [Nat.zero_add] at *
    omega
  · intro h
    have hf : Fit D [x] := fun t => by
      rw [ct_cons]
      have : ct D ([] : List α) (t + 1) = 0 := rfl
      by_cases q : D x < t + 1
      · rw [if_pos q]; omega
      · rw [if_neg q]; omega
    obtain ⟨e, e1, e2⟩ := grow hb _ [x] rfl (by simp) (by simpa using hx) hf
    exact ⟨e ++ [x], e1, by simp⟩
/-- x is in all best lots iff a best lot of the others takes x on -/
theorem in_all {D : α → Nat} {xs ys o : List α} {x : α} (hx : ∀ z, z ∈ xs ↔ z = x ∨ z ∈ ys) (hy : x ∉ ys) (ho : Best D ys o) : (∀ l, Best D xs l → x ∈ l) ↔ Fit D (x :: o) := by
  have sub : ∀ z ∈ o, z ∈ xs := fun z hz => (hx z).mpr (.inr (ho.2.1 z hz))
  have no : x ∉ o := fun h => hy (ho.2.1 x h)
  have bound : ∀ B : List α, B.Nodup → (∀ z ∈ B, z ∈ xs) → Fit D B → (B.erase x).length ≤ o.length := fun B b1 b2 b3 =>
    ho.2.2.2 _ (b1.erase x) (fun z hz => by
      have h1 := (b1.mem_erase_iff).mp hz
      exact ((hx z).mp (b2 z h1.2)).resolve_left h1.1) (b3.sub fun t => List.Sublist.countP_le List.erase_sublist)
  constructor
  · intro h
    apply Classical.byContradiction
    intro hf
    have hb : Best D xs o := by
      refine ⟨ho.1, sub, ho.2.2.1, fun B b1 b2 b3 => ?_⟩
      apply Classical.byContradiction
      intro hl
      obtain ⟨z, z1, z2, z3⟩ := exchange b1 ho.2.2.1 b3 (by omega)
      rcases (hx z).mp (b2 z z1) with e | hz
      · exact hf (e ▸ z3)
      · have := ho.2.2.2 (z :: o) (List.nodup_cons.mpr ⟨z2, ho.1⟩) (fun y q => by
          rcases List.mem_cons.mp q with rfl | q
          · exact hz
          · exact ho.2.1 y q) z3
        simp only [List.length_cons] at this
        omega
    exact no (h o hb)
  · intro hf l hl
    apply Classical.byContradiction
    intro hn
    have h1 := hl.2.2.2 (x :: o) (List.nodup_cons.mpr ⟨no, ho.1⟩) (fun y q => by
      rcases List.mem_cons.mp q with rfl | q
      · exact (hx _).mpr (.inl rfl)
      · exact sub y q) hf
    have h2 := bound l hl.1 hl.2.1 hl.2.2.1
    rw [List.erase_of_not_mem hn] at h2
    simp only [List.length_cons] at h1
    omega
end M1
/-! M5: how many fit, due by due (the ladder's counts) -/
namespace M1
variable {α : Type} [DecidableEq α]
theorem Kept.stay {D : α → Nat} {xs k : List α} {x : α} (h : Kept D xs k) (hd : D x < k.length + 1) : Kept D (x :: xs) k :=
  .swap h hd rfl (fun z hz => by simp [hz]) (fun t => by rw [ct_app]; omega)
/-- c more of one due d: the count is the least of (n + c) and d -/
theorem kept_same {D : α → Nat} {xs k : List α} {d : Nat} (h : Kept D xs k) (hk : k.length ≤ d) (kn : k.Nodup) : ∀ ys : List α, (∀ y ∈ ys, D y = d) → (ys ++ xs).Nodup → ∃ k', Kept D (ys ++ xs) k' ∧ k'.length = min (k.length + ys.length) d ∧ k'.Nodup := by
  intro ys
  induction ys with
  | nil => intro _ _; exact ⟨k, h, by simp; omega, kn⟩
  | cons y ys ih =>
    intro hy nd
    rw [List.cons_append, List.nodup_cons] at nd
    obtain ⟨k', h1, h2, h3⟩ := ih (fun z hz => hy z (by simp [hz])) nd.2
    have hd := hy y (by simp)
    by_cases q : k'.length + 1 ≤ D y
    · refine ⟨k' ++ [y], .grow h1 q, ?_, ?_⟩
      · simp only [List.length_append, List.length_cons, List.length_nil]
        omega
      · refine List.nodup_append.mpr ⟨h3, by simp, ?_⟩
        rintro a ha b hb rfl
        simp at hb
        subst hb
        exact nd.1 (kept_mem h1 _ ha)
    · refine ⟨k', h1.stay (by omega), ?_, h3⟩
      simp only [List.length_cons]
      omega
/-- what was kept is a best lot of what was looked at -/
theorem kept_best {D : α → Nat} {xs k : List α} (h : Kept D xs k) (hp : xs.Pairwise (fun a b => D b ≤ D a)) (hn : k.Nodup) : Best D xs k :=
  ⟨hn, kept_mem h, kept_fit h hp, kept_most h hp⟩
theorem greedy_best {D : α → Nat} {ok : List α → Bool} (hok : ∀ l, ok l = true ↔ Fit D l) {xs : List α} (hn : xs.Nodup) : Best D xs (greedy D ok [] xs) := by
  obtain ⟨a, b, c, d, f⟩ := greedy_ok hok xs [] .nil (by simpa using hn)
  exact ⟨b, by simpa using d, a, fun B b1 b2 b3 => greedy_most hok hn b1 b2 b3⟩
end M1
/-! M6: full hours and the prices' worth -/
namespace M1
variable {α : Type} [DecidableEq α]
/-- what cannot be taken on lies under a full hour -/
theorem tight_of {D : α → Nat} {A : List α} {x : α} (f : Fit D A) (h : ¬ Fit D (x :: A)) : ∃ t, D x ≤ t ∧ ct D A (t + 1) = t := by
  apply Classical.byContradiction
  intro hc
  refine h fun t => ?_
  rw [ct_cons]
  have := f t
  by_cases q : D x < t + 1
  · rw [if_pos q]
    have : ct D A (t + 1) ≠ t := fun e => hc ⟨t, by omega, e⟩
    omega
  · rw [if_neg q]; omega
/-- T full hours, all that is left out due by T: the worth is the count -/
theorem worth_eq {D : α → Nat} {xs b : List α} {T : Nat} (hb : Best D xs b) (hn : xs.Nodup) (ht : ct D b (T + 1) = T) (ho : ∀ z ∈ xs, z ∉ b → D z ≤ T) : T + (xs.filter (fun z => decide (T + 1 ≤ D z))).length = b.length := by
  have s := ct_split D b (T + 1)
  have l1 := sub_len (xs.filter (fun z => decide (T + 1 ≤ D z))) (b.filter (fun z => decide (T + 1 ≤ D z))) (hn.sublist List.filter_sublist) (fun z hz => by
    obtain ⟨q1, q2⟩ := List.mem_filter.mp hz
    refine List.mem_filter.mpr ⟨?_, q2⟩
    apply Classical.byContradiction
    intro hzb
    have := ho z q1 hzb
    have : T + 1 ≤ D z := by simpa using q2
    omega)
  have l2 := sub_len (b.filter (fun z => decide (T + 1 ≤ D z))) (xs.filter (fun z => decide (T + 1 ≤ D z))) (hb.1.sublist List.filter_sublist) (fun z hz => by
    obtain ⟨q1, q2⟩ := List.mem_filter.mp hz
    exact List.mem_filter.mpr ⟨hb.2.1 z q1, q2⟩)
  omega
/-- what a best lot leaves out cannot be taken on -/
theorem out_not {D : α → Nat} {xs b : List α} {x : α} (hb : Best D xs b) (hx : x ∈ xs) (h : x ∉ b) : ¬ Fit D (x :: b) := fun f => by
  have := hb.2.2.2 (x :: b) (List.nodup_cons.mpr ⟨h, hb.1⟩) (fun y q => by
    rcases List.mem_cons.mp q with rfl | q
    · exact hx
    · exact hb.2.1 y q) f
  simp only [List.length_cons] at this
  omega
end M1
/-! M7: late_in's test, and all fitting sub-lots -/
namespace M1
variable {α : Type} [DecidableEq α]
/-- late at some due of the lot's own iff not Fit: it is enough to look at the dues themselves -/
theorem fit_dues {D : α → Nat} {l : List α} : Fit D l ↔ ∀ x ∈ l, ct D l (D x + 1) ≤ D x := by
  constructor
  · intro h x _; exact h (D x)
  · intro h t
    by_cases e : ∃ x ∈ l, D x < t + 1
    · -- the latest due at most t
      have : ∀ n, (∃ x ∈ l, D x < t + 1 ∧ t - D x ≤ n) → ct D l (t + 1) ≤ t := by
        intro n
        induction n with
        | zero =>
          rintro ⟨x, hx, h1, h2⟩
          have : D x = t := by omega
          rw [← this]; exact h x hx
        | succ n ih =>
          rintro ⟨x, hx, h1, h2⟩
          by_cases q : ∃ y ∈ l, D x < D y ∧ D y < t + 1
          · obtain ⟨y, hy, q1, q2⟩ := q
            exact ih ⟨y, hy, q2, by omega⟩
          · have : ct D l (t + 1) ≤ ct D l (D x + 1) := by
              unfold ct
              refine List.countP_mono_left (fun y hy z => ?_)
              have z' : D y < t + 1 := by simpa using z
              have : ¬ D x < D y := fun w => q ⟨y, hy, w, z'⟩
              simp; omega
            have := h x hx
            omega
      obtain ⟨x, hx, h1⟩ := e
      exact this t ⟨x, hx, h1, by omega⟩
    · have : ct D l (t + 1) = 0 := by
        unfold ct
        rw [List.countP_eq_zero]
        intro x hx z
        exact e ⟨x, hx, by simpa using z⟩
      omega
end M1
/-! M8: all fitting lots, in order -/
namespace M1
variable {α : Type} [DecidableEq α]
def lots (ok : List α → Bool) : List (List α) → List α → List (List α)
  | f, [] => f
  | f, x :: xs => lots ok (f ++ (f.filter (fun l => ok (l ++ [x]))).map (fun l => l ++ [x])) xs
theorem lots_mem {D : α → Nat} {ok : List α → Bool} (hok : ∀ l, ok l = true ↔ Fit D l) : ∀ (xs ps : List α) (f : List (List α)), (∀ l, l ∈ f ↔ l.Sublist ps ∧ Fit D l) → ∀ l, l ∈ lots ok f xs ↔ l.Sublist (ps ++ xs) ∧ Fit D l := by
  intro xs
  induction xs with
  | nil => intro ps f h l; simpa [lots] using h l
  | cons x xs ih =>
    intro ps f h l
    have e : ps ++ x :: xs = (ps ++ [x]) ++ xs := by simp
    rw [e, lots]
    refine ih (ps ++ [x]) _ (fun m => ?_) l
    rw [List.mem_append, List.mem_map, h m, List.sublist_append_iff]
    constructor
    · rintro (⟨a, b⟩ | ⟨m', h1, rfl⟩)
      · exact ⟨⟨m, [], by simp, a, by simp⟩, b⟩
      · obtain ⟨q1, q2⟩ := List.mem_filter.mp h1
        exact ⟨⟨m', [x], rfl, ((h m').mp q1).1, .refl _⟩, (hok _).mp q2⟩
    · rintro ⟨⟨l1, l2, rfl, a, b⟩, c⟩
      have b' : l2 = [] ∨ l2 = [x] := by
        cases b with
        | cons _ h => left; exact List.sublist_nil.mp h
        | cons_cons _ h => right; rw [List.sublist_nil.mp h]
      rcases b' with rfl | rfl
      · left; exact ⟨by simpa using a, c⟩
      · right
        refine ⟨l1, List.mem_filter.mpr ⟨(h l1).mpr ⟨a, c.sub fun t => ?_⟩, (hok _).mpr c⟩, rfl⟩
        rw [ct_app]; omega
theorem lots_all {D : α → Nat} {ok : List α → Bool} (hok : ∀ l, ok l = true ↔ Fit D l) (xs l : List α) : l ∈ lots ok [[]] xs ↔ l.Sublist xs ∧ Fit D l := by
  have := lots_mem hok xs [] [[]] (fun m => by
    constructor
    · intro h; have : m = [] := by simpa using h
      subst this; exact ⟨.refl _, .nil⟩
    · rintro ⟨h, _⟩; simpa using h) l
  simpa using this
end M1
/-! K1: k83's checks -/
namespace Lw
open PySem L2 VM

def tk (L : Int) (due : Str → Int) (n : Str) : T := .tuple [.int L, .int (due n)]
def un (L : Int) (due : Str → Int) (n : Str) : T := .tuple [.int 0, .int (due n / L), .int 1]
structure NmOk (n : Str) : Prop where
  ok : PyData.strOk n = true
  nm : d_is_name [.cl (.str n)] none = some (.bool true, none)
theorem isT_int (i : Int) : d_is_integer [.cl (.int i)] none = some (.bool true, none) := rfl
theorem is_list_t (ts : List T) : d_is_list [.cl (.tuple ts)] none = some (.bool true, none) := rfl
theorem is_list_l (ts : List T) : d_is_list [.cl (.list ts)] none = some (.bool true, none) := rfl
theorem is_number (i : Int) : d_is_number [.cl (.int i)] none = some (.bool (decide (0 ≤ i)), none) := by
  unfold d_is_number m_is_number
  simp [isT_int]
theorem is_task {L : Int} {due : Str → Int} {n : Str} (h : 0 < L) : d_is_task [.cl (tk L due n)] none = some (.bool true, none) := by
  unfold d_is_task m_is_task tk
  simp [isT_int, is_list_t, is_number, h, Int.le_of_lt h]
theorem is_unit {L : Int} {due : Str → Int} {n : Str} : d_is_unit [.cl (un L due n)] none = some (.bool true, none) := by
  unfold d_is_unit m_is_unit un
  simp [isT_int, is_list_t, is_number]
/-- names: few, each a name, unlike -/
structure Names (ns : List Str) : Prop where
  nm : ∀ n ∈ ns, NmOk n
  nd : ns.Nodup
  few : ns.length < 64
theorem Names.ok {ns : List Str} (h : Names ns) : okS ns := fun x hx => (h.nm x hx).ok
theorem Names.le {ns : List Str} (h : Names ns) : ns.length ≤ cap := by have := h.few; unfold cap; omega
theorem Names.perm {ns ms : List Str} (h : Names ns) (p : ms.Perm ns) : Names ms := ⟨fun n hn => h.nm n (p.mem_iff.mp hn), p.nodup_iff.mpr h.nd, by rw [p.length_eq]; exact h.few⟩
theorem Names.sort {ns : List Str} (h : Names ns) : Names (sortS ns) := h.perm (sortS_perm ns)
theorem Names.sub {ns ms : List Str} (h : Names ns) (s : ∀ x ∈ ms, x ∈ ns) (n : ms.Nodup) : Names ms :=
  ⟨fun x hx => h.nm x (s x hx), n, Nat.lt_of_le_of_lt (List.Nodup.length_le_of_subset n s) h.few⟩
theorem checked_tasks {ns : List Str} {L : Int} {due : Str → Int} (h : Names ns) (hL : 0 < L) : d_checked_tasks [.cl (dN ns (tk L due))] none = some (dN (sortS ns) (tk L due), none) := by
  unfold d_checked_tasks m_checked_tasks
  simp [q_sortedN h.few]
  rw [lc_a fun _ => .bool true]
  · simp [q_mkL, h.le, q_sortedN h.few]
    rw [dc_names (F := tk L due) _ h.sort.nd h.sort.le]
    · simp [dN]
    · intro x hx
      rw [mem_sortS] at hx
      simp [q_idxN hx, tk]
  · intro x hx
    simp [(h.nm x hx).nm, q_idxN hx, is_task hL]
theorem checked_units {ns : List Str} {L : Int} {due : Str → Int} (h : Names ns) : d_checked_units [.cl (dN ns (un L due))] none = some (dN (sortS ns) (un L due), none) := by
  unfold d_checked_units m_checked_units
  simp [q_sortedN h.few]
  rw [lc_a fun _ => .bool true]
  · simp [q_mkL, h.le, q_sortedN h.few]
    rw [dc_names (F := un L due) _ h.sort.nd h.sort.le]
    · simp [dN]
    · intro x hx
      rw [mem_sortS] at hx
      simp [q_idxN hx, un]
  · intro x hx
    simp [(h.nm x hx).nm, q_idxN hx, is_unit]
/-- a lot of names -/
structure Lot (ns l : List Str) : Prop where
  sub : ∀ x ∈ l, x ∈ ns
  nd : l.Nodup
theorem Lot.names {ns l : List Str} (h : Names ns) (hl : Lot ns l) : Names l := h.sub hl.sub hl.nd
theorem first_odd {ns l : List Str} {F : Str → T} (h : Names ns) (hl : Lot ns l) : d_first_odd [.cl (dN ns F), .cl (.list (l.map .str))] none = some (.none, none) := by
  unfold d_first_odd m_first_odd
  simp [is_list_l, enum_map]
  have key := for_rel (e := fun p : Str × Nat => PyData.tuple [.int (p.2 : Nat), .str p.1]) (tg := .tp [.nm 2, .nm 3]) (g := none)
    (mb := frzIf [] (mIf (eOr (eNot (eIs ["str"] (eVar 3))) (eOr (eOp bNotIn (eVar 3) (eVar 0)) (eOp bIn (eVar 3) (eCut2 (eVar 1) none (some (eVar 2)))))) (frzIf [] (mRet (eVar 2))) mNx))
    (fun left sl => (∃ a b, sl = [.cl (dN ns F), .cl (.list (l.map .str)), a, b]) ∧ ∃ k, left = l.zipIdx.drop k) (by
      rintro ⟨x, i⟩ xs sl ⟨⟨a, b, rfl⟩, k, hk⟩
      have hki : (l.zipIdx)[k]? = some (x, i) := by
        have := congrArg List.head? hk
        rw [List.head?_drop] at this
        exact this.symm
      have hx : l[i]? = some x ∧ i = k := by
        rw [List.getElem?_zipIdx] at hki
        obtain ⟨y, hy, e⟩ := Option.map_eq_some_iff.mp hki
        cases e
        simpa using hy
      have hm : x ∈ l := List.mem_of_getElem? hx.1
      have hn : x ∉ l.take i := fun c => by
        obtain ⟨j, hj, e⟩ := List.mem_take_iff_getElem.mp c
        have hi : i < l.length := (List.getElem?_eq_some_iff.mp hx.1).1
        have e2 : l[i] = x := (List.getElem?_eq_some_iff.mp hx.1).2
        exact List.pairwise_iff_getElem.mp hl.nd j i (by omega) hi (by omega) (e.trans e2.symm)
      have ht : bIn (.str x) (.list (cutL (l.map PyData.str) none (some (i : Int)))) = some (.bool false) := by
        rw [cutL_to _ (by omega), Int.toNat_natCast, ← List.map_take, q_inS (fun y hy => (h.nm y (hl.sub y (List.mem_of_mem_take hy))).ok) (h.nm x (hl.sub x hm)).ok, decide_eq_false hn]
      refine ⟨[.cl (dN ns F), .cl (.list (l.map .str)), .cl (.int (i : Nat)), .cl (.str x)], ?_, ⟨_, _, rfl⟩, k + 1, ?_⟩
      · simp [hl.sub x hm, ht]
      · rw [← List.drop_drop, ← hk]; rfl) l.zipIdx [.cl (dN ns F), .cl (.list (l.map .str)), .un, .un] ⟨⟨_, _, rfl⟩, 0, rfl⟩
  obtain ⟨sl', e, ⟨a, b, rfl⟩, _⟩ := key
  rw [e]
  simp
theorem checked_lot {ns l : List Str} {F : Str → T} (h : Names ns) (hl : Lot ns l) : d_checked_lot [.cl (dN ns F), .cl (.list (l.map .str))] none = some (.list ((sortS l).map .str), none) := by
  unfold d_checked_lot m_checked_lot
  simp [first_odd h hl, q_sortedS (hl.names h).ok (hl.names h).le]
theorem checked_units_lot {ns l : List Str} {L : Int} {due : Str → Int} (h : Names ns) (hl : Lot ns l) : d_checked_units_lot [.cl (dN ns (un L due)), .cl (.list (l.map .str))] none = some (.tuple [dN (sortS ns) (un L due), .list ((sortS l).map .str)], none) := by
  unfold d_checked_units_lot m_checked_units_lot
  have hl' : Lot (sortS ns) l := ⟨fun x hx => mem_sortS.mpr (hl.sub x hx), hl.nd⟩
  simp [checked_units h, checked_lot h.sort hl']
end Lw
/-! K2: in time -/
namespace Lw
open PySem L2 VM M1

/-- the setting: names, one length, dues -/
structure Ctx (ns : List Str) (L : Int) (due : Str → Int) : Prop where
  nm : Names ns
  pos : 0 < L
  sm : L < 5
  top : ∀ n ∈ ns, due n < 64
  bot : ∀ n ∈ ns, -64 ≤ due n
  nine : ns.length ≤ 16
def Dd (L : Int) (due : Str → Int) (n : Str) : Nat := (due n / L).toNat
theorem small_L {L : Int} (h : 0 < L) (k : L < 5) : VM.small64 L = true := by
  unfold VM.small64
  simp
  omega
def okT (L : Int) (due : Str → Int) (lot : List Str) : Bool := (sortI (lot.map due)).zipIdx.all fun p => decide (L * ((p.2 : Int) + 1) ≤ p.1)
theorem law_in_time {ns : List Str} {L : Int} {due : Str → Int} (c : Ctx ns L due) {l : List Str} (hs : ∀ x ∈ l, x ∈ ns) (hl : l.length ≤ cap) :
    d_law_in_time [.cl (dN ns (tk L due)), .cl (.list (l.map .str)), .cl (.int L)] none = some (.bool (okT L due l), none) := by
  unfold d_law_in_time m_law_in_time
  simp
  rw [lc_a fun x => .int (due x)]
  · simp [q_mkL, hl, q_sortedI', enum_map]
    rw [lc_a fun p => .bool (decide (L * ((p.2 : Int) + 1) ≤ p.1))]
    · simp [q_mkL, hl, okT]
    · rintro ⟨d, i⟩ _
      simp [bMul_eq (.inl (small_L c.pos c.sm))]
  · intro x hx
    simp [q_idxN (hs x hx), tk]
theorem okT_iff {L : Int} {due : Str → Int} (h : 0 < L) (l : List Str) : okT L due l = true ↔ Fit (Dd L due) l := by
  have p : ((sortI (l.map due)).map fun d => (d / L).toNat).Perm (l.map (Dd L due)) := by
    have := (sortI_perm (l.map due)).map fun d => (d / L).toNat
    rw [List.map_map] at this
    exact this
  have s : ((sortI (l.map due)).map fun d => (d / L).toNat).Pairwise (· ≤ ·) := by
    rw [List.pairwise_map]
    refine (sortI_pw (l.map due)).imp fun {a b} hab => ?_
    have := Int.ediv_le_ediv h hab
    omega
  rw [← row_of_fit p s, row_get]
  unfold okT
  rw [List.all_eq_true]
  have key : ∀ (i : Nat) (d : Int), L * ((i : Int) + 1) ≤ d ↔ i + 1 ≤ (d / L).toNat := by
    intro i d
    rw [Int.mul_comm, ← Int.le_ediv_iff_mul_le h]
    omega
  constructor
  · intro a i hi
    rw [List.length_map] at hi
    have := a ((sortI (l.map due))[i], i) (by rw [List.mem_zipIdx_iff_getElem?]; simp [hi])
    rw [decide_eq_true_eq] at this
    rw [List.getElem_map, Nat.zero_add]
    exact (key i _).mp this
  · rintro a ⟨d, i⟩ hp
    rw [List.mem_zipIdx_iff_getElem?] at hp
    obtain ⟨hi, e⟩ := List.getElem?_eq_some_iff.mp hp
    have := a i (by rw [List.length_map]; exact hi)
    rw [List.getElem_map, Nat.zero_add] at this
    rw [decide_eq_true_eq]
    dsimp only at e ⊢
    rw [e] at this
    exact (key i _).mpr this
/-- the unlike dues -/
def dues (due : Str → Int) (l : List Str) : List Int := sortI (once [] (l.map due))
theorem mem_dues {due : Str → Int} {l : List Str} {d : Int} : d ∈ dues due l ↔ ∃ x ∈ l, due x = d := by
  unfold dues
  rw [mem_sortI, once_mem]
  simp
theorem dues_lt (due : Str → Int) (l : List Str) : (dues due l).Pairwise (· < ·) := by
  have h1 := sortI_pw (once [] (l.map due))
  have h2 : (dues due l).Nodup := nodup_sortI.mpr (once_nodup _ _ .nil)
  exact (h1.and h2).imp fun {a b} h => by have := h.1; have := h.2; omega
theorem dues_of {ns : List Str} {L : Int} {due : Str → Int} {l : List Str} (hs : ∀ x ∈ l, x ∈ ns) (hl : l.length < 64) :
    d_dues_of [.cl (dN ns (tk L due)), .cl (.list (l.map .str))] none = some (.list ((dues due l).map .int), none) := by
  have hc : l.length ≤ cap := by unfold cap; omega
  unfold d_dues_of m_dues_of
  simp
  rw [dc_yes0 due]
  · have : (once [] (l.map due)).length < 64 := Nat.lt_of_le_of_lt (once_len _ _) (by simpa using hl)
    simp [q_sortedY this, dues]
  · intro x hx
    simp [q_idxN (hs x hx), tk]
  · exact hc
theorem dues_of' {ns : List Str} {L : Int} {due : Str → Int} (h : ns.length < 64) :
    d_dues_of [.cl (dN ns (tk L due)), .cl (dN ns (tk L due))] none = some (.list ((dues due ns).map .int), none) := by
  have hc : ns.length ≤ cap := by unfold cap; omega
  unfold d_dues_of m_dues_of
  simp
  rw [dc_yes0 due]
  · have : (once [] (ns.map due)).length < 64 := Nat.lt_of_le_of_lt (once_len _ _) (by simpa using h)
    simp [q_sortedY this, dues]
  · intro x hx
    simp [q_idxN hx, tk]
  · exact hc
def cntBy (due : Str → Int) (l : List Str) (d : Int) : Nat := (l.filter fun n => decide (due n ≤ d)).length
def lateP (L : Int) (due : Str → Int) (l : List Str) (d : Int) : Bool := decide (d < L * (cntBy due l d : Int))
def optI : Option Int → T
  | some d => .int d
  | none => .none
theorem sum_const (L : Int) {α : Type} (l : List α) : (l.map fun _ => L).sum = L * (l.length : Int) := by
  induction l with
  | nil => simp
  | cons x l ih => simp [ih, Int.mul_add]; omega
theorem late_in {ns : List Str} {L : Int} {due : Str → Int} {l : List Str} (hs : ∀ x ∈ l, x ∈ ns) (hl : l.length < 64) :
    d_late_in [.cl (dN ns (tk L due)), .cl (.list (l.map .str))] none = some (optI ((dues due l).find? (lateP L due l)), none) := by
  have hc : l.length ≤ cap := by unfold cap; omega
  unfold d_late_in m_late_in
  simp [dues_of hs hl]
  obtain ⟨⟨a, b⟩, e⟩ := for_find (e := PyData.int) (tg := .nm 2) (g := none)
    (mb := frzIf [] (mIf (eOp bGt (eBi (bi1 sumB) (aCons (eLc (iVal (eVar 1)) (.nm 3) (eOp bLe (eOp bIdx (eOp bIdx (eVar 0) (eVar 3)) (eLit (.int 1))) (eVar 2)) (eOp bIdx (eOp bIdx (eVar 0) (eVar 3)) (eLit (.int 0))) [3]) aNil)) (eVar 2)) (frzIf [] (mRet (eVar 2))) mNx))
    (fun s : Sl × Sl => [.cl (dN ns (tk L due)), .cl (.list (l.map .str)), s.1, s.2]) (lateP L due l) PyData.int (xs := dues due l) (s := (.un, .un)) (by
      rintro d hd ⟨a, b⟩
      refine ⟨(.cl (.int d), b), ?_⟩
      simp
      rw [lc_f (fun n => decide (due n ≤ d)) (fun n => .int L)]
      · simp [q_mkF, hc, sum_const, lateP, cntBy]
        split <;> rename_i hh <;> simp [hh]
      · intro x hx
        simp [q_idxN (hs x hx), tk]
      · intro x hx _
        simp [q_idxN (hs x hx), tk])
  rw [e]
  cases (dues due l).find? (lateP L due l) <;> simp [optI]
theorem dues_perm {due : Str → Int} {l k : List Str} (p : l.Perm k) : dues due l = dues due k := by
  unfold dues
  refine sortI_eq ((List.perm_ext_iff_of_nodup (once_nodup _ _ .nil) (once_nodup _ _ .nil)).mpr fun a => ?_)
  rw [once_mem, once_mem, (p.map due).mem_iff]
theorem lateP_perm {L : Int} {due : Str → Int} {l k : List Str} (p : l.Perm k) : lateP L due l = lateP L due k := by
  funext d
  unfold lateP cntBy
  rw [(p.filter _).length_eq]
def lateOf (L : Int) (due : Str → Int) (l : List Str) : Option Int := (dues due l).find? (lateP L due l)
theorem lateOf_perm {L : Int} {due : Str → Int} {l k : List Str} (p : l.Perm k) : lateOf L due l = lateOf L due k := by
  unfold lateOf
  rw [dues_perm p, lateP_perm p]
theorem late_at {ns : List Str} {L : Int} {due : Str → Int} (c : Ctx ns L due) {l : List Str} (hl : Lot ns l) :
    d_late_at [.cl (dN ns (tk L due)), .cl (.list (l.map .str))] none = some (optI (lateOf L due l), none) := by
  have hl' : Lot (sortS ns) l := ⟨fun x hx => mem_sortS.mpr (hl.sub x hx), hl.nd⟩
  have h3 := late_in (ns := sortS ns) (L := L) (due := due) (l := sortS l) (fun x hx => hl'.sub x (mem_sortS.mp hx)) (by rw [length_sortS]; exact (hl.names c.nm).few)
  unfold d_late_at m_late_at
  simp [checked_tasks c.nm c.pos, checked_lot c.nm.sort hl', h3]
  exact lateOf_perm (sortS_perm l) ▸ rfl
theorem lateOf_none {L : Int} {due : Str → Int} (h : 0 < L) (l : List Str) : lateOf L due l = none ↔ Fit (Dd L due) l := by
  unfold lateOf
  rw [List.find?_eq_none]
  have key : ∀ (i : Nat) (d : Int), L * (i : Int) ≤ d → i ≤ (d / L).toNat := by
    intro i d hd
    rw [Int.mul_comm, ← Int.le_ediv_iff_mul_le h] at hd
    omega
  constructor
  · intro a t
    rcases Nat.eq_zero_or_pos (ct (Dd L due) l (t + 1)) with z | z
    · omega
    · -- the greatest due of those with D ≤ t
      have hne : (l.filter fun n => decide (Dd L due n < t + 1)) ≠ [] := by
        intro e
        unfold ct at z
        rw [List.countP_eq_length_filter, e] at z
        exact absurd z (by simp)
      have mx : ∀ m : List Str, m ≠ [] → ∃ x ∈ m, ∀ y ∈ m, due y ≤ due x := by
        intro m
        induction m with
        | nil => intro h; exact absurd rfl h
        | cons x m ih =>
          intro _
          by_cases hm : m = []
          · subst hm; exact ⟨x, .head _, fun y hy => by simp at hy; rw [hy]; omega⟩
          · obtain ⟨z, hz, q⟩ := ih hm
            by_cases c : due z ≤ due x
            · exact ⟨x, .head _, fun y hy => by
                rcases List.mem_cons.mp hy with rfl | hy
                · omega
                · have := q y hy; omega⟩
            · exact ⟨z, .tail _ hz, fun y hy => by
                rcases List.mem_cons.mp hy with rfl | hy
                · omega
                · exact q y hy⟩
      obtain ⟨x, hx, q⟩ := mx _ hne
      obtain ⟨hxl, hxt⟩ := List.mem_filter.mp hx
      have b := a (due x) (mem_dues.mpr ⟨x, hxl, rfl⟩)
      unfold lateP cntBy at b
      have le1 : ct (Dd L due) l (t + 1) ≤ (l.filter fun n => decide (due n ≤ due x)).length := by
        unfold ct
        rw [← List.countP_eq_length_filter]
        refine List.countP_mono_left fun y hy e => ?_
        have := q y (List.mem_filter.mpr ⟨hy, e⟩)
        exact decide_eq_true this
      have b2 : L * ((l.filter fun n => decide (due n ≤ due x)).length : Int) ≤ due x := by simpa using b
      have := key _ _ b2
      have hxt : (due x / L).toNat < t + 1 := of_decide_eq_true hxt
      omega
  · intro f d hd
    obtain ⟨x, hx, rfl⟩ := mem_dues.mp hd
    have f1 := f (Dd L due x)
    have le1 : (l.filter fun n => decide (due n ≤ due x)).length ≤ ct (Dd L due) l (Dd L due x + 1) := by
      unfold ct
      rw [← List.countP_eq_length_filter]
      refine List.countP_mono_left fun y hy e => ?_
      have e : due y ≤ due x := of_decide_eq_true e
      have := Int.ediv_le_ediv h e
      refine decide_eq_true ?_
      unfold Dd
      omega
    have pos : 0 < (l.filter fun n => decide (due n ≤ due x)).length := List.length_pos_of_mem (List.mem_filter.mpr ⟨hx, by simp⟩)
    have h2 : ((l.filter fun n => decide (due n ≤ due x)).length : Int) ≤ due x / L := by unfold Dd at *; omega
    rw [Int.le_ediv_iff_mul_le h, Int.mul_comm] at h2
    unfold lateP cntBy
    simp
    omega
end Lw
/-! K3: what is kept -/
namespace Lw
open PySem L2 VM M1

theorem ct_filter_ne (D : Str → Nat) {l : List Str} {m : Str} (t : Nat) : ct D (l.filter fun x => !decide (x = m)) t ≤ ct D l t := (List.filter_sublist).countP_le
theorem filter_ne_len {l : List Str} {m : Str} (nd : l.Nodup) (hm : m ∈ l) : (l.filter fun x => !decide (x = m)).length + 1 = l.length := by
  induction l with
  | nil => cases hm
  | cons x l ih =>
    obtain ⟨h1, h2⟩ := List.nodup_cons.mp nd
    by_cases h : x = m
    · subst h
      have e : (x :: l).filter (fun y => !decide (y = x)) = l := by
        rw [List.filter_cons_of_neg (by simp)]
        exact List.filter_eq_self.mpr fun y hy => by
          have : y ≠ x := fun z => h1 (z ▸ hy)
          simp [this]
      rw [e]; rfl
    · rw [List.filter_cons_of_pos (by simp [h])]
      have hm : m ∈ l := by
        rcases List.mem_cons.mp hm with z | z
        · exact absurd z.symm h
        · exact z
      have := ih h2 hm
      simp; omega
def sortedPairs (due : Str → Int) (ns : List Str) : List Pr := sortP (ns.map fun n => (due n, n))
theorem sp_snd (due : Str → Int) (ns : List Str) : ((sortedPairs due ns).map (·.2)).Perm ns := by
  have := (sortP_perm (ns.map fun n => (due n, n))).map (·.2)
  rw [List.map_map] at this
  have e : (Prod.snd ∘ fun n : Str => (due n, n)) = id := rfl
  rw [e, List.map_id] at this
  exact this
theorem sp_fst {due : Str → Int} {ns : List Str} {p : Pr} (h : p ∈ sortedPairs due ns) : p.1 = due p.2 ∧ p.2 ∈ ns := by
  rw [sortedPairs, mem_sortP, List.mem_map] at h
  obtain ⟨n, hn, rfl⟩ := h
  exact ⟨rfl, hn⟩
theorem best_mem {D : Str → Nat} {xs ys l : List Str} (h : ∀ z, z ∈ xs ↔ z ∈ ys) (b : Best D xs l) : Best D ys l :=
  ⟨b.1, fun z hz => (h z).mp (b.2.1 z hz), b.2.2.1, fun B b1 b2 b3 => b.2.2.2 B b1 (fun z hz => (h z).mpr (b2 z hz)) b3⟩
theorem kept_of {ns : List Str} {L : Int} {due : Str → Int} (c : Ctx ns L due) :
    ∃ k, d_kept_of [.cl (dN ns (tk L due))] none = some (.list ((sortS k).map .str), none) ∧ Best (Dd L due) ns k := by
  unfold d_kept_of m_kept_of
  simp
  rw [lc_a fun n => .tuple [.int (due n), .str n]]
  · simp [q_mkM, c.nm.le, q_sortedP' (fun x hx => c.nm.ok x hx)]
    obtain ⟨sl', e, a, b, d, k, dn, rfl, h1, h2, h3, h4, h5⟩ := for_rel (e := prT) (tg := .tp [.nm 2, .nm 3]) (g := none)
      (mb := (mSeq (frzIf [3] (mMeth fAppend 1 (aCons (eVar 3) aNil)))
  (frzIf [] (mIf (eOp bGt (eBi (bi1 sumB) (aCons (eLc (iVal (eVar 1)) (.nm 5) (eLit (.bool true)) (eOp bIdx (eOp bIdx (eVar 0) (eVar 5)) (eLit (.int 0))) [5]) aNil)) (eVar 2))
  (mSeq (frzIf [5] (mSet' false 4 (eOp bIdx (eBi (bi1 maxB) (aCons (eLc (iVal (eVar 1)) (.nm 5) (eLit (.bool true)) (eTup (aCons (eOp bIdx (eOp bIdx (eVar 0) (eVar 5)) (eLit (.int 0))) (aCons (eVar 5) aNil))) [5]) aNil)) (eLit (.int 1)))))
  (frzIf [5] (mSet' true 1 (eLc (iVal (eVar 1)) (.nm 5) (eOp bNe (eVar 5) (eVar 4)) (eVar 5) [5]))))
  mNx))))
      (fun left sl => ∃ a b d, ∃ k dn : List Str, sl = [.cl (dN ns (tk L due)), .ow (.list (k.map .str)), a, b, d, .un] ∧ Kept (Dd L due) dn.reverse k ∧ k.Nodup ∧ (∀ z ∈ k, z ∈ dn) ∧ (sortedPairs due ns).map (·.2) = dn ++ left.map (·.2) ∧ (∀ p ∈ left, p ∈ sortedPairs due ns))
      (by
        rintro ⟨d0, n⟩ left sl ⟨a, b, d, k, dn, rfl, h1, h2, h3, h4, h5⟩
        obtain ⟨e0, hn⟩ := sp_fst (h5 (d0, n) (.head _))
        dsimp only at e0 hn
        subst e0
        have nd : (dn ++ n :: left.map (·.2)).Nodup := by
          have := (sp_snd due ns).nodup_iff.mpr c.nm.nd
          rw [h4] at this
          exact this
        have hnd : n ∉ dn := fun z => (List.nodup_append.mp nd).2.2 n z n (.head _) rfl
        have hnk : n ∉ k := fun z => hnd (h3 n z)
        obtain ⟨kn, hkn⟩ : ∃ kn, kn = k ++ [n] := ⟨_, rfl⟩
        have em : k.map PyData.str ++ [PyData.str n] = kn.map PyData.str := by rw [hkn]; simp
        have ksub : ∀ z ∈ kn, z ∈ dn ++ [n] := by
          intro z hz
          rw [hkn] at hz
          rcases List.mem_append.mp hz with h | h
          · exact List.mem_append_left _ (h3 z h)
          · exact List.mem_append_right _ h
        have sub : ∀ x ∈ kn, x ∈ ns := by
          intro x hx
          have : x ∈ (dn ++ [n]) ++ left.map (·.2) := List.mem_append_left _ (ksub x hx)
          have e : (sortedPairs due ns).map (·.2) = (dn ++ [n]) ++ left.map (·.2) := by rw [h4]; simp
          rw [← e] at this
          exact (sp_snd due ns).mem_iff.mp this
        have nk : kn.Nodup := by
          rw [hkn]
          exact List.nodup_append.mpr ⟨h2, by simp, by rintro x hx y hy rfl; simp at hy; subst hy; exact hnk hx⟩
        have NK : Names kn := c.nm.sub sub nk
        have hc : kn.length ≤ cap := NK.le
        have kl : kn.length = k.length + 1 := by rw [hkn]; simp
        have hc' : k.length < cap := by omega
        have next : (sortedPairs due ns).map (·.2) = (dn ++ [n]) ++ left.map (·.2) := by rw [h4]; simp
        have next2 : ∀ p ∈ left, p ∈ sortedPairs due ns := fun p hp => h5 p (.tail _ hp)
        have rev : (dn ++ [n]).reverse = n :: dn.reverse := by simp
        have ev1 : ∀ a b d, lcGo (.nm 5) (eLit (.bool true)) (eOp bIdx (eOp bIdx (eVar 0) (eVar 5)) (eLit (.int 0))) [.cl (dN ns (tk L due)), .ow (.list (kn.map .str)), a, b, d, .un] (kn.map .str) none = some (kn.map (fun _ => .int L), none) := by
          intro a b d
          rw [lc_a fun _ => .int L]
          intro x hx
          simp [q_idxN (sub x hx), tk]
        have iff : L * (kn.length : Int) ≤ due n ↔ k.length + 1 ≤ Dd L due n := by
          rw [Int.mul_comm, ← Int.le_ediv_iff_mul_le c.pos]
          unfold Dd
          omega
        by_cases hd : due n < L * (kn.length : Int)
        · have ev2 : ∀ a b d, lcGo (.nm 5) (eLit (.bool true)) (eTup (aCons (eOp bIdx (eOp bIdx (eVar 0) (eVar 5)) (eLit (.int 0))) (aCons (eVar 5) aNil))) [.cl (dN ns (tk L due)), .ow (.list (kn.map .str)), a, b, d, .un] (kn.map .str) none = some (kn.map (fun x => .tuple [.int L, .str x]), none) := by
            intro a b d
            rw [lc_a fun x => .tuple [.int L, .str x]]
            intro x hx
            simp [q_idxN (sub x hx), tk]
          obtain ⟨m, hm, emax, _⟩ := q_maxP' (l := kn) (fun _ => L) id (fun x hx => NK.ok x hx) (by rw [hkn]; simp)
          have emax : maxB (.list (kn.map fun x => .tuple [.int L, .str x])) = some (.tuple [.int L, .str m]) := emax
          have ev3 : ∀ a b, lcGo (.nm 5) (eOp bNe (eVar 5) (eVar 4)) (eVar 5) [.cl (dN ns (tk L due)), .ow (.list (kn.map .str)), a, b, .cl (.str m), .un] (kn.map .str) none = some ((kn.filter fun x => !decide (x = m)).map .str, none) := by
            intro a b
            rw [lc_f (fun x => !decide (x = m)) PyData.str]
            · intro x hx
              simp [bNe_str (NK.ok x hx) (NK.ok m hm)]
            · intro x hx _
              simp
          have fl := filter_ne_len nk hm
          refine ⟨[.cl (dN ns (tk L due)), .ow (.list ((kn.filter fun x => !decide (x = m)).map .str)), .cl (.int (due n)), .cl (.str n), .cl (.str m), .un], ?_, _, _, _, kn.filter fun x => !decide (x = m), dn ++ [n], rfl, ?_, nk.sublist List.filter_sublist, ?_, next, next2⟩
          · simp [prT, q_app, hc', em, ev1, ev2, ev3, q_mkM, q_mkF, hc, sum_const, hd, emax]
          · rw [rev]
            refine .swap h1 (by have := mt iff.mpr; omega) (by omega) (fun z hz => hkn ▸ (List.mem_filter.mp hz).1) (fun t => hkn ▸ ct_filter_ne _ t)
          · intro z hz
            exact ksub z (List.mem_filter.mp hz).1
        · refine ⟨[.cl (dN ns (tk L due)), .ow (.list (kn.map .str)), .cl (.int (due n)), .cl (.str n), d, .un], ?_, _, _, _, kn, dn ++ [n], rfl, ?_, nk, ksub, next, next2⟩
          · simp [prT, q_app, hc', em, ev1, q_mkM, hc, sum_const, hd]
          · rw [rev, hkn]
            exact .grow h1 (iff.mp (by omega))) (sortedPairs due ns) [.cl (dN ns (tk L due)), .ow (.list []), .un, .un, .un, .un] ⟨_, _, _, [], [], rfl, .nil, .nil, by simp, by simp, by simp⟩
    have hdn : dn = (sortedPairs due ns).map (·.2) := by simpa using h4.symm
    have pdn : dn.Perm ns := hdn ▸ sp_snd due ns
    have ksub : ∀ z ∈ k, z ∈ ns := fun z hz => pdn.mem_iff.mp (h3 z hz)
    have NK : Names k := c.nm.sub ksub h2
    refine ⟨k, ?_, ?_⟩
    · have e' : forGo _ _ (List.map prT (sortP (ns.map fun x => (due x, x)))) _ none = _ := e
      rw [e']
      simp [q_sortedS, NK.ok, NK.le]
    · refine best_mem (xs := dn.reverse) (fun z => by rw [List.mem_reverse, pdn.mem_iff]) (kept_best h1 ?_ h2)
      rw [List.pairwise_reverse, hdn, List.pairwise_map]
      refine List.Pairwise.imp_of_mem (fun {p q} hp hq hpq => ?_) (sortP_pw _)
      have e1 := (sp_fst hp).1
      have e2 := (sp_fst hq).1
      have := (ple_iff p q).mp hpq
      have : due p.2 ≤ due q.2 := by omega
      have := Int.ediv_le_ediv c.pos this
      unfold Dd
      omega
  · intro x hx
    simp [q_idxN hx, tk]
end Lw
/-! K4: ladders -/
namespace Lw
open PySem L2 VM M1

def repT (n : Nat) (L : Int) : T := .list (List.replicate n (.int L))
theorem repT_map (n : Nat) (L : Int) : List.replicate n (PyData.int L) = (List.replicate n L).map .int := List.map_replicate.symm
theorem first_ones {n : Nat} {L d : Int} (hL : 0 < L) (hn : n < cap) :
    d_first_ones [.cl (repT n L), .cl (.int d)] none = some (repT (min n (d / L).toNat) L, none) := by
  unfold d_first_ones m_first_ones repT
  simp only [q_den2, q_seq, q_frz0, q_par2, q_lst, q_aNil, Option.bind_some, q_cleans0, q_mkL0, Option.map_some, q_slot1, q_lit, q_slot0, q_clean]
  obtain ⟨sl', e⟩ := for_rel2 (e := PyData.int) (tg := .nm 4) (g := none)
    (mb := (mSeq (frzIf [] (mIf (eOp bGt (eOp bAdd (eVar 3) (eVar 4)) (eVar 1))
  (frzIf [2] (mRet (eVar 2)))
  mNx))
  (mSeq (frzIf [4] (mMeth fAppend 2 (aCons (eVar 4) aNil)))
  (frzIf [] (mAug 3 fIadd (eVar 4))))))
    (fun left sl => ∃ j a, j ≤ n ∧ j ≤ (d / L).toNat ∧ left = List.replicate (n - j) L ∧ sl = [.cl (repT n L), .cl (.int d), .ow (repT j L), .cl (.int (L * (j : Int))), a])
    (fun t => t = repT (min n (d / L).toNat) L)
    (by
      rintro x left sl ⟨j, a, h1, h2, h3, rfl⟩
      have hj : j < n := by
        rcases Nat.lt_or_ge j n with h | h
        · exact h
        · rw [show n - j = 0 by omega] at h3; cases h3
      have hx : x = L ∧ left = List.replicate (n - (j + 1)) L := by
        rw [show n - j = (n - (j + 1)) + 1 by omega, List.replicate_succ] at h3
        cases h3
        exact ⟨rfl, rfl⟩
      obtain ⟨rfl, rfl⟩ := hx
      by_cases c : d < x * (j : Int) + x
      · refine ⟨[.cl (repT n x), .cl (.int d), .cl (repT j x), .cl (.int (x * (j : Int))), .cl (.int x)], .inr ⟨repT j x, ?_, ?_⟩⟩
        · simp [c]
        · have : ¬ ((j : Int) + 1 ≤ d / x) := by
            rw [Int.le_ediv_iff_mul_le hL, Int.add_mul, Int.one_mul, Int.mul_comm]
            omega
          rw [show min n (d / x).toNat = j by omega]
      · refine ⟨[.cl (repT n x), .cl (.int d), .ow (repT (j + 1) x), .cl (.int (x * ((j + 1 : Nat) : Int))), .cl (.int x)], .inl ⟨?_, j + 1, _, by omega, ?_, rfl, rfl⟩⟩
        · simp [c, repT, q_app, fIadd, show j < cap by omega, Int.mul_add, List.replicate_succ']
        · have : (j : Int) + 1 ≤ d / x := by
            rw [Int.le_ediv_iff_mul_le hL, Int.add_mul, Int.one_mul, Int.mul_comm]
            omega
          omega) (List.replicate n L) [.cl (repT n L), .cl (.int d), .ow (repT 0 L), .cl (.int 0), .un] ⟨0, .un, by omega, by omega, rfl, by simp⟩
  rcases e with ⟨e, j, a, h1, h2, h3, rfl⟩ | ⟨t, e, rfl⟩
  · have : n - j = 0 := by simpa using (congrArg List.length h3).symm
    have hj : min n (d / L).toNat = j := by omega
    have e' : forGo _ _ (List.map PyData.int (List.replicate n L)) _ none = _ := e
    simp [repT] at e' ⊢
    simp [repT, e', hj]
  · have e' : forGo _ _ (List.map PyData.int (List.replicate n L)) _ none = _ := e
    simp [repT] at e' ⊢
    simp [repT, e']

/-- how many of each length stay, due by due -/
def lad (L : Int) (due : Str → Int) (ns : List Str) : Nat → List Int → List (Int × Nat)
  | _, [] => []
  | h, d :: ds => (d, min (h + (ns.filter fun n => decide (due n = d)).length) (d / L).toNat) :: lad L due ns (min (h + (ns.filter fun n => decide (due n = d)).length) (d / L).toNat) ds
def rowT (L : Int) (p : Int × Nat) : T := .tuple [.int p.1, repT p.2 L]
theorem sortI_rep (n : Nat) (L : Int) : sortI (List.replicate n L) = List.replicate n L := sortI_id (List.pairwise_replicate.mpr (.inr (by omega)))
theorem lad_len {L : Int} {due : Str → Int} {ns : List Str} : ∀ (ds : List Int) (h : Nat), (lad L due ns h ds).length = ds.length
  | [], _ => rfl
  | d :: ds, h => by rw [lad, List.length_cons, lad_len ds, List.length_cons]
theorem dues_len (due : Str → Int) (l : List Str) : (dues due l).length ≤ l.length := by
  unfold dues
  rw [length_sortI]
  have := once_len (l.map due) []
  simpa using this
theorem ladder_of {ns : List Str} {L : Int} {due : Str → Int} (c : Ctx ns L due) :
    d_ladder_of [.cl (dN ns (tk L due))] none = some (.list ((lad L due ns 0 (dues due ns)).map (rowT L)), none) := by
  have cc : cap = 16777216 := rfl
  have few := c.nm.few
  unfold d_ladder_of m_ladder_of
  simp [dues_of' c.nm.few]
  obtain ⟨sl', e, rows, h, a, _, _, h2, _, rfl⟩ := for_rel (e := PyData.int) (tg := .nm 3) (g := none)
    (mb := (mSeq (frzIf [] (mSet' false 2 (eFn d_first_ones (asVal (eBi (bi1 sortedB) (aCons (eOp bAdd (eVar 2) (eLc (iVal (eVar 0)) (.nm 4) (eOp bEq (eOp bIdx (eOp bIdx (eVar 0) (eVar 4)) (eLit (.int 1))) (eVar 3)) (eOp bIdx (eOp bIdx (eVar 0) (eVar 4)) (eLit (.int 0))) [4])) aNil)) (asVal (eVar 3) asNil)))))
  (frzIf [3] (mMeth fAppend 1 (aCons (eTup (aCons (eVar 3) (aCons (eBi (bi1 listB) (aCons (eVar 2) aNil)) aNil))) aNil)))))
    (fun left sl => ∃ (rows : List (Int × Nat)) (h : Nat) (a : Sl), rows.length + left.length ≤ 64 ∧ h ≤ 64 ∧ rows ++ lad L due ns h left = lad L due ns 0 (dues due ns) ∧ (∀ d ∈ left, d < 64) ∧ sl = [.cl (dN ns (tk L due)), .ow (.list (rows.map (rowT L))), .cl (repT h L), a, .un])
    (by
      rintro d left sl ⟨rows, h, a, h1, h2, h3, h4, rfl⟩
      rw [List.length_cons] at h1
      have hd := h4 d (.head _)
      have hf : (ns.filter fun n => decide (due n = d)).length ≤ 64 := Nat.le_trans (List.length_filter_le _ _) (by omega)
      generalize hh : min (h + (ns.filter fun n => decide (due n = d)).length) (d / L).toNat = h'
      have hq : (d / L).toNat ≤ 64 := by
        have : d / L ≤ d.toNat := by
          rcases Int.lt_or_le d 0 with n | n
          · have := Int.ediv_neg_of_neg_of_pos n c.pos; omega
          · have := Int.ediv_le_self L n; omega
        omega
      have ev : ∀ b, lcGo (.nm 4) (eOp bEq (eOp bIdx (eOp bIdx (eVar 0) (eVar 4)) (eLit (.int 1))) (eVar 3)) (eOp bIdx (eOp bIdx (eVar 0) (eVar 4)) (eLit (.int 0))) [.cl (dN ns (tk L due)), b, .cl (repT h L), .cl (.int d), .un] (ns.map .str) none = some (List.replicate (ns.filter fun n => decide (due n = d)).length (.int L), none) := by
        intro b
        rw [lc_f (fun n => decide (due n = d)) fun _ => .int L]
        · simp [List.map_const']
        · intro x hx
          simp [q_idxN hx, tk]
        · intro x hx _
          simp [q_idxN hx, tk]
      generalize hm : (ns.filter fun n => decide (due n = d)).length = m at *
      have e1 : bAdd (repT h L) (.list (List.replicate m (.int L))) = some (repT (h + m) L) := by
        unfold repT
        rw [q_addL (by simp; omega), List.replicate_append_replicate]
      have e2 : sortedB (repT (h + m) L) = some (repT (h + m) L) := by
        unfold repT
        rw [repT_map, q_sortedI (by simp; omega), sortI_rep]
      have e3 := first_ones (n := h + m) (d := d) c.pos (by omega)
      rw [hh] at e3
      have e4 : mkL (List.replicate m (.int L)) = some (.list (List.replicate m (.int L))) := q_mkL (by simp; omega)
      have e5 : listB (repT h' L) = some (repT h' L) := rfl
      refine ⟨[.cl (dN ns (tk L due)), .ow (.list ((rows ++ [(d, h')]).map (rowT L))), .cl (repT h' L), .cl (.int d), .un], ?_, rows ++ [(d, h')], h', _, ?_, ?_, ?_, fun x hx => h4 x (.tail _ hx), rfl⟩
      · simp only [List.map_append, List.map_cons, List.map_nil, rowT]
        simp [ev, e1, e2, e3, e4, e5, q_app, show rows.length < cap by omega]
      · simp; omega
      · omega
      · rw [List.append_assoc]
        have e6 : lad L due ns h (d :: left) = (d, h') :: lad L due ns h' left := by rw [lad, hm, hh]
        rw [e6] at h3
        exact h3) (dues due ns) [.cl (dN ns (tk L due)), .ow (.list []), .cl (repT 0 L), .un, .un] ⟨[], 0, .un, by have := dues_len due ns; simp; omega, by omega, rfl, fun d hd => by obtain ⟨x, hx, rfl⟩ := mem_dues.mp hd; exact c.top x hx, rfl⟩
  have h2' : rows = lad L due ns 0 (dues due ns) := by simpa [lad] using h2
  have e' : forGo _ _ (List.map PyData.int (dues due ns)) [.cl (dN ns (tk L due)), .ow (.list []), .cl (.list []), .un, .un] none = _ := e
  rw [e', h2']
  simp
end Lw
/-! K5: a ladder's counts are those of best lots -/
namespace Lw
open PySem L2 VM M1

theorem Dd_le {L : Int} {due : Str → Int} (h : 0 < L) {x y : Str} (k : due x ≤ due y) : Dd L due x ≤ Dd L due y := by
  have := Int.ediv_le_ediv h k
  unfold Dd
  omega
theorem lad_best {ns : List Str} {L : Int} {due : Str → Int} (c : Ctx ns L due) : ∀ (ds : List Int) (h : Nat) (xs k : List Str), Kept (Dd L due) xs k → k.Nodup → k.length = h → xs.Nodup → xs.Pairwise (fun a b => Dd L due b ≤ Dd L due a) →
    (∀ z ∈ xs, z ∈ ns ∧ ∀ d ∈ ds, due z < d) → ds.Pairwise (· < ·) → (∀ n ∈ ns, n ∈ xs ∨ due n ∈ ds) → (∀ d ∈ ds, h ≤ (d / L).toNat) →
    ∀ p ∈ lad L due ns h ds, ∃ b, Best (Dd L due) (ns.filter fun n => decide (due n ≤ p.1)) b ∧ b.length = p.2
  | [], _, _, _, _, _, _, _, _, _, _, _, _ => by intro p hp; cases hp
  | d :: ds, h, xs, k, hk, kn, kl, xn, xp, xm, dp, al, hl => by
    obtain ⟨dp1, dp2⟩ := List.pairwise_cons.mp dp
    obtain ⟨ys, hys⟩ : ∃ ys, ys = ns.filter fun n => decide (due n = d) := ⟨_, rfl⟩
    have ym : ∀ z, z ∈ ys ↔ z ∈ ns ∧ due z = d := fun z => by rw [hys, List.mem_filter, decide_eq_true_eq]
    have yD : ∀ y ∈ ys, Dd L due y = (d / L).toNat := fun y hy => by unfold Dd; rw [((ym y).mp hy).2]
    have nd : (ys ++ xs).Nodup := by
      refine List.nodup_append.mpr ⟨hys ▸ c.nm.nd.sublist List.filter_sublist, xn, ?_⟩
      rintro a ha b hb rfl
      have h1 := ((ym a).mp ha).2
      have h2 := (xm a hb).2 d (.head _)
      omega
    obtain ⟨k', q1, q2, q3⟩ := kept_same hk (by rw [kl]; exact hl d (.head _)) kn ys yD nd
    have xp' : (ys ++ xs).Pairwise (fun a b => Dd L due b ≤ Dd L due a) := by
      refine List.pairwise_append.mpr ⟨?_, xp, ?_⟩
      · refine List.Pairwise.imp_of_mem (R := fun _ _ => True) (fun {a b} ha hb _ => ?_) (List.pairwise_of_forall (fun _ _ => trivial))
        rw [yD a ha, yD b hb]
        exact Nat.le_refl _
      · intro a ha b hb
        have h1 := ((ym a).mp ha).2
        have h2 := (xm b hb).2 d (.head _)
        exact Dd_le c.pos (by omega)
    have xm' : ∀ z ∈ ys ++ xs, z ∈ ns ∧ ∀ d' ∈ ds, due z < d' := by
      intro z hz
      rcases List.mem_append.mp hz with hz | hz
      · obtain ⟨a, b⟩ := (ym z).mp hz
        exact ⟨a, fun d' hd' => by have := dp1 d' hd'; omega⟩
      · exact ⟨(xm z hz).1, fun d' hd' => (xm z hz).2 d' (.tail _ hd')⟩
    have al' : ∀ n ∈ ns, n ∈ ys ++ xs ∨ due n ∈ ds := by
      intro n hn
      rcases al n hn with a | a
      · exact .inl (List.mem_append_right _ a)
      · rcases List.mem_cons.mp a with a | a
        · exact .inl (List.mem_append_left _ ((ym n).mpr ⟨hn, a⟩))
        · exact .inr a
    intro p hp
    have e : lad L due ns h (d :: ds) = (d, min (h + ys.length) (d / L).toNat) :: lad L due ns (min (h + ys.length) (d / L).toNat) ds := by rw [lad, ← hys]
    rw [e] at hp
    rw [kl] at q2
    rcases List.mem_cons.mp hp with rfl | hp
    · refine ⟨k', best_mem (xs := ys ++ xs) (fun z => ?_) (kept_best q1 xp' q3), q2⟩
      rw [List.mem_filter, decide_eq_true_eq]
      constructor
      · intro hz
        refine ⟨(xm' z hz).1, ?_⟩
        rcases List.mem_append.mp hz with hz | hz
        · have := ((ym z).mp hz).2; dsimp only; omega
        · have := (xm z hz).2 d (.head _); dsimp only; omega
      · rintro ⟨hz, hd⟩
        dsimp only at hd
        rcases al' z hz with a | a
        · exact a
        · have := dp1 _ a; omega
    · refine lad_best c ds _ (ys ++ xs) k' q1 q3 q2 nd xp' xm' dp2 al' (fun d' hd' => ?_) p hp
      have := Int.ediv_le_ediv c.pos (Int.le_of_lt (dp1 d' hd'))
      omega
theorem lad_all {ns : List Str} {L : Int} {due : Str → Int} (c : Ctx ns L due) : ∀ p ∈ lad L due ns 0 (dues due ns), ∃ b, Best (Dd L due) (ns.filter fun n => decide (due n ≤ p.1)) b ∧ b.length = p.2 :=
  lad_best c _ 0 [] [] .nil .nil rfl .nil .nil (by simp) (dues_lt due ns) (fun n hn => .inr (mem_dues.mpr ⟨n, hn, rfl⟩)) (by simp)
theorem lad_fst {L : Int} {due : Str → Int} {ns : List Str} : ∀ (ds : List Int) (h : Nat), (lad L due ns h ds).map (·.1) = ds
  | [], _ => rfl
  | d :: ds, h => by rw [lad, List.map_cons, lad_fst ds]
end Lw
/-! K6: works of one hour by nearest due -/
namespace Lw
open PySem L2 VM M1

def Ee (L : Int) (due : Str → Int) (n : Str) : Int := due n / L
def rbd : Nat → List Pr → List (Nat × Str) × Bool
  | _, [] => ([], false)
  | i, p :: r => if p.1 ≤ (i : Int) then ([(i, p.2)], true) else ((i, p.2) :: (rbd (i + 1) r).1, (rbd (i + 1) r).2)
def hrT (q : Nat × Str) : T := .tuple [.int (q.1 : Int), .str q.2]
def hourT : Nat → T
  | 0 => .none
  | i + 1 => .int (i : Nat)
theorem hour_ev (i : Nat) (u v w x b : Sl) : frzIf [5] (mSet' false 4 (eIf (eOp bIs (eVar 4) (eLit .none)) (eVar 5) (eBi (bi2 max2B) (aCons (eVar 5) (aCons (eOp bAdd (eVar 4) (eLit (.int 1))) aNil))))) [u, v, w, x, .cl (hourT i), .cl (.int 0), b, .un] none = some (.nx, [u, v, w, x, .cl (.int (i : Int)), .cl (.int 0), b, .un], none) := by
  cases i with
  | zero => simp [hourT]
  | succ j =>
    simp [hourT]
    omega
theorem rows_by_due {ns : List Str} {L : Int} {due : Str → Int} (c : Ctx ns L due) {l : List Str} (hl : Lot ns l) :
    d_rows_by_due [.cl (dN ns (un L due)), .cl (.list (l.map .str))] none = some (.tuple [.list ((rbd 0 (sortedPairs (Ee L due) l)).1.map hrT), .bool (rbd 0 (sortedPairs (Ee L due) l)).2], none) := by
  have cc : cap = 16777216 := rfl
  have NL := hl.names c.nm
  have few := NL.few
  unfold d_rows_by_due m_rows_by_due
  simp [q_sortedS, NL.ok, NL.le]
  obtain ⟨sl', e⟩ := while_rel (g := none) (c := (eOp bNe (eVar 2) (eLst aNil)))
    (mb := (mSeq (frzIf [] (mSet' false 5 (eBi (bi1 minB) (aCons (eLc (iVal (eVar 2)) (.nm 7) (eLit (.bool true)) (eOp bIdx (eOp bIdx (eVar 0) (eVar 7)) (eLit (.int 0))) [7]) aNil))))
  (mSeq (frzIf [5] (mSet' false 4 (eIf (eOp bIs (eVar 4) (eLit .none)) (eVar 5) (eBi (bi2 max2B) (aCons (eVar 5) (aCons (eOp bAdd (eVar 4) (eLit (.int 1))) aNil))))))
  (mSeq (frzIf [7] (mSet' false 6 (eBi (bi1 minB) (aCons (eLc (iVal (eVar 2)) (.nm 7) (eOp bLe (eOp bIdx (eOp bIdx (eVar 0) (eVar 7)) (eLit (.int 0))) (eVar 4)) (eTup (aCons (eOp bIdx (eOp bIdx (eVar 0) (eVar 7)) (eLit (.int 1))) (aCons (eVar 7) aNil))) [7]) aNil))))
  (mSeq (frzIf [4] (mMeth fAppend 3 (aCons (eTup (aCons (eVar 4) (aCons (eOp bIdx (eVar 6) (eLit (.int 1))) aNil))) aNil)))
  (mSeq (frzIf [] (mIf (eOp bLe (eOp bIdx (eVar 6) (eLit (.int 0))) (eVar 4))
  (frzIf [3] (mRet (eTup (aCons (eVar 3) (aCons (eLit (.bool true)) aNil)))))
  mNx))
  (frzIf [7] (mSet' false 2 (eLc (iVal (eVar 2)) (.nm 7) (eOp bNe (eVar 7) (eOp bIdx (eVar 6) (eLit (.int 1)))) (eVar 7) [7])))))))))
    (fun m sl => ∃ (lf : List Str) (rp : List Pr) (done : List (Nat × Str)) (a b : Sl), m = rp.length ∧ lf.Perm (rp.map (·.2)) ∧ rp.Pairwise (fun a b => ple a b = true) ∧ (∀ p ∈ rp, p.1 = Ee L due p.2 ∧ p.2 ∈ l) ∧ lf.Nodup ∧ done.length + rp.length = l.length ∧ rbd 0 (sortedPairs (Ee L due) l) = (done ++ (rbd done.length rp).1, (rbd done.length rp).2) ∧
      sl = [.cl (dN ns (un L due)), .cl (.list (l.map .str)), .cl (.list (lf.map .str)), .ow (.list (done.map hrT)), .cl (hourT done.length), a, b, .un])
    (fun t => t = .tuple [.list ((rbd 0 (sortedPairs (Ee L due) l)).1.map hrT), .bool (rbd 0 (sortedPairs (Ee L due) l)).2])
    (fun sl => ∃ (lf : T) (a b h : Sl), (rbd 0 (sortedPairs (Ee L due) l)).2 = false ∧ sl = [.cl (dN ns (un L due)), .cl (.list (l.map .str)), .cl lf, .ow (.list ((rbd 0 (sortedPairs (Ee L due) l)).1.map hrT)), h, a, b, .un])
    (by
      rintro m sl ⟨lf, rp, done, a, b, rfl, p1, p2, p3, p4, p5, p6, rfl⟩
      have lsub : ∀ x ∈ lf, x ∈ l := fun x hx => by
        obtain ⟨q, hq, rfl⟩ := List.mem_map.mp (p1.mem_iff.mp hx)
        exact (p3 q hq).2
      have NF : Names lf := NL.sub lsub p4
      cases rp with
      | nil =>
        have : lf = [] := List.length_eq_zero_iff.mp (by rw [p1.length_eq]; rfl)
        subst this
        refine .inl ⟨false, by simp, ?_⟩
        have e1 : rbd 0 (sortedPairs (Ee L due) l) = (done, false) := by rw [p6]; simp [rbd]
        rw [e1]
        exact ⟨.list [], a, b, _, rfl, rfl⟩
      | cons p rp =>
        obtain ⟨pe, pl⟩ := p3 p (.head _)
        have hpl : p.2 ∈ lf := p1.mem_iff.mpr (by simp)
        have ne : lf ≠ [] := List.ne_nil_of_mem hpl
        have nsub : ∀ x ∈ lf, x ∈ ns := fun x hx => hl.sub x (lsub x hx)
        have ev1 : ∀ h a b, lcGo (.nm 7) (eLit (.bool true)) (eOp bIdx (eOp bIdx (eVar 0) (eVar 7)) (eLit (.int 0))) [.cl (dN ns (un L due)), .cl (.list (l.map .str)), .cl (.list (lf.map .str)), .ow (.list (done.map hrT)), h, a, b, .un] (lf.map .str) none = some (lf.map (fun _ => .int 0), none) := by
          intro h a b
          rw [lc_a fun _ => .int 0]
          intro x hx
          simp [q_idxN (nsub x hx), Lw.un]
        obtain ⟨_, _, emin1, _⟩ := q_minI' (l := lf) (fun _ => 0) ne
        have ev2 : ∀ a b, lcGo (.nm 7) (eOp bLe (eOp bIdx (eOp bIdx (eVar 0) (eVar 7)) (eLit (.int 0))) (eVar 4)) (eTup (aCons (eOp bIdx (eOp bIdx (eVar 0) (eVar 7)) (eLit (.int 1))) (aCons (eVar 7) aNil))) [.cl (dN ns (un L due)), .cl (.list (l.map .str)), .cl (.list (lf.map .str)), .ow (.list (done.map hrT)), .cl (.int (done.length : Int)), a, b, .un] (lf.map .str) none = some (lf.map (fun x => .tuple [.int (Ee L due x), .str x]), none) := by
          intro a b
          rw [lc_f (fun _ => true) fun x => .tuple [.int (Ee L due x), .str x]]
          · rw [List.filter_eq_self.mpr (fun _ _ => rfl)]
          · intro x hx
            simp [q_idxN (nsub x hx), Lw.un]
          · intro x hx _
            simp [q_idxN (nsub x hx), Lw.un, Ee]
        obtain ⟨m, hm, emin2, least⟩ := q_minP' (l := lf) (Ee L due) id (fun x hx => NF.ok x hx) ne
        have hmp : m = p.2 := by
          have h1 := least p.2 hpl
          obtain ⟨q, hq, e⟩ := List.mem_map.mp (p1.mem_iff.mp hm)
          have h2 : ple p q = true := by
            rcases List.mem_cons.mp hq with rfl | hq
            · exact (ple_total _ _).elim id id
            · exact (List.pairwise_cons.mp p2).1 q hq
          have e3 : q = (Ee L due m, m) := by
            rw [← e, ← (p3 q hq).1]
          have e4 : p = (Ee L due p.2, p.2) := by rw [← pe]
          rw [e3] at h2
          have h1 : ple (Ee L due m, m) p = true := by rw [e4]; exact h1
          have := ple_anti h1 h2
          rw [← this]
        subst hmp
        have emin2 : minB (.list (lf.map fun x => .tuple [.int (Ee L due x), .str x])) = some (.tuple [.int (Ee L due p.2), .str p.2]) := emin2
        have emin1 : minB (.list (lf.map fun _ => .int 0)) = some (.int 0) := emin1
        have ev3 : ∀ rows h a, lcGo (.nm 7) (eOp bNe (eVar 7) (eOp bIdx (eVar 6) (eLit (.int 1)))) (eVar 7) [.cl (dN ns (un L due)), .cl (.list (l.map .str)), .cl (.list (lf.map .str)), rows, h, a, .cl (.tuple [.int (Ee L due p.2), .str p.2]), .un] (lf.map .str) none = some ((lf.filter fun x => !decide (x = p.2)).map .str, none) := by
          intro rows h a
          rw [lc_f (fun x => !decide (x = p.2)) PyData.str]
          · intro x hx
            simp [bNe_str (NF.ok x hx) (NF.ok _ hpl)]
          · intro x hx _
            simp
        have dc : done.length < cap := by simp at p5; omega
        have cnd : bNe (.list (lf.map PyData.str)) (.list []) = some (.bool true) := by rw [q_neS0 NF.ok]; simp [ne]
        have er : (done.map hrT) ++ [.tuple [.int (done.length : Int), .str p.2]] = (done ++ [(done.length, p.2)]).map hrT := by simp [hrT]
        refine .inr ⟨false, by simp [cnd], ?_⟩
        by_cases hlate : Ee L due p.2 ≤ (done.length : Int)
        · refine .inr ⟨.tuple [.list ((done ++ [(done.length, p.2)]).map hrT), .bool true], [.cl (dN ns (un L due)), .cl (.list (l.map .str)), .cl (.list (lf.map .str)), .cl (.list ((done ++ [(done.length, p.2)]).map hrT)), .cl (.int (done.length : Int)), .cl (.int 0), .cl (.tuple [.int (Ee L due p.2), .str p.2]), .un], ?_, ?_⟩
          · have s1 : frzIf [] (mSet' false 5 (eBi (bi1 minB) (aCons (eLc (iVal (eVar 2)) (.nm 7) (eLit (.bool true)) (eOp bIdx (eOp bIdx (eVar 0) (eVar 7)) (eLit (.int 0))) [7]) aNil))) [.cl (dN ns (un L due)), .cl (.list (l.map .str)), .cl (.list (lf.map .str)), .ow (.list (done.map hrT)), .cl (hourT done.length), a, b, .un] none = some (.nx, [.cl (dN ns (un L due)), .cl (.list (l.map .str)), .cl (.list (lf.map .str)), .ow (.list (done.map hrT)), .cl (hourT done.length), .cl (.int 0), b, .un], none) := by
              simp [ev1, q_mkM, NF.le, emin1]
            rw [mSeq_nx s1, mSeq_nx (hour_ev _ _ _ _ _ _)]
            simp [ev2, q_mkM, NF.le, emin2, q_app, dc, hlate, hrT]
          · rw [p6]
            have : rbd done.length (p :: rp) = ([(done.length, p.2)], true) := by rw [rbd, if_pos (by rw [pe]; exact hlate)]
            rw [this]
        · refine .inl ⟨rp.length, [.cl (dN ns (un L due)), .cl (.list (l.map .str)), .cl (.list ((lf.filter fun x => !decide (x = p.2)).map .str)), .ow (.list ((done ++ [(done.length, p.2)]).map hrT)), .cl (.int (done.length : Int)), .cl (.int 0), .cl (.tuple [.int (Ee L due p.2), .str p.2]), .un], by simp, ?_, lf.filter fun x => !decide (x = p.2), rp, done ++ [(done.length, p.2)], .cl (.int 0), .cl (.tuple [.int (Ee L due p.2), .str p.2]), rfl, ?_, (List.pairwise_cons.mp p2).2, fun q hq => p3 q (.tail _ hq), p4.sublist List.filter_sublist, by simp at p5 ⊢; omega, ?_, by simp [hourT]⟩
          · have s1 : frzIf [] (mSet' false 5 (eBi (bi1 minB) (aCons (eLc (iVal (eVar 2)) (.nm 7) (eLit (.bool true)) (eOp bIdx (eOp bIdx (eVar 0) (eVar 7)) (eLit (.int 0))) [7]) aNil))) [.cl (dN ns (un L due)), .cl (.list (l.map .str)), .cl (.list (lf.map .str)), .ow (.list (done.map hrT)), .cl (hourT done.length), a, b, .un] none = some (.nx, [.cl (dN ns (un L due)), .cl (.list (l.map .str)), .cl (.list (lf.map .str)), .ow (.list (done.map hrT)), .cl (hourT done.length), .cl (.int 0), b, .un], none) := by
              simp [ev1, q_mkM, NF.le, emin1]
            rw [mSeq_nx s1, mSeq_nx (hour_ev _ _ _ _ _ _)]
            simp [ev2, q_mkM, NF.le, emin2, q_app, dc, hlate, ev3, q_mkF]
            simp [hrT]
          · have h1 := p1.filter fun x => !decide (x = p.2)
            have nd : ((p :: rp).map (·.2)).Nodup := p1.nodup_iff.mp p4
            rw [List.map_cons, List.nodup_cons] at nd
            rw [List.map_cons, List.filter_cons_of_neg (by simp)] at h1
            have e2 : (rp.map (·.2)).filter (fun x => !decide (x = p.2)) = rp.map (·.2) := List.filter_eq_self.mpr (fun y hy => by
              have : y ≠ p.2 := fun z => nd.1 (z ▸ hy)
              simp [this])
            rw [e2] at h1
            exact h1
          · rw [p6]
            have e1 : rbd done.length (p :: rp) = ((done.length, p.2) :: (rbd (done.length + 1) rp).1, (rbd (done.length + 1) rp).2) := by rw [rbd, if_neg (by rw [pe]; exact hlate)]
            rw [e1]
            simp) fuelW (sortedPairs (Ee L due) l).length
    [.cl (dN ns (un L due)), .cl (.list (l.map .str)), .cl (.list ((sortS l).map .str)), .ow (.list []), .cl .none, .un, .un, .un]
    (by unfold fuelW sortedPairs; rw [length_sortP, List.length_map]; omega)
    ⟨sortS l, sortedPairs (Ee L due) l, [], .un, .un, rfl, (sortS_perm l).trans (sp_snd _ l).symm, sortP_pw _, fun p hp => sp_fst hp, nodup_sortS.mpr hl.nd, by unfold sortedPairs; simp, by simp, rfl⟩
  rcases e with ⟨e, lf, a, b, h, z, rfl⟩ | ⟨t, e, rfl⟩
  · rw [e]
    simp [z]
  · rw [e]
    simp
end Lw
/-! K7: what fits, placings -/
namespace Lw
open PySem L2 VM M1

theorem rbd_row : ∀ (sp : List Pr) (i : Nat), (rbd i sp).2 = false ↔ Row i (sp.map fun p => p.1.toNat)
  | [], i => by simp [rbd, Row]
  | p :: sp, i => by
    rw [rbd, List.map_cons, Row, ← rbd_row sp (i + 1)]
    split
    · rename_i h
      constructor
      · intro z; cases z
      · intro z; omega
    · rename_i h
      constructor
      · intro z; exact ⟨by omega, z⟩
      · intro z; exact z.2
theorem rbd_rows : ∀ (sp : List Pr) (i : Nat), (rbd i sp).2 = false → (rbd i sp).1 = sp.zipIdx.map fun p => (i + p.2, p.1.2)
  | [], i, _ => rfl
  | p :: sp, i, h => by
    rw [rbd] at h ⊢
    split at h
    · cases h
    · rename_i c
      rw [if_neg c]
      have ih := rbd_rows sp (i + 1) h
      rw [List.zipIdx_cons', List.map_cons, List.map_map]
      dsimp only
      rw [ih]
      congr 1
      refine List.map_congr_left fun q _ => ?_
      simp only [Function.comp, Prod.map]
      congr 1
      omega
theorem rbd_names : ∀ (sp : List Pr) (i : Nat), ∀ q ∈ (rbd i sp).1, q.2 ∈ sp.map (·.2)
  | [], i => by intro q hq; simp [rbd] at hq
  | p :: sp, i => by
    intro q hq
    rw [rbd] at hq
    split at hq
    · simp at hq; subst hq; simp
    · rcases List.mem_cons.mp hq with rfl | hq
      · simp
      · exact List.mem_cons_of_mem _ (rbd_names sp (i + 1) q hq)
theorem rbd_ne : ∀ (sp : List Pr) (i : Nat), (rbd i sp).2 = true → (rbd i sp).1 ≠ []
  | [], i => by intro h; cases h
  | p :: sp, i => by
    intro h
    rw [rbd]
    split <;> simp
def okU (L : Int) (due : Str → Int) (l : List Str) : Bool := !(rbd 0 (sortedPairs (Ee L due) l)).2
theorem okU_iff (L : Int) (due : Str → Int) (l : List Str) : okU L due l = true ↔ Fit (Dd L due) l := by
  unfold okU
  rw [Bool.not_eq_true', rbd_row]
  refine row_of_fit ?_ ?_
  · have h1 := (sortP_perm (l.map fun n => (Ee L due n, n))).map fun p => p.1.toNat
    rw [List.map_map] at h1
    exact h1
  · rw [List.pairwise_map]
    refine (sortP_pw _).imp fun {a b} h => ?_
    have := (ple_iff a b).mp h
    omega
theorem okU_fit {L : Int} {due : Str → Int} {l k : List Str} (h : Fit (Dd L due) l ↔ Fit (Dd L due) k) : okU L due l = okU L due k := by
  rw [Bool.eq_iff_iff, okU_iff, okU_iff, h]
theorem okU_perm {L : Int} {due : Str → Int} {l k : List Str} (p : l.Perm k) : okU L due l = okU L due k := okU_fit ⟨Fit.perm p.symm, Fit.perm p⟩
theorem does_fit {ns : List Str} {L : Int} {due : Str → Int} (c : Ctx ns L due) {l : List Str} (hl : Lot ns l) :
    d_does_fit [.cl (dN ns (un L due)), .cl (.list (l.map .str))] none = some (.bool (okU L due l), none) := by
  unfold d_does_fit m_does_fit
  simp [rows_by_due c hl, okU]
theorem Ctx.sort {ns : List Str} {L : Int} {due : Str → Int} (c : Ctx ns L due) : Ctx (sortS ns) L due := ⟨c.nm.sort, c.pos, c.sm, fun n hn => c.top n (mem_sortS.mp hn), fun n hn => c.bot n (mem_sortS.mp hn), by rw [length_sortS]; exact c.nine⟩
theorem Lot.sort {ns l : List Str} (h : Lot ns l) : Lot (sortS ns) (sortS l) := ⟨fun x hx => mem_sortS.mpr (h.sub x (mem_sortS.mp hx)), nodup_sortS.mpr h.nd⟩
theorem unit_fits {ns : List Str} {L : Int} {due : Str → Int} (c : Ctx ns L due) {l : List Str} (hl : Lot ns l) :
    d_unit_fits [.cl (dN ns (un L due)), .cl (.list (l.map .str))] none = some (.bool (okU L due l), none) := by
  unfold d_unit_fits m_unit_fits
  simp [checked_units_lot c.nm hl, does_fit c.sort hl.sort, okU_perm (sortS_perm l)]
theorem checked_fitting {ns : List Str} {L : Int} {due : Str → Int} (c : Ctx ns L due) {l : List Str} (hl : Lot ns l) (hf : okU L due l = true) :
    d_checked_fitting [.cl (dN ns (un L due)), .cl (.list (l.map .str))] none = some (.tuple [dN (sortS ns) (un L due), .list ((sortS l).map .str)], none) := by
  unfold d_checked_fitting m_checked_fitting
  simp [checked_units_lot c.nm hl, does_fit c.sort hl.sort, okU_perm (sortS_perm l), hf]
theorem unit_adding {ns : List Str} {L : Int} {due : Str → Int} (c : Ctx ns L due) {l : List Str} (hl : Lot ns l) (hf : okU L due l = true) :
    d_unit_adding [.cl (dN ns (un L due)), .cl (.list (l.map .str))] none = some (.list (((sortS ns).filter fun n => !decide (n ∈ l) && okU L due (l ++ [n])).map .str), none) := by
  have NL := hl.names c.nm
  unfold d_unit_adding m_unit_adding
  simp [checked_fitting c hl hf]
  rw [lc_f (fun n => !decide (n ∈ l) && okU L due (l ++ [n])) PyData.str]
  · simp [q_mkF, c.nm.le]
  · intro x hx
    have hx' := mem_sortS.mp hx
    have e1 := q_notInS NL.sort.ok (c.nm.ok x hx')
    rw [show decide (x ∈ sortS l) = decide (x ∈ l) by simp] at e1
    by_cases hm : x ∈ l
    · simp [e1, hm]
    · have ha : Lot (sortS ns) (sortS l ++ [x]) := ⟨fun y hy => by
        rcases List.mem_append.mp hy with h | h
        · exact hl.sort.sub y h
        · rw [List.mem_singleton.mp h]; exact hx, List.nodup_append.mpr ⟨nodup_sortS.mpr hl.nd, by simp, by rintro a ha b hb rfl; simp at hb; subst hb; exact hm (mem_sortS.mp ha)⟩⟩
      have e2 := does_fit c.sort ha
      have e3 : okU L due (sortS l ++ [x]) = okU L due (l ++ [x]) := okU_perm ((sortS_perm l).append_right _)
      have e4 : bAdd (.list ((sortS l).map .str)) (.list [.str x]) = some (.list ((sortS l ++ [x]).map .str)) := by
        have := (ha.names c.nm.sort).le
        rw [q_addL (by simpa using this)]
        simp
      rw [List.map_append] at e2 e4
      rw [e3] at e2
      simp [e1, hm, e4]
      simp at e2
      simp [e2]
  · intro x hx _
    simp
/-- the hour of a name by nearest dues -/
def hourOf (L : Int) (due : Str → Int) (l : List Str) (n : Str) : Nat := ((sortedPairs (Ee L due) l).map (·.2)).idxOf n
theorem rows_fit {L : Int} {due : Str → Int} {l : List Str} (nd : l.Nodup) (hf : okU L due l = true) :
    (rbd 0 (sortedPairs (Ee L due) l)).1 = ((sortedPairs (Ee L due) l).map (·.2)).map fun n => (hourOf L due l n, n) := by
  unfold okU at hf
  rw [rbd_rows _ 0 (by simpa using hf)]
  have ndp : ((sortedPairs (Ee L due) l).map (·.2)).Nodup := (sp_snd _ l).nodup_iff.mpr nd
  unfold hourOf
  apply List.ext_getElem
  · simp
  · intro i h1 h2
    simp only [List.getElem_map, List.getElem_zipIdx]
    have hi : i < ((sortedPairs (Ee L due) l).map (·.2)).length := by simpa using h2
    have := ndp.idxOf_getElem i hi
    rw [List.getElem_map] at this
    rw [this]
    simp
theorem placing_by {ns : List Str} {L : Int} {due : Str → Int} (c : Ctx ns L due) {l : List Str} (hl : Lot ns l) (hf : okU L due l = true) :
    d_placing_by [.cl (dN ns (un L due)), .cl (.list (l.map .str))] none = some (dN (sortS l) (fun n => .int (hourOf L due l n : Int)), none) := by
  have NL := hl.names c.nm
  have ndp : ((sortedPairs (Ee L due) l).map (·.2)).Nodup := (sp_snd _ l).nodup_iff.mpr hl.nd
  have hlen : ((sortedPairs (Ee L due) l).map (·.2)).length = l.length := (sp_snd _ l).length_eq
  have hb : (rbd 0 (sortedPairs (Ee L due) l)).2 = false := by unfold okU at hf; simpa using hf
  unfold d_placing_by m_placing_by
  simp [rows_by_due c hl, hb, rows_fit hl.nd hf]
  generalize hS : (sortedPairs (Ee L due) l).map (·.2) = S at *
  have pS : S.Perm l := hS ▸ sp_snd _ l
  have hF : List.map (hrT ∘ (fun n => (hourOf L due l n, n)) ∘ fun x => x.snd) (sortedPairs (Ee L due) l) = S.map fun n => hrT (hourOf L due l n, n) := by rw [← hS, List.map_map]; rfl
  rw [hF]
  have hd := dc_of (e := fun n => hrT (hourOf L due l n, n)) (fun _ => true) id (fun n => .int (hourOf L due l n : Int)) (tg := .tp [.nm 5, .nm 6]) (mt := eLit (.bool true)) (mk := eVar 6) (me := eVar 5)
    (sl := [.cl (dN ns (un L due)), .cl (.list (l.map .str)), .cl (.list (S.map fun n => hrT (hourOf L due l n, n))), .cl (.bool false), .un, .un, .un]) (g := none) (xs := S) (ds := [])
    (fun n hn => ⟨[.cl (dN ns (un L due)), .cl (.list (l.map .str)), .cl (.list (S.map fun n => hrT (hourOf L due l n, n))), .cl (.bool false), .un, .cl (.int (hourOf L due l n : Int)), .cl (.str n)], by simp [hrT], rfl, fun _ => ⟨rfl, rfl⟩⟩)
    (by rw [List.filter_eq_self.mpr (fun _ _ => rfl), List.map_id]; exact ndp) (by simp) (by have := NL.le; simp; omega)
  rw [List.filter_eq_self.mpr (fun _ _ => rfl)] at hd
  rw [hd]
  have hD : PyData.dict ([] ++ S.map fun x => (PyData.str (id x), .int (hourOf L due l x : Int))) = dN S (fun n => .int (hourOf L due l n : Int)) := rfl
  simp only [Option.map_some, Option.bind_some, hD]
  have hSS : sortS S = sortS l := sortS_eq pS
  simp [q_sortedN (show S.length < 64 by rw [hlen]; exact NL.few), hSS]
  rw [dc_names (F := fun n => .int (hourOf L due l n : Int)) _ NL.sort.nd NL.sort.le]
  · simp [dN]
  · intro x hx
    have hx' : x ∈ S := pS.mem_iff.mpr (mem_sortS.mp hx)
    simp [q_idxN hx']
theorem stretch_of {ns : List Str} {L : Int} {due : Str → Int} {rows : List (Nat × Str)} (ne : rows ≠ []) (hs : ∀ q ∈ rows, q.2 ∈ ns) :
    ∃ a b : Int, d_stretch_of [.cl (dN ns (un L due)), .cl (.list (rows.map hrT))] none = some (.tuple [.int a, .int b], none) := by
  obtain ⟨rs, q, rfl⟩ : ∃ rs q, rows = rs ++ [q] := ⟨rows.dropLast, rows.getLast ne, (List.dropLast_concat_getLast ne).symm⟩
  have hq := hs q (by simp)
  unfold d_stretch_of m_stretch_of
  simp [q_last, hrT, q_idxN hq, un, cutL_init]
  obtain ⟨sl', e, a, b, d, f, rfl⟩ := for_ex (e := hrT) (tg := .tp [.nm 5, .nm 6]) (g := none)
    (mb := (mSeq (frzIf [] (mIf (eOr (eOp bNe (eVar 5) (eOp bSub (eVar 4) (eLit (.int 1)))) (eOp bGt (eOp bIdx (eOp bIdx (eVar 0) (eVar 6)) (eLit (.int 1))) (eVar 3)))
  mBk
  mNx))
  (frzIf [5] (mSet' false 4 (eVar 5)))))
    (fun sl => ∃ (a b : Sl) (d : Int) (f : Int), sl = [.cl (dN ns (un L due)), .cl (.list (rs.map hrT ++ [.tuple [.int (q.1 : Int), .str q.2]])), .cl (.int (q.1 : Int)), .cl (.int (due q.2 / L)), .cl (.int f), a, b]) (xs := rs.reverse) (sl := [.cl (dN ns (un L due)), .cl (.list (rs.map hrT ++ [.tuple [.int (q.1 : Int), .str q.2]])), .cl (.int (q.1 : Int)), .cl (.int (due q.2 / L)), .cl (.int (q.1 : Int)), .un, .un]) (by
      rintro ⟨h, n⟩ hx sl ⟨a, b, d, f, rfl⟩
      have hn := hs (h, n) (by simp at hx; simp [hx])
      dsimp only at hn
      by_cases c1 : (h : Int) = f - 1
      · by_cases c2 : due q.2 / L < due n / L
        · exact ⟨.bk, [.cl (dN ns (un L due)), .cl (.list (rs.map hrT ++ [.tuple [.int (q.1 : Int), .str q.2]])), .cl (.int (q.1 : Int)), .cl (.int (due q.2 / L)), .cl (.int f), .cl (.int (h : Int)), .cl (.str n)], by simp [hrT, c1, c2, q_idxN hn, un], .inr rfl, _, _, 0, _, rfl⟩
        · exact ⟨.nx, [.cl (dN ns (un L due)), .cl (.list (rs.map hrT ++ [.tuple [.int (q.1 : Int), .str q.2]])), .cl (.int (q.1 : Int)), .cl (.int (due q.2 / L)), .cl (.int (h : Int)), .cl (.int (h : Int)), .cl (.str n)], by simp [hrT, c1, c2, q_idxN hn, un], .inl rfl, _, _, 0, _, rfl⟩
      · exact ⟨.bk, [.cl (dN ns (un L due)), .cl (.list (rs.map hrT ++ [.tuple [.int (q.1 : Int), .str q.2]])), .cl (.int (q.1 : Int)), .cl (.int (due q.2 / L)), .cl (.int f), .cl (.int (h : Int)), .cl (.str n)], by simp [hrT, c1], .inr rfl, _, _, 0, _, rfl⟩) ⟨_, _, 0, _, rfl⟩
  refine ⟨f, due q.2 / L, ?_⟩
  rw [List.map_reverse] at e
  rw [e]
  simp
theorem placing_or_stretch {ns : List Str} {L : Int} {due : Str → Int} (c : Ctx ns L due) {l : List Str} (hl : Lot ns l) :
    ∃ rest, d_placing_or_stretch [.cl (dN ns (un L due)), .cl (.list (l.map .str))] none = some (.tuple (.str (if okU L due l = true then "placing" else "stretch") :: rest), none) := by
  have NL := hl.names c.nm
  have hp := okU_perm (L := L) (due := due) (sortS_perm l)
  unfold d_placing_or_stretch m_placing_or_stretch
  by_cases hf : okU L due l = true
  · have hb : (rbd 0 (sortedPairs (Ee L due) (sortS l))).2 = false := by unfold okU at hp hf; rw [hf] at hp; simpa using hp
    simp [checked_units_lot c.nm hl, rows_by_due c.sort hl.sort, hb, placing_by c.sort hl.sort (hp.trans hf), hf]
  · have hb : (rbd 0 (sortedPairs (Ee L due) (sortS l))).2 = true := by
      unfold okU at hp hf
      rw [Bool.not_eq_true] at hf
      rw [hf] at hp
      simpa using hp
    obtain ⟨a, b, e⟩ := stretch_of (ns := sortS ns) (L := L) (due := due) (rbd_ne _ _ hb) (fun q hq => hl.sort.sub _ ((sp_snd _ _).mem_iff.mp (rbd_names _ _ q hq)))
    simp [checked_units_lot c.nm hl, rows_by_due c.sort hl.sort, hb, hf, e]
end Lw
/-! K8: best lots -/
namespace Lw
open PySem L2 VM M1

def kit (ok : List Str → Bool) : List Str → List Str → List Str
  | found, [] => found
  | found, x :: xs => kit ok (if ok (found ++ [x]) = true then found ++ [x] else found) xs
theorem kit_greedy (D : Str → Nat) (ok : List Str → Bool) : ∀ (xs found : List Str), (kit ok found xs).reverse = greedy D (fun l => ok l.reverse) found.reverse xs
  | [], found => rfl
  | x :: xs, found => by
    rw [kit, greedy, kit_greedy D ok xs]
    congr 1
    simp only [List.reverse_cons, List.reverse_reverse]
    split <;> simp
theorem best_perm {D : Str → Nat} {xs l m : List Str} (b : Best D xs l) (p : l.Perm m) : Best D xs m :=
  ⟨p.nodup_iff.mp b.1, fun z hz => b.2.1 z (p.mem_iff.mpr hz), b.2.2.1.perm p.symm, fun B b1 b2 b3 => by rw [← p.length_eq]; exact b.2.2.2 B b1 b2 b3⟩
theorem okR {L : Int} {due : Str → Int} (l : List Str) : okU L due l.reverse = true ↔ Fit (Dd L due) l := by
  rw [okU_iff]
  exact ⟨Fit.perm (List.reverse_perm l).symm, Fit.perm (List.reverse_perm l)⟩
theorem kit_best {L : Int} {due : Str → Int} {xs : List Str} (nd : xs.Nodup) : Best (Dd L due) xs (kit (okU L due) [] xs) := by
  have h := greedy_best (D := Dd L due) (ok := fun l => okU L due l.reverse) okR nd
  have e := kit_greedy (Dd L due) (okU L due) xs []
  rw [List.reverse_nil] at e
  rw [← e] at h
  exact best_perm h (List.reverse_perm _)
theorem kit_mem {L : Int} {due : Str → Int} {found xs : List Str} (hf : Fit (Dd L due) found) (nd : (found ++ xs).Nodup) :
    (∀ x ∈ found, x ∈ kit (okU L due) found xs) ∧ (∀ x ∈ kit (okU L due) found xs, x ∈ found ++ xs) ∧ (kit (okU L due) found xs).Nodup := by
  have e := kit_greedy (Dd L due) (okU L due) xs found
  obtain ⟨_, a, b, d, _⟩ := greedy_ok (D := Dd L due) (ok := fun l => okU L due l.reverse) okR xs found.reverse (hf.perm (List.reverse_perm _)) (by
    refine ((List.reverse_perm found).append_right xs).nodup_iff.mpr nd)
  rw [← e] at a b d
  refine ⟨fun x hx => List.mem_reverse.mp (b x (List.mem_reverse.mpr hx)), fun x hx => ?_, (List.reverse_perm _).nodup_iff.mp a⟩
  have := d x (List.mem_reverse.mpr hx)
  simpa using this
theorem kit_app {ok : List Str → Bool} : ∀ (xs found : List Str) (x : Str), kit ok found (xs ++ [x]) = if ok (kit ok found xs ++ [x]) = true then kit ok found xs ++ [x] else kit ok found xs
  | [], found, x => rfl
  | y :: xs, found, x => by
    rw [List.cons_append, kit, kit_app xs]
    rfl
theorem kept_in_turn {ns : List Str} {L : Int} {due : Str → Int} (c : Ctx ns L due) {l : List Str} (hl : Lot ns l) :
    d_kept_in_turn [.cl (dN ns (un L due)), .cl (.list (l.map .str))] none = some (.list ((kit (okU L due) [] l).map .str), none) := by
  unfold d_kept_in_turn m_kept_in_turn
  simp
  obtain ⟨sl', e, found, a, h1, h2, h3, rfl⟩ := for_rel (e := PyData.str) (tg := .nm 3) (g := none)
    (mb := (frzIf [3] (mIf (eFn d_does_fit (asVal (eVar 0) (asVal (eOp bAdd (eVar 2) (eLst (aCons (eVar 3) aNil))) asNil)))
  (frzIf [3] (mMeth fAppend 2 (aCons (eVar 3) aNil)))
  mNx)))
    (fun left sl => ∃ (found : List Str) (a : Sl), (found ++ left).Nodup ∧ (∀ x ∈ found ++ left, x ∈ ns) ∧ kit (okU L due) found left = kit (okU L due) [] l ∧ sl = [.cl (dN ns (un L due)), .cl (.list (l.map .str)), .ow (.list (found.map .str)), a])
    (by
      rintro x left sl ⟨found, a, h1, h2, h3, rfl⟩
      have hx : Lot ns (found ++ [x]) := ⟨fun y hy => h2 y (by
        rcases List.mem_append.mp hy with h | h
        · simp [h]
        · simp at h; simp [h]), by
        have : (found ++ [x] ++ left).Nodup := by simpa using h1
        exact (List.nodup_append.mp this).1⟩
      have hc := (hx.names c.nm).le
      have e1 : bAdd (.list (found.map .str)) (.list [.str x]) = some (.list ((found ++ [x]).map .str)) := by
        rw [q_addL (by simpa using hc)]
        simp
      have e2 := does_fit c hx
      have hc' : found.length < cap := by simp at hc; omega
      rw [kit] at h3
      obtain ⟨fx, hfx⟩ : ∃ fx, fx = found ++ [x] := ⟨_, rfl⟩
      have em : found.map PyData.str ++ [.str x] = fx.map .str := by rw [hfx]; simp
      rw [← hfx] at e1 e2 h3
      by_cases hok : okU L due fx = true
      · rw [if_pos hok] at h3
        refine ⟨[.cl (dN ns (un L due)), .cl (.list (l.map .str)), .ow (.list (fx.map .str)), .cl (.str x)], by simp [e1, e2, hok, q_app, hc', em], fx, _, by rw [hfx]; simpa using h1, by rw [hfx]; simpa using h2, h3, rfl⟩
      · rw [if_neg hok] at h3
        refine ⟨[.cl (dN ns (un L due)), .cl (.list (l.map .str)), .ow (.list (found.map .str)), .cl (.str x)], by simp [e1, e2, hok], found, _, ?_, fun y hy => h2 y (by
          rcases List.mem_append.mp hy with h | h
          · simp [h]
          · simp [h]), h3, rfl⟩
        exact h1.sublist ((List.sublist_cons_self x left).append_left found)) l [.cl (dN ns (un L due)), .cl (.list (l.map .str)), .ow (.list []), .un] ⟨[], .un, by simpa using hl.nd, by simpa using hl.sub, rfl, rfl⟩
  have h3' : found = kit (okU L due) [] l := by simpa [kit] using h3
  rw [e, h3']
  simp
theorem sortP_const (k : Int) (ns : List Str) : (sortP (ns.map fun n => (k, n))).map (·.2) = sortS ns := by
  refine sorted_eq ?_ ?_ (sortS_pw ns)
  · have := (sortP_perm (ns.map fun n => (k, n))).map (·.2)
    rw [List.map_map] at this
    have e : (Prod.snd ∘ fun n : Str => (k, n)) = id := rfl
    rw [e, List.map_id] at this
    exact this.trans (sortS_perm ns).symm
  · rw [List.pairwise_map]
    refine List.Pairwise.imp_of_mem (fun {a b} ha hb h => ?_) (sortP_pw _)
    rw [mem_sortP, List.mem_map] at ha hb
    obtain ⟨x, _, rfl⟩ := ha
    obtain ⟨y, _, rfl⟩ := hb
    have := (ple_iff _ _).mp h
    rcases this with h | h
    · dsimp only at h; omega
    · exact h.2
theorem by_weights {ns : List Str} {L : Int} {due : Str → Int} (c : Ctx ns L due) : d_by_weights [.cl (dN ns (un L due))] none = some (.list ((sortS ns).map .str), none) := by
  unfold d_by_weights m_by_weights
  simp
  rw [lc_a fun n => .tuple [.int (-1), .str n]]
  · simp [q_mkM, c.nm.le, q_sortedP' (fun x hx => c.nm.ok x hx)]
    rw [lc_a fun p : Pr => .str p.2]
    · simp only [Option.bind_some]
      rw [q_mkM (by simpa using c.nm.le)]
      have := congrArg (List.map PyData.str) (sortP_const (-1) ns)
      rw [List.map_map] at this
      simp
      exact this
    · rintro ⟨a, b⟩ hp
      simp [prT]
  · intro x hx
    simp [q_idxN hx, un]
def bestU (L : Int) (due : Str → Int) (ns : List Str) : List Str := kit (okU L due) [] (sortS ns)
theorem bestU_best {L : Int} {due : Str → Int} {ns : List Str} (nd : ns.Nodup) : Best (Dd L due) ns (bestU L due ns) :=
  best_mem (xs := sortS ns) (fun z => mem_sortS) (kit_best (nodup_sortS.mpr nd))
theorem best_of {ns : List Str} {L : Int} {due : Str → Int} (c : Ctx ns L due) : d_best_of [.cl (dN ns (un L due))] none = some (.list ((bestU L due ns).map .str), none) := by
  unfold d_best_of m_best_of
  simp [by_weights c, kept_in_turn c (l := sortS ns) ⟨fun x hx => mem_sortS.mp hx, nodup_sortS.mpr c.nm.nd⟩, bestU]
theorem bestU_sort (L : Int) (due : Str → Int) (ns : List Str) : bestU L due (sortS ns) = bestU L due ns := by
  unfold bestU
  rw [sortS_sortS]
theorem Best.lot {D : Str → Nat} {ns l : List Str} (b : Best D ns l) : Lot ns l := ⟨b.2.1, b.1⟩
theorem best_lot {ns : List Str} {L : Int} {due : Str → Int} (c : Ctx ns L due) : d_best_lot [.cl (dN ns (un L due))] none = some (.list ((sortS (bestU L due ns)).map .str), none) := by
  have NB := (Best.lot (bestU_best (L := L) (due := due) c.nm.nd)).names c.nm
  unfold d_best_lot m_best_lot
  simp [checked_units c.nm, best_of c.sort, bestU_sort, q_sortedS, NB.ok, NB.le]
theorem weight_of {ns : List Str} {L : Int} {due : Str → Int} {l : List Str} (hs : ∀ x ∈ l, x ∈ ns) (hl : l.length ≤ cap) : d_weight_of [.cl (dN ns (un L due)), .cl (.list (l.map .str))] none = some (.int l.length, none) := by
  unfold d_weight_of m_weight_of
  simp
  rw [lc_a fun n => .int 1]
  · simp [q_mkM, hl, sum_const]
  · intro x hx
    simp [q_idxN (hs x hx), un]
theorem best_weight {ns : List Str} {L : Int} {due : Str → Int} (c : Ctx ns L due) : d_best_weight [.cl (dN ns (un L due))] none = some (.int (bestU L due ns).length, none) := by
  have LB := Best.lot (bestU_best (L := L) (due := due) c.nm.nd)
  unfold d_best_weight m_best_weight
  simp [checked_units c.nm, best_of c.sort, bestU_sort, weight_of (ns := sortS ns) (L := L) (due := due) (fun x hx => mem_sortS.mpr (LB.sub x hx)) (LB.names c.nm).le]
theorem sp_first {sp : List Pr} {p : Pr} (pw : sp.Pairwise fun a b => ple a b = true) (hp : p ∈ sp) (h : ∀ q ∈ sp, q ≠ p → ¬ ple q p = true) : ∃ rest, sp = p :: rest := by
  cases sp with
  | nil => cases hp
  | cons q sp =>
    by_cases e : q = p
    · exact ⟨sp, by rw [e]⟩
    · rcases List.mem_cons.mp hp with z | z
      · exact absurd z.symm e
      · exact absurd ((List.pairwise_cons.mp pw).1 p z) (h q (.head _) e)
theorem sp_last {sp : List Pr} {p : Pr} (pw : sp.Pairwise fun a b => ple a b = true) (hp : p ∈ sp) (h : ∀ q ∈ sp, q ≠ p → ¬ ple p q = true) : ∃ rest, sp = rest ++ [p] := by
  have ne := List.ne_nil_of_mem hp
  obtain ⟨rs, q, rfl⟩ : ∃ rs q, sp = rs ++ [q] := ⟨sp.dropLast, sp.getLast ne, (List.dropLast_concat_getLast ne).symm⟩
  by_cases e : q = p
  · exact ⟨rs, by rw [e]⟩
  · rcases List.mem_append.mp hp with z | z
    · exact absurd ((List.pairwise_append.mp pw).2.2 p z q (by simp)) (h q (by simp) e)
    · exact absurd (List.mem_singleton.mp z).symm e
/-- the order with one name ahead of all others, or behind them -/
def sorder (ns : List Str) (x : Str) (step : Int) : List Str := (sortP (ns.map fun n => (-2 + (if n = x then step else 0), n))).map (·.2)
theorem sorder_perm (ns : List Str) (x : Str) (step : Int) : (sorder ns x step).Perm ns := by
  have := (sortP_perm (ns.map fun n => (-2 + (if n = x then step else 0), n))).map (·.2)
  rw [List.map_map] at this
  have e : (Prod.snd ∘ fun n : Str => ((-2 + (if n = x then step else 0) : Int), n)) = id := rfl
  rw [e, List.map_id] at this
  exact this
theorem sorder_first {ns : List Str} {x : Str} (hx : x ∈ ns) : ∃ rest, sorder ns x (-1) = x :: rest := by
  obtain ⟨rest, e⟩ := sp_first (p := (-3, x)) (sortP_pw (ns.map fun n => (-2 + (if n = x then (-1) else 0), n))) (by
    rw [mem_sortP, List.mem_map]
    exact ⟨x, hx, by simp⟩) (by
    intro q hq hne hple
    rw [mem_sortP, List.mem_map] at hq
    obtain ⟨n, hn, rfl⟩ := hq
    have h := (ple_iff _ _).mp hple
    by_cases c : n = x
    · subst c; exact hne (by simp)
    · rw [if_neg c] at h
      dsimp only at h
      omega)
  exact ⟨rest.map (·.2), by unfold sorder; rw [e]; rfl⟩
theorem sorder_last {ns : List Str} {x : Str} (hx : x ∈ ns) : ∃ rest, sorder ns x 1 = rest ++ [x] := by
  obtain ⟨rest, e⟩ := sp_last (p := (-1, x)) (sortP_pw (ns.map fun n => (-2 + (if n = x then 1 else 0), n))) (by
    rw [mem_sortP, List.mem_map]
    exact ⟨x, hx, by simp⟩) (by
    intro q hq hne hple
    rw [mem_sortP, List.mem_map] at hq
    obtain ⟨n, hn, rfl⟩ := hq
    have h := (ple_iff _ _).mp hple
    by_cases c : n = x
    · subst c; exact hne (by simp)
    · rw [if_neg c] at h
      dsimp only at h
      omega)
  exact ⟨rest.map (·.2), by unfold sorder; rw [e]; simp⟩
def staysB (L : Int) (due : Str → Int) (ns : List Str) (x : Str) (step : Int) : Bool := decide (x ∈ kit (okU L due) [] (sorder ns x step))
theorem stays_some {ns : List Str} {L : Int} {due : Str → Int} (nd : ns.Nodup) {x : Str} (hx : x ∈ ns) : staysB L due ns x (-1) = true ↔ ∃ l, Best (Dd L due) ns l ∧ x ∈ l := by
  rw [in_some (bestU_best nd) hx]
  unfold staysB
  rw [decide_eq_true_eq]
  obtain ⟨rest, e⟩ := sorder_first hx
  have nd' : (x :: rest).Nodup := e ▸ (sorder_perm ns x (-1)).nodup_iff.mpr nd
  rw [e, kit]
  have one : Fit (Dd L due) [x] ↔ 0 < Dd L due x := by
    constructor
    · intro f
      have := f (Dd L due x)
      rw [ct_cons, if_pos (by omega)] at this
      omega
    · intro h t
      rw [ct_cons]
      simp [ct]
      split <;> omega
  rw [List.nil_append, ← one, ← okU_iff]
  constructor
  · intro h
    apply Classical.byContradiction
    intro c
    rw [if_neg c] at h
    have := (kit_mem (found := []) Fit.nil (by simpa using (List.nodup_cons.mp nd').2)).2.1 x h
    exact (List.nodup_cons.mp nd').1 (by simpa using this)
  · intro h
    rw [if_pos h]
    exact (kit_mem (found := [x]) ((okU_iff L due [x]).mp h) (by simpa using nd')).1 x (.head _)
theorem stays_all {ns : List Str} {L : Int} {due : Str → Int} (nd : ns.Nodup) {x : Str} (hx : x ∈ ns) : staysB L due ns x 1 = true ↔ ∀ l, Best (Dd L due) ns l → x ∈ l := by
  unfold staysB
  rw [decide_eq_true_eq]
  obtain ⟨rest, e⟩ := sorder_last hx
  have pe := sorder_perm ns x 1
  rw [e] at pe ⊢
  have nd' : (rest ++ [x]).Nodup := pe.nodup_iff.mpr nd
  have ndr := (List.nodup_append.mp nd').1
  have hxr : x ∉ rest := fun z => (List.nodup_append.mp nd').2.2 x z x (by simp) rfl
  have bo := kit_best (L := L) (due := due) ndr
  rw [in_all (ys := rest) (o := kit (okU L due) [] rest) (fun z => by rw [← pe.mem_iff]; simp [or_comm]) hxr bo, kit_app]
  have hk : x ∉ kit (okU L due) [] rest := fun z => hxr (bo.2.1 x z)
  have f : okU L due (kit (okU L due) [] rest ++ [x]) = true ↔ Fit (Dd L due) (x :: kit (okU L due) [] rest) := by
    rw [okU_iff]
    exact ⟨Fit.perm (List.perm_append_singleton x _).symm, Fit.perm (List.perm_append_singleton x _)⟩
  rw [← f]
  constructor
  · intro h
    apply Classical.byContradiction
    intro c
    rw [if_neg c] at h
    exact hk h
  · intro h
    rw [if_pos h]
    simp
theorem stays_among {ns : List Str} {L : Int} {due : Str → Int} (c : Ctx ns L due) {x : Str} (hx : x ∈ ns) (step : Int) : d_stays_among [.cl (dN ns (un L due)), .cl (.str x), .cl (.int step)] none = some (.bool (staysB L due ns x step), none) := by
  have kk := kept_in_turn c (l := sorder ns x step) ⟨fun y hy => (sorder_perm ns x step).mem_iff.mp hy, (sorder_perm ns x step).nodup_iff.mpr c.nm.nd⟩
  have KN : Names (kit (okU L due) [] (sorder ns x step)) := by
    have b := kit_best (L := L) (due := due) ((sorder_perm ns x step).nodup_iff.mpr c.nm.nd)
    exact c.nm.sub (fun y hy => (sorder_perm ns x step).mem_iff.mp (b.2.1 y hy)) b.1
  have e2 := q_inS KN.ok (c.nm.ok x hx)
  unfold d_stays_among m_stays_among
  simp
  rw [lc_a fun n => .tuple [.int (-2 + (if n = x then step else 0)), .str n]]
  · simp [q_mkM, c.nm.le, q_sortedP' (fun x hx => c.nm.ok x hx)]
    rw [lc_a fun p : Pr => .str p.2]
    · simp only [Option.bind_some]
      rw [q_mkM (by simpa using c.nm.le)]
      have e1 : (sortP (ns.map fun n => (-2 + (if n = x then step else 0), n))).map (fun p => PyData.str p.2) = (sorder ns x step).map .str := by unfold sorder; rw [List.map_map]; rfl
      rw [e1]
      simp [kk, e2, staysB]
    · rintro ⟨a, b⟩ hp
      simp [prT]
  · intro y hy
    simp [q_idxN hy, un, bEq_str (c.nm.ok y hy) (c.nm.ok x hx), bMul_eq (i := 2) (j := 1) (.inl (by decide))]
    split <;> simp
end Lw
/-! K9: best lots known; prices -/
namespace Lw
open PySem L2 VM M1

theorem best_sort {D : Str → Nat} {ns l : List Str} (b : Best D ns l) : Best D (sortS ns) (sortS l) :=
  best_perm (best_mem (fun z => mem_sortS.symm) b) (sortS_perm l).symm
theorem is_best_lot {ns : List Str} {L : Int} {due : Str → Int} (c : Ctx ns L due) {l : List Str} (b : Best (Dd L due) ns l) :
    d_is_best_lot [.cl (dN ns (un L due)), .cl (.list (l.map .str))] none = some (.bool true, none) := by
  have hl := Best.lot b
  have b2 := best_sort b
  have NS := hl.sort.names c.sort.nm
  have LB := Best.lot (best_sort (bestU_best (L := L) (due := due) c.nm.nd))
  have LU := Best.lot (bestU_best (L := L) (due := due) c.nm.nd)
  have e3 : (bestU L due ns).length = l.length := (Best.len b (bestU_best c.nm.nd)).symm
  unfold d_is_best_lot m_is_best_lot
  simp [checked_units_lot c.nm hl]
  unfold d_is_best m_is_best
  simp [best_of c.sort, bestU_sort, does_fit c.sort hl.sort, (okU_iff L due _).mpr b2.2.2.1, e3,
    weight_of (ns := sortS ns) (L := L) (due := due) (l := sortS l) hl.sort.sub NS.le, weight_of (ns := sortS ns) (L := L) (due := due) (l := bestU L due ns) (fun x hx => mem_sortS.mpr (LU.sub x hx)) (LU.names c.nm).le]
theorem in_some_best {ns : List Str} {L : Int} {due : Str → Int} (c : Ctx ns L due) : d_in_some_best [.cl (dN ns (un L due))] none = some (.list (((sortS ns).filter fun n => staysB L due (sortS ns) n (-1)).map .str), none) := by
  unfold d_in_some_best m_in_some_best
  simp [checked_units c.nm]
  rw [lc_f (fun n => staysB L due (sortS ns) n (-1)) PyData.str]
  · simp [q_mkF, c.nm.le]
  · intro x hx
    simp [stays_among c.sort hx]
  · intro x hx _
    simp
theorem in_all_best {ns : List Str} {L : Int} {due : Str → Int} (c : Ctx ns L due) : d_in_all_best [.cl (dN ns (un L due))] none = some (.list (((sortS ns).filter fun n => staysB L due (sortS ns) n 1).map .str), none) := by
  unfold d_in_all_best m_in_all_best
  simp [checked_units c.nm]
  rw [lc_f (fun n => staysB L due (sortS ns) n 1) PyData.str]
  · simp [q_mkF, c.nm.le]
  · intro x hx
    simp [stays_among c.sort hx]
  · intro x hx _
    simp
/-! ### full hours -/
/-- {h: True ..} -/
def yesD (l : List Int) : T := .dict (l.map yes)
theorem yes_in {l : List Int} {i : Int} : bNotIn (.int i) (yesD l) = some (.bool (!decide (i ∈ l))) := by
  have e1 : ∀ l : List Int, dgetE (l.map yes) (.int i) = if i ∈ l then some (.bool true) else none := by
    intro l
    induction l with
    | nil => rfl
    | cons j l ih =>
      have e : dgetE ((j :: l).map yes) (.int i) = if PyData.eqv (.int j) (.int i) = true then some (.bool true) else dgetE (l.map yes) (.int i) := rfl
      rw [e, eqv_int, ih]
      by_cases h : j = i
      · subst h; simp
      · have : ¬ i = j := fun z => h z.symm
        simp [h, this]
  have e2 : dgetB (l.map yes) (.int i) = some (if i ∈ l then some (.bool true) else none) := by
    cases l with
    | nil => rfl
    | cons j l => exact congrArg some (e1 (j :: l))
  show ((dgetB (l.map yes) (.int i)).map Option.isSome).map (fun b => tb (!b)) = _
  rw [e2]
  by_cases h : i ∈ l <;> simp [h]
theorem yes_put {l : List Int} {i : Int} (h : i ∉ l) : putD (l.map yes) (.int i) (.bool true) = (l ++ [i]).map yes := by
  rw [putD_new (fun p hp => by
    obtain ⟨j, hj, rfl⟩ := List.mem_map.mp hp
    rw [yes, eqv_int]
    exact decide_eq_false fun z => h (z ▸ hj)), List.map_append]
  rfl
end Lw
/-! K10: full hours -/
namespace Lw
open PySem L2 VM M1

def rg (t : Nat) : List Int := (List.range t).map fun i : Nat => (i : Int)
theorem mem_rg {t i : Nat} : (i : Int) ∈ rg t ↔ i < t := by
  unfold rg
  simp
  exact ⟨fun ⟨a, h, e⟩ => by omega, fun h => ⟨i, h, rfl⟩⟩
theorem rg_succ (t : Nat) : rg t ++ [(t : Int)] = rg (t + 1) := by
  unfold rg
  rw [List.range_succ, List.map_append]
  rfl
def owner (L : Int) (due : Str → Int) (B : List Str) (h : Nat) : Str := ((sortedPairs (Ee L due) B).map (·.2)).getD h ""
def ownT (L : Int) (due : Str → Int) (B : List Str) : T := .dict ((sortS B).map fun n => (.int (hourOf L due B n : Int), .str n))
theorem owner_mem {L : Int} {due : Str → Int} {B : List Str} {h : Nat} (hh : h < B.length) : owner L due B h ∈ B := by
  have pS := sp_snd (Ee L due) B
  unfold owner
  have : h < ((sortedPairs (Ee L due) B).map (·.2)).length := by rw [pS.length_eq]; exact hh
  rw [List.getD_eq_getElem?_getD, List.getElem?_eq_getElem this]
  exact pS.mem_iff.mp (List.getElem_mem this)
theorem owner_hour {L : Int} {due : Str → Int} {B : List Str} (nd : B.Nodup) {h : Nat} (hh : h < B.length) : hourOf L due B (owner L due B h) = h := by
  have pS := sp_snd (Ee L due) B
  unfold owner hourOf
  have h1 : h < ((sortedPairs (Ee L due) B).map (·.2)).length := by rw [pS.length_eq]; exact hh
  rw [List.getD_eq_getElem?_getD, List.getElem?_eq_getElem h1]
  exact (pS.nodup_iff.mpr nd).idxOf_getElem h h1
theorem hour_inj {L : Int} {due : Str → Int} {B : List Str} {x y : Str} (hx : x ∈ B) (hy : y ∈ B) (e : hourOf L due B x = hourOf L due B y) : x = y := by
  have pS := sp_snd (Ee L due) B
  unfold hourOf at e
  have h1 := List.getElem_idxOf (List.idxOf_lt_length_of_mem (pS.mem_iff.mpr hx))
  have h2 := List.getElem_idxOf (List.idxOf_lt_length_of_mem (pS.mem_iff.mpr hy))
  rw [← h1, ← h2]
  simp only [e]
theorem own_idx {L : Int} {due : Str → Int} {B : List Str} (nd : B.Nodup) {h : Nat} (hh : h < B.length) : bIdx (ownT L due B) (.int (h : Int)) = some (.str (owner L due B h)) := by
  have e := q_idxInt (k := fun n => (hourOf L due B n : Int)) (v := PyData.str) (x := owner L due B h) (l := sortS B) (mem_sortS.mpr (owner_mem hh)) (fun y hy e => hour_inj (mem_sortS.mp hy) (owner_mem hh) (Int.ofNat.inj e))
  rw [owner_hour nd hh] at e
  exact e
/-- one name's hours -/
theorem hours_for {L : Int} {due : Str → Int} {B : List Str} (nd : B.Nodup) (few : B.length < 64) (u0 u1 u2 u3 u4 u8 u9 : Sl) : ∀ (D i t : Nat) (W : List Str), D ≤ B.length → t ≤ B.length → i ≤ D → (i ≤ t) → W.length + (D - i) ≤ 1000000 →
    ∃ a W', W' = W ++ (List.range' t (max t D - t)).map (owner L due B) ∧ forGo (.nm 9) (frzIf [] (mIf (eOp bNotIn (eVar 9) (eVar 6)) (mSeq (frzIf [] (mPutD 6 (eVar 9) (eLit (.bool true)))) (frzIf [] (mMeth fAppend 7 (aCons (eOp bIdx (eVar 5) (eVar 9)) aNil)))) mNx))
      (((List.range' i (D - i)).map fun i => PyData.int (i : Nat))) [u0, u1, u2, u3, u4, .cl (ownT L due B), .ow (yesD (rg t)), .ow (.list (W.map .str)), u8, u9] none =
      some (.nx, [u0, u1, u2, u3, u4, .cl (ownT L due B), .ow (yesD (rg (max t D))), .ow (.list (W'.map .str)), u8, a], none) := by
  intro D i t W hD ht hi hit hW
  induction hk : D - i generalizing i t W u9 with
  | zero =>
    have : max t D = t := by omega
    refine ⟨u9, W, by rw [this]; simp, ?_⟩
    rw [this]
    simp [forGo]
  | succ k ih =>
    rw [List.range'_succ, List.map_cons, forGo, q_bindN]
    simp only [Option.bind_some]
    have cc : cap = 16777216 := rfl
    by_cases c : i < t
    · have hin : bNotIn (.int (i : Int)) (yesD (rg t)) = some (.bool false) := by rw [yes_in]; simp [mem_rg.mpr c]
      obtain ⟨a, W', hW', e⟩ := ih (.cl (.int (i : Nat))) (i + 1) t W ht (by omega) (by omega) (by omega) (by omega)
      refine ⟨a, W', hW', ?_⟩
      simp [hin]
      exact e
    · have hti : t = i := by omega
      subst hti
      have hin : bNotIn (.int (t : Int)) (yesD (rg t)) = some (.bool true) := by
        rw [yes_in]
        have : ¬ (t : Int) ∈ rg t := fun z => by have := mem_rg.mp z; omega
        simp [this]
      have hl : ((rg t).map yes).length < cap := by unfold rg; simp; omega
      have hput : mPutD 6 (eVar 9) (eLit (.bool true)) [u0, u1, u2, u3, u4, .cl (ownT L due B), .ow (yesD (rg t)), .ow (.list (W.map .str)), u8, .cl (.int (t : Nat))] none = some (.nx, [u0, u1, u2, u3, u4, .cl (ownT L due B), .ow (yesD (rg (t + 1))), .ow (.list (W.map .str)), u8, .cl (.int (t : Nat))], none) := by
        have e1 : putD ((rg t).map yes) (.int (t : Int)) (.bool true) = (rg (t + 1)).map yes := by
          rw [yes_put (fun z => by have := mem_rg.mp z; omega), rg_succ]
        unfold yesD
        cases hr : (rg t).map yes with
        | nil => rw [hr] at e1; simp [e1, keyOf, cc]
        | cons p ps =>
          have hp : ∃ j, p = yes j := by
            have : p ∈ (rg t).map yes := by rw [hr]; simp
            obtain ⟨j, _, rfl⟩ := List.mem_map.mp this
            exact ⟨j, rfl⟩
          obtain ⟨j, rfl⟩ := hp
          rw [hr] at e1 hl
          simp [yes] at e1 hl ⊢
          simp [e1, keyOf, hl]
      have hown := own_idx (L := L) (due := due) nd (h := t) (by omega)
      obtain ⟨a, W', hW', e⟩ := ih (.cl (.int (t : Nat))) (t + 1) (t + 1) (W ++ [owner L due B t]) (by omega) (by omega) (by omega) (by simp; omega) (by omega)
      have hm : max t D = max (t + 1) D := by omega
      refine ⟨a, W', ?_, ?_⟩
      · rw [hW', hm, show max (t + 1) D - t = (max (t + 1) D - (t + 1)) + 1 by omega, List.range'_succ]
        simp
      · rw [hm]
        have hWl : W.length < cap := by omega
        have em : W.map PyData.str ++ [.str (owner L due B t)] = (W ++ [owner L due B t]).map .str := by simp
        rw [← em] at e
        rw [q_frz0, q_mIf]
        simp [-q_putD, hin, hput, hown, q_app, hWl]
        exact e
/-- one tight hour for all that stay out -/
theorem tight_all {D : Str → Nat} {B : List Str} (f : Fit D B) : ∀ (xs : List Str), (∀ x ∈ xs, ¬ Fit D (x :: B)) → ∃ t, (∀ x ∈ xs, D x ≤ t) ∧ ct D B (t + 1) = t
  | [], _ => ⟨0, by simp, Nat.le_antisymm (f 0) (Nat.zero_le _)⟩
  | x :: xs, h => by
    obtain ⟨t1, a1, b1⟩ := tight_of f (h x (.head _))
    obtain ⟨t2, a2, b2⟩ := tight_all f xs fun y hy => h y (.tail _ hy)
    rcases Nat.le_total t1 t2 with c | c
    · exact ⟨t2, fun y hy => by
        rcases List.mem_cons.mp hy with rfl | hy
        · omega
        · exact a2 y hy, b2⟩
    · exact ⟨t1, fun y hy => by
        rcases List.mem_cons.mp hy with rfl | hy
        · omega
        · have := a2 y hy; omega, b1⟩
/-- the owners' dues ascend -/
theorem owner_mono {L : Int} {due : Str → Int} {B : List Str} {i j : Nat} (h : i ≤ j) (hj : j < B.length) : Dd L due (owner L due B i) ≤ Dd L due (owner L due B j) := by
  have pS := sp_snd (Ee L due) B
  have hl : (sortedPairs (Ee L due) B).length = B.length := by have := pS.length_eq; simpa using this
  have hi : i < (sortedPairs (Ee L due) B).length := by omega
  have hj' : j < (sortedPairs (Ee L due) B).length := by omega
  have e : ∀ k (hk : k < (sortedPairs (Ee L due) B).length), owner L due B k = ((sortedPairs (Ee L due) B)[k]).2 := by
    intro k hk
    unfold owner
    rw [List.getD_eq_getElem?_getD, List.getElem?_eq_getElem (by simpa using hk), List.getElem_map]
    rfl
  rw [e i hi, e j hj']
  rcases Nat.lt_or_ge i j with c | c
  · have hp : ple ((sortedPairs (Ee L due) B)[i]) ((sortedPairs (Ee L due) B)[j]) = true := List.pairwise_iff_getElem.mp (sortP_pw (B.map fun n => (Ee L due n, n))) i j hi hj' c
    have := (ple_iff _ _).mp hp
    have e1 : ((sortedPairs (Ee L due) B)[i]).1 = due ((sortedPairs (Ee L due) B)[i]).2 / L := (sp_fst (List.getElem_mem hi)).1
    have e2 : ((sortedPairs (Ee L due) B)[j]).1 = due ((sortedPairs (Ee L due) B)[j]).2 / L := (sp_fst (List.getElem_mem hj')).1
    unfold Dd
    rw [← e1, ← e2]
    omega
  · have : i = j := by omega
    subst this
    exact Nat.le_refl _
theorem owner_list {L : Int} {due : Str → Int} {B : List Str} : ((List.range B.length).map (owner L due B)).Perm B := by
  have pS := sp_snd (Ee L due) B
  have e : (List.range B.length).map (owner L due B) = (sortedPairs (Ee L due) B).map (·.2) := by
    apply List.ext_getElem
    · simp [pS.length_eq]
    · intro i h1 h2
      rw [List.getElem_map, List.getElem_range]
      unfold owner
      rw [List.getD_eq_getElem?_getD, List.getElem?_eq_getElem h2]
      rfl
  rw [e]
  exact pS
theorem ct_owner {L : Int} {due : Str → Int} {B : List Str} (t : Nat) : ct (Dd L due) B t = ((List.range B.length).filter fun h => decide (Dd L due (owner L due B h) < t)).length := by
  have := (owner_list (L := L) (due := due) (B := B)).countP_eq (fun x => decide (Dd L due x < t))
  unfold ct
  rw [← this, List.countP_map, List.countP_eq_length_filter]
  rfl
theorem owner_tight {L : Int} {due : Str → Int} {B : List Str} {t : Nat} (h : ct (Dd L due) B (t + 1) = t) : t ≤ B.length ∧ ∀ i < t, Dd L due (owner L due B i) ≤ t := by
  have le : t ≤ B.length := by
    have := List.countP_le_length (p := fun x => decide (Dd L due x < t + 1)) (l := B)
    unfold ct at h
    omega
  refine ⟨le, fun i hi => ?_⟩
  apply Classical.byContradiction
  intro c
  have sub : ((List.range B.length).filter fun h => decide (Dd L due (owner L due B h) < t + 1)).length ≤ i := by
    have hs : ∀ x ∈ (List.range B.length).filter (fun h => decide (Dd L due (owner L due B h) < t + 1)), x ∈ List.range i := by
      intro x hx
      obtain ⟨h1, h2⟩ := List.mem_filter.mp hx
      have h1 := List.mem_range.mp h1
      have h2 : Dd L due (owner L due B x) < t + 1 := of_decide_eq_true h2
      rw [List.mem_range]
      apply Classical.byContradiction
      intro q
      have := owner_mono (L := L) (due := due) (B := B) (i := i) (j := x) (by omega) h1
      omega
    have := List.Nodup.length_le_of_subset (List.nodup_range.sublist List.filter_sublist) hs
    simpa using this
  rw [ct_owner] at h
  omega
theorem tight_owner {L : Int} {due : Str → Int} {B : List Str} {t : Nat} (f : Fit (Dd L due) B) (le : t ≤ B.length) (h : ∀ i < t, Dd L due (owner L due B i) ≤ t) : ct (Dd L due) B (t + 1) = t := by
  refine Nat.le_antisymm (f t) ?_
  rw [ct_owner]
  have hs : ∀ x ∈ List.range t, x ∈ (List.range B.length).filter (fun h => decide (Dd L due (owner L due B h) < t + 1)) := by
    intro x hx
    have hx := List.mem_range.mp hx
    exact List.mem_filter.mpr ⟨List.mem_range.mpr (by omega), decide_eq_true (by have := h x hx; omega)⟩
  have := List.Nodup.length_le_of_subset List.nodup_range hs
  simpa using this
end Lw
/-! K11: full hours, told -/
namespace Lw
open PySem L2 VM M1

theorem full_hours {ns : List Str} {L : Int} {due : Str → Int} (c : Ctx ns L due) {B : List Str} (b : Best (Dd L due) ns B) :
    ∃ t : Nat, d_full_hours [.cl (dN ns (un L due)), .cl (.list (B.map .str)), .cl (.int 1)] none = some (.list ((rg t).map .int), none) ∧ t ≤ B.length ∧ ct (Dd L due) B (t + 1) = t ∧ ∀ z ∈ ns, z ∉ B → Dd L due z ≤ t := by
  have cc : cap = 16777216 := rfl
  have hB := Best.lot b
  have NB := hB.names c.nm
  have few := NB.few
  have hf := (okU_iff L due B).mpr b.2.2.1
  obtain ⟨t0, ta, tb⟩ := tight_all (D := Dd L due) b.2.2.1 (ns.filter fun n => !decide (n ∈ B)) (fun x hx => by
    obtain ⟨h1, h2⟩ := List.mem_filter.mp hx
    exact out_not b h1 (by simpa using h2))
  obtain ⟨t0B, tc⟩ := owner_tight tb
  unfold d_full_hours m_full_hours
  have s1 : ∀ u1 u3 u4 u5 u6 u7 u8 u9, lcGo (.nm 8) (eOp bGe (eOp bIdx (eOp bIdx (eVar 0) (eVar 8)) (eLit (.int 2))) (eVar 2)) (eVar 8) [.cl (dN ns (un L due)), u1, .cl (.int 1), u3, u4, u5, u6, u7, u8, u9] (ns.map .str) none = some (ns.map .str, none) := by
    intro u1 u3 u4 u5 u6 u7 u8 u9
    rw [lc_f (fun _ => true) PyData.str]
    · rw [List.filter_eq_self.mpr (fun _ _ => rfl)]
    · intro x hx
      simp [q_idxN hx, un]
    · intro x hx _
      simp
  have s2 : ∀ u1 u3 u4 u5 u6 u7 u8 u9, lcGo (.nm 8) (eOp bGe (eOp bIdx (eOp bIdx (eVar 0) (eVar 8)) (eLit (.int 2))) (eVar 2)) (eVar 8) [.cl (dN ns (un L due)), u1, .cl (.int 1), u3, u4, u5, u6, u7, u8, u9] (B.map .str) none = some (B.map .str, none) := by
    intro u1 u3 u4 u5 u6 u7 u8 u9
    rw [lc_f (fun _ => true) PyData.str]
    · rw [List.filter_eq_self.mpr (fun _ _ => rfl)]
    · intro x hx
      simp [q_idxN (hB.sub x hx), un]
    · intro x hx _
      simp
  have s3 : ∀ u0 u1 u2 u3 u4 u5 u6 u7, dcGo (.tp [.nm 8, .nm 9]) (eLit (.bool true)) (eVar 9) (eVar 8) [u0, u1, u2, u3, u4, u5, u6, u7, .un, .un] ((sortS B).map fun n => .tuple [.str n, .int (hourOf L due B n : Int)]) [] none = some ((sortS B).map fun n => (.int (hourOf L due B n : Int), .str n), none) := by
    intro u0 u1 u2 u3 u4 u5 u6 u7
    have := dc_int (e := fun n => PyData.tuple [.str n, .int (hourOf L due B n : Int)]) (fun _ => true) (fun n => (hourOf L due B n : Int)) PyData.str (tg := .tp [.nm 8, .nm 9]) (mt := eLit (.bool true)) (mk := eVar 9) (me := eVar 8) (sl := [u0, u1, u2, u3, u4, u5, u6, u7, .un, .un]) (g := none) (xs := sortS B) (ds := [])
      (fun n hn => ⟨[u0, u1, u2, u3, u4, u5, u6, u7, .cl (.str n), .cl (.int (hourOf L due B n : Int))], by simp, rfl, fun _ => ⟨rfl, rfl⟩⟩) (by
        rw [List.filter_eq_self.mpr (fun _ _ => rfl)]
        refine List.pairwise_map.mpr (List.Pairwise.imp_of_mem (fun {x y} hx hy hxy e => hxy (hour_inj (mem_sortS.mp hx) (mem_sortS.mp hy) (Int.ofNat.inj e))) NB.sort.nd)) (by simp) (by have := NB.le; simp; omega)
    rw [this, List.filter_eq_self.mpr (fun _ _ => rfl)]
    rfl
  have s4 : ∀ u0 u1 u2 u3 u5 u6 u7 u9, lcGo (.nm 8) (eOp bNotIn (eVar 8) (eVar 4)) (eVar 8) [u0, u1, u2, u3, .cl (dN (sortS B) fun n => .int (hourOf L due B n : Int)), u5, u6, u7, .un, u9] (ns.map .str) none = some ((ns.filter fun n => !decide (n ∈ B)).map .str, none) := by
    intro u0 u1 u2 u3 u5 u6 u7 u9
    rw [lc_f (fun n => !decide (n ∈ B)) PyData.str]
    · intro x hx
      simp
    · intro x hx _
      simp
  simp [s1, s2, s3, s4, q_mkM, q_mkF, c.nm.le, NB.le, placing_by c hB hf]
  have low : ∀ n ∈ ns, -64 ≤ due n / L ∧ due n / L < 64 := by
    intro n hn
    have h1 := c.bot n hn
    have h2 := c.top n hn
    have h3 := c.pos
    have h4 := c.sm
    exact ⟨by rw [Int.le_ediv_iff_mul_le h3]; omega, by rw [Int.ediv_lt_iff_lt_mul h3]; omega⟩
  have hr : ∀ n ∈ ns, rng2Of [(.int 0, false), (.int (due n / L), false)] = some ((List.range' 0 (Dd L due n - 0)).map fun i => PyData.int (i : Nat)) := by
    intro n hn
    obtain ⟨h1, h2⟩ := low n hn
    rw [q_rng2 (by omega) (by omega) (by omega) (by omega)]
    unfold rangeT Dd
    rw [Int.sub_zero, Nat.sub_zero, ← List.range_eq_range']
    simp
  obtain ⟨sl', e⟩ := while_rel (g := none) (c := (eOp bNe (eVar 7) (eLst aNil)))
    (mb := (mSeq (frzIf [] (mPop 8 7))
  (frzIf [] (mFor (iRng rng2Of (aCons (eOp bIdx (eOp bIdx (eVar 0) (eVar 8)) (eLit (.int 0))) (aCons (eOp bIdx (eOp bIdx (eVar 0) (eVar 8)) (eLit (.int 1))) aNil))) (.nm 9)
  (frzIf [] (mIf (eOp bNotIn (eVar 9) (eVar 6))
  (mSeq (frzIf [] (mPutD 6 (eVar 9) (eLit (.bool true))))
  (frzIf [] (mMeth fAppend 7 (aCons (eOp bIdx (eVar 5) (eVar 9)) aNil))))
  mNx))))))
    (fun m sl => ∃ (t : Nat) (W : List Str) (u1 u3 u4 u8 u9 : Sl), m = 2 * (t0 - t) + W.length ∧ m ≤ 1000 ∧ t ≤ t0 ∧ (∀ n ∈ W, n ∈ ns ∧ Dd L due n ≤ t0) ∧ (∀ n ∈ ns, n ∉ B → n ∈ W ∨ Dd L due n ≤ t) ∧ (∀ h < t, owner L due B h ∈ W ∨ Dd L due (owner L due B h) ≤ t) ∧
      sl = [.cl (dN ns (un L due)), u1, .cl (.int 1), u3, u4, .cl (ownT L due B), .ow (yesD (rg t)), .ow (.list (W.map .str)), u8, u9])
    (fun _ => False)
    (fun sl => ∃ (t : Nat) (u1 u3 u4 u8 u9 : Sl), t ≤ t0 ∧ (∀ n ∈ ns, n ∉ B → Dd L due n ≤ t) ∧ (∀ h < t, Dd L due (owner L due B h) ≤ t) ∧
      sl = [.cl (dN ns (un L due)), u1, .cl (.int 1), u3, u4, .cl (ownT L due B), .ow (yesD (rg t)), .ow (.list []), u8, u9])
    (by
      rintro m sl ⟨t, W, u1, u3, u4, u8, u9, rfl, i1, i2, i3, i4, i5, rfl⟩
      rcases List.eq_nil_or_concat W with rfl | ⟨Wi, n, rfl⟩
      · refine .inl ⟨false, by simp, t, u1, u3, u4, u8, u9, i2, fun n hn hb => (i4 n hn hb).resolve_left (by simp), fun h hh => (i5 h hh).resolve_left (by simp), rfl⟩
      · rw [List.concat_eq_append] at *
        have hn := i3 n (by simp)
        have okW : okS (Wi ++ [n]) := fun x hx => c.nm.ok x (i3 x hx).1
        refine .inr ⟨false, ?_, .inl ?_⟩
        · have := q_neS0 okW
          simp at this
          simp [this]
        · have hpop : frzIf [] (mPop 8 7) [.cl (dN ns (un L due)), u1, .cl (.int 1), u3, u4, .cl (ownT L due B), .ow (yesD (rg t)), .ow (.list ((Wi ++ [n]).map .str)), u8, u9] none = some (.nx, [.cl (dN ns (un L due)), u1, .cl (.int 1), u3, u4, .cl (ownT L due B), .ow (yesD (rg t)), .ow (.list (Wi.map .str)), .cl (.str n), u9], none) := by
            simp
          obtain ⟨a, W', hW', e⟩ := hours_for (L := L) (due := due) b.1 few (.cl (dN ns (un L due))) u1 (.cl (.int 1)) u3 u4 (.cl (.str n)) u9 (Dd L due n) 0 t Wi (by omega) (by omega) (by omega) (by omega) (by simp at i1; omega)
          have wl : W'.length = Wi.length + (max t (Dd L due n) - t) := by rw [hW']; simp
          have wm : ∀ x, x ∈ Wi ++ [n] → x ≠ n → x ∈ W' := by
            intro x hx hxn
            rw [hW']
            rcases List.mem_append.mp hx with h | h
            · exact List.mem_append_left _ h
            · exact absurd (List.mem_singleton.mp h) hxn
          refine ⟨2 * (t0 - max t (Dd L due n)) + W'.length, _, ?_, ?_, max t (Dd L due n), W', u1, u3, u4, .cl (.str n), a, rfl, ?_, by omega, ?_, ?_, ?_, rfl⟩
          · rw [wl]; simp; omega
          · rw [mSeq_nx hpop]
            simp [-q_putD, q_idxN hn.1, un, hr n hn.1]
            exact e
          · rw [wl]; simp at i1; omega
          · intro x hx
            rw [hW'] at hx
            rcases List.mem_append.mp hx with h | h
            · exact i3 x (List.mem_append_left _ h)
            · obtain ⟨k, hh, rfl⟩ := List.mem_map.mp h
              rw [List.mem_range'_1] at hh
              exact ⟨hB.sub _ (owner_mem (by omega)), tc k (by omega)⟩
          · intro x hx hxb
            by_cases q : x = n
            · subst q; exact .inr (by omega)
            · rcases i4 x hx hxb with h | h
              · exact .inl (wm x h q)
              · exact .inr (by omega)
          · intro h hh
            by_cases q : owner L due B h = n
            · rw [q]; exact .inr (by omega)
            · rcases Nat.lt_or_ge h t with ht | ht
              · rcases i5 h ht with z | z
                · exact .inl (wm _ z q)
                · exact .inr (by omega)
              · left
                rw [hW']
                refine List.mem_append_right _ (List.mem_map_of_mem ?_)
                rw [List.mem_range'_1]
                omega)
    fuelW (2 * t0 + (ns.filter fun n => !decide (n ∈ B)).length) [.cl (dN ns (un L due)), .cl (.list (B.map .str)), .cl (.int 1), .cl (.list (ns.map .str)), .cl (dN (sortS B) fun n => .int (hourOf L due B n : Int)), .cl (ownT L due B), .ow (yesD (rg 0)), .ow (.list ((ns.filter fun n => !decide (n ∈ B)).map .str)), .un, .un]
    (by have := c.nm.few; have := List.length_filter_le (fun n => !decide (n ∈ B)) ns; unfold fuelW; omega)
    ⟨0, ns.filter fun n => !decide (n ∈ B), _, _, _, _, _, by omega, by have := c.nm.few; have := List.length_filter_le (fun n => !decide (n ∈ B)) ns; omega, by omega, fun n hn => ⟨(List.mem_filter.mp hn).1, ta n hn⟩, fun n hn hb => .inl (List.mem_filter.mpr ⟨hn, by simpa using hb⟩), fun h hh => by omega, rfl⟩
  rcases e with ⟨e, t, u1, u3, u4, u8, u9, h1, h2, h3, rfl⟩ | ⟨_, _, z⟩
  · refine ⟨t, ?_, by omega, tight_owner b.2.2.1 (by omega) h3, h2⟩
    have e' : whileGo _ _ fuelW [.cl (dN ns (un L due)), .cl (.list (B.map .str)), .cl (.int 1), .cl (.list (ns.map .str)), .cl (dN (sortS B) fun n => .int (hourOf L due B n : Int)), .cl (.dict ((sortS B).map fun n => (.int (hourOf L due B n : Int), .str n))), .ow (.dict []), .ow (.list ((ns.filter fun n => !decide (n ∈ B)).map .str)), .un, .un] none = _ := e
    rw [e']
    have hs : sortedB (yesD (rg t)) = some (.list ((rg t).map .int)) := by
      unfold yesD
      rw [q_sortedY (by unfold rg; simp; omega), sortI_id]
      unfold rg
      rw [List.pairwise_map]
      exact List.pairwise_lt_range.imp fun h => by omega
    simp [hs]
  · exact z.elim
end Lw
/-! K12: prices -/
namespace Lw
open PySem L2 VM M1

def prD (t : Nat) : T := dI (rg t) fun _ => .int 1
theorem rg_len (t : Nat) : (rg t).length = t := by unfold rg; simp
theorem rg_nodup (t : Nat) : (rg t).Nodup := by
  unfold rg
  exact List.pairwise_map.mpr (List.nodup_range.imp fun h e => h (Int.ofNat.inj e))
theorem rg_sort (t : Nat) : sortI (rg t) = rg t := sortI_id (by
  unfold rg
  rw [List.pairwise_map]
  exact List.pairwise_lt_range.imp fun h => by omega)
theorem prices_by {ns : List Str} {L : Int} {due : Str → Int} (c : Ctx ns L due) :
    ∃ t : Nat, d_prices_by [.cl (dN ns (un L due))] none = some (prD t, none) ∧ t ≤ (bestU L due ns).length ∧ ct (Dd L due) (bestU L due ns) (t + 1) = t ∧ ∀ z ∈ ns, z ∉ bestU L due ns → Dd L due z ≤ t := by
  have b := bestU_best (L := L) (due := due) c.nm.nd
  have NB := (Best.lot b).names c.nm
  obtain ⟨t, et, h1, h2, h3⟩ := full_hours c b
  have few := NB.few
  have cc : cap = 16777216 := rfl
  unfold d_prices_by m_prices_by
  simp [best_of c]
  rw [dc_yes2 fun _ => 1]
  · cases hns : ns with
    | nil =>
      subst hns
      refine ⟨0, ?_, by omega, Nat.le_antisymm (b.2.2.1 0) (Nat.zero_le _), by simp⟩
      have e0 : sortedB (.dict []) = some (.list []) := by
        have := q_sortedY (l := []) (by simp)
        rw [sortI_id .nil] at this
        simpa using this
      simp [once, e0, forGo, dcGo]
      simp [prD, dI, rg]
    | cons n0 ns' =>
      have ho : once [] (ns.map fun _ => (1 : Int)) = [1] := by
        have : ∀ l : List Str, once [1] (l.map fun _ => (1 : Int)) = [1] := by
          intro l
          induction l with
          | nil => rfl
          | cons x l ih => exact ih
        rw [hns]
        exact this ns'
      rw [← hns, ho]
      have e1 : sortedB (.dict ([1].map yes)) = some (.list [.int 1]) := by
        have := q_sortedY (l := [1]) (by simp)
        rw [sortI_id (List.pairwise_singleton _ _)] at this
        simpa using this
      have e2 : ∀ u0 u1 u2 u3 u5, dcGo (.nm 4) (eLit (.bool true)) (eVar 4) (eVar 3) [u0, u1, u2, .cl u3, .un, u5] ((rg t).map .int) [] none = some ((rg t).map fun i => (.int i, u3), none) := by
        intro u0 u1 u2 u3 u5
        have := dc_int (e := PyData.int) (fun _ => true) id (fun _ => u3) (tg := .nm 4) (mt := eLit (.bool true)) (mk := eVar 4) (me := eVar 3) (sl := [u0, u1, u2, .cl u3, .un, u5]) (g := none) (xs := rg t) (ds := [])
          (fun n hn => ⟨[u0, u1, u2, .cl u3, .cl (.int n), u5], by simp, rfl, fun _ => ⟨rfl, rfl⟩⟩) (by
            rw [List.filter_eq_self.mpr (fun _ _ => rfl), List.map_id]
            exact rg_nodup t) (by simp) (by rw [rg_len]; simp; omega)
        rw [this, List.filter_eq_self.mpr (fun _ _ => rfl)]
        rfl
      have e3 : fUpdate (.dict []) [prD t] = some (prD t) := by
        have hm : mergeT [] ((rg t).map fun i => (PyData.int i, .int 1)) = (rg t).map fun i => (PyData.int i, .int 1) := by
          rw [mergeT_new _ _ (List.pairwise_map.mpr ((rg_nodup t).imp fun {a b} h => by rw [eqv_int]; exact decide_eq_false h)) (by simp)]
          rfl
        have hl : ((rg t).map fun i => ((PyData.int i : T), (PyData.int 1 : T))).length ≤ cap := by rw [List.length_map, rg_len]; omega
        unfold prD dI
        cases hr : rg t with
        | nil => rfl
        | cons i r =>
          rw [hr] at hm hl
          rw [List.map_cons] at hm hl ⊢
          show (if ([] : List (T × T)).length + _ ≤ cap then some (PyData.dict (mergeT [] _)) else none) = _
          rw [if_pos (by simpa using hl), hm]
      have e4 : sortedB (prD t) = some (.list ((rg t).map .int)) := by
        unfold prD dI
        rw [q_sortedInt (by rw [rg_len]; omega), rg_sort]
      have e5 : ∀ u0 u1 u3 u5, dcGo (.nm 4) (eLit (.bool true)) (eVar 4) (eOp bIdx (eVar 2) (eVar 4)) [u0, u1, .cl (prD t), u3, .un, u5] ((rg t).map .int) [] none = some ((rg t).map fun i => (.int i, .int 1), none) := by
        intro u0 u1 u3 u5
        have := dc_int (e := PyData.int) (fun _ => true) id (fun _ => .int 1) (tg := .nm 4) (mt := eLit (.bool true)) (mk := eVar 4) (me := eOp bIdx (eVar 2) (eVar 4)) (sl := [u0, u1, .cl (prD t), u3, .un, u5]) (g := none) (xs := rg t) (ds := [])
          (fun n hn => ⟨[u0, u1, .cl (prD t), u3, .cl (.int n), u5], by simp, rfl, fun _ => ⟨rfl, by unfold prD; simp [q_idxI hn]⟩⟩) (by
            rw [List.filter_eq_self.mpr (fun _ _ => rfl), List.map_id]
            exact rg_nodup t) (by simp) (by rw [rg_len]; simp; omega)
        rw [this, List.filter_eq_self.mpr (fun _ _ => rfl)]
        rfl
      have hpr : PyData.dict ((rg t).map fun i => ((PyData.int i : T), (PyData.int 1 : T))) = prD t := rfl
      refine ⟨t, ?_, h1, h2, h3⟩
      rw [List.map_cons, List.map_nil] at e1
      simp [e1, forGo, et, e2, hpr, e3, e4, e5]
  · intro x hx
    simp [q_idxN hx, un]
  · intro x hx
    simp [q_idxN hx, un]
  · exact c.nm.le
end Lw
/-! K13: worth of prices; lots or prices -/
namespace Lw
open PySem L2 VM M1

theorem best_prices {ns : List Str} {L : Int} {due : Str → Int} (c : Ctx ns L due) :
    ∃ t : Nat, d_best_prices [.cl (dN ns (un L due))] none = some (prD t, none) ∧ t ≤ (bestU L due ns).length ∧ ct (Dd L due) (bestU L due ns) (t + 1) = t ∧ ∀ z ∈ ns, z ∉ bestU L due ns → Dd L due z ≤ t := by
  obtain ⟨t, e, h1, h2, h3⟩ := prices_by c.sort
  rw [bestU_sort] at h1 h2 h3
  refine ⟨t, ?_, h1, h2, fun z hz => h3 z (mem_sortS.mpr hz)⟩
  unfold d_best_prices m_best_prices
  simp [checked_units c.nm, e]
theorem are_prices (t : Nat) (h : t ≤ 64) : d_are_prices [.cl (prD t)] none = some (.bool true, none) := by
  have cc : cap = 16777216 := rfl
  unfold d_are_prices m_are_prices prD
  simp
  rw [lc_a fun _ => .bool true]
  · simp [q_mkM, rg_len, show t ≤ cap by omega]
  · intro x hx
    simp [isT_int, is_number, q_idxI hx]
theorem rg_filter (t : Nat) (e : Int) : ((rg t).filter fun h => decide (h < e)).length = min t e.toNat := by
  unfold rg
  rw [List.filter_map, List.length_map]
  have : (List.range t).filter ((fun h : Int => decide (h < e)) ∘ fun i : Nat => (i : Int)) = (List.range t).filter fun i => decide (i < e.toNat) := by
    refine List.filter_congr fun i _ => ?_
    simp only [Function.comp]
    rw [Bool.eq_iff_iff]
    simp <;> omega
  rw [this]
  clear this
  generalize e.toNat = d
  induction t with
  | zero => simp
  | succ t ih =>
    rw [List.range_succ, List.filter_append, List.length_append, ih]
    by_cases h : t < d <;> simp [h] <;> omega
theorem above_least {ns : List Str} {L : Int} {due : Str → Int} {t : Nat} (ht : t ≤ 64) {n : Str} (hn : n ∈ ns) :
    d_above_least [.cl (dN ns (un L due)), .cl (prD t), .cl (.str n)] none = some (.int (if t + 1 ≤ Dd L due n then 1 else 0), none) := by
  have cc : cap = 16777216 := rfl
  unfold d_above_least m_above_least
  have e1 : ∀ u3 u5, lcGo (.nm 8) (eChain bLe bLt (eVar 3) (eVar 8) (eVar 4)) (eOp bIdx (eVar 1) (eVar 8)) [.cl (dN ns (un L due)), .cl (prD t), .cl (.str n), .cl (.int 0), .cl (.int (due n / L)), .cl (.int 1), u3, u5, .un] ((rg t).map .int) none = some (((rg t).filter fun h => decide (h < due n / L)).map fun _ => .int 1, none) := by
    intro u3 u5
    rw [lc_f (fun h => decide (h < due n / L)) fun _ => .int 1]
    · intro x hx
      have : 0 ≤ x := by
        unfold rg at hx
        obtain ⟨i, _, rfl⟩ := List.mem_map.mp hx
        omega
      simp [this]
    · intro x hx _
      simp [prD, q_idxI hx]
  have e2 : itemsOf (prD t, false) = some ((rg t).map .int, false) := by unfold prD; simp
  simp [q_idxN hn, un, e1, e2, q_mkF, rg_len, show t ≤ cap by omega, rg_filter]
  unfold Dd
  by_cases h0 : due n / L ≤ 0
  · simp [h0]
    omega
  · simp [h0]
    by_cases h1 : t + 1 ≤ (due n / L).toNat
    · have : ¬ (((((rg t).filter fun h => decide (h < due n / L)).length : Nat) : Int) = due n / L) := by rw [rg_filter]; omega
      simp [h1, this]
      decide
    · have h2 : (((((rg t).filter fun h => decide (h < due n / L)).length : Nat) : Int) = due n / L) := by rw [rg_filter]; omega
      have hne : ((rg t).filter fun h => decide (h < due n / L)) ≠ [] := by
        intro z
        have := rg_filter t (due n / L)
        rw [z] at this
        simp at this
        omega
      obtain ⟨m, hm, e3, _⟩ := q_minI' (l := (rg t).filter fun h => decide (h < due n / L)) (fun _ => 1) hne
      simp [h1, h2, e3]
theorem sum_ite {α : Type} (p : α → Prop) [DecidablePred p] (l : List α) : (l.map fun x => if p x then (1 : Int) else 0).sum = ((l.filter fun x => decide (p x)).length : Int) := by
  induction l with
  | nil => rfl
  | cons x l ih =>
    rw [List.map_cons, List.sum_cons, ih]
    by_cases h : p x
    · simp [h]; omega
    · simp [h]
theorem worth_of {ns : List Str} {L : Int} {due : Str → Int} (c : Ctx ns L due) {B : List Str} (b : Best (Dd L due) ns B) {t : Nat} (h1 : t ≤ B.length) (h2 : ct (Dd L due) B (t + 1) = t) (h3 : ∀ z ∈ ns, z ∉ B → Dd L due z ≤ t) :
    d_worth_of [.cl (dN ns (un L due)), .cl (prD t)] none = some (.int B.length, none) := by
  have NB := (Best.lot b).names c.nm
  have few := NB.few
  have w := worth_eq b c.nm.nd h2 h3
  unfold d_worth_of m_worth_of
  have e1 : ∀ g, eSv (eVar 1) [.cl (dN ns (un L due)), .cl (prD t), .un] g = some ((.int t, false), g) := by
    intro g
    have : sumVB (prD t) = some (.int t) := by
      have e : ((rg t).map fun i => ((PyData.int i : T), (PyData.int 1 : T))).map (·.2) = ((rg t).map fun _ => (1 : Int)).map .int := by rw [List.map_map, List.map_map]; rfl
      unfold prD dI
      cases hr : rg t with
      | nil =>
        have : t = 0 := by have := rg_len t; rw [hr] at this; simpa using this.symm
        subst this
        rfl
      | cons i r =>
        rw [hr] at e
        have e' := congrArg intsOf e
        rw [intsOf_map] at e'
        show (intsOf _).map _ = _
        refine (congrArg (Option.map _) e').trans ?_
        rw [Option.map_some, sum_const, ← hr, rg_len]
        simp
    unfold eSv
    simp [this]
  rw [q_den2]
  simp [e1]
  rw [lc_a fun n => .int (if t + 1 ≤ Dd L due n then 1 else 0)]
  · simp [q_mkM, c.nm.le, sum_ite]
    omega
  · intro x hx
    simp [above_least (L := L) (due := due) (t := t) (by omega) hx]
theorem checked_number {i : Int} (h : 0 ≤ i) : d_checked_number [.cl (.int i)] none = some (.int i, none) := by
  unfold d_checked_number m_checked_number
  simp [is_number, h]
theorem lot_or_prices {ns : List Str} {L : Int} {due : Str → Int} (c : Ctx ns L due) {i : Int} (h : 0 ≤ i) :
    ∃ t, d_lot_or_prices [.cl (dN ns (un L due)), .cl (.int i)] none = some (.tuple [.str (if i ≤ ((bestU L due ns).length : Int) then "lot" else "prices"), t], none) := by
  have b := bestU_best (L := L) (due := due) c.nm.nd
  have LB := Best.lot b
  have NB := LB.names c.nm
  obtain ⟨t, e, _⟩ := prices_by c.sort
  unfold d_lot_or_prices m_lot_or_prices
  by_cases hi : i ≤ ((bestU L due ns).length : Int)
  · simp [checked_units c.nm, best_of c.sort, bestU_sort, checked_number h, hi, q_sortedS, NB.ok, NB.le,
      weight_of (ns := sortS ns) (L := L) (due := due) (l := bestU L due ns) (fun x hx => mem_sortS.mpr (LB.sub x hx)) NB.le]
  · simp [checked_units c.nm, best_of c.sort, bestU_sort, checked_number h, hi, e,
      weight_of (ns := sortS ns) (L := L) (due := due) (l := bestU L due ns) (fun x hx => mem_sortS.mpr (LB.sub x hx)) NB.le]
end Lw
/-! K14: what numbers tell -/
namespace Lw
open PySem L2 VM M1

theorem is_lot {ns : List Str} {L : Int} {due : Str → Int} (c : Ctx ns L due) {i : Int} (h : 0 ≤ i) {l : List Str} (b : Best (Dd L due) ns l) :
    d_is_lot_or_prices [.cl (dN ns (un L due)), .cl (.int i), .cl (.tuple [.str "lot", .list (l.map .str)])] none = some (.bool (decide (i ≤ (l.length : Int))), none) := by
  have hl := Best.lot b
  have NL := hl.names c.nm
  have hl' : Lot (sortS ns) l := ⟨fun x hx => mem_sortS.mpr (hl.sub x hx), hl.nd⟩
  have e1 : bEq (.str "lot") (.str "lot") = some (.bool true) := by rw [bEq_str (by decide +kernel) (by decide +kernel)]; rfl
  have e2 := weight_of (ns := sortS ns) (L := L) (due := due) (l := l) hl'.sub NL.le
  unfold d_is_lot_or_prices m_is_lot_or_prices
  simp [checked_units c.nm, checked_number h, is_list_t, e1, first_odd c.nm.sort hl', does_fit c.sort hl', (okU_iff L due l).mpr b.2.2.1, e2]
theorem is_prices {ns : List Str} {L : Int} {due : Str → Int} (c : Ctx ns L due) {i : Int} (h : 0 ≤ i) {B : List Str} (b : Best (Dd L due) ns B) {t : Nat} (h1 : t ≤ B.length) (h2 : ct (Dd L due) B (t + 1) = t) (h3 : ∀ z ∈ ns, z ∉ B → Dd L due z ≤ t) :
    d_is_lot_or_prices [.cl (dN ns (un L due)), .cl (.int i), .cl (.tuple [.str "prices", prD t])] none = some (.bool (decide ((B.length : Int) < i)), none) := by
  have few := ((Best.lot b).names c.nm).few
  have e1 : bEq (.str "prices") (.str "lot") = some (.bool false) := by rw [bEq_str (by decide +kernel) (by decide +kernel)]; rfl
  have e2 : bEq (.str "prices") (.str "prices") = some (.bool true) := by rw [bEq_str (by decide +kernel) (by decide +kernel)]; rfl
  have e3 := worth_of c.sort (best_mem (fun z => mem_sortS.symm) b) h1 h2 (fun z hz => h3 z (mem_sortS.mp hz))
  unfold d_is_lot_or_prices m_is_lot_or_prices
  simp [checked_units c.nm, checked_number h, is_list_t, e1, e2, are_prices t (by omega), e3]
/-- the kept lot -/
theorem kept_ex {ns : List Str} {L : Int} {due : Str → Int} (c : Ctx ns L due) : ∃ k, d_kept_of [.cl (dN (sortS ns) (tk L due))] none = some (.list (k.map .str), none) ∧ Best (Dd L due) ns k ∧ sortS k = k := by
  obtain ⟨k, e, b⟩ := kept_of c.sort
  exact ⟨sortS k, e, best_perm (best_mem (fun z => mem_sortS) b) (sortS_perm k).symm, sortS_sortS k⟩
section
variable {ns k : List Str} {L : Int} {due : Str → Int}
theorem kept_tasks (c : Ctx ns L due) (hk : d_kept_of [.cl (dN (sortS ns) (tk L due))] none = some (.list (k.map .str), none)) : d_kept_tasks [.cl (dN ns (tk L due))] none = some (.list (k.map .str), none) := by
  unfold d_kept_tasks m_kept_tasks
  simp [checked_tasks c.nm c.pos, hk]
theorem most_in_time (c : Ctx ns L due) (hk : d_kept_of [.cl (dN (sortS ns) (tk L due))] none = some (.list (k.map .str), none)) : d_most_in_time [.cl (dN ns (tk L due))] none = some (.int k.length, none) := by
  unfold d_most_in_time m_most_in_time
  simp [checked_tasks c.nm c.pos, hk]
def ladT (ns : List Str) (L : Int) (due : Str → Int) : T := .list ((lad L due (sortS ns) 0 (dues due (sortS ns))).map (rowT L))
theorem ladder (c : Ctx ns L due) : d_ladder [.cl (dN ns (tk L due))] none = some (ladT ns L due, none) := by
  unfold d_ladder m_ladder
  simp [checked_tasks c.nm c.pos, ladder_of c.sort, ladT]
theorem kept_or_ladder (c : Ctx ns L due) (hk : d_kept_of [.cl (dN (sortS ns) (tk L due))] none = some (.list (k.map .str), none)) {i : Int} (h : 0 ≤ i) :
    ∃ t, d_kept_or_ladder [.cl (dN ns (tk L due)), .cl (.int i)] none = some (.tuple [.str (if i ≤ (k.length : Int) then "kept" else "ladder"), t], none) := by
  unfold d_kept_or_ladder m_kept_or_ladder
  by_cases hi : i ≤ (k.length : Int)
  · simp [checked_tasks c.nm c.pos, hk, checked_number h, hi]
  · simp [checked_tasks c.nm c.pos, hk, checked_number h, hi, ladder_of c.sort]
theorem is_kept (c : Ctx ns L due) {i : Int} (h : 0 ≤ i) {l : List Str} (b : Best (Dd L due) ns l) :
    d_is_kept_or_ladder [.cl (dN ns (tk L due)), .cl (.int i), .cl (.tuple [.str "kept", .list (l.map .str)])] none = some (.bool (decide (i ≤ (l.length : Int))), none) := by
  have hl := Best.lot b
  have NL := hl.names c.nm
  have hl' : Lot (sortS ns) l := ⟨fun x hx => mem_sortS.mpr (hl.sub x hx), hl.nd⟩
  have e1 : bEq (.str "kept") (.str "kept") = some (.bool true) := by rw [bEq_str (by decide +kernel) (by decide +kernel)]; rfl
  have e2 := late_in (ns := sortS ns) (L := L) (due := due) (l := l) hl'.sub NL.few
  have e3 : (dues due l).find? (lateP L due l) = none := (lateOf_none c.pos l).mpr b.2.2.1
  rw [e3] at e2
  unfold d_is_kept_or_ladder m_is_kept_or_ladder
  by_cases hi : i ≤ (l.length : Int)
  · simp [checked_tasks c.nm c.pos, checked_number h, is_list_t, e1, first_odd c.nm.sort hl', e2, optI, hi]
  · simp [checked_tasks c.nm c.pos, checked_number h, is_list_t, e1, first_odd c.nm.sort hl', e2, optI, hi]
theorem shaped_rep (n : Nat) (L : Int) : PyData.canLay0 (repT n L) = true ∧ PyData.depth (repT n L) ≤ 2 := by
  unfold repT
  have h1 : ∀ n : Nat, PyData.canLayAll0 (List.replicate n (PyData.int L)) = true := by
    intro n
    induction n with
    | zero => rfl
    | succ n ih => simp [List.replicate_succ, PyData.canLayAll0, PyData.canLay0, ih]
  have h2 : ∀ n : Nat, PyData.depthAll (List.replicate n (PyData.int L)) ≤ 1 := by
    intro n
    induction n with
    | zero => simp [PyData.depthAll]
    | succ n ih => simp [List.replicate_succ, PyData.depthAll, PyData.depth]; omega
  have := h2 n
  simp [PyData.canLay0, PyData.depth, h1]
  omega
theorem shaped_rows (L : Int) (rows : List (Int × Nat)) : SeqAt.shaped (.list (rows.map (rowT L))) = true := by
  have h1 : ∀ rows : List (Int × Nat), PyData.canLayAll0 (rows.map (rowT L)) = true ∧ PyData.depthAll (rows.map (rowT L)) ≤ 4 := by
    intro rows
    induction rows with
    | nil => simp [PyData.canLayAll0, PyData.depthAll]
    | cons r rows ih =>
      obtain ⟨a, b⟩ := shaped_rep r.2 L
      simp [rowT, PyData.canLayAll0, PyData.canLay0, PyData.depthAll, PyData.depth, ih, a]
      omega
  obtain ⟨a, b⟩ := h1 rows
  simp [SeqAt.shaped, PyData.canLay0, PyData.depth, a]
  omega
theorem rows_eq (L : Int) (rows : List (Int × Nat)) : bEq (.list (rows.map (rowT L))) (.list (rows.map (rowT L))) = some (.bool true) := by
  have s := shaped_rows L rows
  have c : PyData.canLay0 (.list (rows.map (rowT L))) = true := by
    unfold SeqAt.shaped at s
    simp at s
    simp [PyData.canLay0]
    exact s.1
  have e := SeqAt.eqv_refl _ c
  show (if SeqAt.shaped _ = true ∧ SeqAt.shaped _ = true then some (PyData.eqv (.list (rows.map (rowT L))) (.list (rows.map (rowT L)))) else none).map tb = _
  rw [if_pos ⟨s, s⟩, e]
  rfl
theorem is_ladder_row {d : Int} {n : Nat} (hL : 0 < L) (hn : n ≤ cap) : d_is_ladder_row [.cl (rowT L (d, n))] none = some (.bool true, none) := by
  unfold d_is_ladder_row m_is_ladder_row rowT repT
  simp [is_list_t, is_list_l, isT_int]
  rw [repT_map, lc_a fun _ => .bool true]
  · simp [q_mkR, hn]
  · intro x hx
    have := (List.mem_replicate.mp hx).2
    subst this
    simp [is_number, Int.le_of_lt hL]
theorem lad_ok {due : Str → Int} {ns : List Str} (h : ns.length < 64) : ∀ (ds : List Int) (j : Nat), ∀ p ∈ lad L due ns j ds, p.2 ≤ j + ds.length * 64
  | [], j => by intro p hp; cases hp
  | d :: ds, j => by
    intro p hp
    have hf := List.length_filter_le (fun n => decide (due n = d)) ns
    rcases List.mem_cons.mp (show p ∈ _ :: _ from hp) with rfl | hp
    · dsimp only
      simp
      omega
    · have := lad_ok h ds _ p hp
      simp
      omega
/-- how many of the last row stay -/
def lastN (rows : List (Int × Nat)) : Nat := (rows.getLast?.map (·.2)).getD 0
theorem is_ladder (c : Ctx ns L due) {i : Int} (h : 0 ≤ i) :
    d_is_kept_or_ladder [.cl (dN ns (tk L due)), .cl (.int i), .cl (.tuple [.str "ladder", ladT ns L due])] none = some (.bool (decide ((lastN (lad L due (sortS ns) 0 (dues due (sortS ns))) : Int) < i)), none) := by
  have cc : cap = 16777216 := rfl
  have e1 : bEq (.str "ladder") (.str "kept") = some (.bool false) := by rw [bEq_str (by decide +kernel) (by decide +kernel)]; rfl
  have e2 : bNe (.str "ladder") (.str "ladder") = some (.bool false) := by rw [bNe_str (by decide +kernel) (by decide +kernel)]; rfl
  have few := c.nm.few
  have hr : ∀ p ∈ lad L due (sortS ns) 0 (dues due (sortS ns)), p.2 ≤ 64 * 64 := by
    intro p hp
    have h1 := lad_ok (L := L) (due := due) c.sort.nm.few _ _ p hp
    have h2 := dues_len due (sortS ns)
    rw [length_sortS] at h2
    omega
  have hl : (lad L due (sortS ns) 0 (dues due (sortS ns))).length ≤ cap := by
    rw [lad_len]
    have h2 := dues_len due (sortS ns)
    rw [length_sortS] at h2
    omega
  unfold d_is_kept_or_ladder m_is_kept_or_ladder ladT
  have el := ladder_of c.sort
  generalize lad L due (sortS ns) 0 (dues due (sortS ns)) = rows at *
  simp [checked_tasks c.nm c.pos, checked_number h, is_list_t, is_list_l, e1, e2]
  rw [lc_a fun _ => .bool true]
  · simp [q_mkM, hl]
    rw [lc_a (rowT L)]
    · rcases List.eq_nil_or_concat rows with rfl | ⟨rs, r, rfl⟩
      · have e0 := rows_eq L []
        simp at e0
        have e3 : cutL ([] : List T) (some (-1)) none = [] := by unfold cutL; simp
        have e4 : bAdd (.list []) (.list [.tuple [.int 0, .list []]]) = some (.list [.tuple [.int 0, .list []]]) := q_addL (by simp; omega)
        simp [q_mkM, hl, el, e0, e3, e4, lastN]
        exact decide_eq_decide.mpr Iff.rfl
      · rw [List.concat_eq_append] at *
        have e0 := rows_eq L (rs ++ [r])
        have e3 : cutL ((rs ++ [r]).map (rowT L)) (some (-1)) none = [rowT L r] := by rw [List.map_append]; exact cutL_last _ _
        have e4 : bAdd (.list [rowT L r]) (.list [.tuple [.int 0, .list []]]) = some (.list [rowT L r, .tuple [.int 0, .list []]]) := q_addL (by simp; omega)
        have e5 : lastN (rs ++ [r]) = r.2 := by unfold lastN; simp
        have e6 : bIdx (rowT L r) (.int 1) = some (repT r.2 L) := q_ixT1 _ _ _
        have e7 : lenB (repT r.2 L) = some (.int r.2) := by unfold repT; simp
        rw [e5]
        generalize hrs : rs ++ [r] = rr at *
        simp [q_mkM, hl, el, e0, e3, e4, e6, e7]
    · rintro ⟨d, n⟩ hp
      simp [rowT, repT]
  · rintro ⟨d, n⟩ hp
    have := hr (d, n) hp
    simp [is_ladder_row (L := L) (d := d) (n := n) c.pos (by dsimp only at this; omega)]
end
end Lw
/-! K15: what is the same -/
namespace Lw
open PySem L2 VM M1

inductive Sam : Nat → T → Prop
  | int {n : Nat} (i : Int) : Sam (n + 1) (.int i)
  | bool {n : Nat} (i : Bool) : Sam (n + 1) (.bool i)
  | none {n : Nat} : Sam (n + 1) .none
  | str {n : Nat} {x : Str} : PyData.strOk x = true → Sam (n + 1) (.str x)
  | list {n : Nat} {ts : List T} : ts.length ≤ cap → (∀ t ∈ ts, Sam n t) → Sam (n + 1) (.list ts)
  | tuple {n : Nat} {ts : List T} : ts.length ≤ cap → (∀ t ∈ ts, Sam n t) → Sam (n + 1) (.tuple ts)
theorem zip_self (ts : List T) : zipT ts ts = ts.map fun t => .tuple [t, t] := by
  unfold zipT
  induction ts with
  | nil => rfl
  | cons t ts ih => simp [ih]
@[simp] theorem q_zipTu (ts us : List T) (b c : Bool) : zipOf [(.tuple ts, b), (.tuple us, c)] = some (zipT ts us, false) := rfl
theorem law_same : ∀ (n : Nat) {t : T}, Sam n t → d_law_same n [.cl t, .cl t] none = some (.bool true, none)
  | 0, t, h => by cases h
  | n + 1, t, h => by
    unfold d_law_same m_law_same
    cases h with
    | int i => simp
    | bool i => simp
    | none => simp
    | str h => simp [bEq_str h h]
    | @list _ ts hl h =>
      simp [zip_self]
      rw [lc_a fun _ => .bool true]
      · simp [q_mkM, hl]
      · intro x hx
        simp [law_same n (h x hx)]
    | @tuple _ ts hl h =>
      simp [zip_self]
      rw [lc_a fun _ => .bool true]
      · simp [q_mkM, hl]
      · intro x hx
        simp [law_same n (h x hx)]
theorem law_same_ro (n : Nat) {ts : List T} (hl : ts.length ≤ cap) (h : ∀ t ∈ ts, Sam n t) : d_law_same (n + 1) [.ro (.list ts), .cl (.list ts)] none = some (.bool true, none) := by
  unfold d_law_same m_law_same
  simp [zip_self]
  rw [lc_a fun _ => .bool true]
  · simp [q_mkM, hl]
  · intro x hx
    simp [law_same n (h x hx)]
theorem Sam.strs {n : Nat} {l : List Str} (h : okS l) (k : l.length ≤ cap) : Sam (n + 2) (.list (l.map .str)) :=
  .list (by simpa using k) fun t ht => by obtain ⟨x, hx, rfl⟩ := List.mem_map.mp ht; exact .str (h x hx)
theorem Sam.rep {n j : Nat} {L : Int} (k : j ≤ cap) : Sam (n + 2) (repT j L) :=
  .list (by simpa using k) fun t ht => by rw [(List.mem_replicate.mp ht).2]; exact .int _
theorem Sam.rows {n : Nat} {L : Int} {rows : List (Int × Nat)} (k : rows.length ≤ cap) (h : ∀ p ∈ rows, p.2 ≤ cap) : Sam (n + 4) (.list (rows.map (rowT L))) :=
  .list (by simpa using k) fun t ht => by
    obtain ⟨p, hp, rfl⟩ := List.mem_map.mp ht
    exact .tuple (by simp [cap]) fun t ht => by
      rcases List.mem_cons.mp ht with rfl | ht
      · exact .int _
      · rw [List.mem_singleton.mp ht]; exact .rep (h p hp)
end Lw
/-! K16: all lots -/
namespace Lw
open PySem L2 VM M1

theorem units_of {ns : List Str} {L : Int} {due : Str → Int} (c : Ctx ns L due) : d_law_units_of [.cl (dN ns (tk L due)), .cl (.int L)] none = some (dN ns (un L due), none) := by
  have h1 := c.pos
  have h2 := c.sm
  unfold d_law_units_of m_law_units_of
  simp
  rw [lc_a fun n => .tuple [.str n, un L due n]]
  · simp [q_mkM, c.nm.le, q_dictN c.nm.nd]
  · intro x hx
    simp [q_idxN hx, tk, un, bDiv_eq ⟨h1, (by omega : L < 1073741824)⟩]
theorem each_once (l : List Int) (h : l.length < cap) : d_law_each_once [.cl (.list (l.map .int))] none = some (.list ((once [] l).map .int), none) := by
  unfold d_law_each_once m_law_each_once
  simp
  obtain ⟨sl', e, found, a, h1, h2, rfl⟩ := for_rel (e := PyData.int) (tg := .nm 2) (g := none)
    (mb := (frzIf [] (mIf (eOp bNotIn (eVar 2) (eVar 1))
  (frzIf [2] (mMeth fAppend 1 (aCons (eVar 2) aNil)))
  mNx)))
    (fun left sl => ∃ (found : List Int) (a : Sl), found.length + left.length ≤ l.length ∧ once found left = once [] l ∧ sl = [.cl (.list (l.map .int)), .ow (.list (found.map .int)), a])
    (by
      rintro x left sl ⟨found, a, h1, h2, rfl⟩
      rw [List.length_cons] at h1
      have e : once found (x :: left) = once (if x ∈ found then found else found ++ [x]) left := rfl
      rw [e] at h2
      by_cases hx : x ∈ found
      · rw [if_pos hx] at h2
        exact ⟨[.cl (.list (l.map .int)), .ow (.list (found.map .int)), .cl (.int x)], by simp [q_notInI, hx], found, _, by omega, h2, rfl⟩
      · rw [if_neg hx] at h2
        exact ⟨[.cl (.list (l.map .int)), .ow (.list ((found ++ [x]).map .int)), .cl (.int x)], by simp [q_notInI, hx, q_app, show found.length < cap by omega], found ++ [x], _, by simp; omega, h2, rfl⟩) l [.cl (.list (l.map .int)), .ow (.list []), .un] ⟨[], .un, by simp, rfl, rfl⟩
  have h2' : found = once [] l := by simpa [once] using h2
  rw [e, h2']
  simp
def lotsU (L : Int) (due : Str → Int) (ns : List Str) : List (List Str) := lots (okT L due) [[]] (sortS ns)
theorem lots_app {α : Type} [DecidableEq α] {ok : List α → Bool} : ∀ (xs : List α) (f : List (List α)), (lots ok f xs).length ≤ f.length * 2 ^ xs.length
  | [], f => by simp [lots]
  | x :: xs, f => by
    rw [lots]
    refine Nat.le_trans (lots_app xs _) ?_
    rw [List.length_append, List.length_map, List.length_cons, Nat.pow_succ, Nat.mul_comm (2 ^ xs.length) 2, ← Nat.mul_assoc]
    refine Nat.mul_le_mul_right _ ?_
    have := List.length_filter_le (fun l => ok (l ++ [x])) f
    omega
theorem law_lots {ns : List Str} {L : Int} {due : Str → Int} (c : Ctx ns L due) : d_law_lots [.cl (dN ns (tk L due)), .cl (.int L)] none = some (.list ((lotsU L due ns).map strsT), none) := by
  have cc : cap = 16777216 := rfl
  have nine := c.nine
  unfold d_law_lots m_law_lots
  simp [q_sortedN c.nm.few]
  obtain ⟨sl', e, found, dn, a, h1, h2, h3, h4, rfl⟩ := for_rel (e := PyData.str) (tg := .nm 3) (g := none)
    (mb := (frzIf [3, 3] (mMeth fExtend 2 (aCons (eLc (iVal (eVar 2)) (.nm 4) (eFn d_law_in_time (asVal (eVar 0) (asVal (eOp bAdd (eVar 4) (eLst (aCons (eVar 3) aNil))) (asVal (eVar 1) asNil)))) (eOp bAdd (eVar 4) (eLst (aCons (eVar 3) aNil))) [4]) aNil))))
    (fun left sl => ∃ (found : List (List Str)) (dn : List Str) (a : Sl), (∀ l ∈ found, l.Sublist dn) ∧ dn ++ left = sortS ns ∧ found.length * 2 ^ left.length ≤ 65536 ∧ lots (okT L due) found left = lotsU L due ns ∧ sl = [.cl (dN ns (tk L due)), .cl (.int L), .ow (.list (found.map strsT)), a, .un])
    (by
      rintro x left sl ⟨found, dn, a, h1, h2, h3, h4, rfl⟩
      have hd : ∀ l ∈ found, Lot ns (l ++ [x]) := by
        intro l hl
        have s1 : (l ++ [x]).Sublist (sortS ns) := by
          rw [← h2]
          exact (h1 l hl).append ((List.Sublist.cons_cons x (List.nil_sublist left)))
        exact ⟨fun y hy => mem_sortS.mp (s1.subset hy), (nodup_sortS.mpr c.nm.nd).sublist s1⟩
      have hfl : found.length ≤ 65536 := by
        have : 1 ≤ 2 ^ (x :: left).length := Nat.one_le_two_pow
        have := Nat.mul_le_mul_left found.length this
        omega
      have ev : lcGo (.nm 4) (eFn d_law_in_time (asVal (eVar 0) (asVal (eOp bAdd (eVar 4) (eLst (aCons (eVar 3) aNil))) (asVal (eVar 1) asNil)))) (eOp bAdd (eVar 4) (eLst (aCons (eVar 3) aNil))) [.cl (dN ns (tk L due)), .cl (.int L), .ow (.list (found.map strsT)), .cl (.str x), .un] (found.map strsT) none = some ((found.filter fun l => okT L due (l ++ [x])).map (fun l => strsT (l ++ [x])), none) := by
        have add : ∀ l ∈ found, bAdd (strsT l) (.list [.str x]) = some (strsT (l ++ [x])) := by
          intro l hl
          have := ((hd l hl).names c.nm).le
          unfold strsT
          rw [q_addL (by simpa using this)]
          simp
        rw [lc_f (fun l => okT L due (l ++ [x])) fun l => strsT (l ++ [x])]
        · intro l hl
          have e2 : d_law_in_time [.cl (dN ns (tk L due)), .cl (strsT (l ++ [x])), .cl (.int L)] none = _ := law_in_time c (l := l ++ [x]) (hd l hl).sub ((hd l hl).names c.nm).le
          simp [add l hl, e2]
        · intro l hl _
          simp [add l hl]
      have hlen : found.length + (found.filter fun l => okT L due (l ++ [x])).length ≤ cap := by
        have := List.length_filter_le (fun l => okT L due (l ++ [x])) found
        omega
      have em : found.map strsT ++ (found.filter fun l => okT L due (l ++ [x])).map (fun l => strsT (l ++ [x])) = (found ++ (found.filter fun l => okT L due (l ++ [x])).map (fun l => l ++ [x])).map strsT := by
        rw [List.map_append, List.map_map]; rfl
      refine ⟨[.cl (dN ns (tk L due)), .cl (.int L), .ow (.list ((found ++ (found.filter fun l => okT L due (l ++ [x])).map (fun l => l ++ [x])).map strsT)), .cl (.str x), .un], ?_, _, dn ++ [x], .cl (.str x), ?_, by simpa using h2, ?_, ?_, rfl⟩
      · rw [← em]
        simp [ev, q_mkF, show found.length ≤ cap by omega, q_ext, hlen]
      · intro l hl
        rcases List.mem_append.mp hl with h | h
        · exact (h1 l h).trans (List.sublist_append_left _ _)
        · obtain ⟨l', hl', rfl⟩ := List.mem_map.mp h
          exact (h1 l' (List.mem_filter.mp hl').1).append (List.Sublist.refl _)
      · rw [List.length_cons, Nat.pow_succ] at h3
        rw [List.length_append, List.length_map]
        have h5 := List.length_filter_le (fun l => okT L due (l ++ [x])) found
        refine Nat.le_trans (Nat.mul_le_mul_right _ (show _ ≤ found.length * 2 by omega)) ?_
        rw [Nat.mul_assoc, Nat.mul_comm 2]
        exact h3
      · exact h4) (sortS ns) [.cl (dN ns (tk L due)), .cl (.int L), .ow (.list [strsT []]), .un, .un] ⟨[[]], [], .un, by simp, rfl, by
        rw [length_sortS]
        have := Nat.pow_le_pow_right (show 0 < 2 by omega) nine
        simp
        omega, rfl, rfl⟩
  have h4' : found = lotsU L due ns := by simpa [lots] using h4
  have e' : forGo _ _ (List.map PyData.str (sortS ns)) [.cl (dN ns (tk L due)), .cl (.int L), .ow (.list [.list []]), .un, .un] none = _ := e
  rw [e', h4']
  simp
theorem lotsU_mem {ns : List Str} {L : Int} {due : Str → Int} (h : 0 < L) (l : List Str) : l ∈ lotsU L due ns ↔ l.Sublist (sortS ns) ∧ Fit (Dd L due) l :=
  lots_all (okT_iff h) (sortS ns) l
theorem lotsU_len {ns : List Str} {L : Int} {due : Str → Int} (h : ns.length ≤ 16) : (lotsU L due ns).length ≤ 65536 := by
  have h1 := lots_app (ok := okT L due) (sortS ns) [[]]
  rw [length_sortS] at h1
  have := Nat.pow_le_pow_right (show 0 < 2 by omega) h
  unfold lotsU
  simp at h1
  omega
end Lw
set_option maxHeartbeats 4000000
/-! K17: kept ones, ladders, best lots go together -/
namespace Lw
open PySem L2 VM M1

theorem sub_sorted {ns l : List Str} (nd : l.Nodup) (hs : ∀ x ∈ l, x ∈ ns) (ndn : ns.Nodup) (h : sortS l = l) : l.Sublist (sortS ns) := by
  have e : l = (sortS ns).filter fun x => decide (x ∈ l) := by
    refine sorted_eq ?_ (h ▸ sortS_pw l) ((sortS_pw ns).sublist List.filter_sublist)
    refine (List.perm_ext_iff_of_nodup nd ((nodup_sortS.mpr ndn).sublist List.filter_sublist)).mpr fun a => ?_
    rw [List.mem_filter, mem_sortS, decide_eq_true_eq]
    exact ⟨fun h => ⟨hs a h, h⟩, fun h => h.2⟩
  rw [e]
  exact List.filter_sublist
structure Kp (ns k : List Str) (L : Int) (due : Str → Int) : Prop where
  ev : d_kept_of [.cl (dN (sortS ns) (tk L due))] none = some (.list (k.map .str), none)
  best : Best (Dd L due) ns k
  srt : sortS k = k
section
variable {ns k : List Str} {L : Int} {due : Str → Int}
theorem lots_lot (c : Ctx ns L due) {l : List Str} (h : l ∈ lotsU L due ns) : Lot ns l ∧ Fit (Dd L due) l ∧ sortS l = l := by
  obtain ⟨a, b⟩ := (lotsU_mem c.pos l).mp h
  exact ⟨⟨fun x hx => mem_sortS.mp (a.subset hx), (nodup_sortS.mpr c.nm.nd).sublist a⟩, b, sortS_id ((sortS_pw ns).sublist a)⟩
theorem best_lots (c : Ctx ns L due) {l : List Str} (b : Best (Dd L due) ns l) : sortS l ∈ lotsU L due ns := by
  rw [lotsU_mem c.pos]
  exact ⟨sub_sorted (nodup_sortS.mpr b.1) (fun x hx => b.2.1 x (mem_sortS.mp hx)) c.nm.nd (sortS_sortS l), b.2.2.1.perm (sortS_perm l)⟩
def greatU (L : Int) (due : Str → Int) (ns k : List Str) : List (List Str) := (lotsU L due ns).filter fun l => decide ((l.length : Int) = (k.length : Int))
theorem great_mem (c : Ctx ns L due) (K : Kp ns k L due) {l : List Str} : l ∈ greatU L due ns k ↔ l ∈ lotsU L due ns ∧ Best (Dd L due) ns l := by
  unfold greatU
  rw [List.mem_filter, decide_eq_true_eq]
  constructor
  · rintro ⟨h1, h2⟩
    obtain ⟨a, b, _⟩ := lots_lot c h1
    exact ⟨h1, best_of_len K.best a.nd a.sub b (by omega)⟩
  · rintro ⟨h1, h2⟩
    have := Best.len h2 K.best
    exact ⟨h1, by omega⟩
theorem any_great (c : Ctx ns L due) (K : Kp ns k L due) {n : Str} (hn : n ∈ sortS ns) : ((greatU L due ns k).any fun l => decide (n ∈ l)) = staysB L due (sortS ns) n (-1) := by
  rw [Bool.eq_iff_iff, stays_some c.sort.nm.nd hn, List.any_eq_true]
  constructor
  · rintro ⟨l, hl, hm⟩
    exact ⟨l, best_mem (fun z => mem_sortS.symm) ((great_mem c K).mp hl).2, of_decide_eq_true hm⟩
  · rintro ⟨l, hl, hm⟩
    have b := best_mem (ys := ns) (fun z => mem_sortS) hl
    refine ⟨sortS l, (great_mem c K).mpr ⟨best_lots c b, best_perm b (sortS_perm l).symm⟩, decide_eq_true (mem_sortS.mpr hm)⟩
theorem all_great (c : Ctx ns L due) (K : Kp ns k L due) {n : Str} (hn : n ∈ sortS ns) : ((greatU L due ns k).all fun l => decide (n ∈ l)) = staysB L due (sortS ns) n 1 := by
  rw [Bool.eq_iff_iff, stays_all c.sort.nm.nd hn, List.all_eq_true]
  constructor
  · intro h l hl
    have b := best_mem (ys := ns) (fun z => mem_sortS) hl
    exact mem_sortS.mp (of_decide_eq_true (h (sortS l) ((great_mem c K).mpr ⟨best_lots c b, best_perm b (sortS_perm l).symm⟩)))
  · intro h l hl
    exact decide_eq_true (h l (best_mem (fun z => mem_sortS.symm) ((great_mem c K).mp hl).2))
def wholeU (L : Int) (due : Str → Int) (ns : List Str) : List Str := (sortS ns).filter fun n => staysB L due (sortS ns) n (-1)
def sureU (L : Int) (due : Str → Int) (ns : List Str) : List Str := (sortS ns).filter fun n => staysB L due (sortS ns) n 1
theorem whole_eq (c : Ctx ns L due) (K : Kp ns k L due) : ((sortS ns).filter fun n => (greatU L due ns k).any fun l => decide (n ∈ l)) = wholeU L due ns :=
  List.filter_congr fun n hn => any_great c K hn
theorem sure_eq (c : Ctx ns L due) (K : Kp ns k L due) : ((wholeU L due ns).filter fun n => (greatU L due ns k).all fun l => decide (n ∈ l)) = sureU L due ns := by
  unfold wholeU sureU
  rw [List.filter_filter]
  refine List.filter_congr fun n hn => ?_
  rw [all_great c K hn]
  cases h : staysB L due (sortS ns) n 1 with
  | false => simp
  | true =>
    have h2 := (stays_all c.sort.nm.nd hn).mp h
    have b := best_mem (ys := sortS ns) (fun z => mem_sortS.symm) K.best
    have := (stays_some c.sort.nm.nd hn).mpr ⟨k, b, h2 k b⟩
    simp [this]
/-- the longest lot of those due by then -/
theorem max_inner (c : Ctx ns L due) {d : Int} {h : Nat} (hp : (d, h) ∈ lad L due (sortS ns) 0 (dues due (sortS ns))) :
    maxB (.list (((lotsU L due ns).filter fun l => l.all fun n => decide (due n ≤ d)).map fun l => .int (l.length : Int))) = some (.int h) := by
  obtain ⟨b, hb, hl⟩ := lad_all c.sort (d, h) hp
  dsimp only at hb hl
  have hsub : sortS b ∈ (lotsU L due ns).filter fun l => l.all fun n => decide (due n ≤ d) := by
    rw [List.mem_filter]
    refine ⟨?_, ?_⟩
    · rw [lotsU_mem c.pos]
      refine ⟨sub_sorted (nodup_sortS.mpr hb.1) (fun x hx => ?_) c.nm.nd (sortS_sortS b), hb.2.2.1.perm (sortS_perm b)⟩
      have := hb.2.1 x (mem_sortS.mp hx)
      exact mem_sortS.mp (List.mem_filter.mp this).1
    · rw [List.all_eq_true]
      intro x hx
      exact (List.mem_filter.mp (hb.2.1 x (mem_sortS.mp hx))).2
  obtain ⟨m, hm, e, hmax⟩ := q_maxI' (l := (lotsU L due ns).filter fun l => l.all fun n => decide (due n ≤ d)) (fun l => (l.length : Int)) (List.ne_nil_of_mem hsub)
  have h1 := hmax _ hsub
  rw [length_sortS] at h1
  obtain ⟨m1, m2⟩ := List.mem_filter.mp hm
  obtain ⟨ml, mf, _⟩ := lots_lot c m1
  have h2 := hb.2.2.2 m ml.nd (fun z hz => List.mem_filter.mpr ⟨mem_sortS.mpr (ml.sub z hz), List.all_eq_true.mp m2 z hz⟩) mf
  rw [e]
  congr 2
  omega
theorem max_all (c : Ctx ns L due) (K : Kp ns k L due) : maxB (.list ((lotsU L due ns).map fun l => .int (l.length : Int))) = some (.int k.length) := by
  have hk : k ∈ lotsU L due ns := by have := best_lots c K.best; rwa [K.srt] at this
  obtain ⟨m, hm, e, hmax⟩ := q_maxI' (l := lotsU L due ns) (fun l => (l.length : Int)) (List.ne_nil_of_mem hk)
  have h1 := hmax _ hk
  obtain ⟨ml, mf, _⟩ := lots_lot c hm
  have h2 := K.best.2.2.2 m ml.nd ml.sub mf
  rw [e]
  congr 2
  omega
end
end Lw
/-! K18: kept ones, ladders, best lots go together: the law's own look -/
namespace Lw
open PySem L2 VM M1

section
variable {ns k : List Str} {L : Int} {due : Str → Int}
theorem rep_flat (t : T) (h : Nat) : (List.replicate h [t]).flatten = List.replicate h t := by
  induction h with
  | zero => rfl
  | succ h ih => rw [List.replicate_succ, List.flatten_cons, ih, List.replicate_succ]; rfl
theorem mul_one {L : Int} {h : Nat} (k : h ≤ 65536) : bMul (.list [.int L]) (.int (h : Int)) = some (repT h L) := by
  have cc : cap = 16777216 := rfl
  simp only [bMul]
  rw [if_pos ⟨(by simp; omega : [PyData.int L].length ≤ cap), by omega, by omega, by simp; omega⟩, Int.toNat_natCast, rep_flat]
  rfl
theorem most_right (c : Ctx ns L due) (K : Kp ns k L due) : d_law_most_right [.cl (dN ns (tk L due)), .cl (dN ns (un L due)), .cl (.int L)] none = some (.bool true, none) := by
  have cc : cap = 16777216 := rfl
  have nine := c.nine
  have KL := Best.lot K.best
  have KN := KL.names c.nm
  have hE := lotsU_len (L := L) (due := due) nine
  have hEc : (lotsU L due ns).length ≤ cap := by omega
  have hG : (greatU L due ns k).length ≤ cap := Nat.le_trans (List.length_filter_le _ _) hEc
  have b0 := bestU_best (L := L) (due := due) c.nm.nd
  have BL := Best.lot b0
  have BN := BL.names c.nm
  have bl : (bestU L due ns).length = k.length := Best.len b0 K.best
  have kE : k ∈ lotsU L due ns := by have := best_lots c K.best; rwa [K.srt] at this
  have okE : ∀ l ∈ lotsU L due ns, okS l := fun l hl => ((lots_lot c hl).1.names c.nm).ok
  -- the longest
  have ev1 : ∀ u0 u1 u2 u3 u4 u5 u6 u7 u8 u9 u10 u11 u12 u13 u14 u16, lcGo (.nm 15) (eLit (.bool true)) (eBi (bi1 lenB) (aCons (eVar 15) aNil)) [u0, u1, u2, u3, u4, u5, u6, u7, u8, u9, u10, u11, u12, u13, u14, .un, u16] ((lotsU L due ns).map strsT) none = some ((lotsU L due ns).map (fun l => .int (l.length : Int)), none) := by
    intro u0 u1 u2 u3 u4 u5 u6 u7 u8 u9 u10 u11 u12 u13 u14 u16
    rw [lc_a fun l : List Str => .int (l.length : Int)]
    intro l hl
    simp [strsT]
  -- lots in order
  have ev2 : ∀ u0 u1 u2 u3 u4 u5 u6 u7 u8 u9 u10 u11 u12 u13 u14 u16, lcGo (.nm 15) (eLit (.bool true)) (eBi (bi1 sortedB) (aCons (eVar 15) aNil)) [u0, u1, u2, u3, u4, u5, u6, u7, u8, u9, u10, u11, u12, u13, u14, .un, u16] ((lotsU L due ns).map strsT) none = some ((lotsU L due ns).map strsT, none) := by
    intro u0 u1 u2 u3 u4 u5 u6 u7 u8 u9 u10 u11 u12 u13 u14 u16
    rw [lc_a strsT]
    intro l hl
    obtain ⟨a, b, e⟩ := lots_lot c hl
    have := (a.names c.nm).le
    simp [strsT, q_sortedS (okE l hl) this, e]
  -- the great ones
  have ev3 : ∀ u0 u1 u2 u3 u5 u6 u7 u8 u9 u10 u11 u12 u13 u14 u16, lcGo (.nm 15) (eOp bEq (eBi (bi1 lenB) (aCons (eVar 15) aNil)) (eVar 4)) (eVar 15) [u0, u1, u2, u3, .cl (.int (k.length : Int)), u5, u6, u7, u8, u9, u10, u11, u12, u13, u14, .un, u16] ((lotsU L due ns).map strsT) none = some ((greatU L due ns k).map strsT, none) := by
    intro u0 u1 u2 u3 u5 u6 u7 u8 u9 u10 u11 u12 u13 u14 u16
    rw [lc_f (fun l : List Str => decide ((l.length : Int) = (k.length : Int))) strsT]
    · rfl
    · intro l hl
      simp [strsT]
    · intro l hl _
      simp
  have ev4 : ∀ n ∈ ns, ∀ u0 u1 u2 u3 u4 u5 u6 u7 u8 u9 u10 u11 u12 u13 u14, lcGo (.nm 15) (eLit (.bool true)) (eOp bIn (eVar 16) (eVar 15)) [u0, u1, u2, u3, u4, u5, u6, u7, u8, u9, u10, u11, u12, u13, u14, .un, .cl (.str n)] ((greatU L due ns k).map strsT) none = some ((greatU L due ns k).map (fun l => .bool (decide (n ∈ l))), none) := by
    intro n hn u0 u1 u2 u3 u4 u5 u6 u7 u8 u9 u10 u11 u12 u13 u14
    rw [lc_a fun l : List Str => .bool (decide (n ∈ l))]
    intro l hl
    simp [strsT, q_inS (okE l (List.mem_filter.mp hl).1) (c.nm.ok n hn)]
  have ev5 : ∀ u0 u1 u2 u3 u4 u5 u6 u7 u9 u10 u11 u12 u13 u14, lcGo (.nm 16) (eBi (bi1 anyB) (aCons (eLc (iVal (eVar 8)) (.nm 15) (eLit (.bool true)) (eOp bIn (eVar 16) (eVar 15)) [15]) aNil)) (eVar 16) [u0, u1, u2, u3, u4, u5, u6, u7, .cl (.list ((greatU L due ns k).map strsT)), u9, u10, u11, u12, u13, u14, .un, .un] ((sortS ns).map .str) none = some ((wholeU L due ns).map .str, none) := by
    intro u0 u1 u2 u3 u4 u5 u6 u7 u9 u10 u11 u12 u13 u14
    rw [lc_f (fun n => (greatU L due ns k).any fun l => decide (n ∈ l)) PyData.str, whole_eq c K]
    · intro n hn
      simp [ev4 n (mem_sortS.mp hn), q_mkM, hG]
    · intro n hn _
      simp
  have ev6 : ∀ u0 u1 u2 u3 u4 u5 u6 u7 u9 u10 u11 u12 u13 u14, lcGo (.nm 16) (eBi (bi1 allB) (aCons (eLc (iVal (eVar 8)) (.nm 15) (eLit (.bool true)) (eOp bIn (eVar 16) (eVar 15)) [15]) aNil)) (eVar 16) [u0, u1, u2, u3, u4, u5, u6, u7, .cl (.list ((greatU L due ns k).map strsT)), u9, u10, u11, u12, u13, u14, .un, .un] ((wholeU L due ns).map .str) none = some ((sureU L due ns).map .str, none) := by
    intro u0 u1 u2 u3 u4 u5 u6 u7 u9 u10 u11 u12 u13 u14
    rw [lc_f (fun n => (greatU L due ns k).all fun l => decide (n ∈ l)) PyData.str, sure_eq c K]
    · intro n hn
      simp [ev4 n (mem_sortS.mp (List.mem_filter.mp hn).1), q_mkM, hG]
    · intro n hn _
      simp
  have ev7 : ∀ u1 u2 u3 u4 u5 u6 u7 u8 u9 u10 u11 u12 u13 u14 u15, lcGo (.nm 16) (eLit (.bool true)) (eOp bIdx (eOp bIdx (eVar 0) (eVar 16)) (eLit (.int 1))) [.cl (dN ns (tk L due)), u1, u2, u3, u4, u5, u6, u7, u8, u9, u10, u11, u12, u13, u14, u15, .un] (ns.map .str) none = some ((ns.map due).map .int, none) := by
    intro u1 u2 u3 u4 u5 u6 u7 u8 u9 u10 u11 u12 u13 u14 u15
    rw [lc_a fun n => .int (due n), List.map_map]
    · rfl
    · intro n hn
      simp [q_idxN hn, tk]
  have ev8 : ∀ (l : List Str) (hl : ∀ x ∈ l, x ∈ ns) (d : Int), ∀ u1 u2 u3 u4 u5 u6 u7 u8 u9 u10 u11 u12 u14 u15, lcGo (.nm 16) (eLit (.bool true)) (eOp bLe (eOp bIdx (eOp bIdx (eVar 0) (eVar 16)) (eLit (.int 1))) (eVar 13)) [.cl (dN ns (tk L due)), u1, u2, u3, u4, u5, u6, u7, u8, u9, u10, u11, u12, .cl (.int d), u14, u15, .un] (l.map .str) none = some (l.map (fun n => .bool (decide (due n ≤ d))), none) := by
    intro l hl d u1 u2 u3 u4 u5 u6 u7 u8 u9 u10 u11 u12 u14 u15
    rw [lc_a fun n => .bool (decide (due n ≤ d))]
    intro n hn
    simp [q_idxN (hl n hn), tk]
  have ev9 : ∀ (d : Int), ∀ u1 u2 u3 u4 u5 u6 u7 u8 u9 u10 u11 u12 u14, lcGo (.nm 15) (eBi (bi1 allB) (aCons (eLc (iVal (eVar 15)) (.nm 16) (eLit (.bool true)) (eOp bLe (eOp bIdx (eOp bIdx (eVar 0) (eVar 16)) (eLit (.int 1))) (eVar 13)) [16]) aNil)) (eBi (bi1 lenB) (aCons (eVar 15) aNil)) [.cl (dN ns (tk L due)), u1, u2, u3, u4, u5, u6, u7, u8, u9, u10, u11, u12, .cl (.int d), u14, .un, .un] ((lotsU L due ns).map strsT) none = some (((lotsU L due ns).filter fun l => l.all fun n => decide (due n ≤ d)).map (fun l => .int (l.length : Int)), none) := by
    intro d u1 u2 u3 u4 u5 u6 u7 u8 u9 u10 u11 u12 u14
    rw [lc_f (fun l : List Str => l.all fun n => decide (due n ≤ d)) fun l => .int (l.length : Int)]
    · intro l hl
      obtain ⟨a, _, _⟩ := lots_lot c hl
      have h := ev8 l a.sub d
      simp [strsT, h, q_mkM, (a.names c.nm).le]
    · intro l hl _
      simp [strsT]
  have fitB : Fit (Dd L due) (sortS (bestU L due ns)) := b0.2.2.1.perm (sortS_perm _)
  have lotB : Lot ns (sortS (bestU L due ns)) := ⟨fun x hx => BL.sub x (mem_sortS.mp hx), nodup_sortS.mpr b0.1⟩
  have e1 := law_lots c
  have e2 := kept_tasks c K.ev
  have e3 := best_lot c
  have e4 := most_in_time c K.ev
  have e5 := best_weight c
  rw [bl] at e5
  have e6 := law_in_time c (l := sortS (bestU L due ns)) lotB.sub (lotB.names c.nm).le
  rw [(okT_iff c.pos _).mpr fitB] at e6
  have e7 := is_best_lot c K.best
  have e8 := late_at c lotB
  rw [(lateOf_none c.pos _).mpr fitB, optI] at e8
  have e9 := in_some_best c
  have e10 := in_all_best c
  have e11 := ladder c
  have e12 := max_all c K
  have e13 : bIn (.list (k.map .str)) (.list ((lotsU L due ns).map strsT)) = some (.bool true) := by
    have := q_inLS okE KN.ok
    rw [decide_eq_true kE] at this
    exact this
  have lenB' : (sortS (bestU L due ns)).length = k.length := by rw [length_sortS, bl]
  have s1 : d_law_same recD [.cl (.list [.int (k.length : Int), .int (k.length : Int), .int (k.length : Int), .int (k.length : Int), .bool true]), .cl (.list [.int (k.length : Int), .int (k.length : Int), .int (k.length : Int), .int (k.length : Int), .bool true])] none = some (.bool true, none) := by
    refine law_same 12 (.list (by simp [cap]) fun t ht => ?_)
    simp at ht
    rcases ht with rfl | rfl
    · exact .int _
    · exact .bool _
  have s2 : d_law_same recD [.cl (.list [.bool true, .none]), .cl (.list [.bool true, .none])] none = some (.bool true, none) := by
    refine law_same 12 (.list (by simp [cap]) fun t ht => ?_)
    simp at ht
    rcases ht with rfl | rfl
    · exact .bool _
    · exact .none
  have okW : ∀ p : Str → Bool, okS ((sortS ns).filter p) ∧ ((sortS ns).filter p).length ≤ cap := fun p => ⟨fun x hx => c.nm.sort.ok x (List.mem_filter.mp hx).1, Nat.le_trans (List.length_filter_le _ _) c.nm.sort.le⟩
  have s3 : d_law_same recD [.cl (.list [.list ((wholeU L due ns).map .str), .list ((sureU L due ns).map .str)]), .cl (.list [.list ((wholeU L due ns).map .str), .list ((sureU L due ns).map .str)])] none = some (.bool true, none) := by
    refine law_same 12 (.list (by simp [cap]) fun t ht => ?_)
    simp at ht
    rcases ht with rfl | rfl
    · exact .strs (okW _).1 (okW _).2
    · exact .strs (okW _).1 (okW _).2
  have hr : ∀ p ∈ lad L due (sortS ns) 0 (dues due (sortS ns)), p.2 ≤ 64 * 64 := by
    intro p hp
    have h1 := lad_ok (L := L) (due := due) c.sort.nm.few _ _ p hp
    have h2 := dues_len due (sortS ns)
    rw [length_sortS] at h2
    omega
  have hl : (lad L due (sortS ns) 0 (dues due (sortS ns))).length ≤ 16 := by
    rw [lad_len]
    have h2 := dues_len due (sortS ns)
    rw [length_sortS] at h2
    omega
  have s4 : d_law_same recD [.cl (ladT ns L due), .cl (ladT ns L due)] none = some (.bool true, none) :=
    law_same 12 (.rows (by omega) fun p hp => by have := hr p hp; omega)
  have e14 := each_once (ns.map due) (by rw [List.length_map]; omega)
  have e15 : sortedB (.list ((once [] (ns.map due)).map .int)) = some (.list ((dues due ns).map .int)) := q_sortedI (by have := once_len (ns.map due) []; simp at this; omega)
  have hdues : dues due ns = dues due (sortS ns) := dues_perm (sortS_perm ns).symm
  have wh : ((sortS ns).filter fun n => staysB L due (sortS ns) n (-1)) = wholeU L due ns := rfl
  have su : ((sortS ns).filter fun n => staysB L due (sortS ns) n 1) = sureU L due ns := rfl
  rw [wh] at e9
  rw [su] at e10
  obtain ⟨wl1, wl2⟩ := okW fun n => staysB L due (sortS ns) n (-1)
  rw [wh] at wl1 wl2
  have loop : ∀ u1 u4 u5 u6 u7 u8 u9 u10 u11 u13 u14, ∃ sl', forGo (.nm 13)
      (mSeq (frzIf [] (mSet' false 14 (eLc (iVal (eVar 3)) (.nm 15) (eBi (bi1 allB) (aCons (eLc (iVal (eVar 15)) (.nm 16) (eLit (.bool true)) (eOp bLe (eOp bIdx (eOp bIdx (eVar 0) (eVar 16)) (eLit (.int 1))) (eVar 13)) [16]) aNil)) (eBi (bi1 lenB) (aCons (eVar 15) aNil)) [15])))
  (frzIf [13, 2] (mMeth fAppend 12 (aCons (eTup (aCons (eVar 13) (aCons (eOp bMul (eLst (aCons (eVar 2) aNil)) (eBi (bi1 maxB) (aCons (eVar 14) aNil))) aNil))) aNil))))
      ((dues due ns).map .int) [.cl (dN ns (tk L due)), u1, .cl (.int L), .cl (.list ((lotsU L due ns).map strsT)), u4, u5, u6, u7, u8, u9, u10, .cl u11, .ow (.list []), u13, u14, .un, .un] none =
      some (.nx, sl', none) ∧ ∃ a b, sl' = [.cl (dN ns (tk L due)), u1, .cl (.int L), .cl (.list ((lotsU L due ns).map strsT)), u4, u5, u6, u7, u8, u9, u10, .cl u11, .ow (ladT ns L due), a, b, .un, .un] := by
    intro u1 u4 u5 u6 u7 u8 u9 u10 u11 u13 u14
    obtain ⟨sl', e, dn, rest, a, b, h1, h2, rfl⟩ := for_rel (e := PyData.int) (tg := .nm 13) (g := none)
      (mb := (mSeq (frzIf [] (mSet' false 14 (eLc (iVal (eVar 3)) (.nm 15) (eBi (bi1 allB) (aCons (eLc (iVal (eVar 15)) (.nm 16) (eLit (.bool true)) (eOp bLe (eOp bIdx (eOp bIdx (eVar 0) (eVar 16)) (eLit (.int 1))) (eVar 13)) [16]) aNil)) (eBi (bi1 lenB) (aCons (eVar 15) aNil)) [15])))
  (frzIf [13, 2] (mMeth fAppend 12 (aCons (eTup (aCons (eVar 13) (aCons (eOp bMul (eLst (aCons (eVar 2) aNil)) (eBi (bi1 maxB) (aCons (eVar 14) aNil))) aNil))) aNil)))))
      (fun left sl => ∃ (dn rest : List (Int × Nat)) (a b : Sl), dn ++ rest = lad L due (sortS ns) 0 (dues due (sortS ns)) ∧ rest.map (·.1) = left ∧ sl = [.cl (dN ns (tk L due)), u1, .cl (.int L), .cl (.list ((lotsU L due ns).map strsT)), u4, u5, u6, u7, u8, u9, u10, .cl u11, .ow (.list (dn.map (rowT L))), a, b, .un, .un])
      (by
        rintro d left sl ⟨dn, rest, a, b, h1, h2, rfl⟩
        cases rest with
        | nil => cases h2
        | cons p rest =>
          obtain ⟨d', h⟩ := p
          rw [List.map_cons] at h2
          injection h2 with h2 h3
          dsimp only at h2
          subst h2
          have hp : (d', h) ∈ lad L due (sortS ns) 0 (dues due (sortS ns)) := by rw [← h1]; simp
          have em := max_inner c hp
          have hh := hr _ hp
          have hdl : dn.length < cap := by
            have := congrArg List.length h1
            simp at this
            omega
          have mul : bMul (.list [.int L]) (.int (h : Int)) = some (repT h L) := by
            exact mul_one (by dsimp only at hh; omega)
          have er : dn.map (rowT L) ++ [.tuple [.int d', repT h L]] = (dn ++ [(d', h)]).map (rowT L) := by rw [List.map_append]; rfl
          refine ⟨[.cl (dN ns (tk L due)), u1, .cl (.int L), .cl (.list ((lotsU L due ns).map strsT)), u4, u5, u6, u7, u8, u9, u10, .cl u11, .ow (.list ((dn ++ [(d', h)]).map (rowT L))), .cl (.int d'), .cl (.list (((lotsU L due ns).filter fun l => l.all fun n => decide (due n ≤ d')).map fun l => .int (l.length : Int))), .un, .un], ?_, dn ++ [(d', h)], rest, _, _, by rw [← h1]; simp, h3, rfl⟩
          rw [← er]
          have t1 : frzIf [] (mSet' false 14 (eLc (iVal (eVar 3)) (.nm 15) (eBi (bi1 allB) (aCons (eLc (iVal (eVar 15)) (.nm 16) (eLit (.bool true)) (eOp bLe (eOp bIdx (eOp bIdx (eVar 0) (eVar 16)) (eLit (.int 1))) (eVar 13)) [16]) aNil)) (eBi (bi1 lenB) (aCons (eVar 15) aNil)) [15])) [.cl (dN ns (tk L due)), u1, .cl (.int L), .cl (.list ((lotsU L due ns).map strsT)), u4, u5, u6, u7, u8, u9, u10, .cl u11, .ow (.list (dn.map (rowT L))), .cl (.int d'), b, .un, .un] none = some (.nx, [.cl (dN ns (tk L due)), u1, .cl (.int L), .cl (.list ((lotsU L due ns).map strsT)), u4, u5, u6, u7, u8, u9, u10, .cl u11, .ow (.list (dn.map (rowT L))), .cl (.int d'), .cl (.list (((lotsU L due ns).filter fun l => l.all fun n => decide (due n ≤ d')).map fun l => .int (l.length : Int))), .un, .un], none) := by
            simp [ev9, q_mkF, hEc]
          have ex : eOp bMul (eLst (aCons (eVar 2) aNil)) (eBi (bi1 maxB) (aCons (eVar 14) aNil)) [.cl (dN ns (tk L due)), u1, .cl (.int L), .cl (.list ((lotsU L due ns).map strsT)), u4, u5, u6, u7, u8, u9, u10, .cl u11, .ow (.list (dn.map (rowT L))), .cl (.int d'), .cl (.list (((lotsU L due ns).filter fun l => l.all fun n => decide (due n ≤ d')).map fun l => .int (l.length : Int))), .un, .un] none = some ((repT h L, false), none) := by
            refine eOp_eq (a := (.list [.int L], false)) (b := (.int (h : Int), false)) (g1 := none) ?_ ?_ mul
            · simp
            · simp [em]
          rw [q_bindN]
          simp only [Option.bind_some, q_st13]
          rw [mSeq_nx t1]
          simp [-q_op, ex, q_app, hdl]) (dues due ns) _ ⟨[], lad L due (sortS ns) 0 (dues due (sortS ns)), u13, u14, rfl, by rw [lad_fst, hdues], rfl⟩
    refine ⟨_, e, a, b, ?_⟩
    have : rest = [] := by simpa using h2
    subst this
    rw [List.append_nil] at h1
    subst h1
    rfl
  obtain ⟨_, su2⟩ := okW fun n => staysB L due (sortS ns) n 1
  rw [su] at su2
  rw [List.map_map] at e14
  have ev7' : ∀ u1 u2 u3 u4 u5 u6 u7 u8 u9 u10 u11 u12 u13 u14 u15, lcGo (.nm 16) (eLit (.bool true)) (eOp bIdx (eOp bIdx (eVar 0) (eVar 16)) (eLit (.int 1))) [.cl (dN ns (tk L due)), u1, u2, u3, u4, u5, u6, u7, u8, u9, u10, u11, u12, u13, u14, u15, .un] (ns.map .str) none = some (ns.map (PyData.int ∘ due), none) := by
    intro u1 u2 u3 u4 u5 u6 u7 u8 u9 u10 u11 u12 u13 u14 u15
    rw [ev7, List.map_map]
  unfold d_law_most_right m_law_most_right
  simp [e1, ev1, q_mkM, hEc, e12, e2, e3, e4, e5, lenB', ev2, e13, s1, e6, e7, e8, s2, ev3, hG, q_sortedN c.nm.few, ev5, q_mkF, c.nm.le, wl2, su2, ev6, e9, e10, s3, e11, ev7', e14, e15]
  obtain ⟨sl', e, a, b, rfl⟩ := loop (.cl (dN ns (un L due))) (.cl (.int (k.length : Int))) (.cl (.list (k.map .str))) (.cl (.list ((sortS (bestU L due ns)).map .str))) (.cl (.list [.int (k.length : Int), .int (k.length : Int), .int (k.length : Int), .int (k.length : Int), .bool true])) (.cl (.list ((greatU L due ns k).map strsT))) (.cl (.list ((wholeU L due ns).map .str))) (.cl (.list ((sureU L due ns).map .str))) (ladT ns L due) .un .un
  rw [e]
  simp [s4]
end
end Lw
/-! K19: numbers -/
namespace Lw
open PySem L2 VM M1

theorem draw_eq : d_law_draw = dDraw := rfl
theorem mixed_eq : d_law_mixed = dMixed := rfl
section
variable {ns k : List Str} {L : Int} {due : Str → Int}
theorem last_eq (c : Ctx ns L due) (K : Kp ns k L due) : lastN (lad L due (sortS ns) 0 (dues due (sortS ns))) = k.length := by
  rcases List.eq_nil_or_concat (lad L due (sortS ns) 0 (dues due (sortS ns))) with h | ⟨rs, r, h⟩
  · have h1 : dues due (sortS ns) = [] := by
      have := lad_fst (L := L) (due := due) (ns := sortS ns) (dues due (sortS ns)) 0
      rw [h] at this
      exact this.symm
    have h2 : k = [] := by
      apply List.eq_nil_iff_forall_not_mem.mpr
      intro x hx
      have : due x ∈ dues due (sortS ns) := mem_dues.mpr ⟨x, mem_sortS.mpr (K.best.2.1 x hx), rfl⟩
      rw [h1] at this
      cases this
    rw [h, h2]
    rfl
  · rw [List.concat_eq_append] at h
    have hr : r ∈ lad L due (sortS ns) 0 (dues due (sortS ns)) := by rw [h]; simp
    obtain ⟨b, hb, hl⟩ := lad_all c.sort r hr
    have hd : dues due (sortS ns) = rs.map (·.1) ++ [r.1] := by
      have := lad_fst (L := L) (due := due) (ns := sortS ns) (dues due (sortS ns)) 0
      rw [h] at this
      rw [← this]
      simp
    have all : ∀ n ∈ sortS ns, due n ≤ r.1 := by
      intro n hn
      have h1 : due n ∈ dues due (sortS ns) := mem_dues.mpr ⟨n, hn, rfl⟩
      have h2 := dues_lt due (sortS ns)
      rw [hd] at h1 h2
      rcases List.mem_append.mp h1 with h3 | h3
      · have := (List.pairwise_append.mp h2).2.2 _ h3 r.1 (by simp)
        omega
      · rw [List.mem_singleton.mp h3]
        exact Int.le_refl _
    have hb' : Best (Dd L due) ns b := best_mem (fun z => by
      rw [List.mem_filter, mem_sortS, decide_eq_true_eq]
      exact ⟨fun h => h.1, fun h => ⟨h, all z (mem_sortS.mpr h)⟩⟩) hb
    rw [h]
    unfold lastN
    simp
    rw [← hl]
    exact Best.len hb' K.best
theorem numbers_right (c : Ctx ns L due) (K : Kp ns k L due) {j : Nat} {g : G} (hb : Bud (j + 1) g) : ∃ g', d_law_numbers_right [.stm, .cl (dN ns (tk L due)), .cl (dN ns (un L due)), .cl (.int k.length)] g = some (.bool true, g') ∧ Bud j g' := by
  obtain ⟨v, g', ed, hv0, hv1, hb'⟩ := draw_ok hb (show (0 : Int) < 5 by decide) (by decide)
  rw [← draw_eq] at ed
  refine ⟨g', ?_, hb'⟩
  have cc : cap = 16777216 := rfl
  have few := (Best.lot K.best).names c.nm |>.few
  have b0 := bestU_best (L := L) (due := due) c.nm.nd
  have bl : (bestU L due ns).length = k.length := Best.len b0 K.best
  have bS : Best (Dd L due) ns (sortS (bestU L due ns)) := best_perm b0 (sortS_perm _).symm
  have lS : (sortS (bestU L due ns)).length = k.length := by rw [length_sortS, bl]
  obtain ⟨t, et, h1, h2, h3⟩ := best_prices c
  have body : ∀ (i : Int) (u4 u5 u6 u7 : Sl), 0 ≤ i → ∃ u5' u6' u7', (bindT (.nm 4) (.int i) [.stm, .cl (dN ns (tk L due)), .cl (dN ns (un L due)), .cl (.int k.length), u4, u5, u6, u7]).bind (fun sl1 => (mSeq (frzIf [] (mSet' false 5 (eOp bLe (eVar 4) (eVar 3))))
  (mSeq (frzIf [1, 4, 2, 4] (mSet' true 6 (eLst (aCons (eOp bIdx (eFn d_kept_or_ladder (asVal (eVar 1) (asVal (eVar 4) asNil))) (eLit (.int 0))) (aCons (eOp bIdx (eFn d_lot_or_prices (asVal (eVar 2) (asVal (eVar 4) asNil))) (eLit (.int 0))) aNil)))))
  (mSeq (frzIf [1, 4, 2] (mMeth fAppend 6 (aCons (eFn d_is_kept_or_ladder (asVal (eVar 1) (asVal (eVar 4) (asVal (eTup (aCons (eLit (.str "kept")) (aCons (eFn d_best_lot (asVal (eVar 2) asNil)) aNil))) asNil)))) aNil)))
  (mSeq (frzIf [2, 4, 1] (mMeth fAppend 6 (aCons (eFn d_is_lot_or_prices (asVal (eVar 2) (asVal (eVar 4) (asVal (eTup (aCons (eLit (.str "lot")) (aCons (eFn d_kept_tasks (asVal (eVar 1) asNil)) aNil))) asNil)))) aNil)))
  (mSeq (frzIf [1, 4, 1] (mMeth fAppend 6 (aCons (eFn d_is_kept_or_ladder (asVal (eVar 1) (asVal (eVar 4) (asVal (eTup (aCons (eLit (.str "ladder")) (aCons (eFn d_ladder (asVal (eVar 1) asNil)) aNil))) asNil)))) aNil)))
  (mSeq (frzIf [2, 4, 2] (mMeth fAppend 6 (aCons (eFn d_is_lot_or_prices (asVal (eVar 2) (asVal (eVar 4) (asVal (eTup (aCons (eLit (.str "prices")) (aCons (eFn d_best_prices (asVal (eVar 2) asNil)) aNil))) asNil)))) aNil)))
  (mSeq (frzIf [] (mSet' false 7 (eIf (eVar 5) (eLst (aCons (eLit (.str "kept")) (aCons (eLit (.str "lot")) aNil))) (eLst (aCons (eLit (.str "ladder")) (aCons (eLit (.str "prices")) aNil))))))
  (frzIf [5, 5] (mIf (eNot (eFn (d_law_same recD) (asVal (eVar 6) (asVal (eOp bAdd (eVar 7) (eLst (aCons (eVar 5) (aCons (eVar 5) (aCons (eNot (eVar 5)) (aCons (eNot (eVar 5)) aNil)))))) asNil))))
  (frzIf [6] (mRet (eLit (.bool false))))
  mNx))))))))) sl1 g') = some (.nx, [.stm, .cl (dN ns (tk L due)), .cl (dN ns (un L due)), .cl (.int k.length), .cl (.int i), u5', u6', u7'], g') := by
    intro i u4 u5 u6 u7 hi
    obtain ⟨t1, a1⟩ := kept_or_ladder c K.ev hi
    obtain ⟨t2, a2⟩ := lot_or_prices (L := L) (due := due) c hi
    have a3 := is_kept c hi bS
    have a4 := is_lot c hi K.best
    have a5 := is_ladder c hi
    have a6 := is_prices c hi b0 h1 h2 h3
    rw [bl] at a2 a6
    rw [lS] at a3
    rw [last_eq c K] at a5
    have a7 := best_lot c
    have a8 := kept_tasks c K.ev
    have a9 := ladder c
    by_cases hle : i ≤ (k.length : Int)
    · have s : d_law_same recD [.ro (.list [.str "kept", .str "lot", .bool true, .bool true, .bool false, .bool false]), .cl (.list [.str "kept", .str "lot", .bool true, .bool true, .bool false, .bool false])] none = some (.bool true, none) := by
        refine law_same_ro 11 (by simp [cap]) fun t ht => ?_
        simp at ht
        rcases ht with rfl | rfl | rfl | rfl
        · exact .str (by decide +kernel)
        · exact .str (by decide +kernel)
        · exact .bool _
        · exact .bool _
      refine ⟨.cl (.bool true), .ow (.list [.str "kept", .str "lot", .bool true, .bool true, .bool false, .bool false]), .cl (.list [.str "kept", .str "lot"]), ?_⟩
      have n1 : ¬ ((k.length : Int) < i) := by omega
      simp [hle, a1, a2, a3, a4, a5, a6, a7, a8, a9, et, q_app, cc, n1, q_addL, s]
    · have n1 : (k.length : Int) < i := by omega
      have s : d_law_same recD [.ro (.list [.str "ladder", .str "prices", .bool false, .bool false, .bool true, .bool true]), .cl (.list [.str "ladder", .str "prices", .bool false, .bool false, .bool true, .bool true])] none = some (.bool true, none) := by
        refine law_same_ro 11 (by simp [cap]) fun t ht => ?_
        simp at ht
        rcases ht with rfl | rfl | rfl | rfl
        · exact .str (by decide +kernel)
        · exact .str (by decide +kernel)
        · exact .bool _
        · exact .bool _
      refine ⟨.cl (.bool false), .ow (.list [.str "ladder", .str "prices", .bool false, .bool false, .bool true, .bool true]), .cl (.list [.str "ladder", .str "prices"]), ?_⟩
      simp [hle, a1, a2, a3, a4, a5, a6, a7, a8, a9, et, q_app, cc, n1, q_addL, s]
  unfold d_law_numbers_right m_law_numbers_right
  have ed' : d_law_draw [.stm, .cl (.int 5)] g = some (.int v, g') := ed
  obtain ⟨sl', e, u4, u5, u6, u7, rfl, _⟩ := for_rel (e := PyData.int) (tg := .nm 4) (g := g')
    (mb := (mSeq (frzIf [] (mSet' false 5 (eOp bLe (eVar 4) (eVar 3))))
  (mSeq (frzIf [1, 4, 2, 4] (mSet' true 6 (eLst (aCons (eOp bIdx (eFn d_kept_or_ladder (asVal (eVar 1) (asVal (eVar 4) asNil))) (eLit (.int 0))) (aCons (eOp bIdx (eFn d_lot_or_prices (asVal (eVar 2) (asVal (eVar 4) asNil))) (eLit (.int 0))) aNil)))))
  (mSeq (frzIf [1, 4, 2] (mMeth fAppend 6 (aCons (eFn d_is_kept_or_ladder (asVal (eVar 1) (asVal (eVar 4) (asVal (eTup (aCons (eLit (.str "kept")) (aCons (eFn d_best_lot (asVal (eVar 2) asNil)) aNil))) asNil)))) aNil)))
  (mSeq (frzIf [2, 4, 1] (mMeth fAppend 6 (aCons (eFn d_is_lot_or_prices (asVal (eVar 2) (asVal (eVar 4) (asVal (eTup (aCons (eLit (.str "lot")) (aCons (eFn d_kept_tasks (asVal (eVar 1) asNil)) aNil))) asNil)))) aNil)))
  (mSeq (frzIf [1, 4, 1] (mMeth fAppend 6 (aCons (eFn d_is_kept_or_ladder (asVal (eVar 1) (asVal (eVar 4) (asVal (eTup (aCons (eLit (.str "ladder")) (aCons (eFn d_ladder (asVal (eVar 1) asNil)) aNil))) asNil)))) aNil)))
  (mSeq (frzIf [2, 4, 2] (mMeth fAppend 6 (aCons (eFn d_is_lot_or_prices (asVal (eVar 2) (asVal (eVar 4) (asVal (eTup (aCons (eLit (.str "prices")) (aCons (eFn d_best_prices (asVal (eVar 2) asNil)) aNil))) asNil)))) aNil)))
  (mSeq (frzIf [] (mSet' false 7 (eIf (eVar 5) (eLst (aCons (eLit (.str "kept")) (aCons (eLit (.str "lot")) aNil))) (eLst (aCons (eLit (.str "ladder")) (aCons (eLit (.str "prices")) aNil))))))
  (frzIf [5, 5] (mIf (eNot (eFn (d_law_same recD) (asVal (eVar 6) (asVal (eOp bAdd (eVar 7) (eLst (aCons (eVar 5) (aCons (eVar 5) (aCons (eNot (eVar 5)) (aCons (eNot (eVar 5)) aNil)))))) asNil))))
  (frzIf [6] (mRet (eLit (.bool false))))
  mNx))))))))))
    (fun left sl => ∃ (u4 u5 u6 u7 : Sl), sl = [.stm, .cl (dN ns (tk L due)), .cl (dN ns (un L due)), .cl (.int k.length), u4, u5, u6, u7] ∧ ∀ i ∈ left, 0 ≤ i)
    (by
      rintro i left sl ⟨u4, u5, u6, u7, rfl, h⟩
      obtain ⟨u5', u6', u7', e⟩ := body i u4 u5 u6 u7 (h i (.head _))
      exact ⟨_, e, _, _, _, _, rfl, fun j hj => h j (.tail _ hj)⟩)
    [max 0 ((k.length : Int) - 1), (k.length : Int), (k.length : Int) + 1, (k.length : Int) + 2 + v] [.stm, .cl (dN ns (tk L due)), .cl (dN ns (un L due)), .cl (.int k.length), .un, .un, .un, .un] ⟨_, _, _, _, rfl, by
      intro i hi
      simp at hi
      omega⟩
  simp [ed']
  simp at e
  simp [e]
end
end Lw
/-! K20: a drawn lot -/
namespace Lw
open PySem L2 VM M1

theorem perm_strs {us : List T} {l : List Str} (p : us.Perm (l.map PyData.str)) : ∃ ms : List Str, us = ms.map PyData.str ∧ ms.Perm l := by
  let f : T → Str := fun t => match t with
    | .str s => s
    | _ => ""
  refine ⟨us.map f, ?_, ?_⟩
  · rw [List.map_map]
    conv => lhs; rw [← List.map_id us]
    refine List.map_congr_left fun t ht => ?_
    obtain ⟨x, _, rfl⟩ := List.mem_map.mp (p.mem_iff.mp ht)
    rfl
  · have := p.map f
    rw [List.map_map] at this
    have e : (f ∘ PyData.str) = id := rfl
    rw [e, List.map_id] at this
    exact this
section
variable {ns k : List Str} {L : Int} {due : Str → Int}
theorem d_lot {F : Str → T} (h : Names ns) {j : Nat} {g : G} (hb : Bud (ns.length + (j + 1)) g) : ∃ l g', d_law_d_lot [.stm, .cl (dN ns F)] g = some (.list (l.map .str), g') ∧ Lot ns l ∧ Bud j g' := by
  have few := h.few
  have cc : cap = 16777216 := rfl
  obtain ⟨us, g1, e1, p1, b1⟩ := mixed_ok (ts := (sortS ns).map .str) (k := j + 1) (g := g) (by simpa using hb) (by simp; omega)
  obtain ⟨ms, rfl, p2⟩ := perm_strs p1
  have pm : ms.Perm ns := p2.trans (sortS_perm ns)
  have hml : ms.length = ns.length := pm.length_eq
  obtain ⟨v, g2, e2, v0, v1, b2⟩ := draw_ok (m := (ms.length : Int) + 1) b1 (by omega) (by omega)
  rw [← mixed_eq] at e1
  rw [← draw_eq] at e2
  refine ⟨ms.take v.toNat, g2, ?_, ⟨fun x hx => pm.mem_iff.mp (List.mem_of_mem_take hx), (pm.nodup_iff.mpr h.nd).sublist (List.take_sublist _ _)⟩, b2⟩
  unfold d_law_d_lot m_law_d_lot
  simp -implicitDefEqProofs [q_sortedN h.few, e1, e2, cutL_to _ v0, List.map_take]
theorem mul3 (t : T) : bMul (.list [t]) (.int 3) = some (.list [t, t, t]) := by
  have cc : cap = 16777216 := rfl
  simp only [bMul]
  rw [if_pos ⟨(by simp; omega : [t].length ≤ cap), by decide, by decide, by simp; omega⟩]
  rfl
theorem more_eq (c : Ctx ns L due) {l : List Str} : ((sortS ns).filter fun n => !decide (n ∈ l) && okT L due (l ++ [n])) = (sortS ns).filter fun n => !decide (n ∈ l) && okU L due (l ++ [n]) := by
  refine List.filter_congr fun n _ => ?_
  have : okT L due (l ++ [n]) = okU L due (l ++ [n]) := by rw [Bool.eq_iff_iff, okT_iff c.pos, okU_iff]
  rw [this]
theorem lot_right (c : Ctx ns L due) {j : Nat} {g : G} (hb : Bud (ns.length + (j + 1)) g) : ∃ g', d_law_lot_right [.stm, .cl (dN ns (tk L due)), .cl (dN ns (un L due)), .cl (.int L)] g = some (.bool true, g') ∧ Bud j g' := by
  have cc : cap = 16777216 := rfl
  obtain ⟨l, g', e1, hl, b⟩ := d_lot (F := tk L due) c.nm hb
  refine ⟨g', ?_, b⟩
  have NL := hl.names c.nm
  have e2 := law_in_time c hl.sub NL.le
  have e3 := late_at c hl
  have e4 := unit_fits c hl
  obtain ⟨rest, e5⟩ := placing_or_stretch c hl
  have ok : okU L due l = okT L due l := by rw [Bool.eq_iff_iff, okT_iff c.pos, okU_iff]
  rw [ok] at e4 e5
  have e6 : bEq (.str "placing") (.str "placing") = some (.bool true) := by rw [bEq_str (by decide +kernel) (by decide +kernel)]; rfl
  have e7 : bEq (.str "stretch") (.str "placing") = some (.bool false) := by rw [bEq_str (by decide +kernel) (by decide +kernel)]; rfl
  have s : ∀ b : Bool, d_law_same recD [.ro (.list [.bool b, .bool b, .bool b]), .cl (.list [.bool b, .bool b, .bool b])] none = some (.bool true, none) := by
    intro b
    refine law_same_ro 11 (by simp [cap]) fun t ht => ?_
    simp at ht
    subst ht
    exact .bool _
  unfold d_law_lot_right m_law_lot_right
  cases hf : okT L due l with
  | true =>
    rw [hf] at e2 e4 e5
    have h3 : lateOf L due l = none := (lateOf_none c.pos l).mpr ((okT_iff c.pos l).mp hf)
    rw [h3, optI] at e3
    have e8 := unit_adding c hl (ok.trans hf)
    rw [← more_eq c] at e8
    have e9 : ∀ u0 u2 u5 u6 u7 u8, lcGo (.nm 9) (eAnd (eOp bNotIn (eVar 9) (eVar 4)) (eFn d_law_in_time (asVal (eVar 1) (asVal (eOp bAdd (eVar 4) (eLst (aCons (eVar 9) aNil))) (asVal (eVar 3) asNil))))) (eVar 9) [u0, .cl (dN ns (tk L due)), u2, .cl (.int L), .cl (.list (l.map .str)), u5, u6, u7, u8, .un] ((sortS ns).map .str) g' = some (((sortS ns).filter fun n => !decide (n ∈ l) && okT L due (l ++ [n])).map .str, g') := by
      intro u0 u2 u5 u6 u7 u8
      rw [lc_f (fun n => !decide (n ∈ l) && okT L due (l ++ [n])) PyData.str]
      · intro n hn
        have hn := mem_sortS.mp hn
        have q1 := q_notInS NL.ok (c.nm.ok n hn)
        by_cases hm : n ∈ l
        · simp [q1, hm]
        · have la : Lot ns (l ++ [n]) := ⟨fun y hy => by
            rcases List.mem_append.mp hy with h | h
            · exact hl.sub y h
            · rw [List.mem_singleton.mp h]; exact hn, List.nodup_append.mpr ⟨hl.nd, by simp, by rintro a ha b hb rfl; simp at hb; subst hb; exact hm ha⟩⟩
          have NA := (la.names c.nm).le
          have q2 := law_in_time c la.sub NA
          have q3 : bAdd (.list (l.map .str)) (.list [.str n]) = some (.list ((l ++ [n]).map .str)) := by
            rw [q_addL (by simpa using NA)]
            simp
          obtain ⟨ln, hln⟩ : ∃ ln, ln = l ++ [n] := ⟨_, rfl⟩
          rw [← hln] at q2 q3 ⊢
          simp [q1, hm, q3, q2]
      · intro n hn _
        simp
    have s2 : d_law_same recD [.cl (.list (((sortS ns).filter fun n => !decide (n ∈ l) && okT L due (l ++ [n])).map .str)), .cl (.list (((sortS ns).filter fun n => !decide (n ∈ l) && okT L due (l ++ [n])).map .str))] none = some (.bool true, none) :=
      law_same 12 (.strs (fun x hx => c.nm.sort.ok x (List.mem_filter.mp hx).1) (Nat.le_trans (List.length_filter_le _ _) c.nm.sort.le))
    simp -implicitDefEqProofs [e1, e2, e3, e4, e5, e6, q_app, cc, mul3, s, q_sortedN c.nm.few, e9, q_mkF, (show ns.length ≤ 16777216 from c.nm.le), e8, s2]
  | false =>
    rw [hf] at e2 e4 e5
    obtain ⟨d, hd⟩ : ∃ d, lateOf L due l = some d := by
      cases h : lateOf L due l with
      | none => exact absurd ((okT_iff c.pos l).mpr ((lateOf_none c.pos l).mp h)) (by rw [hf]; exact Bool.false_ne_true)
      | some d => exact ⟨d, rfl⟩
    rw [hd, optI] at e3
    have lp : lateP L due l d = true := List.find?_some hd
    have lp2 : d < L * (((l.filter fun n => decide (due n ≤ d)).length : Nat) : Int) := of_decide_eq_true lp
    have e8 : ∀ u0 u2 u3 u5 u6 u8, lcGo (.nm 9) (eOp bLe (eOp bIdx (eOp bIdx (eVar 1) (eVar 9)) (eLit (.int 1))) (eVar 7)) (eVar 9) [u0, .cl (dN ns (tk L due)), u2, u3, .cl (.list (l.map .str)), u5, u6, .cl (.int d), u8, .un] (l.map .str) g' = some ((l.filter fun n => decide (due n ≤ d)).map .str, g') := by
      intro u0 u2 u3 u5 u6 u8
      rw [lc_f (fun n => decide (due n ≤ d)) PyData.str]
      · intro n hn
        simp [q_idxN (hl.sub n hn), tk]
      · intro n hn _
        simp
    have sL := small_L c.pos c.sm
    simp -implicitDefEqProofs [e1, e2, e3, e4, e5, e7, q_app, cc, mul3, s, e8, q_mkF, (show l.length ≤ 16777216 from NL.le), bMul_eq, sL, lp2]
end
end Lw
/-! K21: what is drawn -/
namespace Lw
open PySem L2 VM M1

theorem in_sign (c : Nat) (y : Str) : bIn (.str ⟨#[c]⟩) (.str y) = some (.bool (decide (c ∈ y.cps.toList))) := by
  show some (tb (!(Builtin.Str.occurrences y ⟨#[c]⟩ 0 y.length 1).isEmpty)) = _
  rw [StrLaws.found_one]
  rfl
def alphaS : Str := "abcdefghijklmnopqrstuvwxyz"
def alnumS : Str := "abcdefghijklmnopqrstuvwxyz0123456789"
def nameB (x : Str) : Bool := decide (0 < x.length) && decide (x.length < 13) && (match x.cps.toList with
  | c :: _ => decide (c ∈ alphaS.cps.toList)
  | [] => false) && x.cps.toList.all fun c => decide (c ∈ alnumS.cps.toList)
theorem is_name_ok {x : Str} (h : nameB x = true) : d_is_name [.cl (.str x)] none = some (.bool true, none) := by
  have cc : cap = 16777216 := rfl
  unfold nameB at h
  rw [Bool.and_eq_true, Bool.and_eq_true, Bool.and_eq_true, decide_eq_true_eq, decide_eq_true_eq] at h
  obtain ⟨⟨⟨h1, h2⟩, h3⟩, h4⟩ := h
  have e1 : lenB (.str x) = some (.int x.length) := if_pos (show x.length ≤ cap by omega)
  obtain ⟨c, cs, hc, hm⟩ : ∃ c cs, x.cps.toList = c :: cs ∧ c ∈ alphaS.cps.toList := by
    cases hx : x.cps.toList with
    | nil => rw [hx] at h3; cases h3
    | cons c cs => rw [hx] at h3; exact ⟨c, cs, rfl, of_decide_eq_true h3⟩
  have e2 : bIdx (.str x) (.int 0) = some (.str ⟨#[c]⟩) := by
    show (if x.length ≤ cap then (atI x.cps.toList 0).map fun c => PyData.str ⟨#[c]⟩ else none) = _
    have ea : atI x.cps.toList 0 = some c := atI_of (k := 0) rfl (by rw [hc]; rfl)
    rw [if_pos (by omega), ea]
    rfl
  have e3 : itemsOf (.str x, false) = some (x.cps.toList.map fun c => .str ⟨#[c]⟩, false) := rfl
  have e4 : bIn (.str ⟨#[c]⟩) (.str "abcdefghijklmnopqrstuvwxyz") = some (.bool true) := by
    have hm' : c ∈ (Str.ofString "abcdefghijklmnopqrstuvwxyz").cps.toList := hm
    rw [in_sign, decide_eq_true hm']
  have hl : x.cps.toList.length ≤ cap := by
    have : x.length = x.cps.size := rfl
    rw [Array.length_toList]
    omega
  unfold d_is_name m_is_name
  have h5 : ¬ (13 : Int) ≤ (x.length : Int) := by omega
  have h6 : (0 : Int) < (x.length : Int) := by omega
  simp -implicitDefEqProofs [e1, h5, h6, h1, e2, e4, e3]
  rw [lc_a fun c => .bool (decide (c ∈ alnumS.cps.toList))]
  · have e5 : x.cps.toList.all (fun c => decide (c ∈ alnumS.cps.toList)) = true := h4
    simp -implicitDefEqProofs only [Option.bind_some, q_mkM hl, Option.map_some, q_aCons, q_aNil, q_bi1, q_all, e5, q_clean, q_finR]
  · intro c' hc'
    simp -implicitDefEqProofs [in_sign, alnumS]
def pool : List Str := ["a", "b", "c", "d", "e1", "zoe", "k", "w3", "ann", "bo", "y7", "q", "sam", "twelvesigns0", "n0", "z9"]
theorem pool_ok : ∀ x ∈ pool, NmOk x := by
  intro x hx
  have h : pool.all (fun x => PyData.strOk x && nameB x) = true := by decide +kernel
  have := List.all_eq_true.mp h x hx
  rw [Bool.and_eq_true] at this
  exact ⟨this.1, is_name_ok this.2⟩
theorem pool_nd : pool.Nodup := by decide +kernel
theorem d_names {m : Int} (h0 : 0 ≤ m) (h1 : m ≤ 9) {j : Nat} {g : G} (hb : Bud (16 + j) g) : ∃ l g', d_law_d_names [.stm, .cl (.int m)] g = some (.list (l.map .str), g') ∧ Names l ∧ l.length ≤ 9 ∧ Bud j g' := by
  have cc : cap = 16777216 := rfl
  obtain ⟨us, g1, e1, p1, b1⟩ := mixed_ok (ts := pool.map .str) (k := j) (g := g) hb (by decide +kernel)
  obtain ⟨ms, rfl, p2⟩ := perm_strs p1
  rw [← mixed_eq] at e1
  have nd : (ms.take m.toNat).Nodup := (p2.nodup_iff.mpr pool_nd).sublist (List.take_sublist _ _)
  have len : (ms.take m.toNat).length ≤ 9 := by rw [List.length_take]; omega
  refine ⟨ms.take m.toNat, g1, ?_, ⟨fun n hn => pool_ok n (p2.mem_iff.mp (List.mem_of_mem_take hn)), nd, by omega⟩, len, b1⟩
  unfold d_law_d_names m_law_d_names
  have e2 : max (0 : Int) (m - 16) = 0 := by omega
  have e3 : rngOf [(.int 0, false)] = some [] := by unfold rngOf; rfl
  have e4 : mkL [.str "a", .str "b", .str "c", .str "d", .str "e1", .str "zoe", .str "k", .str "w3", .str "ann", .str "bo", .str "y7", .str "q", .str "sam", .str "twelvesigns0", .str "n0", .str "z9"] = some (.list (pool.map .str)) := rfl
  have e5 : bAdd (.list (pool.map .str)) (.list []) = some (.list (pool.map .str)) := by
    rw [q_addL (by decide +kernel), List.append_nil]
  simp -implicitDefEqProofs [e4, e2, e3, lcGo, e5, e1, cutL_to _ h0, List.map_take]
theorem perm_items {F : Str → T} {us : List T} {l : List Str} (p : us.Perm (l.map fun n => PyData.tuple [.str n, F n])) : ∃ ms : List Str, us = ms.map (fun n => PyData.tuple [.str n, F n]) ∧ ms.Perm l := by
  let f : T → Str := fun t => match t with
    | .tuple [.str s, _] => s
    | _ => ""
  refine ⟨us.map f, ?_, ?_⟩
  · rw [List.map_map]
    conv => lhs; rw [← List.map_id us]
    refine List.map_congr_left fun t ht => ?_
    obtain ⟨x, _, rfl⟩ := List.mem_map.mp (p.mem_iff.mp ht)
    rfl
  · have := p.map f
    rw [List.map_map] at this
    have e : (f ∘ fun n => PyData.tuple [.str n, F n]) = id := rfl
    rw [e, List.map_id] at this
    exact this
theorem listI_dN {ns : List Str} {F : Str → T} : listIB (dN ns F) = some (.list (ns.map fun n => .tuple [.str n, F n])) := by
  cases ns with
  | nil => rfl
  | cons n ns =>
    show some (PyData.list (((n :: ns).map fun n => (PyData.str n, F n)).map fun q => PyData.tuple [q.1, q.2])) = _
    rw [List.map_map]; rfl
theorem turned {ns : List Str} {F : Str → T} (h : Names ns) {j : Nat} {g : G} (hb : Bud (ns.length + j) g) : ∃ ms g', d_law_turned [.stm, .ro (dN ns F)] g = some (dN ms F, g') ∧ ms.Perm ns ∧ Bud j g' := by
  have cc : cap = 16777216 := rfl
  have few := h.few
  obtain ⟨us, g1, e1, p1, b1⟩ := mixed_ok (ts := ns.map fun n => .tuple [.str n, F n]) (k := j) (g := g) (by simpa using hb) (by simp; omega)
  obtain ⟨ms, rfl, p2⟩ := perm_items p1
  rw [← mixed_eq] at e1
  refine ⟨ms, g1, ?_, p2, b1⟩
  unfold d_law_turned m_law_turned
  have e2 : ∀ g, eLi (eVar 1) [.stm, .ro (dN ns F)] g = some ((.list (ns.map fun n => .tuple [.str n, F n]), false), g) := by
    intro g
    unfold eLi
    simp [listI_dN]
  simp -implicitDefEqProofs [e2, e1, q_dictN (p2.nodup_iff.mpr h.nd)]
/-- a loop whose turns may draw -/
theorem for_relG {α : Type} {e : α → T} {tg : Tg} {mb : Sm} (I : List α → Sls → G → Prop) (step : ∀ x xs sl g, I (x :: xs) sl g → ∃ sl2 g2, (bindT tg (e x) sl).bind (fun sl1 => mb sl1 g) = some (.nx, sl2, g2) ∧ I xs sl2 g2) :
    ∀ (xs : List α) (sl : Sls) (g : G), I xs sl g → ∃ sl' g', forGo tg mb (xs.map e) sl g = some (.nx, sl', g') ∧ I [] sl' g'
  | [], sl, g, h => ⟨sl, g, rfl, h⟩
  | x :: xs, sl, g, h => by
    obtain ⟨sl2, g2, h0, h2⟩ := step x xs sl g h
    rw [List.map_cons, forGo]
    cases hb : bindT tg (e x) sl with
    | none => rw [hb] at h0; cases h0
    | some sl1 =>
      rw [hb] at h0
      simp only [Option.bind_some] at h0 ⊢
      rw [h0]
      simp only [Option.bind_some]
      exact for_relG I step xs sl2 g2 h2
theorem putN {ns : List Str} {F : Str → T} {x : Str} (h : x ∉ ns) (hl : ns.length < cap) {i : Nat} {mk mv : Ex} {sl : Sls} {g g1 g2 : G} {t : T} (hs : gets sl i = .ow (dN ns F)) (h1 : mv sl g = some ((t, false), g1)) (h2 : mk sl g1 = some ((.str x, false), g2)) :
    mPutD i mk mv sl g = some (.nx, sl.set i (.ow (dN (ns ++ [x]) fun n => if n = x then t else F n)), g2) := by
  have e : putD (ns.map fun n => (.str n, F n)) (.str x) t = (ns ++ [x]).map fun n => (.str n, if n = x then t else F n) := by
    rw [putD_new (fun p hp => by
      obtain ⟨n, hn, rfl⟩ := List.mem_map.mp hp
      rw [eqv_str]
      exact decide_eq_false fun z => h (z ▸ hn)), List.map_append]
    congr 1
    · refine List.map_congr_left fun n hn => ?_
      have : ¬ n = x := fun z => h (z ▸ hn)
      rw [if_neg this]
    · simp
  have hl' : (ns.map fun n => ((.str n : T), F n)).length < cap := by simpa using hl
  unfold mPutD
  rw [h1]
  simp only [Option.bind_some, q_clean, h2, hs]
  unfold dN
  cases hn : ns.map fun n => ((.str n : T), F n) with
  | nil =>
    rw [hn] at e hl'
    simp only [keyOf, Option.bind_some]
    rw [if_pos hl', e]
  | cons p ps =>
    have hp : ∃ n, p = (.str n, F n) := by
      have : p ∈ ns.map fun n => ((.str n : T), F n) := by rw [hn]; simp
      obtain ⟨n, _, rfl⟩ := List.mem_map.mp this
      exact ⟨n, rfl⟩
    obtain ⟨n, rfl⟩ := hp
    rw [hn] at e hl'
    simp only [keyOf, Option.bind_some]
    rw [if_pos hl', e]
end Lw
/-! K22: the law k83 -/
namespace Lw
open PySem L2 VM M1

theorem names_loop {L : Int} (h0 : 0 < L) (h5 : L < 5) {l : List Str} (hl : Names l) (u0 u2 u5 u6 u7 : Sl) {j : Nat} {g : G} (hb : Bud (l.length + j) g) :
    ∃ due a g', forGo (.nm 5) (frzIf [3] (mPutD 4 (eVar 5) (eTup (aCons (eVar 3) (aCons (eOp bSub (eFn d_law_draw (asStm 1 (asVal (eOp bMul (eVar 3) (eLit (.int 7))) asNil))) (eLit (.int 2))) aNil)))))
      (l.map .str) [u0, .stm, u2, .cl (.int L), .ow (.dict []), u5, u6, u7] g = some (.nx, [u0, .stm, u2, .cl (.int L), .ow (dN l (tk L due)), a, u6, u7], g') ∧ (∀ n ∈ l, -2 ≤ due n ∧ due n < 28) ∧ Bud j g' := by
  have cc : cap = 16777216 := rfl
  have few := hl.few
  obtain ⟨sl', g', e, dn, due, a, h1, h2, rfl, h3⟩ := for_relG (e := PyData.str) (tg := .nm 5)
    (mb := (frzIf [3] (mPutD 4 (eVar 5) (eTup (aCons (eVar 3) (aCons (eOp bSub (eFn d_law_draw (asStm 1 (asVal (eOp bMul (eVar 3) (eLit (.int 7))) asNil))) (eLit (.int 2))) aNil))))))
    (fun left sl g => ∃ (dn : List Str) (due : Str → Int) (a : Sl), dn ++ left = l ∧ (∀ n ∈ dn, -2 ≤ due n ∧ due n < 28) ∧ sl = [u0, .stm, u2, .cl (.int L), .ow (dN dn (tk L due)), a, u6, u7] ∧ Bud (left.length + j) g)
    (by
      rintro x left sl g ⟨dn, due, a, h1, h2, rfl, hb⟩
      have nd : (dn ++ x :: left).Nodup := h1 ▸ hl.nd
      have hx : x ∉ dn := fun z => (List.nodup_append.mp nd).2.2 x z x (.head _) rfl
      have len := congrArg List.length h1
      simp at len
      obtain ⟨v, g2, ed, v0, v1, b2⟩ := draw_ok (k := left.length + j) (m := L * 7) (hb.mono (by simp; omega)) (by omega) (by omega)
      rw [← draw_eq] at ed
      have em : bMul (.int L) (.int 7) = some (.int (L * 7)) := bMul_eq (.inr (by decide))
      have ev : eTup (aCons (eVar 3) (aCons (eOp bSub (eFn d_law_draw (asStm 1 (asVal (eOp bMul (eVar 3) (eLit (.int 7))) asNil))) (eLit (.int 2))) aNil)) [u0, .stm, u2, .cl (.int L), .ow (dN dn (tk L due)), .cl (.str x), u6, u7] g = some ((.tuple [.int L, .int (v - 2)], false), g2) := by
        simp -implicitDefEqProofs [em, ed]
      have ep := putN (F := tk L due) hx (by omega) (i := 4) (mk := eVar 5) (sl := [u0, .stm, u2, .cl (.int L), .ow (dN dn (tk L due)), .cl (.str x), u6, u7]) (g2 := g2) rfl ev rfl
      have ed2 : dN (dn ++ [x]) (fun n => if n = x then .tuple [.int L, .int (v - 2)] else tk L due n) = dN (dn ++ [x]) (tk L fun n => if n = x then v - 2 else due n) := dN_congr fun n _ => by
        unfold tk
        by_cases c : n = x <;> simp [c]
      rw [ed2] at ep
      refine ⟨_, g2, ?_, dn ++ [x], (fun n => if n = x then v - 2 else due n), .cl (.str x), by simpa using h1, ?_, rfl, b2⟩
      · rw [q_bindN]
        simp only [Option.bind_some, q_st5, q_frzS, q_frzC, q_gets3, q_frzN]
        exact ep
      · intro n hn
        by_cases c : n = x
        · simp only [c, if_true]; omega
        · simp only [c, if_false]
          rcases List.mem_append.mp hn with h | h
          · exact h2 n h
          · exact absurd (List.mem_singleton.mp h) c) l [u0, .stm, u2, .cl (.int L), .ow (.dict []), u5, u6, u7] g ⟨[], fun _ => 0, u5, rfl, by simp, rfl, hb⟩
  rw [List.append_nil] at h1
  subst h1
  exact ⟨due, a, g', e, h2, by simpa using h3⟩
def bodyL : Sm :=
  (mSeq (frzIf [] (mPar2 3 4 false true (eOp bAdd (eLit (.int 1)) (eFn d_law_draw (asStm 1 (asVal (eLit (.int 4)) asNil)))) eD0))
  (mSeq (frzIf [1] (mFor (iVal (eFn d_law_d_names (asStm 1 (asVal (eFn d_law_draw (asStm 1 (asVal (eOp bIdx (eLst (aCons (eLit (.int 7)) (aCons (eLit (.int 10)) aNil))) (eOp bMod (eVar 2) (eLit (.int 2)))) asNil))) asNil)))) (.nm 5)
  (frzIf [3] (mPutD 4 (eVar 5) (eTup (aCons (eVar 3) (aCons (eOp bSub (eFn d_law_draw (asStm 1 (asVal (eOp bMul (eVar 3) (eLit (.int 7))) asNil))) (eLit (.int 2))) aNil)))))))
  (mSeq (frzIf [] (mSet' false 4 (eFn d_law_turned (asStm 1 (asVal (eVar 4) asNil)))))
  (mSeq (frzIf [4] (mSet' false 6 (eFn d_law_units_of (asVal (eVar 4) (asVal (eVar 3) asNil)))))
  (mSeq (frzIf [4, 6, 3] (mIf (eNot (eFn d_law_most_right (asVal (eVar 4) (asVal (eVar 6) (asVal (eVar 3) asNil)))))
  (frzIf [4] (mRet (eLit (.bool false))))
  mNx))
  (mSeq (frzIf [] (mFor (iRng rngOf (aCons (eLit (.int 4)) aNil)) (.nm 7)
  (frzIf [4, 6] (mIf (eNot (eFn d_law_lot_right (asStm 1 (asVal (eVar 4) (asVal (eVar 6) (asVal (eVar 3) asNil))))))
  (frzIf [4] (mRet (eLit (.bool false))))
  mNx))))
  (frzIf [4, 6, 4] (mIf (eNot (eFn d_law_numbers_right (asStm 1 (asVal (eVar 4) (asVal (eVar 6) (asVal (eFn d_most_in_time (asVal (eVar 4) asNil)) asNil))))))
  (frzIf [4] (mRet (eLit (.bool false))))
  mNx))))))))
theorem rng_of {n : Int} (h0 : 0 ≤ n) (h1 : n ≤ 100) : rngOf [(.int n, false)] = some ((List.range n.toNat).map fun i => PyData.int (i : Nat)) := by
  unfold rngOf
  simp only
  rw [if_pos ⟨by omega, by omega⟩]
  unfold rangeT
  simp
theorem turn (i : Nat) (u0 u2 u3 u4 u5 u6 u7 : Sl) {j : Nat} {g : G} (hb : Bud (j + 100) g) :
    ∃ u3' u4' u5' u6' u7' g', bodyL [u0, .stm, .cl (.int (i : Nat)), u3, u4, u5, u6, u7] g = some (.nx, [u0, .stm, .cl (.int (i : Nat)), u3', u4', u5', u6', u7'], g') ∧ Bud j g' := by
  -- the length
  obtain ⟨v, g1, e1, v0, v1, b1⟩ := draw_ok (k := j + 99) (m := 4) (hb.mono (by omega)) (by decide) (by decide)
  rw [← draw_eq] at e1
  have s1 : frzIf [] (mPar2 3 4 false true (eOp bAdd (eLit (.int 1)) (eFn d_law_draw (asStm 1 (asVal (eLit (.int 4)) asNil)))) eD0) [u0, .stm, .cl (.int (i : Nat)), u3, u4, u5, u6, u7] g = some (.nx, [u0, .stm, .cl (.int (i : Nat)), .cl (.int (1 + v)), .ow (.dict []), u5, u6, u7], g1) := by
    simp -implicitDefEqProofs [e1]
  have p0 : 0 < 1 + v := by omega
  have p5 : 1 + v < 5 := by omega
  generalize 1 + v = L at *
  -- the names
  obtain ⟨w, hw, hw7⟩ : ∃ w : Int, bIdx (.list [.int 7, .int 10]) (.int ((i : Int) % 2)) = some (.int w) ∧ (w = 7 ∨ w = 10) := by
    rcases Int.emod_two_eq (i : Int) with h | h
    · exact ⟨7, by rw [h]; simp, .inl rfl⟩
    · exact ⟨10, by rw [h]; simp, .inr rfl⟩
  obtain ⟨m, g2, e2, m0, m1, b2⟩ := draw_ok (k := j + 98) (m := w) (b1.mono (by omega)) (by omega) (by omega)
  rw [← draw_eq] at e2
  obtain ⟨l, g3, e3, NL, l9, b3⟩ := d_names (m := m) (by omega) (by omega) (j := j + 82) (b2.mono (by omega))
  obtain ⟨due, a, g4, e4, hdue, b4⟩ := names_loop p0 p5 NL u0 (.cl (.int (i : Nat))) u5 u6 u7 (j := j + 73) (b3.mono (by omega))
  have em : bMod (.int (i : Nat)) (.int 2) = some (.int ((i : Int) % 2)) := bMod_eq (by decide)
  have s2 : frzIf [1] (mFor (iVal (eFn d_law_d_names (asStm 1 (asVal (eFn d_law_draw (asStm 1 (asVal (eOp bIdx (eLst (aCons (eLit (.int 7)) (aCons (eLit (.int 10)) aNil))) (eOp bMod (eVar 2) (eLit (.int 2)))) asNil))) asNil)))) (.nm 5)
  (frzIf [3] (mPutD 4 (eVar 5) (eTup (aCons (eVar 3) (aCons (eOp bSub (eFn d_law_draw (asStm 1 (asVal (eOp bMul (eVar 3) (eLit (.int 7))) asNil))) (eLit (.int 2))) aNil)))))) [u0, .stm, .cl (.int (i : Nat)), .cl (.int L), .ow (.dict []), u5, u6, u7] g1 = some (.nx, [u0, .stm, .cl (.int (i : Nat)), .cl (.int L), .ow (dN l (tk L due)), a, u6, u7], g4) := by
    simp -implicitDefEqProofs [-q_ixL0, -q_ixL1, em, hw, e2, e3]
    exact e4
  -- turned
  obtain ⟨ns, g5, e5, pn, b5⟩ := turned (F := tk L due) NL (j := j + 64) (b4.mono (by omega))
  have s3 : frzIf [] (mSet' false 4 (eFn d_law_turned (asStm 1 (asVal (eVar 4) asNil)))) [u0, .stm, .cl (.int (i : Nat)), .cl (.int L), .ow (dN l (tk L due)), a, u6, u7] g4 = some (.nx, [u0, .stm, .cl (.int (i : Nat)), .cl (.int L), .cl (dN ns (tk L due)), a, u6, u7], g5) := by
    have : ∀ F, toSl (dN l F, true) = .ro (dN l F) := fun F => rfl
    simp -implicitDefEqProofs [this, e5]
  have c : Ctx ns L due := ⟨NL.perm pn, p0, p5, fun n hn => by have := hdue n (pn.mem_iff.mp hn); omega, fun n hn => by have := hdue n (pn.mem_iff.mp hn); omega, by rw [pn.length_eq]; omega⟩
  have n9 : ns.length ≤ 9 := by rw [pn.length_eq]; exact l9
  have e6 := units_of c
  obtain ⟨k, k1, k2, k3⟩ := kept_ex c
  have K : Kp ns k L due := ⟨k1, k2, k3⟩
  have e7 := most_right c K
  have e8 := most_in_time c K.ev
  have s4 : frzIf [4] (mSet' false 6 (eFn d_law_units_of (asVal (eVar 4) (asVal (eVar 3) asNil)))) [u0, .stm, .cl (.int (i : Nat)), .cl (.int L), .cl (dN ns (tk L due)), a, u6, u7] g5 = some (.nx, [u0, .stm, .cl (.int (i : Nat)), .cl (.int L), .cl (dN ns (tk L due)), a, .cl (dN ns (un L due)), u7], g5) := by
    simp -implicitDefEqProofs [e6]
  have s5 : frzIf [4, 6, 3] (mIf (eNot (eFn d_law_most_right (asVal (eVar 4) (asVal (eVar 6) (asVal (eVar 3) asNil))))) (frzIf [4] (mRet (eLit (.bool false)))) mNx) [u0, .stm, .cl (.int (i : Nat)), .cl (.int L), .cl (dN ns (tk L due)), a, .cl (dN ns (un L due)), u7] g5 = some (.nx, [u0, .stm, .cl (.int (i : Nat)), .cl (.int L), .cl (dN ns (tk L due)), a, .cl (dN ns (un L due)), u7], g5) := by
    simp -implicitDefEqProofs [e7]
  -- lots
  obtain ⟨sl', g6, e9, u7', rfl, b6⟩ := for_relG (e := fun i : Nat => PyData.int (i : Nat)) (tg := .nm 7)
    (mb := (frzIf [4, 6] (mIf (eNot (eFn d_law_lot_right (asStm 1 (asVal (eVar 4) (asVal (eVar 6) (asVal (eVar 3) asNil)))))) (frzIf [4] (mRet (eLit (.bool false)))) mNx)))
    (fun left sl g => ∃ u7' : Sl, sl = [u0, .stm, .cl (.int (i : Nat)), .cl (.int L), .cl (dN ns (tk L due)), a, .cl (dN ns (un L due)), u7'] ∧ Bud (left.length * 10 + (j + 24)) g)
    (by
      rintro x left sl g ⟨u7', rfl, hb⟩
      rw [List.length_cons] at hb
      obtain ⟨g', e, b⟩ := lot_right c (j := left.length * 10 + (j + 24)) (g := g) (hb.mono (by omega))
      exact ⟨[u0, .stm, .cl (.int (i : Nat)), .cl (.int L), .cl (dN ns (tk L due)), a, .cl (dN ns (un L due)), .cl (.int (x : Nat))], g', by simp -implicitDefEqProofs [e], _, rfl, b⟩) (List.range 4) [u0, .stm, .cl (.int (i : Nat)), .cl (.int L), .cl (dN ns (tk L due)), a, .cl (dN ns (un L due)), u7] g5 ⟨u7, rfl, b5.mono (by rw [List.length_range]; omega)⟩
  have r4 : rngOf [(.int 4, false)] = some ((List.range 4).map fun i => PyData.int (i : Nat)) := rng_of (by decide) (by decide)
  have s6 : frzIf [] (mFor (iRng rngOf (aCons (eLit (.int 4)) aNil)) (.nm 7) (frzIf [4, 6] (mIf (eNot (eFn d_law_lot_right (asStm 1 (asVal (eVar 4) (asVal (eVar 6) (asVal (eVar 3) asNil)))))) (frzIf [4] (mRet (eLit (.bool false)))) mNx))) [u0, .stm, .cl (.int (i : Nat)), .cl (.int L), .cl (dN ns (tk L due)), a, .cl (dN ns (un L due)), u7] g5 = some (.nx, [u0, .stm, .cl (.int (i : Nat)), .cl (.int L), .cl (dN ns (tk L due)), a, .cl (dN ns (un L due)), u7'], g6) := by
    rw [q_frz0, q_for, q_iRng]
    simp only [q_aCons, q_lit, q_aNil, Option.bind_some, Option.map_some, r4, Bool.false_eq_true, if_false]
    exact e9
  -- numbers
  obtain ⟨g7, e10, b7⟩ := numbers_right c K (j := j) (g := g6) (b6.mono (by rw [List.length_nil]; omega))
  have s7 : frzIf [4, 6, 4] (mIf (eNot (eFn d_law_numbers_right (asStm 1 (asVal (eVar 4) (asVal (eVar 6) (asVal (eFn d_most_in_time (asVal (eVar 4) asNil)) asNil)))))) (frzIf [4] (mRet (eLit (.bool false)))) mNx) [u0, .stm, .cl (.int (i : Nat)), .cl (.int L), .cl (dN ns (tk L due)), a, .cl (dN ns (un L due)), u7'] g6 = some (.nx, [u0, .stm, .cl (.int (i : Nat)), .cl (.int L), .cl (dN ns (tk L due)), a, .cl (dN ns (un L due)), u7'], g7) := by
    simp -implicitDefEqProofs [e8, e10]
  refine ⟨.cl (.int L), .cl (dN ns (tk L due)), a, .cl (dN ns (un L due)), u7', g7, ?_, b7⟩
  unfold bodyL
  rw [mSeq_nx s1, mSeq_nx s2, mSeq_nx s3, mSeq_nx s4, mSeq_nx s5, mSeq_nx s6, s7]
theorem law_true (ns : List Int) (h : ns.length ≤ 63) : ∃ sl' g', m_law (lawSl n_law 1) (some ⟨ns, 0, 0, 61⟩) = some (.rt (.bool true), sl', g') := by
  obtain ⟨sl', g', e, u2, u3, u4, u5, u6, u7, rfl, b⟩ := for_relG (e := fun i : Nat => PyData.int (i : Nat)) (tg := .nm 2) (mb := bodyL)
    (fun left sl g => ∃ u2 u3 u4 u5 u6 u7 : Sl, sl = [.un, .stm, u2, u3, u4, u5, u6, u7] ∧ Bud (left.length * 100) g)
    (by
      rintro x left sl g ⟨u2, u3, u4, u5, u6, u7, rfl, hb⟩
      rw [List.length_cons] at hb
      obtain ⟨u3', u4', u5', u6', u7', g', e, b⟩ := turn x .un u2 u3 u4 u5 u6 u7 (j := left.length * 100) (g := g) (hb.mono (by omega))
      exact ⟨_, g', by rw [q_bindN]; exact e, _, _, _, _, _, _, rfl, b⟩) (List.range 9) [.un, .stm, .un, .un, .un, .un, .un, .un] (some ⟨ns, 0, 0, 61⟩) ⟨_, _, _, _, _, _, rfl, Bud.start h (by simp)⟩
  have r9 : rngOf [(.int 9, false)] = some ((List.range 9).map fun i => PyData.int (i : Nat)) := rng_of (by decide) (by decide)
  have s1 : frzIf [] (mFor (iRng rngOf (aCons (eLit (.int 9)) aNil)) (.nm 2) bodyL) (lawSl n_law 1) (some ⟨ns, 0, 0, 61⟩) = some (.nx, [.un, .stm, u2, u3, u4, u5, u6, u7], g') := by
    rw [q_frz0, q_for, q_iRng]
    simp only [q_aCons, q_lit, q_aNil, Option.bind_some, Option.map_some, r9, Bool.false_eq_true, if_false]
    exact e
  have e0 : m_law = mSeq (frzIf [] (mFor (iRng rngOf (aCons (eLit (.int 9)) aNil)) (.nm 2) bodyL)) (frzIf [4] (mRet (eLit (.bool true)))) := rfl
  rw [e0, mSeq_nx s1]
  have : ∀ sl : Sls, ∀ g : G, ∃ sl' g', frzIf [4] (mRet (eLit (.bool true))) sl g = some (.rt (.bool true), sl', g') := fun sl g => ⟨_, _, rfl⟩
  exact this _ _
end Lw
theorem PySem.Challenge.cw_duehalls_k83_main_tasks_and_units_holds : PySem.Challenge.rw_duehalls_k83_main_tasks_and_units.Holds := by
  exact law_of Lw.law_true
