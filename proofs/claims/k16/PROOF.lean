import PyProof.Rows.All
import Wide.All
import OpenK.AllK
import Wide.FinOn
import HandS.ForMost
import HandS.Wide
import HandS.TupAny
import HandS.TupMul
import HandS.Zip
import HandS.Walk
import HandS.IsInst
import HandS.Conv
import HandS.More
import PyProof.StrOps2
import HandS.TupLe
import HandS.Deep
import HandS.TupLen
import HandS.WordsDict
import HandS.Style
import PySem.Challenge.RW_chancestrokes_k16_whole_even_weights
set_option exponentiation.threshold 300
set_option Elab.async false
set_option linter.all false
set_option maxRecDepth 100000
set_option maxHeartbeats 0
namespace PD
open PySem PySem.Spec PyProof.Rows L2

/-- data without a heap -/
inductive D where
  | non | bl (b : Bool) | int (i : Int) | str (x : Str)
  | tup (xs : List D) | lst (xs : List D)
  | dk (kvs : List (Key × D)) | dt (kvs : List (List Key × D))
  | scr (ns : List Int) | obj (n : Nat) | fn (x : Str) | ty (n : String)

/-- what may not be met (N), what may be written (Mx), where the objects lie -/
structure Ev where
  N : Addr → Prop
  Mx : Addr → Prop
  ob : Nat → Addr
  no : Nat

mutual
inductive Rep (K : PySem.W.Frag) (mg : Str → Option Value) (E : Ev) (H : Hp) : V → D → Prop
  | non : Rep K mg E H .non .non
  | bl (b : Bool) : Rep K mg E H (.bl b) (.bl b)
  | int (i : Int) : Rep K mg E H (.int i) (.int i)
  | str (x : Str) : Rep K mg E H (.str x) (.str x)
  | ty (n : String) : Rep K mg E H (.ty n) (.ty n)
  | tup {a : Addr} {vs : List V} {ds : List D} : H a = some (.tup vs) → RepL K mg E H vs ds → Rep K mg E H (.ref a) (.tup ds)
  | lst {a : Addr} {vs : List V} {ds : List D} : H a = some (.lst vs) → ¬ E.N a → RepL K mg E H vs ds → Rep K mg E H (.ref a) (.lst ds)
  | dk {a : Addr} {kvs : List (Key × V)} {kds : List (Key × D)} : Rd H a (.dK kvs) → ¬ E.N a → kvs.map (·.1) = kds.map (·.1) → RepL K mg E H (kvs.map (·.2)) (kds.map (·.2)) → Rep K mg E H (.ref a) (.dk kds)
  | dt {a : Addr} {kvs : List (List Key × V)} {kds : List (List Key × D)} : Rd H a (.dT kvs) → ¬ E.N a → kvs.map (·.1) = kds.map (·.1) → RepL K mg E H (kvs.map (·.2)) (kds.map (·.2)) → Rep K mg E H (.ref a) (.dt kds)
  | scr {a : Addr} (ns : List Int) : Rd H a (.lst (ns.map V.int)) → ¬ E.N a → Rep K mg E H (.ref a) (.scr ns)
  | scrK {a : Addr} (ns : List Int) : (∀ H', SqL K H' a (ns.map V.int)) → Rep K mg E H (.ref a) (.scr ns)
  | obj (n : Nat) : n < E.no → Rep K mg E H (.ref (E.ob n)) (.obj n)
  | fn {x : Str} {f : Addr} : mg x = some (.ref f) → PySem.W.keepIn K (.ref f) = true → Rep K mg E H (.ref f) (.fn x)
inductive RepL (K : PySem.W.Frag) (mg : Str → Option Value) (E : Ev) (H : Hp) : List V → List D → Prop
  | nil : RepL K mg E H [] []
  | cons {v : V} {vs : List V} {d : D} {ds : List D} : Rep K mg E H v d → RepL K mg E H vs ds → RepL K mg E H (v :: vs) (d :: ds)
end

/-- from one point to a later one -/
structure Ext (E : Ev) (H : Hp) (E' : Ev) (H' : Hp) : Prop where
  no : E.no ≤ E'.no
  ob : ∀ n, n < E.no → E'.ob n = E.ob n
  n2 : ∀ a, E'.N a → E.N a ∨ H a = none
  m2 : ∀ a, E'.Mx a → E.Mx a ∨ H a = none
  dm : ∀ a o, H a = some o → ∃ o', H' a = some o'
  keep : ∀ a o, ¬ E.Mx a → H a = some o → H' a = some o
  tup : ∀ a xs, H a = some (.tup xs) → H' a = some (.tup xs)
  frz : ∀ a o u, H a = some (.frz o u) → H' a = some (.frz o u)
def Ev.Sub (E : Ev) : Prop := ∀ a, E.Mx a → E.N a

section
variable {K : PySem.W.Frag} {mg : Str → Option Value} {E E' E'' : Ev} {H H' H'' : Hp}
theorem Ext.nn (x : Ext E H E' H') {a : Addr} (h : H' a = none) : H a = none := by
  cases q : H a with
  | none => rfl
  | some o => obtain ⟨o', e⟩ := x.dm a o q; rw [h] at e; cases e
theorem Ext.refl : Ext E H E H := ⟨Nat.le_refl _, fun _ _ => rfl, fun _ h => .inl h, fun _ h => .inl h, fun _ o h => ⟨o, h⟩, fun _ _ _ h => h, fun _ _ h => h, fun _ _ _ h => h⟩
theorem Ext.trans (x : Ext E H E' H') (y : Ext E' H' E'' H'') : Ext E H E'' H'' where
  no := Nat.le_trans x.no y.no
  ob := fun n h => (y.ob n (Nat.lt_of_lt_of_le h x.no)).trans (x.ob n h)
  n2 := fun a h => (y.n2 a h).elim (x.n2 a) fun h => .inr (x.nn h)
  m2 := fun a h => (y.m2 a h).elim (x.m2 a) fun h => .inr (x.nn h)
  dm := fun a o h => let ⟨o', e⟩ := x.dm a o h; y.dm a o' e
  keep := fun a o n h => by
    refine y.keep a o (fun z => ?_) (x.keep a o n h)
    rcases x.m2 a z with z | z
    · exact n z
    · rw [z] at h; cases h
  tup := fun a xs h => y.tup a xs (x.tup a xs h)
  frz := fun a o u h => y.frz a o u (x.frz a o u h)
/-- new objects alone -/
theorem Ext.same (x : Same H H') : Ext E H E H' := ⟨Nat.le_refl _, fun _ _ => rfl, fun _ h => .inl h, fun _ h => .inl h, fun _ o h => ⟨o, x _ _ h⟩, fun _ _ _ h => x _ _ h, fun _ _ h => x _ _ h, fun _ _ _ h => x _ _ h⟩
theorem Ext.rdt (x : Ext E H E' H') {a : Addr} {xs : List V} (h : Rd H a (.tup xs)) : Rd H' a (.tup xs) := by
  rcases h with h | ⟨o, h⟩
  · exact .inl (x.tup _ _ h)
  · exact .inr ⟨o, x.frz _ _ _ h⟩
theorem Ext.sqt (x : Ext E H E' H') {a : Addr} {xs : List V} (h : SqT K H a xs) : SqT K H' a xs := by
  rcases h with h | h
  · exact .inl (x.rdt h)
  · exact .inr h
theorem Ext.notN (x : Ext E H E' H') {a : Addr} {o : HO} (h : H a = some o) (n : ¬ E.N a) : ¬ E'.N a := fun z => by
  rcases x.n2 a z with z | z
  · exact n z
  · rw [z] at h; cases h
theorem Ext.notM (x : Ext E H E' H') {a : Addr} {o : HO} (h : H a = some o) (n : ¬ E.Mx a) : ¬ E'.Mx a := fun z => by
  rcases x.m2 a z with z | z
  · exact n z
  · rw [z] at h; cases h
theorem Ext.rd (x : Ext E H E' H') (sb : E.Sub) {a : Addr} {u : HO} (h : Rd H a u) (n : ¬ E.N a) : Rd H' a u ∧ ¬ E'.N a := by
  rcases h with h | ⟨o, h⟩
  · exact ⟨.inl (x.keep _ _ (fun z => n (sb _ z)) h), x.notN h n⟩
  · exact ⟨.inr ⟨o, x.frz _ _ _ h⟩, x.notN h n⟩
mutual
theorem Rep.ext (x : Ext E H E' H') (sb : E.Sub) : ∀ {v : V} {d : D}, Rep K mg E H v d → Rep K mg E' H' v d
  | _, _, .non => .non
  | _, _, .bl b => .bl b
  | _, _, .int b => .int b
  | _, _, .str b => .str b
  | _, _, .ty b => .ty b
  | _, _, .tup h r => .tup (x.tup _ _ h) (RepL.ext x sb r)
  | _, _, .lst h n r => .lst (x.keep _ _ (fun z => n (sb _ z)) h) (x.notN h n) (RepL.ext x sb r)
  | _, _, .dk h n l r => .dk (x.rd sb h n).1 (x.rd sb h n).2 l (RepL.ext x sb r)
  | _, _, .dt h n l r => .dt (x.rd sb h n).1 (x.rd sb h n).2 l (RepL.ext x sb r)
  | _, _, .scr ns h n => .scr ns (x.rd sb h n).1 (x.rd sb h n).2
  | _, _, .scrK ns h => .scrK ns h
  | _, _, .obj n h => by rw [← x.ob n h]; exact .obj n (Nat.lt_of_lt_of_le h x.no)
  | _, _, .fn h k => .fn h k
theorem RepL.ext (x : Ext E H E' H') (sb : E.Sub) : ∀ {v : List V} {d : List D}, RepL K mg E H v d → RepL K mg E' H' v d
  | _, _, .nil => .nil
  | _, _, .cons h r => .cons (Rep.ext x sb h) (RepL.ext x sb r)
end

/-! ### fewer things forbidden -/
structure Ev.Le (E E' : Ev) : Prop where
  no : E.no ≤ E'.no
  ob : ∀ n, n < E.no → E'.ob n = E.ob n
  n : ∀ a, E'.N a → E.N a
mutual
theorem Rep.le (x : E.Le E') : ∀ {v : V} {d : D}, Rep K mg E H v d → Rep K mg E' H v d
  | _, _, .non => .non
  | _, _, .bl b => .bl b
  | _, _, .int b => .int b
  | _, _, .str b => .str b
  | _, _, .ty b => .ty b
  | _, _, .tup h r => .tup h (RepL.le x r)
  | _, _, .lst h n r => .lst h (fun z => n (x.n _ z)) (RepL.le x r)
  | _, _, .dk h n l r => .dk h (fun z => n (x.n _ z)) l (RepL.le x r)
  | _, _, .dt h n l r => .dt h (fun z => n (x.n _ z)) l (RepL.le x r)
  | _, _, .scr ns h n => .scr ns h (fun z => n (x.n _ z))
  | _, _, .scrK ns h => .scrK ns h
  | _, _, .obj n h => by rw [← x.ob n h]; exact .obj n (Nat.lt_of_lt_of_le h x.no)
  | _, _, .fn h k => .fn h k
theorem RepL.le (x : E.Le E') : ∀ {v : List V} {d : List D}, RepL K mg E H v d → RepL K mg E' H v d
  | _, _, .nil => .nil
  | _, _, .cons h r => .cons (Rep.le x h) (RepL.le x r)
end
/-! ### a place that is not yet is forbidden -/
mutual
theorem Rep.new {N' : Addr → Prop} (x : ∀ a, N' a → E.N a ∨ H a = none) : ∀ {v : V} {d : D}, Rep K mg E H v d → Rep K mg { E with N := N' } H v d
  | _, _, .non => .non
  | _, _, .bl b => .bl b
  | _, _, .int b => .int b
  | _, _, .str b => .str b
  | _, _, .ty b => .ty b
  | _, _, .tup h r => .tup h (RepL.new x r)
  | _, _, .lst h n r => .lst h (fun z => (x _ z).elim n fun q => by rw [q] at h; cases h) (RepL.new x r)
  | _, _, .dk h n l r => .dk h (fun z => (x _ z).elim n fun q => by rcases h with h | ⟨_, h⟩ <;> (rw [q] at h; cases h)) l (RepL.new x r)
  | _, _, .dt h n l r => .dt h (fun z => (x _ z).elim n fun q => by rcases h with h | ⟨_, h⟩ <;> (rw [q] at h; cases h)) l (RepL.new x r)
  | _, _, .scr ns h n => .scr ns h (fun z => (x _ z).elim n fun q => by rcases h with h | ⟨_, h⟩ <;> (rw [q] at h; cases h))
  | _, _, .scrK ns h => .scrK ns h
  | _, _, .obj n h => .obj n h
  | _, _, .fn h k => .fn h k
theorem RepL.new {N' : Addr → Prop} (x : ∀ a, N' a → E.N a ∨ H a = none) : ∀ {v : List V} {d : List D}, RepL K mg E H v d → RepL K mg { E with N := N' } H v d
  | _, _, .nil => .nil
  | _, _, .cons h r => .cons (Rep.new x h) (RepL.new x r)
end

/-! ### lists of data -/
theorem RepL.length : ∀ {vs : List V} {ds : List D}, RepL K mg E H vs ds → vs.length = ds.length
  | _, _, .nil => rfl
  | _, _, .cons _ r => congrArg (· + 1) r.length
theorem RepL.get : ∀ {vs : List V} {ds : List D} {i : Nat} {v : V}, RepL K mg E H vs ds → vs[i]? = some v → ∃ d, ds[i]? = some d ∧ Rep K mg E H v d
  | _, _, _, _, .nil, e => by simp at e
  | _, _, 0, v, .cons r _, e => by simp at e; subst e; exact ⟨_, rfl, r⟩
  | _, _, i + 1, v, .cons _ t, e => by simpa using RepL.get (i := i) (v := v) t (by simpa using e)
theorem RepL.get' : ∀ {vs : List V} {ds : List D} {i : Nat} {d : D}, RepL K mg E H vs ds → ds[i]? = some d → ∃ v, vs[i]? = some v ∧ Rep K mg E H v d
  | _, _, _, _, .nil, e => by simp at e
  | _, _, 0, v, .cons r _, e => by simp at e; subst e; exact ⟨_, rfl, r⟩
  | _, _, i + 1, v, .cons _ t, e => by simpa using RepL.get' (i := i) (d := v) t (by simpa using e)
theorem RepL.append : ∀ {vs ws : List V} {ds es : List D}, RepL K mg E H vs ds → RepL K mg E H ws es → RepL K mg E H (vs ++ ws) (ds ++ es)
  | _, _, _, _, .nil, s => s
  | _, _, _, _, .cons r t, s => .cons r (RepL.append t s)
theorem RepL.take : ∀ {vs : List V} {ds : List D} (n : Nat), RepL K mg E H vs ds → RepL K mg E H (vs.take n) (ds.take n)
  | _, _, 0, _ => .nil
  | _, _, _ + 1, .nil => .nil
  | _, _, n + 1, .cons r t => .cons r (RepL.take n t)
theorem RepL.drop : ∀ {vs : List V} {ds : List D} (n : Nat), RepL K mg E H vs ds → RepL K mg E H (vs.drop n) (ds.drop n)
  | _, _, 0, r => r
  | _, _, _ + 1, .nil => .nil
  | _, _, n + 1, .cons _ t => RepL.drop n t
theorem RepL.set {v : V} {d : D} (r : Rep K mg E H v d) : ∀ {vs : List V} {ds : List D} (i : Nat), RepL K mg E H vs ds → RepL K mg E H (vs.set i v) (ds.set i d)
  | _, _, _, .nil => .nil
  | _, _, 0, .cons _ t => .cons r t
  | _, _, i + 1, .cons q t => .cons q (RepL.set r i t)
theorem RepL.eraseIdx : ∀ {vs : List V} {ds : List D} (i : Nat), RepL K mg E H vs ds → RepL K mg E H (vs.eraseIdx i) (ds.eraseIdx i)
  | _, _, _, .nil => .nil
  | _, _, 0, .cons _ t => t
  | _, _, i + 1, .cons q t => .cons q (RepL.eraseIdx i t)
theorem RepL.dropLast : ∀ {vs : List V} {ds : List D}, RepL K mg E H vs ds → RepL K mg E H vs.dropLast ds.dropLast
  | _, _, .nil => .nil
  | _, _, .cons _ .nil => .nil
  | _, _, .cons q (.cons r t) => .cons q (RepL.dropLast (.cons r t))
theorem RepL.reverse {vs : List V} {ds : List D} (h : RepL K mg E H vs ds) : RepL K mg E H vs.reverse ds.reverse := by
  induction vs generalizing ds with
  | nil => cases h; exact .nil
  | cons v vs ih => cases h with | cons r t => rw [List.reverse_cons, List.reverse_cons]; exact (ih t).append (.cons r .nil)
theorem RepL.rep {vs : List V} {ds : List D} (h : RepL K mg E H vs ds) : ∀ n : Nat, RepL K mg E H (List.replicate n vs).flatten (List.replicate n ds).flatten
  | 0 => .nil
  | n + 1 => by rw [List.replicate_succ, List.replicate_succ, List.flatten_cons, List.flatten_cons]; exact h.append (RepL.rep h n)

/-! ### a cell of one's own -/
def Cell (K : PySem.W.Frag) (mg : Str → Option Value) (E : Ev) (H : Hp) (a : Addr) : D → Prop
  | .lst ds => ∃ vs, H a = some (.lst vs) ∧ RepL K mg E H vs ds
  | .dk kds => ∃ kvs, H a = some (.dK kvs) ∧ kvs.map (·.1) = kds.map (·.1) ∧ RepL K mg E H (kvs.map (·.2)) (kds.map (·.2))
  | .dt kds => ∃ kvs, H a = some (.dT kvs) ∧ kvs.map (·.1) = kds.map (·.1) ∧ RepL K mg E H (kvs.map (·.2)) (kds.map (·.2))
  | _ => False
theorem Cell.dom {a : Addr} {d : D} (c : Cell K mg E H a d) : ∃ o, H a = some o := by
  cases d <;> first
    | exact c.elim
    | (obtain ⟨_, h, _⟩ := c; exact ⟨_, h⟩)
theorem Cell.mut {a : Addr} {d : D} (c : Cell K mg E H a d) : (∀ xs, H a ≠ some (.tup xs)) ∧ ∀ o u, H a ≠ some (.frz o u) := by
  cases d <;> first
    | exact c.elim
    | (obtain ⟨_, h, _⟩ := c; exact ⟨fun _ z => (by rw [h] at z; cases z), fun _ _ z => (by rw [h] at z; cases z)⟩)
theorem Cell.le {a : Addr} {d : D} (x : E.Le E') (c : Cell K mg E H a d) : Cell K mg E' H a d := by
  cases d <;> first
    | exact c.elim
    | (obtain ⟨vs, h, r⟩ := c; exact ⟨vs, h, r.le x⟩)
    | (obtain ⟨vs, h, l, r⟩ := c; exact ⟨vs, h, l, r.le x⟩)
theorem Cell.new {N' : Addr → Prop} (x : ∀ a, N' a → E.N a ∨ H a = none) {a : Addr} {d : D} (c : Cell K mg E H a d) : Cell K mg { E with N := N' } H a d := by
  cases d <;> first
    | exact c.elim
    | (obtain ⟨vs, h, r⟩ := c; exact ⟨vs, h, r.new x⟩)
    | (obtain ⟨vs, h, l, r⟩ := c; exact ⟨vs, h, l, r.new x⟩)
/-- from a cell that may be met to data -/
theorem Cell.rep {a : Addr} {d : D} (n : ¬ E.N a) (c : Cell K mg E H a d) : Rep K mg E H (.ref a) d := by
  cases d <;> first
    | exact c.elim
    | (obtain ⟨vs, h, r⟩ := c; exact .lst h n r)
    | (obtain ⟨vs, h, l, r⟩ := c; first | exact .dk (.inl h) n l r | exact .dt (.inl h) n l r)
/-- the cell's content stays where its place and what it leans on do -/
theorem Cell.ext (x : Ext E H E' H') (sb : E.Sub) {a : Addr} {d : D} (k : ∀ o, H a = some o → H' a = some o) (c : Cell K mg E H a d) : Cell K mg E' H' a d := by
  cases d <;> first
    | exact c.elim
    | (obtain ⟨vs, h, r⟩ := c; exact ⟨vs, k _ h, r.ext x sb⟩)
    | (obtain ⟨vs, h, l, r⟩ := c; exact ⟨vs, k _ h, l, r.ext x sb⟩)

/-! ### what a value is seen to be: its own place may be forbidden -/
inductive RepV (K : PySem.W.Frag) (mg : Str → Option Value) (E : Ev) (H : Hp) : V → D → Prop
  | of {v : V} {d : D} : Rep K mg E H v d → RepV K mg E H v d
  | cell {a : Addr} {d : D} : Cell K mg E H a d → RepV K mg E H (.ref a) d
end
end PD
namespace PD
open PySem PySem.Spec PyProof.Rows L2

/-- a name of the frame: not set, a value, a list or dict of its own -/
inductive Slot where
  | un | pl (d : D) | ow (d : D)
/-- the names and the objects -/
structure M where
  env : List Slot
  obs : List (List D)
inductive Res (α : Type) where
  | ok (a : α) (m : M) | no
abbrev Co (α : Type) := M → Res α
def Co.bind {α β : Type} (c : Co α) (k : α → Co β) : Co β := fun m => match c m with
  | .ok a m' => k a m'
  | .no => .no
def Co.ret {α : Type} (a : α) : Co α := fun m => .ok a m
def Co.lift {α : Type} (o : Option α) : Co α := fun m => match o with
  | some a => .ok a m
  | none => .no
inductive Flow' where
  | nx | rt (d : D) | rf (d : D) | bk | ct

/-- where a frame stands: what it may not meet, its entry, its own cells, the objects' places -/
structure Wd where
  N0 : Addr → Prop
  E0 : Ev
  H0 : Hp
  own : Nat → Option Addr
  ob : Nat → Addr
abbrev Wd.ev (W : Wd) (no : Nat) : Ev where
  N := fun a => W.N0 a ∨ (∃ i, W.own i = some a) ∨ ∃ n, n < no ∧ W.ob n = a
  Mx := fun a => (∃ i, W.own i = some a) ∨ ∃ n, n < no ∧ W.ob n = a
  ob := W.ob
  no := no
theorem Wd.sub (W : Wd) (no : Nat) : (W.ev no).Sub := fun _ h => .inr h

structure Sit (K : PySem.W.Frag) (mg : Str → Option Value) (W : Wd) (σ : L2.St) (H : Hp) (m : M) : Prop where
  len : σ.length = m.env.length
  ext : Ext W.E0 W.H0 (W.ev m.obs.length) H
  pl : ∀ (i : Nat) (d : D), m.env[i]? = some (Slot.pl d) → ∃ v, σ[i]? = some (some v) ∧ Rep K mg (W.ev m.obs.length) H v d
  ow : ∀ (i : Nat) (d : D), m.env[i]? = some (Slot.ow d) → ∃ a, W.own i = some a ∧ σ[i]? = some (some (.ref a)) ∧ Cell K mg (W.ev m.obs.length) H a d
  owi : ∀ (i : Nat) (a : Addr), W.own i = some a → ∃ d, m.env[i]? = some (Slot.ow d)
  inj : ∀ (i j : Nat) (a : Addr), W.own i = some a → W.own j = some a → i = j
  ob : ∀ (n : Nat) (ds : List D), m.obs[n]? = some ds → Cell K mg (W.ev m.obs.length) H (W.ob n) (.lst ds)
  obi : ∀ (n k : Nat), n < m.obs.length → k < m.obs.length → W.ob n = W.ob k → n = k
  obo : ∀ (n i : Nat), n < m.obs.length → W.own i ≠ some (W.ob n)
  n0 : ∀ a, W.N0 a → ∃ o, H a = some o
  o0 : ∀ (i : Nat) (a : Addr), W.own i = some a → ¬ W.N0 a

section
variable {K : PySem.W.Frag} {mg : Str → Option Value} {W : Wd} {σ : L2.St} {H H' : Hp} {m : M}
/-- every forbidden place is there -/
theorem Sit.dom (S : Sit K mg W σ H m) {a : Addr} (h : (W.ev m.obs.length).N a) : ∃ o, H a = some o := by
  rcases h with h | ⟨i, h⟩ | ⟨n, h, rfl⟩
  · exact S.n0 a h
  · obtain ⟨d, hd⟩ := S.owi i a h
    obtain ⟨b, hb, _, c⟩ := S.ow i d hd
    rw [h] at hb; cases hb
    exact c.dom
  · exact (S.ob n _ (List.getElem?_eq_getElem h)).dom
theorem Sit.fresh (S : Sit K mg W σ H m) {a : Addr} (h : H a = none) : ¬ (W.ev m.obs.length).N a := fun z => by
  obtain ⟨o, e⟩ := S.dom z
  rw [h] at e; cases e
/-- the heap goes on, the names' cells and objects as they stand -/
theorem Sit.step (S : Sit K mg W σ H m) (x : Ext (W.ev m.obs.length) H (W.ev m.obs.length) H') (k : ∀ a o, H a = some o → (W.ev m.obs.length).Mx a → H' a = some o) : Sit K mg W σ H' m where
  len := S.len
  ext := S.ext.trans x
  pl := fun i d h => let ⟨v, e, r⟩ := S.pl i d h; ⟨v, e, r.ext x (W.sub _)⟩
  ow := fun i d h => let ⟨a, e, e2, c⟩ := S.ow i d h; ⟨a, e, e2, c.ext x (W.sub _) fun o q => k a o q (.inl ⟨i, e⟩)⟩
  owi := S.owi
  inj := S.inj
  ob := fun n ds h => (S.ob n ds h).ext x (W.sub _) fun o q => k _ o q (.inr ⟨n, (List.getElem?_eq_some_iff.mp h).1, rfl⟩)
  obi := S.obi
  obo := S.obo
  n0 := fun a h => let ⟨o, e⟩ := S.n0 a h; x.dm a o e
  o0 := S.o0
theorem Sit.same (S : Sit K mg W σ H m) (x : Same H H') : Sit K mg W σ H' m := S.step (.same x) fun a o h _ => x a o h

/-! ### the readings -/
/-- behind an expression: the objects may be more -/
def After (K : PySem.W.Frag) (mg : Str → Option Value) (W : Wd) (σ : L2.St) (H : Hp) (m : M) (ob' : Nat → Addr) (H' : Hp) (m' : M) : Prop :=
  Ext (W.ev m.obs.length) H ({ W with ob := ob' }.ev m'.obs.length) H' ∧ Sit K mg { W with ob := ob' } σ H' m'
/-- an expression's data by f -/
def rdE (K : PySem.W.Frag) (mg : Str → Option Value) (f : Co D) : TE := fun σ H Q => ∃ W m, Sit K mg W σ H m ∧ ∃ d m', f m = .ok d m' ∧
  ∀ v ob' H', After K mg W σ H m ob' H' m' → Rep K mg ({ W with ob := ob' }.ev m'.obs.length) H' v d → Q v H'
/-- an operand: data, or a name whose own cell is to be read when all operands are there -/
inductive Opd where
  | val (d : D) | slot (i : Nat)
def RepO (K : PySem.W.Frag) (mg : Str → Option Value) (W : Wd) (σ : L2.St) (H : Hp) (m : M) (v : V) : Opd → Prop
  | .val d => Rep K mg (W.ev m.obs.length) H v d
  | .slot i => ∃ a, W.own i = some a ∧ v = .ref a
def Opd.get (m : M) : Opd → Option D
  | .val (.obj n) => (m.obs[n]?).map D.lst
  | .val d => some d
  | .slot i => match m.env[i]? with
    | some (Slot.ow d) => some d
    | _ => none
def rdB (K : PySem.W.Frag) (mg : Str → Option Value) (f : Co Opd) : TE := fun σ H Q => ∃ W m, Sit K mg W σ H m ∧ ∃ o m', f m = .ok o m' ∧
  ∀ v ob' H', After K mg W σ H m ob' H' m' → RepO K mg { W with ob := ob' } σ H' m' v o → Q v H'
/-- a new list or dict that nothing else holds -/
abbrev Wd.add (W : Wd) (a : Addr) : Wd := { W with N0 := fun b => W.N0 b ∨ b = a }
def rdF (K : PySem.W.Frag) (mg : Str → Option Value) (f : Co D) : TE := fun σ H Q => ∃ W m, Sit K mg W σ H m ∧ ∃ d m', f m = .ok d m' ∧
  ∀ a ob' H', H a = none → Ext (W.ev m.obs.length) H ({ W with ob := ob' }.ev m'.obs.length) H' → ¬ ({ W with ob := ob' }.ev m'.obs.length).N a → Sit K mg ({ W with ob := ob' }.add a) σ H' m' →
    Cell K mg (({ W with ob := ob' }.add a).ev m'.obs.length) H' a d → Q (.ref a) H'
def rdT (K : PySem.W.Frag) (mg : Str → Option Value) (f : Co Bool) : TT := fun σ H Q => ∃ W m, Sit K mg W σ H m ∧ ∃ d m', f m = .ok d m' ∧
  ∀ ob' H', After K mg W σ H m ob' H' m' → Q d H'
def rdA (K : PySem.W.Frag) (mg : Str → Option Value) (f : Co (List D)) : TA := fun σ H Q => ∃ W m, Sit K mg W σ H m ∧ ∃ d m', f m = .ok d m' ∧
  ∀ vs ob' H', After K mg W σ H m ob' H' m' → RepL K mg ({ W with ob := ob' }.ev m'.obs.length) H' vs d → Q vs H'
/-- operands from the left -/
inductive RepOs (K : PySem.W.Frag) (mg : Str → Option Value) (W : Wd) (σ : L2.St) (H : Hp) (m : M) : List V → List Opd → Prop
  | nil : RepOs K mg W σ H m [] []
  | cons {v : V} {vs : List V} {o : Opd} {os : List Opd} : RepO K mg W σ H m v o → RepOs K mg W σ H m vs os → RepOs K mg W σ H m (v :: vs) (o :: os)
def rdBs (K : PySem.W.Frag) (mg : Str → Option Value) (f : Co (List Opd)) : TA := fun σ H Q => ∃ W m, Sit K mg W σ H m ∧ ∃ d m', f m = .ok d m' ∧
  ∀ vs ob' H', After K mg W σ H m ob' H' m' → RepOs K mg { W with ob := ob' } σ H' m' vs d → Q vs H'
/-- a statement's -/
def Lat (W W' : Wd) : Prop := W'.N0 = W.N0 ∧ W'.E0 = W.E0 ∧ W'.H0 = W.H0
def FPost (K : PySem.W.Frag) (mg : Str → Option Value) (D : Ends) (W : Wd) (m' : M) : Flow' → Prop
  | .nx => ∀ W' σ' H', Lat W W' → Sit K mg W' σ' H' m' → D.nx σ' H'
  | .bk => ∀ W' σ' H', Lat W W' → Sit K mg W' σ' H' m' → D.bk σ' H'
  | .ct => ∀ W' σ' H', Lat W W' → Sit K mg W' σ' H' m' → D.ct σ' H'
  | .rt d => ∀ W' σ' H' v, Lat W W' → Sit K mg W' σ' H' m' → Rep K mg (W'.ev m'.obs.length) H' v d → D.rt v H'
  | .rf d => ∀ W' σ' H' a, Lat W W' → ¬ (W'.ev m'.obs.length).N a → (W'.E0.Mx a ∨ W'.H0 a = none) → Sit K mg (W'.add a) σ' H' m' → Cell K mg ((W'.add a).ev m'.obs.length) H' a d → D.rt (.ref a) H'
def rdS (K : PySem.W.Frag) (mg : Str → Option Value) (f : Co Flow') : TS := fun D σ H => ∃ W m, Sit K mg W σ H m ∧ ∃ fl m', f m = .ok fl m' ∧ FPost K mg D W m' fl
end
end PD
namespace PD
open PySem PySem.Spec PyProof.Rows L2

abbrev EE (X : Cx) (e : Expr) (f : Co D) : Prop := PE X e (rdE X.K X.mg f)
abbrev EB (X : Cx) (e : Expr) (f : Co Opd) : Prop := PE X e (rdB X.K X.mg f)
abbrev EF (X : Cx) (e : Expr) (f : Co D) : Prop := PE X e (rdF X.K X.mg f)
abbrev ET (X : Cx) (e : Expr) (f : Co Bool) : Prop := PT X e (rdT X.K X.mg f)
abbrev EA (X : Cx) (es : List Expr) (f : Co (List D)) : Prop := PA X es (rdA X.K X.mg f)
abbrev EBs (X : Cx) (es : List Expr) (f : Co (List Opd)) : Prop := PA X es (rdBs X.K X.mg f)
abbrev SS (X : Cx) (st : Stmt) (f : Co Flow') : Prop := PS X st (rdS X.K X.mg f)
abbrev SSs (X : Cx) (st : List Stmt) (f : Co Flow') : Prop := PSs X st (rdS X.K X.mg f)

theorem PE.imp {X : Cx} {e : Expr} {t t' : TE} (h : PE X e t) (i : ∀ σ H Q, t' σ H Q → t σ H Q) : PE X e t' := ⟨fun pins s σ H Q I q => h.run pins s σ H Q I (i σ H Q q)⟩
theorem PT.imp {X : Cx} {e : Expr} {t t' : TT} (h : PT X e t) (i : ∀ σ H Q, t' σ H Q → t σ H Q) : PT X e t' := ⟨fun pins s σ H Q I q => h.run pins s σ H Q I (i σ H Q q)⟩
theorem PW.imp {X : Cx} {e : Expr} {t t' : TT} (h : PW X e t) (i : ∀ σ H Q, t' σ H Q → t σ H Q) : PW X e t' := ⟨fun wh pins s σ H Q I q => h.run wh pins s σ H Q I (i σ H Q q)⟩
theorem PA.imp {X : Cx} {e : List Expr} {t t' : TA} (h : PA X e t) (i : ∀ σ H Q, t' σ H Q → t σ H Q) : PA X e t' := ⟨fun pos pins s σ H Q I q => h.run pos pins s σ H Q I (i σ H Q q)⟩
theorem PS.imp {X : Cx} {e : Stmt} {t t' : TS} (h : PS X e t) (i : ∀ D σ H, t' D σ H → t D σ H) : PS X e t' := ⟨fun pins s σ H D I q => h.run pins s σ H D I (i D σ H q)⟩
theorem PSs.imp {X : Cx} {e : List Stmt} {t t' : TS} (h : PSs X e t) (i : ∀ D σ H, t' D σ H → t D σ H) : PSs X e t' := ⟨fun pins s σ H D I q => h.run pins s σ H D I (i D σ H q)⟩
theorem PI.imp {X : Cx} {tg e : Expr} {t t' : TI} (h : PI X tg e t) (i : ∀ σ H Q, t' σ H Q → t σ H Q) : PI X tg e t' := ⟨fun pins s σ H Q I q => h.run pins s σ H Q I (i σ H Q q)⟩

section
variable {K : PySem.W.Frag} {mg : Str → Option Value} {W : Wd} {σ : L2.St} {H H1 H2 : Hp} {m m1 m2 : M} {ob1 ob2 : Nat → Addr}
theorem After.refl (S : Sit K mg W σ H m) : After K mg W σ H m W.ob H m := ⟨Ext.refl, S⟩
theorem After.trans (a : After K mg W σ H m ob1 H1 m1) (b : After K mg { W with ob := ob1 } σ H1 m1 ob2 H2 m2) : After K mg W σ H m ob2 H2 m2 := ⟨a.1.trans b.1, b.2⟩
theorem After.rep (a : After K mg W σ H m ob1 H1 m1) {v : V} {d : D} (r : Rep K mg (W.ev m.obs.length) H v d) : Rep K mg ({ W with ob := ob1 }.ev m1.obs.length) H1 v d := r.ext a.1 (W.sub _)
theorem After.repL (a : After K mg W σ H m ob1 H1 m1) {v : List V} {d : List D} (r : RepL K mg (W.ev m.obs.length) H v d) : RepL K mg ({ W with ob := ob1 }.ev m1.obs.length) H1 v d := r.ext a.1 (W.sub _)
theorem After.repO (a : After K mg W σ H m ob1 H1 m1) {v : V} {o : Opd} (r : RepO K mg W σ H m v o) : RepO K mg { W with ob := ob1 } σ H1 m1 v o := by
  cases o with
  | val d => exact a.rep r
  | slot i => exact r
theorem After.repOs (a : After K mg W σ H m ob1 H1 m1) : ∀ {v : List V} {o : List Opd}, RepOs K mg W σ H m v o → RepOs K mg { W with ob := ob1 } σ H1 m1 v o
  | _, _, .nil => .nil
  | _, _, .cons h r => .cons (a.repO h) (a.repOs r)
/-- new objects alone, behind -/
theorem After.same (S : Sit K mg W σ H m) (x : Same H H1) : After K mg W σ H m W.ob H1 m := ⟨.same x, S.same x⟩
/-- what an operand is seen to be -/
theorem RepO.view (S : Sit K mg W σ H m) {v : V} {o : Opd} {d : D} (r : RepO K mg W σ H m v o) (g : o.get m = some d) : RepV K mg (W.ev m.obs.length) H v d := by
  cases o with
  | val e =>
    cases e <;> first
      | (cases g; exact .of r)
      | skip
    rename_i n
    have r' : Rep K mg (W.ev m.obs.length) H v (.obj n) := r
    cases r' with
    | obj _ hn =>
      have e : m.obs[n]? = some m.obs[n] := List.getElem?_eq_getElem hn
      have g' : (m.obs[n]?).map D.lst = some d := g
      rw [e] at g'; cases g'
      exact .cell (S.ob n _ e)
  | slot i =>
    obtain ⟨a, ho, rfl⟩ := r
    have g' : (match m.env[i]? with | some (.ow d) => some d | _ => none) = some d := g
    split at g'
    · rename_i e he
      cases g'
      obtain ⟨b, hb, _, c⟩ := S.ow i _ he
      have ho' : W.own i = some a := ho
      rw [ho'] at hb; cases hb
      exact .cell c
    · cases g'
/-! ### D: lists and tuples that are seen -/
theorem RepV.lst {E : Ev} {v : V} {ds : List D} (r : RepV K mg E H v (.lst ds)) : ∃ a vs, v = .ref a ∧ H a = some (.lst vs) ∧ RepL K mg E H vs ds := by
  cases r with
  | of r => cases r with | lst h n r => exact ⟨_, _, rfl, h, r⟩
  | cell c => obtain ⟨vs, h, r⟩ := c; exact ⟨_, vs, rfl, h, r⟩
theorem RepV.tup {E : Ev} {v : V} {ds : List D} (r : RepV K mg E H v (.tup ds)) : ∃ a vs, v = .ref a ∧ H a = some (.tup vs) ∧ RepL K mg E H vs ds := by
  cases r with
  | of r => cases r with | tup h r => exact ⟨_, _, rfl, h, r⟩
  | cell c => exact c.elim
theorem RepV.int {E : Ev} {v : V} {i : Int} (r : RepV K mg E H v (.int i)) : v = .int i := by
  cases r with
  | of r => cases r; rfl
  | cell c => exact c.elim
theorem RepV.bl {E : Ev} {v : V} {i : Bool} (r : RepV K mg E H v (.bl i)) : v = .bl i := by
  cases r with
  | of r => cases r; rfl
  | cell c => exact c.elim
theorem RepV.str {E : Ev} {v : V} {i : Str} (r : RepV K mg E H v (.str i)) : v = .str i := by
  cases r with
  | of r => cases r; rfl
  | cell c => exact c.elim
theorem RepV.non {E : Ev} {v : V} (r : RepV K mg E H v .non) : v = .non := by
  cases r with
  | of r => cases r; rfl
  | cell c => exact c.elim
theorem RepV.scr {E : Ev} {v : V} {ns : List Int} (r : RepV K mg E H v (.scr ns)) : ∃ a, v = .ref a ∧ SqL K H a (ns.map V.int) := by
  cases r with
  | of r =>
    cases r with
    | scr _ h n => exact ⟨_, rfl, .inl h⟩
    | scrK _ h => exact ⟨_, rfl, h H⟩
  | cell c => exact c.elim
end

/-! ### D's operations -/
def addD : D → D → Option D
  | .int i, .int j => some (.int (i + j))
  | .str x, .str y => if x.length + y.length ≤ sizeLine then some (.str (x ++ y)) else none
  | .lst x, .lst y => if x.length + y.length ≤ sizeLine then some (.lst (x ++ y)) else none
  | .tup x, .tup y => if x.length + y.length ≤ sizeLine then some (.tup (x ++ y)) else none
  | _, _ => none
def subD : D → D → Option D
  | .int i, .int j => some (.int (i - j))
  | _, _ => none
instance {i j : Int} : Decidable (CMulW i j) := inferInstanceAs (Decidable (_ < _))
instance {i j : Int} : Decidable (CDivW i j) := inferInstanceAs (Decidable (_ ∧ _))
instance {i j : Int} : Decidable (CPow i j) := inferInstanceAs (Decidable (_ ∧ _ ∧ _))
def divD : D → D → Option D
  | .int i, .int j => if CDivW i j then some (.int (i / j)) else none
  | _, _ => none
def modD : D → D → Option D
  | .int i, .int j => if 0 < j then some (.int (i % j)) else none
  | _, _ => none
def shlD : D → D → Option D
  | .int i, .int j => if CPow i j then some (.int (i * 2 ^ j.toNat)) else none
  | _, _ => none
def powD : D → D → Option D
  | .int i, .int j => if CPow i j then some (.int (i ^ j.toNat)) else none
  | _, _ => none
/-- g on data is r on values; what is made is new -/
def OpD (K : PySem.W.Frag) (mg : Str → Option Value) (g : D → D → Option D) (r : R2) : Prop :=
  ∀ (E : Ev) (H : Hp) (x y : V) (d1 d2 d : D) (Q : VK), (∀ a, E.N a → ∃ o, H a = some o) → RepV K mg E H x d1 → RepV K mg E H y d2 → g d1 d2 = some d →
    (∀ v H', Same H H' → Rep K mg E H' v d → Q v H') → r x y H Q
theorem same_new {H : Hp} {p : Addr} (h : H p = none) (o : HO) : Same H (upd H p o) := fun b u q => by rw [upd_ne (ne_of_none q h)]; exact q
section
variable {K : PySem.W.Frag} {mg : Str → Option Value} {E : Ev} {H : Hp} {X : Cx}
theorem Ev.le_mx (E : Ev) (P : Addr → Prop) : E.Le { E with Mx := P } := ⟨Nat.le_refl _, fun _ _ => rfl, fun _ h => h⟩
theorem Ev.mx_le (E : Ev) (P : Addr → Prop) : Ev.Le { E with Mx := P } E := ⟨Nat.le_refl _, fun _ _ => rfl, fun _ h => h⟩
theorem Rep.up {H' : Hp} {v : V} {d : D} (x : Same H H') (r : Rep K mg E H v d) : Rep K mg E H' v d :=
  Rep.le (E.mx_le _) (Rep.ext (E' := { E with Mx := fun _ => False }) (.same x) (fun _ z => z.elim) (Rep.le (E.le_mx fun _ => False) r))
theorem RepL.up {H' : Hp} {v : List V} {d : List D} (x : Same H H') (r : RepL K mg E H v d) : RepL K mg E H' v d :=
  RepL.le (E.mx_le _) (RepL.ext (E' := { E with Mx := fun _ => False }) (.same x) (fun _ z => z.elim) (RepL.le (E.le_mx fun _ => False) r))
theorem opd_sub : OpD K mg subD (rI0 fun i j => .int (i - j)) := fun E H x y d1 d2 d Q hN r1 r2 g q => by
  unfold subD at g
  split at g
  · cases g
    exact ⟨_, _, r1.int, r2.int, q _ _ (Same.refl _) (.int _)⟩
  · cases g
theorem opd_div : OpD K mg divD (rI CDivW fun i j => .int (i / j)) := fun E H x y d1 d2 d Q hN r1 r2 g q => by
  unfold divD at g
  split at g
  · split at g
    · cases g
      rename_i h
      exact ⟨_, _, r1.int, r2.int, h, q _ _ (Same.refl _) (.int _)⟩
    · cases g
  · cases g
theorem opd_mod : OpD K mg modD (rI (fun _ j => 0 < j) fun i j => .int (i % j)) := fun E H x y d1 d2 d Q hN r1 r2 g q => by
  unfold modD at g
  split at g
  · split at g
    · cases g
      rename_i h
      exact ⟨_, _, r1.int, r2.int, h, q _ _ (Same.refl _) (.int _)⟩
    · cases g
  · cases g
theorem opd_shl : OpD K mg shlD (rI CPow fun i j => .int (i * 2 ^ j.toNat)) := fun E H x y d1 d2 d Q hN r1 r2 g q => by
  unfold shlD at g
  split at g
  · split at g
    · cases g
      rename_i h
      exact ⟨_, _, r1.int, r2.int, h, q _ _ (Same.refl _) (.int _)⟩
    · cases g
  · cases g
theorem opd_pow : OpD K mg powD (rI CPow fun i j => .int (i ^ j.toNat)) := fun E H x y d1 d2 d Q hN r1 r2 g q => by
  unfold powD at g
  split at g
  · split at g
    · cases g
      rename_i h
      exact ⟨_, _, r1.int, r2.int, h, q _ _ (Same.refl _) (.int _)⟩
    · cases g
  · cases g
theorem RepL.nil_iff {vs : List V} {ds : List D} (r : RepL K mg E H vs ds) : vs = [] ↔ ds = [] := by
  cases r <;> simp
/-- a new list -/
theorem Rep.newL {p : Addr} {vs : List V} {ds : List D} (hN : ∀ a, E.N a → ∃ o, H a = some o) (hp : H p = none) (r : RepL K mg E H vs ds) : Rep K mg E (upd H p (.lst vs)) (.ref p) (.lst ds) :=
  .lst upd_same (fun z => by obtain ⟨o, e⟩ := hN _ z; rw [hp] at e; cases e) (r.up (same_new hp _))
theorem Rep.newT {p : Addr} {vs : List V} {ds : List D} (hp : H p = none) (r : RepL K mg E H vs ds) : Rep K mg E (upd H p (.tup vs)) (.ref p) (.tup ds) :=
  .tup upd_same (r.up (same_new hp _))
def rAddAll (K : PySem.W.Frag) : R2 := fun x y H Q => (rI0 (fun i j => .int (i + j)) x y H Q ∨ (fun x y H Q => ∃ i j, x = V.str i ∧ y = V.str j ∧ i.length + j.length ≤ sizeLine ∧ Q (V.str (i ++ j)) H) x y H Q) ∨ (rCat x y H Q ∨ rCatA K x y H Q)
theorem op_addAll : OpR X (binaryOp .Add) (rAddAll X.K) := OpR.or (OpR.or op_add op_add_str) (OpR.or op_cat op_catA)
theorem opd_add : OpD K mg addD (rAddAll K) := fun E H x y d1 d2 d Q hN r1 r2 g q => by
  unfold addD at g
  split at g
  · cases g
    exact .inl (.inl ⟨_, _, r1.int, r2.int, q _ _ (Same.refl _) (.int _)⟩)
  · split at g
    · cases g
      rename_i h
      exact .inl (.inr ⟨_, _, r1.str, r2.str, h, q _ _ (Same.refl _) (.str _)⟩)
    · cases g
  · split at g
    · cases g
      rename_i h
      obtain ⟨a, vs, rfl, ha, ra⟩ := r1.lst
      obtain ⟨b, ws, rfl, hb, rb⟩ := r2.lst
      exact .inr (.inl ⟨a, b, vs, ws, rfl, rfl, ha, hb, by rw [ra.length, rb.length]; exact h, fun p hp => q _ _ (same_new hp _) (.newL hN hp (ra.append rb))⟩)
    · cases g
  · split at g
    · cases g
      rename_i h
      obtain ⟨a, vs, rfl, ha, ra⟩ := r1.tup
      obtain ⟨b, ws, rfl, hb, rb⟩ := r2.tup
      refine .inr (.inr ⟨a, b, vs, ws, rfl, rfl, SqT.of ha, SqT.of hb, by rw [ra.length, rb.length]; exact h, fun e => ?_, fun _ e => ?_, fun _ _ p hp => q _ _ (same_new hp _) (.newT hp (ra.append rb))⟩)
      · rw [ra.nil_iff] at e
        subst e
        exact q _ _ (Same.refl _) (.tup hb rb)
      · rw [rb.nil_iff] at e
        subst e
        rw [List.append_nil] at q
        exact q _ _ (Same.refl _) (.tup ha ra)
    · cases g
  · cases g
end
end PD
namespace PD
open PySem PySem.Spec PyProof.Rows L2
theorem tuple_mulW1 (l : Addr) (items : Array Value) (n : Nat) (dd : Option Addr) (sl : Array (Option Value)) (u : Tok) :
    Meets (Builtin.«tuple.__mul__» ⟨[.ref l, .int 1 u], []⟩) (fun _ R s => s.heap.get? l = some { cls := .type "tuple", dict := dd, data := .seq items n, slots := sl } ∧
      R (.ok (.ret (Value.ref l))) s) :=
  .of_wp fun prog w A R s h => by
    obtain ⟨hp, g, d, tk, os⟩ := s
    obtain ⟨hl, h⟩ := h
    have f1 := AutoSeq1.idx_int
    wp_walk using wpAny_loadPart' hl
    exact ⟨_, rfl, h⟩
section
variable {X : Cx}
def rRepT1 (K : PySem.W.Frag) : R2 := fun x y H Q => ∃ l xs, x = .ref l ∧ y = .int 1 ∧ SqT K H l xs ∧ Q (.ref l) H
theorem op_repT1 : OpR X (binaryOp .Mult) (rRepT1 X.K) := by
  intro pins s σ H x y v u Q I rx ry h
  obtain ⟨l, xs, rfl, rfl, hT, q⟩ := h
  cases rx
  obtain ⟨t, rfl⟩ := ry
  obtain ⟨its, r, ⟨⟨cls, dd, data, sl⟩, ho, hc, n, hd⟩, hs⟩ := I.tuple hT
  simp only at hc hd
  subst hc hd
  refine wpAny_binaryOp_repeat_ref (T := "tuple") (U := "int") (by decide) ⟨_, ho, rfl⟩ (fun s' => typeIs_int s' 1 t) L2.noFill_tuple_mul F.fills_int_mul F.slot_int_rmul L2.repeat_tuple F.slot_int_index.lookup
    (call_meets F.slot_int_rmul (typeIs_int s 1 t) F.entry_int_rmul (F.args_int_rmul_2 _ _) (L2.int_rmul_tuple 1 t l its.toArray n dd sl)
      ⟨ho, rfl, ⟨_, ho, rfl⟩, call_meets F.slot_tuple_mul ⟨_, ho, rfl⟩ F.entry_tuple_mul (F.args_tuple_mul_2 _ _) (tuple_mulW1 l its.toArray n dd sl t) ⟨ho, ?_⟩⟩)
  exact ⟨.ref l, H, I, rfl, q⟩
/-- s * k, a text and a small number -/
def repS (x : Str) (k : Int) : Str := ⟨(List.replicate k.toNat x.cps.toList).flatten.toArray⟩
def CRep (x : Str) (k : Int) : Prop := 0 ≤ k ∧ k ≤ 100000 ∧ x.length ≤ 100
instance {x : Str} {k : Int} : Decidable (CRep x k) := inferInstanceAs (Decidable (_ ∧ _ ∧ _))
def rRepS : R2 := fun x y H Q => ∃ s k, x = .str s ∧ y = .int k ∧ CRep s k ∧ Q (.str (repS s k)) H
theorem foldl_arr (x : Array Nat) : ∀ (m : Nat) (acc : Array Nat), (List.replicate m x).foldl (· ++ ·) acc = acc ++ ((List.replicate m x.toList).flatten).toArray
  | 0, acc => by simp
  | m + 1, acc => by
    rw [List.replicate_succ, List.foldl_cons, foldl_arr x m, List.replicate_succ, List.flatten_cons]
    apply Array.ext'
    simp
theorem op_repS : OpR X (binaryOp .Mult) rRepS := by
  intro pins s σ H x y v u Q I rx ry h
  obtain ⟨z, k, rfl, rfl, ⟨h0, h1, h2⟩, q⟩ := h
  obtain ⟨t, rfl⟩ := rx
  obtain ⟨t', rfl⟩ := ry
  have hl : z.length * k.toNat ≤ 10000000 := by
    have : z.length * k.toNat ≤ 100 * 100000 := Nat.mul_le_mul h2 (by omega)
    omega
  refine PySem.P.mul_str (by rw [decide_eq_false (by omega), decide_eq_false (by omega)]; rfl) (fun a b => ?_) (fun _ _ => ?_) ?_
  · have hk : 1 ≤ k := by omega
    have e : ((2 : Int) ^ 63 - 1) / k ≥ (2 ^ 63 - 1) / 100000 := Int.le_ediv_of_mul_le (by omega) (by
      have : ((2 : Int) ^ 63 - 1) / 100000 * k ≤ (2 ^ 63 - 1) / 100000 * 100000 := Int.mul_le_mul_of_nonneg_left h1 (by decide)
      have h3 : ((2 : Int) ^ 63 - 1) / 100000 * 100000 ≤ 2 ^ 63 - 1 := by decide
      omega)
    have e2 : ((2 : Int) ^ 63 - 1) / 100000 ≥ 100 := by decide
    omega
  · unfold Builtin.Str.tooLong
    rw [sizeLine_eq]
    exact decide_eq_false (by omega)
  · have key : ∀ (z' : Str), z'.length ≤ sizeLine → z' = repS z k → (Made.str z').post (EP X pins σ Q) s := fun z' hz e => by
      subst e
      exact ⟨hz, ⟨.str (repS z k), H, I.tok _, ⟨_, rfl⟩, q⟩⟩
    split
    · refine key _ (by decide) ?_
      have : k = 0 := by omega
      subst this
      rfl
    · split
      · rename_i hn hc
        refine ⟨.str z, H, I, ⟨t, rfl⟩, ?_⟩
        have e : repS z k = z := by
          unfold repS
          rw [Bool.or_eq_true] at hc
          rcases hc with hc | hc
          · have : k = 1 := by simpa using hc
            subst this
            simp
          · have : z.cps.toList = [] := by
              have h5 : z.length = 0 := by simpa using hc
              exact List.eq_nil_of_length_eq_zero (by rw [Array.length_toList]; exact h5)
            rw [this]
            have h6 : z.cps = #[] := by apply Array.ext'; simpa using this
            cases z
            simp at h6
            subst h6
            simp
        rw [← e]
        exact q
      · refine key _ ?_ ?_
        · rw [foldl_arr]
          show Array.size _ ≤ _
          rw [sizeLine_eq]
          simp
          rw [Nat.mul_comm]
          have : z.cps.size * k.toNat ≤ 10000000 := hl
          omega
        · unfold repS
          rw [foldl_arr]
          simp
def mulD : D → D → Option D
  | .int i, .int j => if CMulW i j then some (.int (i * j)) else none
  | .str x, .int k => if CRep x k then some (.str (repS x k)) else none
  | .lst xs, .int k => if 0 ≤ k ∧ k ≤ 100000 ∧ xs.length ≤ 100 then some (.lst (List.replicate k.toNat xs).flatten) else none
  | .tup xs, .int k => if 1 ≤ k ∧ k ≤ 1000 ∧ xs.length ≤ 1000 ∧ 0 < xs.length then some (.tup (List.replicate k.toNat xs).flatten) else none
  | _, _ => none
def rMulAll (K : PySem.W.Frag) : R2 := fun x y H Q => (rI CMulW (fun i j => .int (i * j)) x y H Q ∨ rRepS x y H Q) ∨ rRep x y H Q ∨ (rRepT K x y H Q ∨ rRepT1 K x y H Q)
theorem op_mulAll : OpR X (binaryOp .Mult) (rMulAll X.K) := OpR.or (OpR.or op_mulW op_repS) (OpR.or op_rep (OpR.or op_repT op_repT1))
end
section
variable {K : PySem.W.Frag} {mg : Str → Option Value}
theorem opd_mul : OpD K mg mulD (rMulAll K) := fun E H x y d1 d2 d Q hN r1 r2 g q => by
  unfold mulD at g
  split at g
  · split at g
    · cases g
      rename_i h
      exact .inl (.inl ⟨_, _, r1.int, r2.int, h, q _ _ (Same.refl _) (.int _)⟩)
    · cases g
  · split at g
    · cases g
      rename_i h
      exact .inl (.inr ⟨_, _, r1.str, r2.int, h, q _ _ (Same.refl _) (.str _)⟩)
    · cases g
  · split at g
    · cases g
      rename_i k h
      obtain ⟨a, vs, rfl, ha, ra⟩ := r1.lst
      refine .inr (.inl ⟨a, k, vs, rfl, r2.int, ha, by omega, by omega, ?_, fun p hp => q _ _ (same_new hp _) (.newL hN hp (ra.rep _))⟩)
      rw [ra.length, sizeLine_eq]
      have : (_ : List D).length * k.toNat ≤ 100 * 100000 := Nat.mul_le_mul h.2.2 (by omega)
      exact Nat.le_trans this (by decide)
    · cases g
  · split at g
    · cases g
      rename_i k h
      obtain ⟨a, vs, rfl, ha, ra⟩ := r1.tup
      refine .inr (.inr ?_)
      have hne : vs ≠ [] := fun e => by
        rw [ra.nil_iff] at e
        rw [e] at h
        exact absurd h.2.2.2 (Nat.lt_irrefl 0)
      by_cases h1 : k = 1
      · subst h1
        refine .inr ⟨a, vs, rfl, r2.int, SqT.of ha, q _ _ (Same.refl _) ?_⟩
        simpa using Rep.tup ha ra
      · exact .inl ⟨a, k, vs, rfl, r2.int, SqT.of ha, hne, by omega, by omega, by rw [ra.length]; exact h.2.2.1, fun p hp => q _ _ (same_new hp _) (.newT hp (ra.rep _))⟩
    · cases g
  · cases g
end
end PD
namespace PD
open PySem PySem.Spec PyProof.Rows L2

/-! ### sequencing -/
theorem Co.bind_ok {α β : Type} {c : Co α} {k : α → Co β} {m m' : M} {b : β} (h : Co.bind c k m = .ok b m') : ∃ a m1, c m = .ok a m1 ∧ k a m1 = .ok b m' := by
  unfold Co.bind at h
  split at h
  · rename_i a m1 e; exact ⟨a, m1, e, h⟩
  · cases h
def Opd1 (g : D → Option D) (o1 : Opd) : Co D := fun m => match o1.get m with
  | some d1 => match g d1 with
    | some d => .ok d m
    | none => .no
  | none => .no
def Opd2 (g : D → D → Option D) (o1 o2 : Opd) : Co D := fun m => match o1.get m with
  | some d1 => match o2.get m with
    | some d2 => match g d1 d2 with
      | some d => .ok d m
      | none => .no
    | none => .no
  | none => .no
theorem Opd1.ok {g : D → Option D} {o1 : Opd} {m m' : M} {d : D} (h : Opd1 g o1 m = .ok d m') : ∃ d1, o1.get m = some d1 ∧ g d1 = some d ∧ m' = m := by
  unfold Opd1 at h
  cases e1 : o1.get m with
  | none => rw [e1] at h; cases h
  | some d1 =>
    rw [e1] at h
    simp only at h
    cases e3 : g d1 with
    | none => rw [e3] at h; cases h
    | some d3 => rw [e3] at h; cases h; exact ⟨_, rfl, e3, rfl⟩
theorem Opd2.ok {g : D → D → Option D} {o1 o2 : Opd} {m m' : M} {d : D} (h : Opd2 g o1 o2 m = .ok d m') : ∃ d1 d2, o1.get m = some d1 ∧ o2.get m = some d2 ∧ g d1 d2 = some d ∧ m' = m := by
  unfold Opd2 at h
  cases e1 : o1.get m with
  | none => rw [e1] at h; cases h
  | some d1 =>
    rw [e1] at h
    simp only at h
    cases e2 : o2.get m with
    | none => rw [e2] at h; cases h
    | some d2 =>
      rw [e2] at h
      simp only at h
      cases e3 : g d1 d2 with
      | none => rw [e3] at h; cases h
      | some d3 => rw [e3] at h; cases h; exact ⟨_, _, rfl, rfl, e3, rfl⟩
def eOp1 (g : D → Option D) (f1 : Co Opd) : Co D := Co.bind f1 fun o1 => Opd1 g o1
def eOp (g : D → D → Option D) (f1 f2 : Co Opd) : Co D := Co.bind f1 fun o1 => Co.bind f2 fun o2 => Opd2 g o1 o2
def vB (f : Co D) : Co Opd := Co.bind f fun d => Co.ret (.val d)
def toB (d : D) : Co Bool := fun m => match d with
  | .bl b => .ok b m
  | _ => .no
def tB' (f : Co D) : Co Bool := Co.bind f toB

section
variable {X : Cx} {a b c e : Expr} {pos : Pos} {f f1 f2 f3 : Co D} {g1 g2 g3 : Co Opd}
theorem EB.of (h : EE X e f) : EB X e (vB f) := PE.imp h fun σ H Q ⟨W, m, S, o, m', hf, q⟩ => by
  obtain ⟨d, m1, e1, e2⟩ := Co.bind_ok hf
  cases e2
  exact ⟨W, m, S, d, _, e1, fun v ob' H' A r => q v ob' H' A r⟩
/-- what a binary reading has come to -/
theorem bin2 {g : D → D → Option D} {r : R2} {σ : L2.St} {H : Hp} {Q : VK} {ta tb : TE} (hg : OpD X.K X.mg g r) (ha : ∀ Q, rdB X.K X.mg g1 σ H Q → ta σ H Q) (hb : ∀ H Q, rdB X.K X.mg g2 σ H Q → tb σ H Q)
    (h : rdE X.K X.mg (eOp g g1 g2) σ H Q) : ta σ H fun x H1 => tb σ H1 fun y H2 => r x y H2 Q := by
  obtain ⟨W, m, S, d, m', hf, q⟩ := h
  obtain ⟨o1, m1, e1, hf⟩ := Co.bind_ok hf
  obtain ⟨o2, m2, e2, hf⟩ := Co.bind_ok hf
  obtain ⟨d1, d2, k1, k2, k3, rfl⟩ := Opd2.ok hf
  refine ha _ ⟨W, m, S, o1, m1, e1, fun x ob1 H1 A1 r1 => ?_⟩
  refine hb _ _ ⟨_, m1, A1.2, o2, m', e2, fun y ob2 H2 A2 r2 => ?_⟩
  have A := A1.trans A2
  refine hg _ H2 x y d1 d2 d Q (fun a z => A.2.dom z) ((A2.repO r1).view A.2 k1) (r2.view A.2 k2) k3 fun v H' sm rv => ?_
  exact q v ob2 H' (A.trans (.same A.2 sm)) rv
theorem ee_op {op : Operator} {r : R2} {g : D → D → Option D} (ho : OpR X (binaryOp op) r) (hg : OpD X.K X.mg g r) (ha : EB X a g1) (hb : EB X b g2) : EE X (.BinOp a op b pos) (eOp g g1 g2) :=
  PE.imp (pe_op ho ha hb) fun σ H Q h => bin2 hg (fun _ q => q) (fun _ _ q => q) h
theorem ee_cmp {op : CmpOp} {r : R2} {g : D → D → Option D} (ho : OpR X (compareOp op) r) (hg : OpD X.K X.mg g r) (ha : EB X a g1) (hb : EB X b g2)
    (hm : behindInMarks op b = false := by first | exact nobehind _ (by decide) (by decide) | rfl) : EE X (.Compare a [op] [b] pos) (eOp g g1 g2) :=
  PE.imp (pe_cmpR ho ha hb hm) fun σ H Q h => bin2 hg (fun _ q => q) (fun _ _ q => q) h
theorem rdT_of {σ : L2.St} {H : Hp} {Q : Bool → Hp → Prop} (h : rdT X.K X.mg (tB' f) σ H Q) : rdE X.K X.mg f σ H fun v H' => ∃ c, v = .bl c ∧ Q c H' := by
  obtain ⟨W, m, S, b, m', hf, q⟩ := h
  obtain ⟨d, m1, e1, e2⟩ := Co.bind_ok hf
  unfold toB at e2
  split at e2
  · cases e2
    refine ⟨W, m, S, _, _, e1, fun v ob' H' A r => ?_⟩
    cases r
    exact ⟨b, rfl, q ob' H' A⟩
  · cases e2
theorem et_cmp {op : CmpOp} {r : R2} {g : D → D → Option D} (ho : OpR X (compareOp op) r) (hg : OpD X.K X.mg g r) (ha : EB X a g1) (hb : EB X b g2)
    (hm : behindInMarks op b = false := by first | exact nobehind _ (by decide) (by decide) | rfl) : ET X (.Compare a [op] [b] pos) (tB' (eOp g g1 g2)) :=
  PT.imp (pt_cmpR ho ha hb hm) fun σ H Q h => bin2 hg (fun _ q => q) (fun _ _ q => q) (rdT_of h)
theorem et_val (h : EE X e f) (he : ∀ whole, isTrue e X.env whole = (do let v ← whole; standAt e.pos; holding [v] (truthy v)) := by intro _; rfl) : ET X e (tB' f) :=
  PT.imp (pt_val h he) fun σ H Q q => rdT_of q
/-! ### and, or, not -/
def tAnd' (t u : Co Bool) : Co Bool := Co.bind t fun c => if c = true then u else Co.ret false
def tOr' (t u : Co Bool) : Co Bool := Co.bind t fun c => if c = true then Co.ret true else u
def tNot' (t : Co Bool) : Co Bool := Co.bind t fun c => Co.ret !c
abbrev EW (X : Cx) (e : Expr) (f : Co Bool) : Prop := PW X e (rdT X.K X.mg f)
theorem EW.et {t : Co Bool} (h : EW X e t) : ET X e t := PW.pt h
variable {t1 t2 : Co Bool} {rest : List Expr}
theorem ew_and1 (ha : ET X a t1) : EW X (.BoolOp .And [a] pos) t1 := pw_and1 ha
theorem ew_or1 (ha : ET X a t1) : EW X (.BoolOp .Or [a] pos) t1 := pw_or1 ha
theorem ew_and (ha : ET X a t1) (hb : EW X (.BoolOp .And (b :: rest) pos) t2) : EW X (.BoolOp .And (a :: b :: rest) pos) (tAnd' t1 t2) :=
  PW.imp (pw_and ha hb) fun σ H Q ⟨W, m, S, d, m', hf, q⟩ => by
    obtain ⟨c, m1, e1, e2⟩ := Co.bind_ok hf
    refine ⟨W, m, S, c, m1, e1, fun ob' H' A => ?_⟩
    cases c with
    | true => exact ⟨_, m1, A.2, d, m', e2, fun ob2 H2 A2 => q ob2 H2 (A.trans A2)⟩
    | false =>
      cases e2
      exact q ob' H' A
theorem ew_or (ha : ET X a t1) (hb : EW X (.BoolOp .Or (b :: rest) pos) t2) : EW X (.BoolOp .Or (a :: b :: rest) pos) (tOr' t1 t2) :=
  PW.imp (pw_or ha hb) fun σ H Q ⟨W, m, S, d, m', hf, q⟩ => by
    obtain ⟨c, m1, e1, e2⟩ := Co.bind_ok hf
    refine ⟨W, m, S, c, m1, e1, fun ob' H' A => ?_⟩
    cases c with
    | false => exact ⟨_, m1, A.2, d, m', e2, fun ob2 H2 A2 => q ob2 H2 (A.trans A2)⟩
    | true =>
      cases e2
      exact q ob' H' A
theorem et_not (ha : ET X a t1) : ET X (.UnaryOp .Not a pos) (tNot' t1) :=
  PT.imp (pt_not ha) fun σ H Q ⟨W, m, S, d, m', hf, q⟩ => by
    obtain ⟨c, m1, e1, e2⟩ := Co.bind_ok hf
    cases e2
    exact ⟨W, m, S, c, _, e1, fun ob' H' A => q ob' H' A⟩
/-- as values -/
def blD (t : Co Bool) : Co D := Co.bind t fun c => Co.ret (.bl c)
def eAnd (f1 f2 : Co D) : Co D := Co.bind (tB' f1) fun c => if c = true then f2 else Co.ret (.bl false)
def eOr (f1 f2 : Co D) : Co D := Co.bind (tB' f1) fun c => if c = true then Co.ret (.bl true) else f2
def eNot (f1 : Co D) : Co D := Co.bind (tB' f1) fun c => Co.ret (.bl !c)
theorem ee_one {op} (h : EE X a f) : EE X (.BoolOp op [a] pos) f := pe_one h
theorem rdE_bl {k : Bool → Co D} {σ : L2.St} {H : Hp} {Q : VK} (h : rdE X.K X.mg (Co.bind (tB' f) k) σ H Q) :
    rdE X.K X.mg f σ H fun v H1 => ∃ c, v = .bl c ∧ rdE X.K X.mg (k c) σ H1 Q := by
  obtain ⟨W, m, S, d, m', hf, q⟩ := h
  obtain ⟨c, m1, e1, e2⟩ := Co.bind_ok hf
  obtain ⟨d1, m2, e3, e4⟩ := Co.bind_ok e1
  unfold toB at e4
  split at e4
  · cases e4
    refine ⟨W, m, S, _, _, e3, fun v ob' H' A r => ?_⟩
    cases r
    exact ⟨c, rfl, _, m1, A.2, d, m', e2, fun v ob2 H2 A2 r2 => q v ob2 H2 (A.trans A2) r2⟩
  · cases e4
theorem rdE_ret {d : D} {σ : L2.St} {H : Hp} {Q : VK} (h : rdE X.K X.mg (Co.ret d) σ H Q) (v : V) (r : ∀ (E : Ev), Rep X.K X.mg E H v d) : Q v H := by
  obtain ⟨W, m, S, d', m', hf, q⟩ := h
  cases hf
  exact q v W.ob H (.refl S) (r _)
theorem ee_and (ha : EE X a f1) (hb : EE X (.BoolOp .And (b :: rest) pos) f2) : EE X (.BoolOp .And (a :: b :: rest) pos) (eAnd f1 f2) :=
  PE.imp (pe_and ha hb) fun σ H Q h => by
    have h' := rdE_bl (k := fun c => if c = true then f2 else Co.ret (.bl false)) h
    obtain ⟨W, m, S, d, m', hf, q⟩ := h'
    refine ⟨W, m, S, d, m', hf, fun v ob' H' A r => ?_⟩
    obtain ⟨c, e, q⟩ := q v ob' H' A r
    refine ⟨c, e, ?_⟩
    cases c with
    | true => exact q
    | false => exact rdE_ret q _ fun _ => .bl _
theorem ee_or (ha : EE X a f1) (hb : EE X (.BoolOp .Or (b :: rest) pos) f2) : EE X (.BoolOp .Or (a :: b :: rest) pos) (eOr f1 f2) :=
  PE.imp (pe_or ha hb) fun σ H Q h => by
    have h' := rdE_bl (k := fun c => if c = true then Co.ret (.bl true) else f2) h
    obtain ⟨W, m, S, d, m', hf, q⟩ := h'
    refine ⟨W, m, S, d, m', hf, fun v ob' H' A r => ?_⟩
    obtain ⟨c, e, q⟩ := q v ob' H' A r
    refine ⟨c, e, ?_⟩
    cases c with
    | false => exact q
    | true => exact rdE_ret q _ fun _ => .bl _
theorem ee_not (ha : EE X a f1) : EE X (.UnaryOp .Not a pos) (eNot f1) :=
  PE.imp (pe_not ha) fun σ H Q h => by
    have h' := rdE_bl (k := fun c => Co.ret (.bl !c)) h
    obtain ⟨W, m, S, d, m', hf, q⟩ := h'
    refine ⟨W, m, S, d, m', hf, fun v ob' H' A r => ?_⟩
    obtain ⟨c, e, q⟩ := q v ob' H' A r
    exact ⟨c, e, rdE_ret q _ fun _ => .bl _⟩
/-- a if t else b -/
def eIf (t : Co Bool) (f1 f2 : Co D) : Co D := Co.bind t fun c => if c = true then f1 else f2
theorem ee_if (hc : ET X c t1) (ha : EE X a f1) (hb : EE X b f2) : EE X (.IfExp c a b pos) (eIf t1 f1 f2) :=
  PE.imp (pe_ifExp hc ha hb) fun σ H Q ⟨W, m, S, d, m', hf, q⟩ => by
    obtain ⟨c, m1, e1, e2⟩ := Co.bind_ok hf
    refine ⟨W, m, S, c, m1, e1, fun ob' H' A => ?_⟩
    cases c with
    | true => exact ⟨_, m1, A.2, d, m', e2, fun v ob2 H2 A2 r2 => q v ob2 H2 (A.trans A2) r2⟩
    | false => exact ⟨_, m1, A.2, d, m', e2, fun v ob2 H2 A2 r2 => q v ob2 H2 (A.trans A2) r2⟩
/-- a < b < c -/
def eChain (p q : D → D → Option D) (g1 g2 g3 : Co Opd) : Co D := Co.bind g1 fun o1 => Co.bind g2 fun o2 => Co.bind (tB' (Opd2 p o1 o2)) fun c => if c = true then Co.bind g3 fun o3 => Opd2 q o2 o3 else Co.ret (.bl false)
theorem chain_rd {p q : D → D → Option D} {r r' : R2} (hp : OpD X.K X.mg p r) (hq : OpD X.K X.mg q r') {σ : L2.St} {H : Hp} {Q : VK} (h : rdE X.K X.mg (eChain p q g1 g2 g3) σ H Q) :
    tChain r r' (rdB X.K X.mg g1) (rdB X.K X.mg g2) (rdB X.K X.mg g3) σ H Q := by
  obtain ⟨W, m, S, d, m', hf, qq⟩ := h
  obtain ⟨o1, m1, e1, hf⟩ := Co.bind_ok hf
  obtain ⟨o2, m2, e2, hf⟩ := Co.bind_ok hf
  obtain ⟨k, m3, e3, hf⟩ := Co.bind_ok hf
  obtain ⟨d1, m4, e4, e5⟩ := Co.bind_ok e3
  obtain ⟨x1, x2, k1, k2, k3, rfl⟩ := Opd2.ok e4
  refine ⟨W, m, S, o1, m1, e1, fun x ob1 H1 A1 r1 => ?_⟩
  refine ⟨_, m1, A1.2, o2, m4, e2, fun y ob2 H2 A2 r2 => ?_⟩
  have A := A1.trans A2
  refine hp _ H2 x y x1 x2 d1 _ (fun a z => A.2.dom z) ((A2.repO r1).view A.2 k1) (r2.view A.2 k2) k3 fun v H' sm rv => ?_
  have A' := A.trans (.same A.2 sm)
  unfold toB at e5
  split at e5
  · cases e5
    cases rv
    refine ⟨k, rfl, ?_⟩
    cases k with
    | true =>
      obtain ⟨o3, m5, e6, hf⟩ := Co.bind_ok hf
      obtain ⟨y1, y2, j1, j2, j3, rfl⟩ := Opd2.ok hf
      refine ⟨_, m3, A'.2, o3, m', e6, fun z ob3 H3 A3 r3 => ?_⟩
      have A4 := A'.trans A3
      refine hq _ H3 y z y1 y2 d Q (fun a z => A4.2.dom z) ((A3.repO ((After.same A.2 sm).repO r2)).view A4.2 j1) (r3.view A4.2 j2) j3 fun v H'' sm rv => ?_
      exact qq v ob3 H'' (A4.trans (.same A4.2 sm)) rv
    | false =>
      cases hf
      exact qq _ ob2 H' A' (.bl _)
  · cases e5
theorem ee_chain {op op' : CmpOp} {r r' : R2} {p q : D → D → Option D} (ho : OpR X (compareOp op) r) (hp : OpD X.K X.mg p r) (ho' : OpR X (compareOp op') r') (hq : OpD X.K X.mg q r') (ha : EB X a g1) (hb : EB X b g2) (hc : EB X c g3) (hm : lastMarks [op, op'] [b, c] = false := by rfl) :
    EE X (.Compare a [op, op'] [b, c] pos) (eChain p q g1 g2 g3) := PE.imp (pe_chain ho ho' ha hb hc (hm := hm)) fun σ H Q h => chain_rd hp hq h
theorem et_chain {op op' : CmpOp} {r r' : R2} {p q : D → D → Option D} (ho : OpR X (compareOp op) r) (hp : OpD X.K X.mg p r) (ho' : OpR X (compareOp op') r') (hq : OpD X.K X.mg q r') (ha : EB X a g1) (hb : EB X b g2) (hc : EB X c g3) (hm : lastMarks [op, op'] [b, c] = false := by rfl) :
    ET X (.Compare a [op, op'] [b, c] pos) (tB' (eChain p q g1 g2 g3)) := PT.imp (pt_chain ho ho' ha hb hc (hm := hm)) fun σ H Q h => chain_rd hp hq (rdT_of h)
/-! ### names, constants -/
def vPl (i : Nat) : Co D := fun m => match m.env[i]? with
  | some (.pl d) => .ok d m
  | _ => .no
def vSlot (i : Nat) : Co Opd := fun m => match m.env[i]? with
  | some (.ow _) => .ok (.slot i) m
  | _ => .no
theorem ee_var (i : Nat) {x : Str} {pos : Pos} (hN : X.N[i]? = some x := by rfl) (hv : Vis X.env.scope x := by first | exact Or.inl rfl | exact Or.inr (Or.inl rfl) | exact Or.inr (Or.inr rfl)) (hd : (x == ("__debug__" : Str)) = false := by decide)
    (hcd : (x == ("__classdict__" : Str)) = false := by decide) : EE X (.Name x pos) (vPl i) := PE.imp (pe_var hN hv hd hcd) fun σ H Q ⟨W, m, S, d, m', hf, q⟩ => by
  unfold vPl at hf
  split at hf
  · rename_i e he
    cases hf
    obtain ⟨v, e1, r⟩ := S.pl i _ he
    exact ⟨v, e1, q v W.ob H (.refl S) r⟩
  · cases hf
theorem eb_slot (i : Nat) {x : Str} {pos : Pos} (hN : X.N[i]? = some x := by rfl) (hv : Vis X.env.scope x := by first | exact Or.inl rfl | exact Or.inr (Or.inl rfl) | exact Or.inr (Or.inr rfl)) (hd : (x == ("__debug__" : Str)) = false := by decide)
    (hcd : (x == ("__classdict__" : Str)) = false := by decide) : EB X (.Name x pos) (vSlot i) := PE.imp (pe_var hN hv hd hcd) fun σ H Q ⟨W, m, S, d, m', hf, q⟩ => by
  unfold vSlot at hf
  split at hf
  · rename_i e he
    cases hf
    obtain ⟨a, e1, e2, _⟩ := S.ow i _ he
    exact ⟨_, e2, q _ W.ob H (.refl S) ⟨a, e1, rfl⟩⟩
  · cases hf
theorem ee_c {v : V} {d : D} (h : PE X e (tC v)) (r : ∀ E H, Rep X.K X.mg E H v d) : EE X e (Co.ret d) := PE.imp h fun σ H Q q => rdE_ret q v fun _ => r _ _
theorem ee_int {i j pos} : EE X (.Constant (.int i) j pos) (Co.ret (.int i)) := ee_c pe_int fun _ _ => .int _
theorem ee_bl {i j pos} : EE X (.Constant (.bool i) j pos) (Co.ret (.bl i)) := ee_c pe_bl fun _ _ => .bl _
theorem ee_non {j pos} : EE X (.Constant .none j pos) (Co.ret .non) := ee_c pe_non fun _ _ => .non
theorem ee_str {x j pos} : EE X (.Constant (.str x) j pos) (Co.ret (.str x)) := ee_c pe_str fun _ _ => .str _
theorem ee_gInt {x : Str} {i : Int} {t : Tok} {pos : Pos} (hm : X.mg x = some (.int i t)) (hg : Gl X x := by rfl) (hd : (x == ("__debug__" : Str)) = false := by decide) : EE X (.Name x pos) (Co.ret (.int i)) :=
  ee_c (pe_glob (v := .int i) hg hm ⟨t, rfl⟩ hd) fun _ _ => .int _
theorem ee_gStr {x : Str} {i : Str} {t : Tok} {pos : Pos} (hm : X.mg x = some (.str i t)) (hg : Gl X x := by rfl) (hd : (x == ("__debug__" : Str)) = false := by decide) : EE X (.Name x pos) (Co.ret (.str i)) :=
  ee_c (pe_glob (v := .str i) hg hm ⟨t, rfl⟩ hd) fun _ _ => .str _
theorem ee_gFn {x : Str} {f : Addr} {pos : Pos} (hm : X.mg x = some (.ref f)) (hk : PySem.W.keepIn X.K (.ref f) = true) (hg : Gl X x := by rfl) (hd : (x == ("__debug__" : Str)) = false := by decide) : EE X (.Name x pos) (Co.ret (.fn x)) :=
  ee_c (pe_glob (v := .ref f) hg hm rfl hd) fun _ _ => .fn hm hk
theorem ee_ty {x : Str} {n : String} {pos : Pos} (hm : X.mg x = none) (hv : bootBuiltins x = some (.type n)) (hg : Gl X x := by rfl) (hn : x ≠ "__name__" := by decide) (hd : (x == ("__debug__" : Str)) = false := by decide) : EE X (.Name x pos) (Co.ret (.ty n)) :=
  ee_c (pe_bltn (v := .ty n) hg hm hv rfl hn hd) fun _ _ => .ty _
end
end PD
namespace PD
open PySem PySem.Spec PyProof.Rows L2

/-! ### comparisons -/
def cmpI (p : Int → Int → Bool) : D → D → Option D
  | .int i, .int j => some (.bl (p i j))
  | _, _ => none
section
variable {K : PySem.W.Frag} {mg : Str → Option Value} {E : Ev} {H : Hp} {X : Cx}
theorem opd_cmpI (p : Int → Int → Bool) : OpD K mg (cmpI p) (rI0 fun i j => .bl (p i j)) := fun E H x y d1 d2 d Q hN r1 r2 g q => by
  unfold cmpI at g
  split at g
  · cases g
    exact ⟨_, _, r1.int, r2.int, q _ _ (Same.refl _) (.bl _)⟩
  · cases g
end
abbrev ltI : D → D → Option D := cmpI fun i j => decide (i < j)
abbrev leI : D → D → Option D := cmpI fun i j => decide (i ≤ j)
abbrev gtI : D → D → Option D := cmpI fun i j => decide (j < i)
abbrev geI : D → D → Option D := cmpI fun i j => decide (j ≤ i)

/-! ### == at any depth -/
mutual
def D.toP : D → Option PyData
  | .non => some .none
  | .bl b => some (.bool b)
  | .int i => some (.int i)
  | .str x => some (.str x)
  | .tup xs => (D.toPs xs).map .tuple
  | .lst xs => (D.toPs xs).map .list
  | _ => none
def D.toPs : List D → Option (List PyData)
  | [] => some []
  | d :: ds => (D.toP d).bind fun p => (D.toPs ds).map fun ps => p :: ps
end
section
variable {K : PySem.W.Frag} {mg : Str → Option Value} {E : Ev} {H : Hp} {X : Cx}
mutual
theorem Rep.dp : ∀ {v : V} {d : D} {p : PyData}, Rep K mg E H v d → d.toP = some p → Dp K H v p
  | _, _, p, .non, h => by simp only [D.toP] at h; cases h; exact .non
  | _, _, p, .bl b, h => by simp only [D.toP] at h; cases h; exact .bl _
  | _, _, p, .int b, h => by simp only [D.toP] at h; cases h; exact .int _
  | _, _, p, .str b, h => by simp only [D.toP] at h; cases h; exact .str _
  | _, _, p, .tup e r, h => by
    simp only [D.toP] at h
    obtain ⟨ps, h1, h2⟩ := Option.map_eq_some_iff.mp h
    cases h2
    exact .tup (SqT.of e) (RepL.dp r h1)
  | _, _, p, .lst e n r, h => by
    simp only [D.toP] at h
    obtain ⟨ps, h1, h2⟩ := Option.map_eq_some_iff.mp h
    cases h2
    exact .lst (SqL.of e) (RepL.dp r h1)
  | _, _, p, .ty n, h => by simp only [D.toP] at h; cases h
  | _, _, p, .dk _ _ _ _, h => by simp only [D.toP] at h; cases h
  | _, _, p, .dt _ _ _ _, h => by simp only [D.toP] at h; cases h
  | _, _, p, .scr _ _ _, h => by simp only [D.toP] at h; cases h
  | _, _, p, .scrK _ _, h => by simp only [D.toP] at h; cases h
  | _, _, p, .obj _ _, h => by simp only [D.toP] at h; cases h
  | _, _, p, .fn _ _, h => by simp only [D.toP] at h; cases h
theorem RepL.dp : ∀ {v : List V} {d : List D} {p : List PyData}, RepL K mg E H v d → D.toPs d = some p → DpAll K H v p
  | _, _, p, .nil, h => by simp only [D.toPs] at h; cases h; exact .nil
  | _, _, p, .cons r t, h => by
    simp only [D.toPs] at h
    obtain ⟨q, h1, h2⟩ := Option.bind_eq_some_iff.mp h
    obtain ⟨qs, h3, h4⟩ := Option.map_eq_some_iff.mp h2
    cases h4
    exact .cons (Rep.dp r h1) (RepL.dp t h3)
end
theorem RepV.dp {v : V} {d : D} {p : PyData} (r : RepV K mg E H v d) (h : d.toP = some p) : Dp K H v p := by
  cases r with
  | of r => exact r.dp h
  | cell c =>
    cases d <;> first
      | exact c.elim
      | (simp only [D.toP] at h; cases h; done)
      | (obtain ⟨vs, e, r⟩ := c
         simp only [D.toP] at h
         obtain ⟨ps, h1, h2⟩ := Option.map_eq_some_iff.mp h
         cases h2
         exact .lst (SqL.of e) (r.dp h1))
def eqB (a b : D) : Option Bool := (a.toP).bind fun p => (b.toP).bind fun q => if SeqAt.shaped p = true ∧ SeqAt.shaped q = true then some (PyData.eqv p q) else none
def eqD (a b : D) : Option D := (eqB a b).map .bl
def neD (a b : D) : Option D := (eqB a b).map fun c => .bl !c
theorem eqB_some {a b : D} {c : Bool} (h : eqB a b = some c) : ∃ p q, a.toP = some p ∧ b.toP = some q ∧ SeqAt.shaped p = true ∧ SeqAt.shaped q = true ∧ c = PyData.eqv p q := by
  unfold eqB at h
  obtain ⟨p, h1, h⟩ := Option.bind_eq_some_iff.mp h
  obtain ⟨q, h2, h⟩ := Option.bind_eq_some_iff.mp h
  split at h
  · rename_i hs
    cases h
    exact ⟨p, q, h1, h2, hs.1, hs.2, rfl⟩
  · cases h
theorem opd_eq : OpD K mg eqD (rEqD K) := fun E H x y d1 d2 d Q hN r1 r2 g q => by
  obtain ⟨c, h, e⟩ := Option.map_eq_some_iff.mp g
  obtain ⟨p, p2, h1, h2, s1, s2, rfl⟩ := eqB_some h
  subst e
  exact ⟨p, p2, r1.dp h1, r2.dp h2, s1, s2, q _ _ (Same.refl _) (.bl _)⟩
theorem opd_ne : OpD K mg neD (rNeD K) := fun E H x y d1 d2 d Q hN r1 r2 g q => by
  obtain ⟨c, h, e⟩ := Option.map_eq_some_iff.mp g
  obtain ⟨p, p2, h1, h2, s1, s2, rfl⟩ := eqB_some h
  subst e
  exact ⟨p, p2, r1.dp h1, r2.dp h2, s1, s2, q _ _ (Same.refl _) (.bl _)⟩
/-! ### is -/
def isD : D → D → Option D
  | .bl a, .bl b => some (.bl (decide (a = b)))
  | .non, .non => some (.bl true)
  | _, .non => some (.bl false)
  | _, _ => none
def isnotD (a b : D) : Option D := (isD a b).bind fun
  | .bl c => some (.bl !c)
  | _ => none
def rIs : R2 := fun x y H Q => (y = .non ∧ Q (.bl (decide (x = .non))) H) ∨ ∃ a b, x = .bl a ∧ y = .bl b ∧ Q (.bl (decide (a = b))) H
def rIsnot : R2 := fun x y H Q => (y = .non ∧ Q (.bl (!decide (x = .non))) H) ∨ ∃ a b, x = .bl a ∧ y = .bl b ∧ Q (.bl (!decide (a = b))) H
theorem op_isAll : OpR X (compareOp .Is) rIs := OpR.or op_isN op_is_bl
theorem op_isnotAll : OpR X (compareOp .IsNot) rIsnot := OpR.or op_notN op_isnot_bl
theorem RepV.non_iff {v : V} {d : D} (r : RepV K mg E H v d) : v = .non ↔ d = .non := by
  cases r with
  | of r => cases r <;> simp
  | cell c =>
    constructor
    · intro h; cases h
    · intro h; subst h; exact c.elim
theorem isD_some {a b d : D} (h : isD a b = some d) : (∃ x y, a = .bl x ∧ b = .bl y ∧ d = .bl (decide (x = y))) ∨ (b = .non ∧ ((a = .non ∧ d = .bl true) ∨ (a ≠ .non ∧ d = .bl false))) := by
  unfold isD at h
  split at h
  · cases h; exact .inl ⟨_, _, rfl, rfl, rfl⟩
  · cases h; exact .inr ⟨rfl, .inl ⟨rfl, rfl⟩⟩
  · cases h
    rename_i hn
    exact .inr ⟨rfl, .inr ⟨hn, rfl⟩⟩
  · cases h
theorem opd_is : OpD K mg isD rIs := fun E H x y d1 d2 d Q hN r1 r2 g q => by
  rcases isD_some g with ⟨a, b, rfl, rfl, rfl⟩ | ⟨rfl, ⟨rfl, rfl⟩ | ⟨hn, rfl⟩⟩
  · exact .inr ⟨a, b, r1.bl, r2.bl, q _ _ (Same.refl _) (.bl _)⟩
  · refine .inl ⟨r2.non, ?_⟩
    rw [decide_eq_true r1.non]
    exact q _ _ (Same.refl _) (.bl _)
  · refine .inl ⟨r2.non, ?_⟩
    rw [decide_eq_false fun z => hn (r1.non_iff.mp z)]
    exact q _ _ (Same.refl _) (.bl _)
theorem opd_isnot : OpD K mg isnotD rIsnot := fun E H x y d1 d2 d Q hN r1 r2 g q => by
  obtain ⟨e, h, g⟩ := Option.bind_eq_some_iff.mp g
  rcases isD_some h with ⟨a, b, rfl, rfl, rfl⟩ | ⟨rfl, ⟨rfl, rfl⟩ | ⟨hn, rfl⟩⟩
  · cases g
    exact .inr ⟨a, b, r1.bl, r2.bl, q _ _ (Same.refl _) (.bl _)⟩
  · cases g
    refine .inl ⟨r2.non, ?_⟩
    rw [decide_eq_true r1.non]
    exact q _ _ (Same.refl _) (.bl _)
  · cases g
    refine .inl ⟨r2.non, ?_⟩
    rw [decide_eq_false fun z => hn (r1.non_iff.mp z)]
    exact q _ _ (Same.refl _) (.bl _)
/-! ### x[i] -/
def ixD : D → D → Option D
  | .lst xs, .int i => atI xs i
  | .tup xs, .int i => atI xs i
  | .scr ns, .int i => (atI ns i).map .int
  | .str z, .int i => if z.length ≤ sizeLine then (atI z.cps.toList i).map fun c => .str ⟨#[c]⟩ else none
  | _, _ => none
theorem RepL.atI {vs : List V} {ds : List D} {i : Int} {d : D} (r : RepL K mg E H vs ds) (h : atI ds i = some d) : ∃ v, L2.atI vs i = some v ∧ Rep K mg E H v d := by
  unfold L2.atI at h ⊢
  obtain ⟨j, h1, h2⟩ := Option.bind_eq_some_iff.mp h
  obtain ⟨v, h3, h4⟩ := r.get' h2
  rw [r.length]
  exact ⟨v, Option.bind_eq_some_iff.mpr ⟨j, h1, h3⟩, h4⟩
theorem atI_map {α β : Type} (f : α → β) (xs : List α) (i : Int) : atI (xs.map f) i = (atI xs i).map f := by
  unfold L2.atI
  rw [List.length_map]
  cases ixN xs.length i with
  | none => rfl
  | some j => simp
theorem opd_ix : OpD K mg ixD (rIx K) := fun E H x y d1 d2 d Q hN r1 r2 g q => by
  unfold ixD at g
  split at g
  · obtain ⟨a, vs, rfl, ha, ra⟩ := r1.lst
    obtain ⟨v, hv, rv⟩ := ra.atI g
    exact .inl ⟨a, vs, _, v, rfl, r2.int, SqL.of ha, hv, q _ _ (Same.refl _) rv⟩
  · obtain ⟨a, vs, rfl, ha, ra⟩ := r1.tup
    obtain ⟨v, hv, rv⟩ := ra.atI g
    exact .inr (.inl ⟨a, vs, _, v, rfl, r2.int, SqT.of ha, hv, q _ _ (Same.refl _) rv⟩)
  · obtain ⟨a, rfl, ha⟩ := r1.scr
    obtain ⟨n, h1, h2⟩ := Option.map_eq_some_iff.mp g
    subst h2
    exact .inl ⟨a, _, _, .int n, rfl, r2.int, ha, by rw [atI_map, h1]; rfl, q _ _ (Same.refl _) (.int _)⟩
  · split at g
    · rename_i hz
      obtain ⟨n, h1, h2⟩ := Option.map_eq_some_iff.mp g
      subst h2
      exact .inr (.inr ⟨_, _, n, r1.str, r2.int, hz, h1, q _ _ (Same.refl _) (.str _)⟩)
    · cases g
  · cases g
/-! ### in -/
def D.flat : D → Bool
  | .non => true | .bl _ => true | .int _ => true | .str _ => true
  | _ => false
def D.eqF : D → D → Bool
  | .non, .non => true
  | .bl a, .bl b => a == b
  | .bl a, .int b => (if a then 1 else 0) == b
  | .int a, .bl b => a == (if b then 1 else 0)
  | .int a, .int b => a == b
  | .str a, .str b => a == b
  | _, _ => false
def inFlat (x : D) (xs : List D) : Option Bool := if x.flat && xs.all D.flat then some (xs.any fun y => D.eqF y x) else none
def inB : D → D → Option Bool
  | x, .lst xs => if x.flat then inFlat x xs else (x.toP).bind fun p => (D.toPs xs).bind fun ps => if SeqAt.shaped p = true ∧ SeqAt.shaped (.list ps) = true then some (ps.any fun z => PyData.eqv z p) else none
  | x, .tup xs => inFlat x xs
  | .str x, .str y => some (!(Builtin.Str.occurrences y x 0 y.length 1).isEmpty)
  | _, _ => none
def inD (a b : D) : Option D := (inB a b).map .bl
def notInD (a b : D) : Option D := (inB a b).map fun c => .bl !c
theorem Rep.flat {v : V} {d : D} (r : Rep K mg E H v d) (h : d.flat = true) : flatV v = true := by
  cases r <;> first | rfl | cases h
theorem Rep.eqF {v w : V} {d e : D} (r : Rep K mg E H v d) (s : Rep K mg E H w e) (h : d.flat = true) (k : e.flat = true) : eqV v w = D.eqF d e := by
  cases r <;> first | (cases h; done) | (cases s <;> first | (cases k; done) | rfl)
theorem RepL.flat : ∀ {v : List V} {d : List D}, RepL K mg E H v d → d.all D.flat = true → v.all flatV = true
  | _, _, .nil, _ => rfl
  | _, _, .cons r t, h => by
    rw [List.all_cons, Bool.and_eq_true] at h ⊢
    exact ⟨r.flat h.1, RepL.flat t h.2⟩
theorem RepL.inV {v : V} {d : D} (r : Rep K mg E H v d) (k : d.flat = true) : ∀ {vs : List V} {ds : List D}, RepL K mg E H vs ds → ds.all D.flat = true → L2.inV v vs = ds.any fun y => D.eqF y d
  | _, _, .nil, _ => rfl
  | _, _, .cons s t, h => by
    rw [List.all_cons, Bool.and_eq_true] at h
    have ih := RepL.inV r k t h.2
    unfold L2.inV at ih ⊢
    rw [List.any_cons, List.any_cons, ih, s.eqF r h.1 k]
theorem inFlat_some {x : D} {xs : List D} {c : Bool} (h : inFlat x xs = some c) : x.flat = true ∧ xs.all D.flat = true ∧ c = xs.any fun y => D.eqF y x := by
  unfold inFlat at h
  split at h
  · rename_i hh
    rw [Bool.and_eq_true] at hh
    cases h
    exact ⟨hh.1, hh.2, rfl⟩
  · cases h
theorem RepV.rep_flat {v : V} {d : D} (r : RepV K mg E H v d) (h : d.flat = true) : Rep K mg E H v d := by
  cases r with
  | of r => exact r
  | cell c => cases d <;> first | exact c.elim | cases h
def rInAll (K : PySem.W.Frag) (neg : Bool) (r : R2) (s : R2) : R2 := fun x y H Q => rIn K neg x y H Q ∨ r x y H Q ∨ s x y H Q
def rInS' (neg : Bool) : R2 := fun x y H Q => ∃ i j, x = .str i ∧ y = .str j ∧ Q (.bl (if neg then !(!(Builtin.Str.occurrences j i 0 j.length 1).isEmpty) else !(Builtin.Str.occurrences j i 0 j.length 1).isEmpty)) H
theorem op_inAll (hu : X.A.units + 65 < cLine) : OpR X (compareOp .In) (rInAll X.K false (rInD X.K) (rInS' false)) := OpR.or op_in_seq (OpR.or (op_inD hu) op_in_str)
theorem op_notInAll (hu : X.A.units + 65 < cLine) : OpR X (compareOp .NotIn) (rInAll X.K true (rNotInD X.K) (rInS' true)) := OpR.or op_notIn_seq (OpR.or (op_notInD hu) op_notIn_str)
theorem in_core {x y : V} {d1 d2 : D} {c : Bool} (r1 : RepV K mg E H x d1) (r2 : RepV K mg E H y d2) (g : inB d1 d2 = some c) :
    (∃ p xs, y = .ref p ∧ (SqL K H p xs ∨ SqT K H p xs) ∧ flatV x = true ∧ xs.all flatV = true ∧ c = L2.inV x xs) ∨
    (∃ d ds, Dp K H x d ∧ Dp K H y (.list ds) ∧ SeqAt.shaped d = true ∧ SeqAt.shaped (.list ds) = true ∧ c = ds.any fun z => PyData.eqv z d) ∨
    ∃ i j, x = .str i ∧ y = .str j ∧ c = !(Builtin.Str.occurrences j i 0 j.length 1).isEmpty := by
  unfold inB at g
  split at g
  · rename_i xs
    obtain ⟨a, vs, rfl, ha, ra⟩ := r2.lst
    split at g
    · obtain ⟨h1, h2, rfl⟩ := inFlat_some g
      have rr := r1.rep_flat h1
      exact .inl ⟨a, vs, rfl, .inl (SqL.of ha), rr.flat h1, ra.flat h2, (RepL.inV rr h1 ra h2).symm⟩
    · obtain ⟨p, h1, g⟩ := Option.bind_eq_some_iff.mp g
      obtain ⟨ps, h2, g⟩ := Option.bind_eq_some_iff.mp g
      split at g
      · rename_i hs
        cases g
        exact .inr (.inl ⟨p, ps, r1.dp h1, .lst (SqL.of ha) (ra.dp h2), hs.1, hs.2, rfl⟩)
      · cases g
  · obtain ⟨a, vs, rfl, ha, ra⟩ := r2.tup
    obtain ⟨h1, h2, rfl⟩ := inFlat_some g
    have rr := r1.rep_flat h1
    exact .inl ⟨a, vs, rfl, .inr (SqT.of ha), rr.flat h1, ra.flat h2, (RepL.inV rr h1 ra h2).symm⟩
  · cases g
    exact .inr (.inr ⟨_, _, r1.str, r2.str, rfl⟩)
  · cases g
theorem opd_in : OpD K mg inD (rInAll K false (rInD K) (rInS' false)) := fun E H x y d1 d2 d Q hN r1 r2 g q => by
  obtain ⟨c, h, e⟩ := Option.map_eq_some_iff.mp g
  subst e
  have q := q _ _ (Same.refl _) (.bl c)
  rcases in_core r1 r2 h with ⟨p, xs, e1, e2, e3, e4, rfl⟩ | ⟨p, ps, e1, e2, e3, e4, rfl⟩ | ⟨i, j, e1, e2, rfl⟩
  · exact .inl ⟨p, xs, e1, e2, e3, e4, q⟩
  · exact .inr (.inl ⟨p, ps, e1, e2, e3, e4, q⟩)
  · exact .inr (.inr ⟨i, j, e1, e2, q⟩)
theorem opd_notIn : OpD K mg notInD (rInAll K true (rNotInD K) (rInS' true)) := fun E H x y d1 d2 d Q hN r1 r2 g q => by
  obtain ⟨c, h, e⟩ := Option.map_eq_some_iff.mp g
  subst e
  have q := q _ _ (Same.refl _) (.bl !c)
  rcases in_core r1 r2 h with ⟨p, xs, e1, e2, e3, e4, rfl⟩ | ⟨p, ps, e1, e2, e3, e4, rfl⟩ | ⟨i, j, e1, e2, rfl⟩
  · exact .inl ⟨p, xs, e1, e2, e3, e4, q⟩
  · exact .inr (.inl ⟨p, ps, e1, e2, e3, e4, q⟩)
  · exact .inr (.inr ⟨i, j, e1, e2, q⟩)
end
end PD
namespace PD
open PySem PySem.Spec PyProof.Rows L2

section
variable {K : PySem.W.Frag} {mg : Str → Option Value} {W : Wd} {σ : L2.St} {H H' H1 : Hp} {m m1 : M} {ob1 : Nat → Addr}
theorem Wd.add_le (W : Wd) (p : Addr) (no : Nat) : ((W.add p).ev no).Le (W.ev no) := ⟨Nat.le_refl _, fun _ _ => rfl, fun a h => h.elim (fun h => .inl (.inl h)) .inr⟩
theorem Cell.up {E : Ev} {a : Addr} {d : D} (x : Same H H') (c : Cell K mg E H a d) : Cell K mg E H' a d := by
  cases d <;> first
    | exact c.elim
    | (obtain ⟨vs, h, r⟩ := c; exact ⟨vs, x _ _ h, r.up x⟩)
    | (obtain ⟨vs, h, l, r⟩ := c; exact ⟨vs, x _ _ h, l, r.up x⟩)
/-- a new place, forbidden -/
theorem Sit.add {p : Addr} (S : Sit K mg W σ H m) (hp : H p = none) (x : Same H H') (ho : ∃ o, H' p = some o) : Sit K mg (W.add p) σ H' m := by
  have S' := S.same x
  have nw : ∀ a, ((W.add p).ev m.obs.length).N a → (W.ev m.obs.length).N a ∨ H a = none := fun a h => by
    rcases h with (h | rfl) | h
    · exact .inl (.inl h)
    · exact .inr hp
    · exact .inl (.inr h)
  refine ⟨S.len, ?_, fun i d h => ?_, fun i d h => ?_, S.owi, S.inj, fun n ds h => ?_, S.obi, S.obo, fun a h => ?_, fun i a h z => ?_⟩
  · have e := S'.ext
    refine ⟨e.no, e.ob, fun a h => ?_, e.m2, e.dm, e.keep, e.tup, e.frz⟩
    rcases nw a h with h | h
    · exact e.n2 a h
    · exact .inr (S.ext.nn h)
  · obtain ⟨v, e, r⟩ := S.pl i d h
    exact ⟨v, e, (r.new nw).up x⟩
  · obtain ⟨a, e, e2, c⟩ := S.ow i d h
    exact ⟨a, e, e2, (c.new nw).up x⟩
  · exact ((S.ob n ds h).new nw).up x
  · rcases h with h | rfl
    · exact S'.n0 a h
    · exact ho
  · rcases z with z | rfl
    · exact S.o0 i a h z
    · exact S.fresh hp (.inr (.inl ⟨i, h⟩))
theorem Sit.forget {p : Addr} (S : Sit K mg (W.add p) σ H m) : Sit K mg W σ H m :=
  ⟨S.len, ⟨S.ext.no, S.ext.ob, fun a h => S.ext.n2 a (h.elim (fun h => .inl (.inl h)) .inr), S.ext.m2, S.ext.dm, S.ext.keep, S.ext.tup, S.ext.frz⟩, fun i d h => let ⟨v, e, r⟩ := S.pl i d h; ⟨v, e, r.le (W.add_le _ _)⟩,
    fun i d h => let ⟨a, e, e2, c⟩ := S.ow i d h; ⟨a, e, e2, c.le (W.add_le _ _)⟩, S.owi, S.inj, fun n ds h => (S.ob n ds h).le (W.add_le _ _), S.obi, S.obo, fun a h => S.n0 a (.inl h), fun i a h z => S.o0 i a h (.inl z)⟩
theorem Ev.add_new {p : Addr} {no : Nat} (hp : H p = none) : ∀ a, ((W.add p).ev no).N a → (W.ev no).N a ∨ H a = none := fun a h => by
  rcases h with (h | rfl) | h
  · exact .inl (.inl h)
  · exact .inr hp
  · exact .inl (.inr h)
/-- a fresh list at the end of a reading -/
theorem fin_lst {Q : VK} {ds : List D} {vs : List V} {p : Addr} (A : After K mg W σ H m ob1 H1 m1) (hp : H1 p = none) (r : RepL K mg ({ W with ob := ob1 }.ev m1.obs.length) H1 vs ds)
    (q : ∀ a ob' H', H a = none → Ext (W.ev m.obs.length) H ({ W with ob := ob' }.ev m1.obs.length) H' → ¬ ({ W with ob := ob' }.ev m1.obs.length).N a → Sit K mg ({ W with ob := ob' }.add a) σ H' m1 →
      Cell K mg (({ W with ob := ob' }.add a).ev m1.obs.length) H' a (.lst ds) → Q (.ref a) H') : Q (.ref p) (upd H1 p (.lst vs)) := by
  have sm := same_new hp (.lst vs)
  exact q p ob1 _ (A.1.nn hp) (A.1.trans (.same sm)) (A.2.fresh hp) (A.2.add hp sm ⟨_, upd_same⟩) ⟨vs, upd_same, (r.new (Ev.add_new hp)).up sm⟩
theorem fin_dk {Q : VK} {kds : List (Key × D)} {kvs : List (Key × V)} {p : Addr} (A : After K mg W σ H m ob1 H1 m1) (hp : H1 p = none) (l : kvs.map (·.1) = kds.map (·.1)) (r : RepL K mg ({ W with ob := ob1 }.ev m1.obs.length) H1 (kvs.map (·.2)) (kds.map (·.2)))
    (q : ∀ a ob' H', H a = none → Ext (W.ev m.obs.length) H ({ W with ob := ob' }.ev m1.obs.length) H' → ¬ ({ W with ob := ob' }.ev m1.obs.length).N a → Sit K mg ({ W with ob := ob' }.add a) σ H' m1 →
      Cell K mg (({ W with ob := ob' }.add a).ev m1.obs.length) H' a (.dk kds) → Q (.ref a) H') : Q (.ref p) (upd H1 p (.dK kvs)) := by
  have sm := same_new hp (.dK kvs)
  exact q p ob1 _ (A.1.nn hp) (A.1.trans (.same sm)) (A.2.fresh hp) (A.2.add hp sm ⟨_, upd_same⟩) ⟨kvs, upd_same, l, (r.new (Ev.add_new hp)).up sm⟩
theorem fin_dt {Q : VK} {kds : List (List Key × D)} {kvs : List (List Key × V)} {p : Addr} (A : After K mg W σ H m ob1 H1 m1) (hp : H1 p = none) (l : kvs.map (·.1) = kds.map (·.1)) (r : RepL K mg ({ W with ob := ob1 }.ev m1.obs.length) H1 (kvs.map (·.2)) (kds.map (·.2)))
    (q : ∀ a ob' H', H a = none → Ext (W.ev m.obs.length) H ({ W with ob := ob' }.ev m1.obs.length) H' → ¬ ({ W with ob := ob' }.ev m1.obs.length).N a → Sit K mg ({ W with ob := ob' }.add a) σ H' m1 →
      Cell K mg (({ W with ob := ob' }.add a).ev m1.obs.length) H' a (.dt kds) → Q (.ref a) H') : Q (.ref p) (upd H1 p (.dT kvs)) := by
  have sm := same_new hp (.dT kvs)
  exact q p ob1 _ (A.1.nn hp) (A.1.trans (.same sm)) (A.2.fresh hp) (A.2.add hp sm ⟨_, upd_same⟩) ⟨kvs, upd_same, l, (r.new (Ev.add_new hp)).up sm⟩
end

section
variable {X : Cx} {a b c e : Expr} {es : List Expr} {pos : Pos} {f f1 f2 f3 : Co D} {g1 g2 g3 : Co Opd} {fs : Co (List D)} {gs : Co (List Opd)}
theorem EE.ofF (h : EF X e f) : EE X e f := PE.imp h fun σ H Q ⟨W, m, S, d, m', hf, q⟩ => ⟨W, m, S, d, m', hf, fun a ob' H' _ x n S' c =>
  q _ ob' H' ⟨x, S'.forget⟩ (Cell.rep n (c.le (Wd.add_le _ _ _)))⟩
/-! ### arguments -/
def eCons (f : Co D) (fs : Co (List D)) : Co (List D) := Co.bind f fun d => Co.bind fs fun ds => Co.ret (d :: ds)
def bCons (f : Co Opd) (fs : Co (List Opd)) : Co (List Opd) := Co.bind f fun d => Co.bind fs fun ds => Co.ret (d :: ds)
theorem ea_nil : EA X [] (Co.ret []) := PA.imp pa_nil fun σ H Q ⟨W, m, S, d, m', hf, q⟩ => by
  cases hf
  exact q _ W.ob H (.refl S) .nil
theorem ea_cons (ha : EE X e f) (hr : EA X es fs) (hs : starEach (e :: es) X.env = (false, eval e X.env) :: starEach es X.env := by rfl) : EA X (e :: es) (eCons f fs) :=
  PA.imp (pa_cons ha hr hs) fun σ H Q ⟨W, m, S, d, m', hf, q⟩ => by
    obtain ⟨d1, m1, e1, hf⟩ := Co.bind_ok hf
    obtain ⟨ds, m2, e2, hf⟩ := Co.bind_ok hf
    cases hf
    exact ⟨W, m, S, d1, m1, e1, fun v ob1 H1 A1 r1 => ⟨_, m1, A1.2, ds, _, e2, fun vs ob2 H2 A2 r2 => q _ ob2 H2 (A1.trans A2) (.cons (A2.rep r1) r2)⟩⟩
theorem ebs_nil : EBs X [] (Co.ret []) := PA.imp pa_nil fun σ H Q ⟨W, m, S, d, m', hf, q⟩ => by
  cases hf
  exact q _ W.ob H (.refl S) .nil
theorem ebs_cons (ha : EB X e g1) (hr : EBs X es gs) (hs : starEach (e :: es) X.env = (false, eval e X.env) :: starEach es X.env := by rfl) : EBs X (e :: es) (bCons g1 gs) :=
  PA.imp (pa_cons ha hr hs) fun σ H Q ⟨W, m, S, d, m', hf, q⟩ => by
    obtain ⟨d1, m1, e1, hf⟩ := Co.bind_ok hf
    obtain ⟨ds, m2, e2, hf⟩ := Co.bind_ok hf
    cases hf
    exact ⟨W, m, S, d1, m1, e1, fun v ob1 H1 A1 r1 => ⟨_, m1, A1.2, ds, _, e2, fun vs ob2 H2 A2 r2 => q _ ob2 H2 (A1.trans A2) (.cons (A2.repO r1) r2)⟩⟩
/-! ### displays, subscripts, signs -/
def eTup (fs : Co (List D)) : Co D := Co.bind fs fun ds m => if ds.length ≤ sizeLine then .ok (.tup ds) m else .no
def eLst (fs : Co (List D)) : Co D := Co.bind fs fun ds m => if ds.length ≤ sizeLine then .ok (.lst ds) m else .no
theorem ee_tup {x1} (h : EA X es fs) : EE X (.Tuple es x1 pos) (eTup fs) := PE.imp (pe_tup h) fun σ H Q ⟨W, m, S, d, m', hf, q⟩ => by
  obtain ⟨ds, m1, e1, hf⟩ := Co.bind_ok hf
  split at hf
  · rename_i hz
    cases hf
    refine ⟨W, m, S, ds, _, e1, fun vs ob' H' A r => ⟨by rw [r.length]; exact hz, fun p hp => ?_⟩⟩
    exact q _ ob' _ (A.trans (.same A.2 (same_new hp _))) (.newT hp r)
  · cases hf
theorem ef_lst (h : EA X es fs) : EF X (.List es pos) (eLst fs) := PE.imp (pe_lst h) fun σ H Q ⟨W, m, S, d, m', hf, q⟩ => by
  obtain ⟨ds, m1, e1, hf⟩ := Co.bind_ok hf
  split at hf
  · rename_i hz
    cases hf
    refine ⟨W, m, S, ds, _, e1, fun vs ob' H' A r => ⟨by rw [r.length]; exact hz, fun p hp => ?_⟩⟩
    exact fin_lst A hp r q
  · cases hf
theorem ee_ix (ha : EB X a g1) (hb : EB X b g2) (hs : PlainIx b := by exact fun _ _ => rfl) : EE X (.Subscript a b pos) (eOp ixD g1 g2) :=
  PE.imp (pe_ix ix_seq ha hb hs) fun σ H Q h => bin2 opd_ix (fun _ q => q) (fun _ _ q => q) h
def negD : D → Option D
  | .int i => some (.int (-i))
  | _ => none
def un1 (g : D → Option D) (f : Co D) : Co D := Co.bind f fun d m => match g d with
  | some r => .ok r m
  | none => .no
theorem ee_neg (ha : EE X a f) : EE X (.UnaryOp .USub a pos) (un1 negD f) := PE.imp (pe_un un_neg ha) fun σ H Q ⟨W, m, S, d, m', hf, q⟩ => by
  obtain ⟨d1, m1, e1, hf⟩ := Co.bind_ok hf
  cases d1 <;> first
    | (cases hf; done)
    | skip
  cases hf
  refine ⟨W, m, S, _, _, e1, fun v ob' H' A r => ?_⟩
  cases r
  exact ⟨_, rfl, q _ ob' H' A (.int _)⟩
/-! ### lists out of operations: new ones -/
def asL (f : Co D) : Co D := Co.bind f fun d m => match d with
  | .lst ds => .ok (.lst ds) m
  | _ => .no
theorem asL_ok {m m' : M} {d : D} (h : asL f m = .ok d m') : ∃ ds, d = .lst ds ∧ f m = .ok (.lst ds) m' := by
  obtain ⟨d1, m1, e1, h⟩ := Co.bind_ok h
  cases d1 <;> first
    | (cases h; done)
    | skip
  cases h
  exact ⟨_, rfl, e1⟩
def OpF (K : PySem.W.Frag) (mg : Str → Option Value) (g : D → D → Option D) (r : R2) : Prop :=
  ∀ (E : Ev) (H : Hp) (x y : V) (d1 d2 : D) (ds : List D) (Q : VK), RepV K mg E H x d1 → RepV K mg E H y d2 → g d1 d2 = some (.lst ds) →
    (∀ p vs, H p = none → RepL K mg E H vs ds → Q (.ref p) (upd H p (.lst vs))) → r x y H Q
theorem opf_add {K : PySem.W.Frag} {mg : Str → Option Value} : OpF K mg addD (rAddAll K) := fun E H x y d1 d2 ds Q r1 r2 g q => by
  unfold addD at g
  split at g
  · cases g
  · split at g <;> cases g
  · split at g
    · cases g
      rename_i h
      obtain ⟨a, vs, rfl, ha, ra⟩ := r1.lst
      obtain ⟨b, ws, rfl, hb, rb⟩ := r2.lst
      exact .inr (.inl ⟨a, b, vs, ws, rfl, rfl, ha, hb, by rw [ra.length, rb.length]; exact h, fun p hp => q _ _ hp (ra.append rb)⟩)
    · cases g
  · split at g <;> cases g
  · cases g
theorem opf_mul {K : PySem.W.Frag} {mg : Str → Option Value} : OpF K mg mulD (rMulAll K) := fun E H x y d1 d2 ds Q r1 r2 g q => by
  unfold mulD at g
  split at g
  · split at g <;> cases g
  · split at g <;> cases g
  · split at g
    · cases g
      rename_i k h
      obtain ⟨a, vs, rfl, ha, ra⟩ := r1.lst
      refine .inr (.inl ⟨a, k, vs, rfl, r2.int, ha, by omega, by omega, ?_, fun p hp => q _ _ hp (ra.rep _)⟩)
      rw [ra.length, sizeLine_eq]
      have : (_ : List D).length * k.toNat ≤ 100 * 100000 := Nat.mul_le_mul h.2.2 (by omega)
      exact Nat.le_trans this (by decide)
    · cases g
  · split at g <;> cases g
  · cases g
theorem ef_op {op : Operator} {r : R2} {g : D → D → Option D} (ho : OpR X (binaryOp op) r) (hg : OpF X.K X.mg g r) (ha : EB X a g1) (hb : EB X b g2) : EF X (.BinOp a op b pos) (asL (eOp g g1 g2)) :=
  PE.imp (pe_op ho ha hb) fun σ H Q ⟨W, m, S, d, m', hf, q⟩ => by
    obtain ⟨ds, ed, hf2⟩ := asL_ok hf
    subst ed
    clear hf
    obtain ⟨o1, m1, e1, hf⟩ := Co.bind_ok hf2
    obtain ⟨o2, m2, e2, hf⟩ := Co.bind_ok hf
    obtain ⟨d1, d2, k1, k2, k3, rfl⟩ := Opd2.ok hf
    refine ⟨W, m, S, o1, m1, e1, fun x ob1 H1 A1 r1 => ⟨_, m1, A1.2, o2, m', e2, fun y ob2 H2 A2 r2 => ?_⟩⟩
    have A := A1.trans A2
    exact hg _ H2 x y d1 d2 ds Q ((A2.repO r1).view A.2 k1) (r2.view A.2 k2) k3 fun p vs hp rv => fin_lst A hp rv q
/-! ### slices -/
def slD : D → Option Int → Option Int → Option D
  | .lst xs, lo, hi => some (.lst ((xs.drop (HT.sIx xs.length 0 lo)).take (HT.sIx xs.length xs.length hi - HT.sIx xs.length 0 lo)))
  | .tup xs, lo, hi => some (.tup ((xs.drop (HT.sIx xs.length 0 lo)).take (HT.sIx xs.length xs.length hi - HT.sIx xs.length 0 lo)))
  | .str z, lo, hi => if z.length ≤ sizeLine then some (.str (cutS z lo hi)) else none
  | _, _, _ => none
def ePart (f : Co D) : Co (Option Int) := Co.bind f fun d m => match d with
  | .int i => .ok (some i) m
  | _ => .no
def rdO (K : PySem.W.Frag) (mg : Str → Option Value) (f : Co (Option Int)) : TO := fun σ H Q => ∃ W m, Sit K mg W σ H m ∧ ∃ d m', f m = .ok d m' ∧ ∀ ob' H', After K mg W σ H m ob' H' m' → Q d H'
abbrev EO (X : Cx) (e : Option Expr) (f : Co (Option Int)) : Prop := PO X e (rdO X.K X.mg f)
theorem PO.imp {e : Option Expr} {t t' : TO} (h : PO X e t) (i : ∀ σ H Q, t' σ H Q → t σ H Q) : PO X e t' := ⟨fun pins s σ H Q I q => h.run pins s σ H Q I (i σ H Q q)⟩
theorem eo_none : EO X none (Co.ret none) := PO.imp po_none fun σ H Q ⟨W, m, S, d, m', hf, q⟩ => by
  cases hf
  exact q W.ob H (.refl S)
theorem eo_some (h : EE X e f) : EO X (some e) (ePart f) := PO.imp (po_some h) fun σ H Q ⟨W, m, S, d, m', hf, q⟩ => by
  obtain ⟨d1, m1, e1, hf⟩ := Co.bind_ok hf
  cases d1 <;> first
    | (cases hf; done)
    | skip
  cases hf
  refine ⟨W, m, S, _, _, e1, fun v ob' H' A r => ?_⟩
  cases r
  exact ⟨_, rfl, q ob' H' A⟩
def eSl (g : Co Opd) (lo hi : Co (Option Int)) : Co D := Co.bind g fun o => Co.bind lo fun l => Co.bind hi fun h => Opd1 (fun d => slD d l h) o
def rSlAll (K : PySem.W.Frag) : V → Option Int → Option Int → Hp → VK → Prop := fun x lo hi H Q => rSlL K x lo hi H Q ∨ rSlA K x lo hi H Q ∨ rSlS x lo hi H Q
theorem sl_all : SlR X (rSlAll X.K) := SlR.or sl_list (SlR.or sl_tupA sl_str)
theorem RepL.cut {K : PySem.W.Frag} {mg : Str → Option Value} {E : Ev} {H : Hp} {vs : List V} {ds : List D} (r : RepL K mg E H vs ds) (lo hi : Option Int) :
    RepL K mg E H (cutV vs lo hi) ((ds.drop (HT.sIx ds.length 0 lo)).take (HT.sIx ds.length ds.length hi - HT.sIx ds.length 0 lo)) := by
  unfold cutV
  rw [r.length]
  exact (r.drop _).take _
theorem cut_whole {α : Type} (xs : List α) {i j : Nat} (h : i = 0 ∧ j = xs.length) : (xs.drop i).take (j - i) = xs := by
  obtain ⟨rfl, rfl⟩ := h
  simp
variable {lo hi : Option Expr} {fl fh : Co (Option Int)} {p2 : Pos}
theorem ee_sl (he : EB X e g1) (hl : EO X lo fl) (hh : EO X hi fh) : EE X (.Subscript e (.Slice lo hi none p2) pos) (eSl g1 fl fh) :=
  PE.imp (pe_slice sl_all he hl hh) fun σ H Q ⟨W, m, S, d, m', hf, q⟩ => by
    obtain ⟨o1, m1, e1, hf⟩ := Co.bind_ok hf
    obtain ⟨l, m2, e2, hf⟩ := Co.bind_ok hf
    obtain ⟨u, m3, e3, hf⟩ := Co.bind_ok hf
    obtain ⟨d1, k1, k3, rfl⟩ := Opd1.ok hf
    refine ⟨W, m, S, o1, m1, e1, fun x ob1 H1 A1 r1 => ⟨_, m1, A1.2, l, m2, e2, fun ob2 H2 A2 => ⟨_, m2, A2.2, u, m', e3, fun ob3 H3 A3 => ?_⟩⟩⟩
    have A := (A1.trans A2).trans A3
    have rv := (A3.repO (A2.repO r1)).view A.2 k1
    unfold slD at k3
    split at k3
    · cases k3
      obtain ⟨a, vs, rfl, ha, ra⟩ := rv.lst
      exact .inl ⟨a, vs, rfl, SqL.of ha, fun p hp => q _ ob3 _ (A.trans (.same A.2 (same_new hp _))) (.newL (fun a z => A.2.dom z) hp (ra.cut _ _))⟩
    · cases k3
      obtain ⟨a, vs, rfl, ha, ra⟩ := rv.tup
      refine .inr (.inl ⟨a, vs, rfl, SqT.of ha, fun w => ?_, fun _ p hp => q _ ob3 _ (A.trans (.same A.2 (same_new hp _))) (.newT hp (ra.cut _ _))⟩)
      rw [ra.length] at w
      rw [cut_whole _ w] at q
      exact q _ ob3 H3 A (.tup ha ra)
    · rename_i z
      by_cases hz : z.length ≤ sizeLine
      · rw [if_pos hz] at k3
        cases k3
        exact .inr (.inr ⟨_, rv.str, hz, q _ ob3 H3 A (.str _)⟩)
      · rw [if_neg hz] at k3
        cases k3
    · cases k3
theorem ef_sl (he : EB X e g1) (hl : EO X lo fl) (hh : EO X hi fh) : EF X (.Subscript e (.Slice lo hi none p2) pos) (asL (eSl g1 fl fh)) :=
  PE.imp (pe_slice sl_all he hl hh) fun σ H Q ⟨W, m, S, d, m', hf, q⟩ => by
    obtain ⟨ds, ed, hf2⟩ := asL_ok hf
    subst ed
    clear hf
    obtain ⟨o1, m1, e1, hf⟩ := Co.bind_ok hf2
    obtain ⟨l, m2, e2, hf⟩ := Co.bind_ok hf
    obtain ⟨u, m3, e3, hf⟩ := Co.bind_ok hf
    obtain ⟨d1, k1, k3, rfl⟩ := Opd1.ok hf
    refine ⟨W, m, S, o1, m1, e1, fun x ob1 H1 A1 r1 => ⟨_, m1, A1.2, l, m2, e2, fun ob2 H2 A2 => ⟨_, m2, A2.2, u, m', e3, fun ob3 H3 A3 => ?_⟩⟩⟩
    have A := (A1.trans A2).trans A3
    have rv := (A3.repO (A2.repO r1)).view A.2 k1
    unfold slD at k3
    split at k3
    · cases k3
      obtain ⟨a, vs, rfl, ha, ra⟩ := rv.lst
      exact .inl ⟨a, vs, rfl, SqL.of ha, fun p hp => fin_lst A hp (ra.cut _ _) q⟩
    · cases k3
    · split at k3 <;> cases k3
    · cases k3
/-- xs[::-1] of a list -/
def revD : D → Option D
  | .lst xs => some (.lst xs.reverse)
  | _ => none
theorem ef_rev {k : Nat} {p1 p2 p3 pos : Pos} (he : EB X e g1) : EF X (.Subscript e (.Slice none none (some (.UnaryOp .USub (.Constant (.int 1) k p1) p2)) p3) pos) (asL (eOp1 revD g1)) :=
  PE.imp (pe_revL he) fun σ H Q ⟨W, m, S, d, m', hf, q⟩ => by
    obtain ⟨ds, ed, hf2⟩ := asL_ok hf
    subst ed
    clear hf
    obtain ⟨o1, m1, e1, hf⟩ := Co.bind_ok hf2
    obtain ⟨d1, k1, k3, rfl⟩ := Opd1.ok hf
    refine ⟨W, m, S, o1, _, e1, fun x ob1 H1 A1 r1 => ?_⟩
    have rv := r1.view A1.2 k1
    unfold revD at k3
    split at k3
    · cases k3
      obtain ⟨a, vs, rfl, ha, ra⟩ := rv.lst
      exact ⟨a, vs, rfl, SqL.of ha, fun p hp => fin_lst A1 hp ra.reverse q⟩
    · cases k3
end
end PD
namespace PD
open PySem PySem.Spec PyProof.Rows L2

/-! ### built-in functions -/
inductive RepVs (K : PySem.W.Frag) (mg : Str → Option Value) (E : Ev) (H : Hp) : List V → List D → Prop
  | nil : RepVs K mg E H [] []
  | cons {v : V} {vs : List V} {d : D} {ds : List D} : RepV K mg E H v d → RepVs K mg E H vs ds → RepVs K mg E H (v :: vs) (d :: ds)
def Opd.getAll (m : M) : List Opd → Option (List D)
  | [] => some []
  | o :: os => match o.get m with
    | some d => match Opd.getAll m os with
      | some ds => some (d :: ds)
      | none => none
    | none => none
def CallD (K : PySem.W.Frag) (mg : Str → Option Value) (g : List D → Option D) (r : List V → Hp → VK → Prop) : Prop :=
  ∀ (E : Ev) (H : Hp) (xs : List V) (ds : List D) (d : D) (Q : VK), (∀ a, E.N a → ∃ o, H a = some o) → RepVs K mg E H xs ds → g ds = some d →
    (∀ v H', Same H H' → Rep K mg E H' v d → Q v H') → r xs H Q
def CallF (K : PySem.W.Frag) (mg : Str → Option Value) (g : List D → Option D) (r : List V → Hp → VK → Prop) : Prop :=
  ∀ (E : Ev) (H : Hp) (xs : List V) (ds : List D) (es : List D) (Q : VK), RepVs K mg E H xs ds → g ds = some (.lst es) →
    (∀ p vs, H p = none → RepL K mg E H vs es → Q (.ref p) (upd H p (.lst vs))) → r xs H Q
def eCall (g : List D → Option D) (gs : Co (List Opd)) : Co D := Co.bind gs fun os m => match Opd.getAll m os with
  | some ds => match g ds with
    | some d => .ok d m
    | none => .no
  | none => .no
section
variable {K : PySem.W.Frag} {mg : Str → Option Value} {W : Wd} {σ : L2.St} {H : Hp} {m m' : M} {E : Ev}
theorem RepOs.view (S : Sit K mg W σ H m) : ∀ {vs : List V} {os : List Opd} {ds : List D}, RepOs K mg W σ H m vs os → Opd.getAll m os = some ds → RepVs K mg (W.ev m.obs.length) H vs ds
  | _, _, _, .nil, h => by cases h; exact .nil
  | _, _, ds, .cons (o := o) (os := os) r t, h => by
    unfold Opd.getAll at h
    cases e1 : o.get m with
    | none => rw [e1] at h; cases h
    | some d =>
      rw [e1] at h
      simp only at h
      cases e2 : Opd.getAll m os with
      | none => rw [e2] at h; cases h
      | some es => rw [e2] at h; cases h; exact .cons (r.view S e1) (RepOs.view S t e2)
theorem eCall_ok {g : List D → Option D} {gs : Co (List Opd)} {d : D} (h : eCall g gs m = .ok d m') : ∃ os ds, gs m = .ok os m' ∧ Opd.getAll m' os = some ds ∧ g ds = some d := by
  obtain ⟨os, m1, e1, h⟩ := Co.bind_ok h
  cases e2 : Opd.getAll m1 os with
  | none => rw [e2] at h; cases h
  | some ds =>
    rw [e2] at h
    simp only at h
    cases e3 : g ds with
    | none => rw [e3] at h; cases h
    | some d3 => rw [e3] at h; cases h; exact ⟨os, ds, e1, e2, e3⟩
theorem RepL.ints : ∀ {vs : List V} {ns : List Int}, RepL K mg E H vs (ns.map D.int) → vs = ns.map V.int
  | _, [], .nil => rfl
  | _, n :: ns, .cons r t => by cases r; rw [List.map_cons, RepL.ints t]
theorem RepL.bls : ∀ {vs : List V} {ns : List Bool}, RepL K mg E H vs (ns.map D.bl) → vs = ns.map V.bl
  | _, [], .nil => rfl
  | _, n :: ns, .cons r t => by cases r; rw [List.map_cons, RepL.bls t]
theorem RepL.strs : ∀ {vs : List V} {ns : List Str}, RepL K mg E H vs (ns.map D.str) → vs = ns.map V.str
  | _, [], .nil => rfl
  | _, n :: ns, .cons r t => by cases r; rw [List.map_cons, RepL.strs t]
theorem RepL.ofInts : ∀ (ns : List Int), RepL K mg E H (ns.map V.int) (ns.map D.int)
  | [] => .nil
  | n :: ns => .cons (.int n) (RepL.ofInts ns)
def toInts : List D → Option (List Int)
  | [] => some []
  | .int i :: ds => (toInts ds).map (i :: ·)
  | _ :: _ => none
theorem toInts_some : ∀ {ds : List D} {ns : List Int}, toInts ds = some ns → ds = ns.map D.int
  | [], ns, h => by cases h; rfl
  | d :: ds, ns, h => by
    cases d <;> first
      | (cases h; done)
      | skip
    obtain ⟨ms, h1, h2⟩ := Option.map_eq_some_iff.mp h
    subst h2
    rw [toInts_some h1]
    rfl
def toBls : List D → Option (List Bool)
  | [] => some []
  | .bl i :: ds => (toBls ds).map (i :: ·)
  | _ :: _ => none
theorem toBls_some : ∀ {ds : List D} {ns : List Bool}, toBls ds = some ns → ds = ns.map D.bl
  | [], ns, h => by cases h; rfl
  | d :: ds, ns, h => by
    cases d <;> first
      | (cases h; done)
      | skip
    obtain ⟨ms, h1, h2⟩ := Option.map_eq_some_iff.mp h
    subst h2
    rw [toBls_some h1]
    rfl
@[simp] theorem toInts_map (ns : List Int) : toInts (ns.map D.int) = some ns := by
  induction ns with
  | nil => rfl
  | cons n ns ih => rw [List.map_cons, toInts, ih]; rfl
@[simp] theorem toBls_map (ns : List Bool) : toBls (ns.map D.bl) = some ns := by
  induction ns with
  | nil => rfl
  | cons n ns ih => rw [List.map_cons, toBls, ih]; rfl

def lenD : List D → Option D
  | [.str z] => if z.length ≤ sizeLine then some (.int z.length) else none
  | [.lst xs] => some (.int xs.length)
  | [.tup xs] => some (.int xs.length)
  | [.scr xs] => some (.int xs.length)
  | _ => none
theorem cd_len : CallD K mg lenD (fun xs H Q => ∃ x n, xs = [x] ∧ LenV K x H n ∧ Q (.int n) H) := fun E H xs ds d Q hN r g q => by
  unfold lenD at g
  split at g
  · rename_i z
    cases r with | cons r t => cases t; by_cases hz : z.length ≤ sizeLine
                               · rw [if_pos hz] at g; cases g
                                 exact ⟨.str z, z.length, by rw [r.str], ⟨hz, rfl⟩, q _ _ (Same.refl _) (.int _)⟩
                               · rw [if_neg hz] at g; cases g
  · cases g
    cases r with
    | cons r t =>
      cases t
      obtain ⟨a, vs, rfl, ha, ra⟩ := r.lst
      exact ⟨_, _, rfl, .inl ⟨vs, SqL.of ha, ra.length.symm⟩, q _ _ (Same.refl _) (.int _)⟩
  · cases g
    cases r with
    | cons r t =>
      cases t
      obtain ⟨a, vs, rfl, ha, ra⟩ := r.tup
      exact ⟨_, _, rfl, .inr ⟨vs, SqT.of ha, ra.length.symm⟩, q _ _ (Same.refl _) (.int _)⟩
  · cases g
    cases r with
    | cons r t =>
      cases t
      obtain ⟨a, rfl, ha⟩ := r.scr
      exact ⟨_, _, rfl, .inl ⟨_, ha, (List.length_map _).symm⟩, q _ _ (Same.refl _) (.int _)⟩
  · cases g
def absD : List D → Option D
  | [.int i] => some (.int (if i < 0 then -i else i))
  | _ => none
theorem cd_abs : CallD K mg absD (fun xs H Q => ∃ i, xs = [.int i] ∧ Q (.int (if i < 0 then -i else i)) H) := fun E H xs ds d Q hN r g q => by
  unfold absD at g
  split at g
  · cases g
    cases r with
    | cons r t => cases t; exact ⟨_, by rw [r.int], q _ _ (Same.refl _) (.int _)⟩
  · cases g
def intD : List D → Option D
  | [.int i] => some (.int i)
  | [.bl k] => some (.int (if k then 1 else 0))
  | _ => none
theorem cd_int : CallD K mg intD (fun xs H Q => (∃ i, xs = [.int i] ∧ Q (.int i) H) ∨ ∃ k, xs = [.bl k] ∧ Q (.int (if k then 1 else 0)) H) := fun E H xs ds d Q hN r g q => by
  unfold intD at g
  split at g
  · cases g
    cases r with
    | cons r t => cases t; exact .inl ⟨_, by rw [r.int], q _ _ (Same.refl _) (.int _)⟩
  · cases g
    cases r with
    | cons r t => cases t; exact .inr ⟨_, by rw [r.bl], q _ _ (Same.refl _) (.int _)⟩
  · cases g
def max2D : List D → Option D
  | [.int i, .int j] => some (.int (if j > i then j else i))
  | _ => none
def min2D : List D → Option D
  | [.int i, .int j] => some (.int (if j < i then j else i))
  | _ => none
theorem cd_max2 : CallD K mg max2D (fun xs H Q => ∃ i j, xs = [.int i, .int j] ∧ Q (.int (if j > i then j else i)) H) := fun E H xs ds d Q hN r g q => by
  unfold max2D at g
  split at g
  · cases g
    cases r with
    | cons r t => cases t with | cons s t => cases t; exact ⟨_, _, by rw [r.int, s.int], q _ _ (Same.refl _) (.int _)⟩
  · cases g
theorem cd_min2 : CallD K mg min2D (fun xs H Q => ∃ i j, xs = [.int i, .int j] ∧ Q (.int (if j < i then j else i)) H) := fun E H xs ds d Q hN r g q => by
  unfold min2D at g
  split at g
  · cases g
    cases r with
    | cons r t => cases t with | cons s t => cases t; exact ⟨_, _, by rw [r.int, s.int], q _ _ (Same.refl _) (.int _)⟩
  · cases g
def sumD : List D → Option D
  | [.lst xs] => (toInts xs).map fun ns => .int ns.sum
  | _ => none
theorem cd_sum : CallD K mg sumD (rSum K) := fun E H xs ds d Q hN r g q => by
  unfold sumD at g
  split at g
  · obtain ⟨ns, h1, h2⟩ := Option.map_eq_some_iff.mp g
    subst h2
    rw [toInts_some h1] at r
    cases r with
    | cons r t =>
      cases t
      obtain ⟨a, vs, rfl, ha, ra⟩ := r.lst
      have e := ra.ints
      subst e
      exact ⟨a, ns, rfl, SqL.of ha, q _ _ (Same.refl _) (.int _)⟩
  · cases g
def maxLD : List D → Option D
  | [.lst xs] => (toInts xs).bind fun ns => ns.max?.map D.int
  | _ => none
def minLD : List D → Option D
  | [.lst xs] => (toInts xs).bind fun ns => ns.min?.map D.int
  | _ => none
theorem max_eq {ns : List Int} {m k : Int} (h : ns.max? = some k) (h1 : m ∈ ns) (h2 : ∀ y, y ∈ ns → y ≤ m) : m = k := by
  have q := List.max?_eq_some_iff.mp h
  exact Int.le_antisymm (q.2 m h1) (h2 k q.1)
theorem min_eq {ns : List Int} {m k : Int} (h : ns.min? = some k) (h1 : m ∈ ns) (h2 : ∀ y, y ∈ ns → m ≤ y) : m = k := by
  have q := List.min?_eq_some_iff.mp h
  exact Int.le_antisymm (h2 k q.1) (q.2 m h1)
theorem cd_maxL : CallD K mg maxLD (rMax K) := fun E H xs ds d Q hN r g q => by
  unfold maxLD at g
  split at g
  · obtain ⟨ns, h1, h2⟩ := Option.bind_eq_some_iff.mp g
    obtain ⟨k, h3, h4⟩ := Option.map_eq_some_iff.mp h2
    subst h4
    rw [toInts_some h1] at r
    cases r with
    | cons r t =>
      cases t
      obtain ⟨a, vs, rfl, ha, ra⟩ := r.lst
      have e := ra.ints
      subst e
      refine ⟨a, ns, rfl, SqL.of ha, ?_, fun m m1 m2 => ?_⟩
      · cases ns with
        | nil => cases h3
        | cons n ns => exact Nat.succ_pos _
      · rw [max_eq h3 m1 m2]
        exact q _ _ (Same.refl _) (.int _)
  · cases g
theorem cd_minL : CallD K mg minLD (rMin K) := fun E H xs ds d Q hN r g q => by
  unfold minLD at g
  split at g
  · obtain ⟨ns, h1, h2⟩ := Option.bind_eq_some_iff.mp g
    obtain ⟨k, h3, h4⟩ := Option.map_eq_some_iff.mp h2
    subst h4
    rw [toInts_some h1] at r
    cases r with
    | cons r t =>
      cases t
      obtain ⟨a, vs, rfl, ha, ra⟩ := r.lst
      have e := ra.ints
      subst e
      refine ⟨a, ns, rfl, SqL.of ha, ?_, fun m m1 m2 => ?_⟩
      · cases ns with
        | nil => cases h3
        | cons n ns => exact Nat.succ_pos _
      · rw [min_eq h3 m1 m2]
        exact q _ _ (Same.refl _) (.int _)
  · cases g
def allD : List D → Option D
  | [.lst xs] => (toBls xs).map fun ns => .bl (ns.all id)
  | _ => none
def anyD : List D → Option D
  | [.lst xs] => (toBls xs).map fun ns => .bl (ns.any id)
  | _ => none
theorem cd_all : CallD K mg allD (rAll K) := fun E H xs ds d Q hN r g q => by
  unfold allD at g
  split at g
  · obtain ⟨ns, h1, h2⟩ := Option.map_eq_some_iff.mp g
    subst h2
    rw [toBls_some h1] at r
    cases r with
    | cons r t =>
      cases t
      obtain ⟨a, vs, rfl, ha, ra⟩ := r.lst
      have e := ra.bls
      subst e
      exact ⟨a, ns, rfl, SqL.of ha, q _ _ (Same.refl _) (.bl _)⟩
  · cases g
theorem cd_any : CallD K mg anyD (rAny K) := fun E H xs ds d Q hN r g q => by
  unfold anyD at g
  split at g
  · obtain ⟨ns, h1, h2⟩ := Option.map_eq_some_iff.mp g
    subst h2
    rw [toBls_some h1] at r
    cases r with
    | cons r t =>
      cases t
      obtain ⟨a, vs, rfl, ha, ra⟩ := r.lst
      have e := ra.bls
      subst e
      exact ⟨a, ns, rfl, SqL.of ha, q _ _ (Same.refl _) (.bl _)⟩
  · cases g
def tupleD : List D → Option D
  | [.lst xs] => some (.tup xs)
  | [.tup xs] => some (.tup xs)
  | _ => none
theorem cd_tuple : CallD K mg tupleD (fun xs H Q => ∃ p ys, xs = [.ref p] ∧ ((SqL K H p ys ∧ ∀ l, H l = none → Q (.ref l) (upd H l (.tup ys))) ∨ (SqT K H p ys ∧ Q (.ref p) H))) := fun E H xs ds d Q hN r g q => by
  unfold tupleD at g
  split at g
  · cases g
    cases r with
    | cons r t =>
      cases t
      obtain ⟨a, vs, rfl, ha, ra⟩ := r.lst
      exact ⟨a, vs, rfl, .inl ⟨SqL.of ha, fun p hp => q _ _ (same_new hp _) (.newT hp ra)⟩⟩
  · cases g
    cases r with
    | cons r t =>
      cases t
      obtain ⟨a, vs, rfl, ha, ra⟩ := r.tup
      exact ⟨a, vs, rfl, .inr ⟨SqT.of ha, q _ _ (Same.refl _) (.tup ha ra)⟩⟩
  · cases g
def listD : List D → Option D
  | [.lst xs] => some (.lst xs)
  | [.tup xs] => some (.lst xs)
  | _ => none
theorem cf_list : CallF K mg listD (fun xs H Q => ∃ p ys, xs = [.ref p] ∧ (SqL K H p ys ∨ SqT K H p ys) ∧ ∀ l, H l = none → Q (.ref l) (upd H l (.lst ys))) := fun E H xs ds es Q r g q => by
  unfold listD at g
  split at g
  · cases g
    cases r with
    | cons r t =>
      cases t
      obtain ⟨a, vs, rfl, ha, ra⟩ := r.lst
      exact ⟨a, vs, rfl, .inl (SqL.of ha), fun p hp => q _ _ hp ra⟩
  · cases g
    cases r with
    | cons r t =>
      cases t
      obtain ⟨a, vs, rfl, ha, ra⟩ := r.tup
      exact ⟨a, vs, rfl, .inr (SqT.of ha), fun p hp => q _ _ hp ra⟩
  · cases g
/-- sorted, ints -/
def insI (x : Int) : List Int → List Int
  | [] => [x]
  | y :: ys => if x ≤ y then x :: y :: ys else y :: insI x ys
def sortI : List Int → List Int
  | [] => []
  | x :: xs => insI x (sortI xs)
theorem insI_perm (x : Int) : ∀ ys : List Int, (insI x ys).Perm (x :: ys)
  | [] => .refl _
  | y :: ys => by
    unfold insI
    split
    · exact .refl _
    · exact ((insI_perm x ys).cons y).trans (.swap x y ys)
theorem sortI_perm : ∀ xs : List Int, (sortI xs).Perm xs
  | [] => .refl _
  | x :: xs => (insI_perm x (sortI xs)).trans ((sortI_perm xs).cons x)
theorem insI_sorted {x : Int} : ∀ {ys : List Int}, ys.Pairwise (· ≤ ·) → (insI x ys).Pairwise (· ≤ ·)
  | [], _ => by simp [insI]
  | y :: ys, h => by
    unfold insI
    split
    · rename_i hxy
      refine .cons (fun a ha => ?_) h
      rcases List.mem_cons.mp ha with rfl | ha
      · exact hxy
      · exact Int.le_trans hxy (List.rel_of_pairwise_cons h ha)
    · rename_i hxy
      refine .cons (fun a ha => ?_) (insI_sorted (List.Pairwise.of_cons h))
      rcases List.mem_cons.mp ((insI_perm x ys).mem_iff.mp ha) with rfl | ha
      · omega
      · exact List.rel_of_pairwise_cons h ha
theorem sortI_sorted : ∀ xs : List Int, (sortI xs).Pairwise (· ≤ ·)
  | [] => .nil
  | x :: xs => insI_sorted (sortI_sorted xs)
theorem sorted_eq : ∀ {xs ys : List Int}, xs.Perm ys → xs.Pairwise (· ≤ ·) → ys.Pairwise (· ≤ ·) → xs = ys
  | [], ys, p, _, _ => (List.Perm.nil_eq p)
  | x :: xs, [], p, _, _ => absurd p.length_eq (by simp)
  | x :: xs, y :: ys, p, hx, hy => by
    have e : x = y := by
      have h1 : y ∈ x :: xs := p.mem_iff.mpr List.mem_cons_self
      have h2 : x ∈ y :: ys := p.mem_iff.mp List.mem_cons_self
      have a : x ≤ y := by
        rcases List.mem_cons.mp h1 with e | h
        · omega
        · exact List.rel_of_pairwise_cons hx h
      have b : y ≤ x := by
        rcases List.mem_cons.mp h2 with e | h
        · omega
        · exact List.rel_of_pairwise_cons hy h
      omega
    subst e
    rw [sorted_eq (List.Perm.cons_inv p) (List.Pairwise.of_cons hx) (List.Pairwise.of_cons hy)]
def keyInts : List (Key × D) → Option (List Int)
  | [] => some []
  | (.inl i, _) :: r => (keyInts r).map (i :: ·)
  | _ => none
theorem keyInts_some : ∀ {kds : List (Key × D)} {ns : List Int}, keyInts kds = some ns → kds.map (·.1) = ns.map Sum.inl
  | [], ns, h => by cases h; rfl
  | (.inl i, _) :: r, ns, h => by
    obtain ⟨ms, h1, h2⟩ := Option.map_eq_some_iff.mp h
    subst h2
    rw [List.map_cons, keyInts_some h1, List.map_cons]
  | (.inr i, _) :: r, ns, h => by cases h
def sortedID : List D → Option D
  | [.lst xs] => (toInts xs).bind fun ns => if ns.length < 64 then some (.lst ((sortI ns).map D.int)) else none
  | [.dk kds] => (keyInts kds).bind fun ns => if ns.length < 64 then some (.lst ((sortI ns).map D.int)) else none
  | _ => none
def rSortedID (K : PySem.W.Frag) : List V → Hp → VK → Prop := fun xs H Q => rSorted K xs H Q ∨ (fun xs H Q => ∃ (a : Addr) (kvs : List (Key × V)) (ks : List Int), xs = [.ref a] ∧ Rd H a (.dK kvs) ∧ kvs.map (·.1) = ks.map Sum.inl ∧ ks.length < 64 ∧ ∀ (ys : List Int) (p : Addr), ys.Perm ks → ys.Pairwise (· ≤ ·) → H p = none → Q (.ref p) (upd H p (.lst (ys.map V.int)))) xs H Q
theorem RepV.dk {v : V} {ds : List (Key × D)} (r : RepV K mg E H v (.dk ds)) : ∃ a kvs, v = .ref a ∧ Rd H a (.dK kvs) ∧ kvs.map (·.1) = ds.map (·.1) ∧ RepL K mg E H (kvs.map (·.2)) (ds.map (·.2)) := by
  cases r with
  | of r => cases r with | dk h n l r => exact ⟨_, _, rfl, h, l, r⟩
  | cell c => obtain ⟨kvs, h, l, r⟩ := c; exact ⟨_, kvs, rfl, .inl h, l, r⟩
theorem RepV.dt {v : V} {ds : List (List Key × D)} (r : RepV K mg E H v (.dt ds)) : ∃ a kvs, v = .ref a ∧ Rd H a (.dT kvs) ∧ kvs.map (·.1) = ds.map (·.1) ∧ RepL K mg E H (kvs.map (·.2)) (ds.map (·.2)) := by
  cases r with
  | of r => cases r with | dt h n l r => exact ⟨_, _, rfl, h, l, r⟩
  | cell c => obtain ⟨kvs, h, l, r⟩ := c; exact ⟨_, kvs, rfl, .inl h, l, r⟩
theorem cf_sorted : CallF K mg sortedID (rSortedID K) := fun E H xs ds es Q r g q => by
  unfold sortedID at g
  split at g
  · obtain ⟨ns, h1, g⟩ := Option.bind_eq_some_iff.mp g
    by_cases hz : ns.length < 64
    · rw [if_pos hz] at g
      cases g
      rw [toInts_some h1] at r
      cases r with
      | cons r t =>
        cases t
        obtain ⟨a, vs, rfl, ha, ra⟩ := r.lst
        have e := ra.ints
        subst e
        refine .inl ⟨a, ns, rfl, SqL.of ha, hz, fun ns' p h1 h2 hp => ?_⟩
        have e := sorted_eq (h1.trans (sortI_perm ns).symm) h2 (sortI_sorted ns)
        subst e
        exact q _ _ hp (.ofInts _)
    · rw [if_neg hz] at g; cases g
  · obtain ⟨ns, h1, g⟩ := Option.bind_eq_some_iff.mp g
    by_cases hz : ns.length < 64
    · rw [if_pos hz] at g
      cases g
      cases r with
      | cons r t =>
        cases t
        obtain ⟨a, kvs, rfl, ha, hl, ra⟩ := r.dk
        refine .inr ⟨a, kvs, ns, rfl, ha, hl.trans (keyInts_some h1), hz, fun ns' p h1 h2 hp => ?_⟩
        have e := sorted_eq (h1.trans (sortI_perm ns).symm) h2 (sortI_sorted ns)
        subst e
        exact q _ _ hp (.ofInts _)
    · rw [if_neg hz] at g; cases g
  · cases g
end
section
variable {X : Cx} {e : Expr} {es : List Expr} {x : Str} {p pos : Pos} {gs : Co (List Opd)} {g : List D → Option D} {id T : String} {r : List V → Hp → VK → Prop}
theorem ee_callB (hc : CallR X (.builtin id) r) (hd : CallD X.K X.mg g r) (hm : X.mg x = none) (hv : bootBuiltins x = some (.builtin id)) (ha : EBs X (e :: es) gs) (hg : Gl X x := by rfl) (hn : x ≠ "__name__" := by decide) (hdb : (x == ("__debug__" : Str)) = false := by decide)
    (he : starEach (e :: es) X.env = (false, eval e X.env) :: starEach es X.env := by rfl) (hpl : (backTo pos (starEach es X.env)).any (·.1) = false := by rfl) : EE X (.Call (.Name x p) (e :: es) [] pos) (eCall g gs) :=
  PE.imp (pe_callB hc hg hm hv ha hn hdb he hpl) fun σ H Q ⟨W, m, S, d, m', hf, q⟩ => by
    obtain ⟨os, ds, e1, e2, e3⟩ := eCall_ok hf
    refine ⟨W, m, S, os, m', e1, fun vs ob' H' A rs => ?_⟩
    exact hd _ H' vs ds d Q (fun a z => A.2.dom z) (rs.view A.2 e2) e3 fun v H2 sm rv => q v ob' H2 (A.trans (.same A.2 sm)) rv
theorem ee_callTy (hc : CallR X (.type T) r) (hd : CallD X.K X.mg g r) (hm : X.mg x = none) (hv : bootBuiltins x = some (.type T)) (ha : EBs X (e :: es) gs) (hg : Gl X x := by rfl) (hn : x ≠ "__name__" := by decide) (hdb : (x == ("__debug__" : Str)) = false := by decide)
    (he : starEach (e :: es) X.env = (false, eval e X.env) :: starEach es X.env := by rfl) (hpl : (backTo pos (starEach es X.env)).any (·.1) = false := by rfl) : EE X (.Call (.Name x p) (e :: es) [] pos) (eCall g gs) :=
  PE.imp (pe_callTy hc hg hm hv ha hn hdb he hpl) fun σ H Q ⟨W, m, S, d, m', hf, q⟩ => by
    obtain ⟨os, ds, e1, e2, e3⟩ := eCall_ok hf
    refine ⟨W, m, S, os, m', e1, fun vs ob' H' A rs => ?_⟩
    exact hd _ H' vs ds d Q (fun a z => A.2.dom z) (rs.view A.2 e2) e3 fun v H2 sm rv => q v ob' H2 (A.trans (.same A.2 sm)) rv
theorem ef_callB (hc : CallR X (.builtin id) r) (hd : CallF X.K X.mg g r) (hm : X.mg x = none) (hv : bootBuiltins x = some (.builtin id)) (ha : EBs X (e :: es) gs) (hg : Gl X x := by rfl) (hn : x ≠ "__name__" := by decide) (hdb : (x == ("__debug__" : Str)) = false := by decide)
    (he : starEach (e :: es) X.env = (false, eval e X.env) :: starEach es X.env := by rfl) (hpl : (backTo pos (starEach es X.env)).any (·.1) = false := by rfl) : EF X (.Call (.Name x p) (e :: es) [] pos) (asL (eCall g gs)) :=
  PE.imp (pe_callB hc hg hm hv ha hn hdb he hpl) fun σ H Q ⟨W, m, S, d, m', hf, q⟩ => by
    obtain ⟨ds', ed, hf2⟩ := asL_ok hf
    subst ed
    obtain ⟨os, ds, e1, e2, e3⟩ := eCall_ok hf2
    refine ⟨W, m, S, os, m', e1, fun vs ob' H' A rs => ?_⟩
    exact hd _ H' vs ds ds' Q (rs.view A.2 e2) e3 fun p vs hp rv => fin_lst A hp rv q
theorem ef_callTy (hc : CallR X (.type T) r) (hd : CallF X.K X.mg g r) (hm : X.mg x = none) (hv : bootBuiltins x = some (.type T)) (ha : EBs X (e :: es) gs) (hg : Gl X x := by rfl) (hn : x ≠ "__name__" := by decide) (hdb : (x == ("__debug__" : Str)) = false := by decide)
    (he : starEach (e :: es) X.env = (false, eval e X.env) :: starEach es X.env := by rfl) (hpl : (backTo pos (starEach es X.env)).any (·.1) = false := by rfl) : EF X (.Call (.Name x p) (e :: es) [] pos) (asL (eCall g gs)) :=
  PE.imp (pe_callTy hc hg hm hv ha hn hdb he hpl) fun σ H Q ⟨W, m, S, d, m', hf, q⟩ => by
    obtain ⟨ds', ed, hf2⟩ := asL_ok hf
    subst ed
    obtain ⟨os, ds, e1, e2, e3⟩ := eCall_ok hf2
    refine ⟨W, m, S, os, m', e1, fun vs ob' H' A rs => ?_⟩
    exact hd _ H' vs ds ds' Q (rs.view A.2 e2) e3 fun p vs hp rv => fin_lst A hp rv q
theorem op_sortedID (hc : X.calm = true) : CallR X (.builtin "sorted") (rSortedID X.K) := CallR.or cr_sorted (call_sortedDI hc)
end
end PD
namespace PD
open PySem PySem.Spec PyProof.Rows L2

/-! ### defs -/
abbrev Fd := List D → List (List D) → Option (D × List (List D))
structure Ent (K : PySem.W.Frag) (mg : Str → Option Value) (E : Ev) (H : Hp) (obs : List (List D)) : Prop where
  no : E.no = obs.length
  dom : ∀ a, E.N a → ∃ o, H a = some o
  mx : ∀ a, E.Mx a → ∃ n, n < E.no ∧ E.ob n = a
  obN : ∀ n, n < E.no → E.N (E.ob n)
  obM : ∀ n, n < E.no → E.Mx (E.ob n)
  inj : ∀ n k, n < E.no → k < E.no → E.ob n = E.ob k → n = k
  cells : ∀ (n : Nat) (ds : List D), obs[n]? = some ds → Cell K mg E H (E.ob n) (.lst ds)
def Ev.grow (E : Ev) (ob' : Nat → Addr) (no' : Nat) : Ev where
  N := fun a => E.N a ∨ ∃ n, n < no' ∧ ob' n = a
  Mx := fun a => ∃ n, n < no' ∧ ob' n = a
  ob := ob'
  no := no'
def Ev.addN (E : Ev) (P : Addr → Prop) : Ev := { E with N := fun a => E.N a ∨ P a }
/-- a call's end, as the caller sees it -/
def CEnd (K : PySem.W.Frag) (mg : Str → Option Value) (E : Ev) (H : Hp) (r : D) (obs' : List (List D)) (fr : Bool) (v : V) (ob' : Nat → Addr) (H' : Hp) : Prop :=
  Ext E H (E.grow ob' obs'.length) H' ∧ (∀ n k, n < obs'.length → k < obs'.length → ob' n = ob' k → n = k) ∧
    match fr with
    | false => (∀ (n : Nat) (ds : List D), obs'[n]? = some ds → Cell K mg (E.grow ob' obs'.length) H' (ob' n) (.lst ds)) ∧ Rep K mg (E.grow ob' obs'.length) H' v r
    | true => ∃ a, v = .ref a ∧ H a = none ∧ ¬ (E.grow ob' obs'.length).N a ∧ (∀ (n : Nat) (ds : List D), obs'[n]? = some ds → Cell K mg ((E.grow ob' obs'.length).addN (· = a)) H' (ob' n) (.lst ds)) ∧
        Cell K mg ((E.grow ob' obs'.length).addN (· = a)) H' a r
/-- what a def promises: its function of data -/
def spD (K : PySem.W.Frag) (mg : Str → Option Value) (F : Fd) (fr : Bool) : Sp := fun vs H Q _ => ∃ E obs ds r obs', Ent K mg E H obs ∧ RepL K mg E H vs ds ∧ F ds obs = some (r, obs') ∧
  ∀ v ob' H', CEnd K mg E H r obs' fr v ob' H' → Q v H'

section
variable {K : PySem.W.Frag} {mg : Str → Option Value} {W : Wd} {σ : L2.St} {H H' : Hp} {m : M}
/-- what a callee is handed -/
def Wd.cal (W : Wd) (no : Nat) : Ev := { (W.ev no) with Mx := fun a => ∃ n, n < no ∧ W.ob n = a }
theorem Sit.ent (S : Sit K mg W σ H m) : Ent K mg (W.cal m.obs.length) H m.obs where
  no := rfl
  dom := fun a h => S.dom h
  mx := fun a h => h
  obN := fun n h => .inr (.inr ⟨n, h, rfl⟩)
  obM := fun n h => ⟨n, h, rfl⟩
  inj := S.obi
  cells := fun n ds h => (S.ob n ds h).le ((W.ev _).le_mx _)
theorem Sit.called {P : Addr → Prop} {ob' : Nat → Addr} {obs' : List (List D)} (S : Sit K mg W σ H m) (x : Ext (W.cal m.obs.length) H ((W.cal m.obs.length).grow ob' obs'.length) H')
    (inj : ∀ n k, n < obs'.length → k < obs'.length → ob' n = ob' k → n = k) (hP : ∀ a, P a → H a = none ∧ ∃ o, H' a = some o)
    (cells : ∀ (n : Nat) (ds : List D), obs'[n]? = some ds → Cell K mg (((W.cal m.obs.length).grow ob' obs'.length).addN P) H' (ob' n) (.lst ds)) :
    Ext (W.ev m.obs.length) H ({ W with ob := ob', N0 := fun b => W.N0 b ∨ P b }.ev obs'.length) H' ∧ Sit K mg { W with ob := ob', N0 := fun b => W.N0 b ∨ P b } σ H' { m with obs := obs' } ∧
      (((W.cal m.obs.length).grow ob' obs'.length).addN P).Le ({ W with ob := ob', N0 := fun b => W.N0 b ∨ P b }.ev obs'.length) := by
  have le : (((W.cal m.obs.length).grow ob' obs'.length).addN P).Le ({ W with ob := ob', N0 := fun b => W.N0 b ∨ P b }.ev obs'.length) := by
    refine ⟨Nat.le_refl _, fun _ _ => rfl, fun a h => ?_⟩
    rcases h with (h | h) | h | h
    · exact .inl (.inl (.inl h))
    · exact .inr h
    · exact .inl (.inl (.inr (.inl h)))
    · exact .inl (.inr h)
  have nomx : ∀ i a, W.own i = some a → ¬ (W.cal m.obs.length).Mx a := fun i a e ⟨n, hn, en⟩ => S.obo n i hn (by rw [en]; exact e)
  have X : Ext (W.ev m.obs.length) H ({ W with ob := ob', N0 := fun b => W.N0 b ∨ P b }.ev obs'.length) H' := by
    refine ⟨x.no, x.ob, fun a h => ?_, fun a h => ?_, x.dm, fun a o n h => x.keep a o (fun z => n (.inr z)) h, x.tup, x.frz⟩
    · rcases h with (h | h) | h | h
      · exact .inl (.inl h)
      · exact .inr (hP a h).1
      · exact .inl (.inr (.inl h))
      · exact x.n2 a (.inr h)
    · rcases h with h | h
      · exact .inl (.inl h)
      · rcases x.m2 a h with h | h
        · exact .inl (.inr h)
        · exact .inr h
  refine ⟨X, ⟨S.len, S.ext.trans X, fun i d h => ?_, fun i d h => ?_, S.owi, S.inj, fun n ds h => (cells n ds h).le le, inj, fun n i hn e => ?_, fun a h => ?_, fun i a e h => ?_⟩, le⟩
  · obtain ⟨v, e, r⟩ := S.pl i d h
    exact ⟨v, e, r.ext X (W.sub _)⟩
  · obtain ⟨a, e, e2, c⟩ := S.ow i d h
    exact ⟨a, e, e2, c.ext X (W.sub _) fun o q => x.keep a o (nomx i a e) q⟩
  · have e' : W.own i = some (ob' n) := e
    obtain ⟨d, hd⟩ := S.owi i _ e'
    obtain ⟨b, hb, _, c⟩ := S.ow i d hd
    rw [e'] at hb; cases hb
    rcases x.m2 (ob' n) ⟨n, hn, rfl⟩ with z | z
    · exact nomx i _ e' z
    · obtain ⟨o, ho⟩ := c.dom
      rw [z] at ho; cases ho
  · rcases h with h | h
    · obtain ⟨o, e⟩ := S.n0 a h
      exact x.dm a o e
    · exact (hP a h).2
  · rcases h with h | h
    · exact S.o0 i a e h
    · obtain ⟨d, hd⟩ := S.owi i _ e
      obtain ⟨b, hb, _, c⟩ := S.ow i d hd
      have e' : W.own i = some a := e
      rw [e'] at hb; cases hb
      obtain ⟨o, ho⟩ := c.dom
      rw [(hP a h).1] at ho; cases ho
end
/-- the call of a def by its function -/
def eFn (F : Fd) (fs : Co (List D)) : Co D := Co.bind fs fun ds m => match F ds m.obs with
  | some (r, obs') => .ok r { m with obs := obs' }
  | none => .no
theorem eFn_ok {F : Fd} {fs : Co (List D)} {m m' : M} {d : D} (h : eFn F fs m = .ok d m') : ∃ ds m1 obs', fs m = .ok ds m1 ∧ F ds m1.obs = some (d, obs') ∧ m' = { m1 with obs := obs' } := by
  obtain ⟨ds, m1, e1, h⟩ := Co.bind_ok h
  cases e2 : F ds m1.obs with
  | none => rw [e2] at h; cases h
  | some p =>
    obtain ⟨r, obs'⟩ := p
    rw [e2] at h
    cases h
    exact ⟨ds, m1, obs', e1, e2, rfl⟩
/-- a def that stands in the module, by its function -/
structure Has (P : Program) (w : World) (K : PySem.W.Frag) (mg : Str → Option Value) (base : Heap) (k : Nat) (x : Str) (F : Fd) (fr : Bool) : Prop where
  ex : ∃ (f : Addr) (fd : FuncData) (ps : List Str), mg x = some (.ref f) ∧ PySem.W.keepIn K (.ref f) = true ∧ FnOk P w K mg base CX0 k f fd ps (spD K mg F fr) ∧ Binds K fd ps []
section
variable {X : Cx} {e : Expr} {es : List Expr} {x : Str} {p pos : Pos} {fs : Co (List D)} {k k' np : Nat} {F : Fd}
theorem call_end {fr : Bool} {W : Wd} {σ : L2.St} {H H' : Hp} {m : M} {r : D} {obs' : List (List D)} {v : V} {ob' : Nat → Addr} (S : Sit X.K X.mg W σ H m) (c : CEnd X.K X.mg (W.cal m.obs.length) H r obs' fr v ob' H') :
    match fr with
    | false => After X.K X.mg W σ H m ob' H' { m with obs := obs' } ∧ Rep X.K X.mg ({ W with ob := ob' }.ev obs'.length) H' v r
    | true => ∃ a, v = .ref a ∧ H a = none ∧ Ext (W.ev m.obs.length) H ({ W with ob := ob' }.ev obs'.length) H' ∧ ¬ ({ W with ob := ob' }.ev obs'.length).N a ∧ Sit X.K X.mg ({ W with ob := ob' }.add a) σ H' { m with obs := obs' } ∧
        Cell X.K X.mg (({ W with ob := ob' }.add a).ev obs'.length) H' a r := by
  obtain ⟨x, inj, c⟩ := c
  cases fr with
  | false =>
    obtain ⟨cells, rv⟩ := c
    have le0 : ((W.cal m.obs.length).grow ob' obs'.length).Le (((W.cal m.obs.length).grow ob' obs'.length).addN fun _ => False) := ⟨Nat.le_refl _, fun _ _ => rfl, fun a h => h.elim id False.elim⟩
    obtain ⟨X', S', le⟩ := S.called (P := fun _ => False) x inj (fun _ h => h.elim) fun n ds h => (cells n ds h).le le0
    have e : ({ W with ob := ob', N0 := fun b => W.N0 b ∨ False } : Wd) = { W with ob := ob' } := by simp
    rw [e] at X' S' le
    exact ⟨⟨X', S'⟩, (rv.le le0).le le⟩
  | true =>
    obtain ⟨a, rfl, hn, nN, cells, cc⟩ := c
    have hd : ∃ o, H' a = some o := cc.dom
    obtain ⟨X', S', le⟩ := S.called (P := (· = a)) x inj (fun b h => by cases h; exact ⟨hn, hd⟩) cells
    refine ⟨a, rfl, hn, ⟨X'.no, X'.ob, fun b h => X'.n2 b (h.elim (fun h => .inl (.inl h)) .inr), X'.m2, X'.dm, X'.keep, X'.tup, X'.frz⟩, fun z => nN ?_, S', cc.le le⟩
    rcases z with z | z | z
    · exact .inl (.inl z)
    · exact .inl (.inr (.inl z))
    · exact .inr z
theorem ee_fn (h : Has X.prog X.w X.K X.mg X.base k x F false) (hr : Room k' X.A) (ha : EA X (e :: es) fs) (hk : k ≤ k' := by decide) (hg : Gl X x := by rfl) (hdb : (x == ("__debug__" : Str)) = false := by decide)
    (he : starEach (e :: es) X.env = (false, eval e X.env) :: starEach es X.env := by rfl) (hpl : (backTo pos (starEach es X.env)).any (·.1) = false := by rfl) :
    EE X (.Call (.Name x p) (e :: es) [] pos) (eFn F fs) := by
  obtain ⟨f, fd, ps, hm, kp, G, b⟩ := h.ex
  refine PE.imp (pe_call G (hr.mono hk) hg hm kp b .nil pass0 ha hdb he hpl) fun σ H Q ⟨W, m, S, d, m', hf, q⟩ => ?_
  obtain ⟨ds, m1, obs', e1, e2, rfl⟩ := eFn_ok hf
  refine ⟨W, m, S, ds, m1, e1, fun vs ob1 H1 A1 rs => ?_⟩
  show spD X.K X.mg F false (vs ++ []) H1 Q E0
  rw [List.append_nil]
  refine ⟨_, m1.obs, ds, d, obs', A1.2.ent, rs.le (Ev.le_mx _ _), e2, fun v ob' H' c => ?_⟩
  obtain ⟨A2, r2⟩ := call_end A1.2 c
  exact q v ob' H' (A1.trans A2) r2
theorem ef_fn (h : Has X.prog X.w X.K X.mg X.base k x F true) (hr : Room k' X.A) (ha : EA X (e :: es) fs) (hk : k ≤ k' := by decide) (hg : Gl X x := by rfl) (hdb : (x == ("__debug__" : Str)) = false := by decide)
    (he : starEach (e :: es) X.env = (false, eval e X.env) :: starEach es X.env := by rfl) (hpl : (backTo pos (starEach es X.env)).any (·.1) = false := by rfl) :
    EF X (.Call (.Name x p) (e :: es) [] pos) (eFn F fs) := by
  obtain ⟨f, fd, ps, hm, kp, G, b⟩ := h.ex
  refine PE.imp (pe_call G (hr.mono hk) hg hm kp b .nil pass0 ha hdb he hpl) fun σ H Q ⟨W, m, S, d, m', hf, q⟩ => ?_
  obtain ⟨ds, m1, obs', e1, e2, rfl⟩ := eFn_ok hf
  refine ⟨W, m, S, ds, m1, e1, fun vs ob1 H1 A1 rs => ?_⟩
  show spD X.K X.mg F true (vs ++ []) H1 Q E0
  rw [List.append_nil]
  refine ⟨_, m1.obs, ds, d, obs', A1.2.ent, rs.le (Ev.le_mx _ _), e2, fun v ob' H' c => ?_⟩
  obtain ⟨a, rfl, hn, x, nN, S', cc⟩ := call_end A1.2 c
  exact q a ob' H' (A1.1.nn hn) (A1.1.trans x) nN S' cc
end

/-! ### a def by its body -/
/-- the function of a body: nl names, np parameters -/
def runF (nl np : Nat) (body : Co Flow') (fr : Bool) : Fd := fun ds obs =>
  if ds.length = np then match body ⟨ds.map Slot.pl ++ List.replicate (nl - np) .un, obs⟩ with
    | .ok fl m' => match fl, fr with
      | .nx, false => some (.non, m'.obs)
      | .rt d, false => some (d, m'.obs)
      | .rf d, true => some (d, m'.obs)
      | _, _ => none
    | .no => none
  else none
section
variable {P : Program} {w : World} {K : PySem.W.Frag} {mg : Str → Option Value} {base : Heap}
theorem start_pl {E : Ev} {H : Hp} {N : List Str} {vs : List V} {ds : List D} (r : RepL K mg E H vs ds) {i : Nat} {d : D} (h : (ds.map Slot.pl ++ List.replicate (N.length - ds.length) Slot.un)[i]? = some (Slot.pl d)) :
    ∃ v, (L2.start N vs)[i]? = some (some v) ∧ Rep K mg E H v d := by
  by_cases hi : i < ds.length
  · rw [List.getElem?_append_left (by simpa using hi), List.getElem?_map] at h
    cases e : ds[i]? with
    | none => rw [e] at h; cases h
    | some d' =>
      rw [e] at h
      cases h
      obtain ⟨v, h1, h2⟩ := r.get' e
      refine ⟨v, ?_, h2⟩
      unfold L2.start
      rw [List.getElem?_append_left (by rw [List.length_map, r.length]; exact hi), List.getElem?_map, h1]
      rfl
  · rw [List.getElem?_append_right (by simpa using hi), List.getElem?_replicate] at h
    split at h <;> cases h
theorem start_ow {N : List Str} {ds : List D} {i : Nat} {d : D} (h : (ds.map Slot.pl ++ List.replicate (N.length - ds.length) Slot.un)[i]? = some (Slot.ow d)) : False := by
  by_cases hi : i < ds.length
  · rw [List.getElem?_append_left (by simpa using hi), List.getElem?_map] at h
    cases e : ds[i]? <;> rw [e] at h <;> cases h
  · rw [List.getElem?_append_right (by simpa using hi), List.getElem?_replicate] at h
    split at h <;> cases h
theorem Ent.sit {E : Ev} {H : Hp} {obs : List (List D)} {N : List Str} {vs : List V} {ds : List D} (n : Ent K mg E H obs) (r : RepL K mg E H vs ds) (hl : ds.length ≤ N.length) :
    Sit K mg ⟨E.N, E, H, fun _ => none, E.ob⟩ (L2.start N vs) H ⟨ds.map Slot.pl ++ List.replicate (N.length - ds.length) .un, obs⟩ := by
  have le : E.Le (Wd.ev ⟨E.N, E, H, fun _ => none, E.ob⟩ obs.length) := by
    refine ⟨Nat.le_of_eq n.no, fun _ _ => rfl, fun a h => ?_⟩
    rcases h with h | ⟨i, h⟩ | ⟨k, h, e⟩
    · exact h
    · cases h
    · rw [← n.no] at h
      exact e ▸ n.obN k h
  refine ⟨?_, ⟨Nat.le_of_eq n.no, fun _ _ => rfl, fun a h => .inl (le.n a h), fun a h => ?_, fun _ o h => ⟨o, h⟩, fun _ _ _ h => h, fun _ _ h => h, fun _ _ _ h => h⟩, fun i d h => ?_, fun i d h => (start_ow h).elim, fun i a h => (nomatch h), fun i j a h => (nomatch h), fun k es h => ?_, fun i j h1 h2 => ?_, fun _ _ _ h => (nomatch h), n.dom, fun _ _ h => (nomatch h)⟩
  · unfold L2.start
    rw [List.length_append, List.length_append, List.length_map, List.length_map, List.length_replicate, List.length_replicate, r.length]
  · rcases h with ⟨i, h⟩ | ⟨k, h, e⟩
    · cases h
    · have h' : k < obs.length := h
      rw [← n.no] at h'
      exact .inl (e ▸ n.obM k h')
  · obtain ⟨v, h1, h2⟩ := start_pl r h
    exact ⟨v, h1, h2.le le⟩
  · exact (n.cells k es h).le le
  · have h1' : i < obs.length := h1
    have h2' : j < obs.length := h2
    rw [← n.no] at h1' h2'
    exact n.inj i j h1' h2'
/-- the context of a def's body -/
abbrev BX (P : Program) (w : World) (K : PySem.W.Frag) (mg : Str → Option Value) (base : Heap) (N : List Str) (qual : Str) (st : Stmt) (f : Addr) (cdv : Value) (A : Around) (outer : List Env) (s : Shared) (H : Hp) (E : XK) : Cx :=
  (cxOf CX0 P w K mg base N qual (defScope st) f cdv A outer s H E).nox
theorem fn_ok {x qual : Str} {st : Stmt} {f : Addr} {fd : FuncData} {N ps : List Str} {k : Nat} {body : Co Flow'} {fr : Bool} (F : Fun K x qual st f fd) (S : FnScope N ps (defScope st))
    (hb : ∀ (cdv : Value) (A : Around) (outer : List Env) (s : Shared) (H : Hp) (E : XK), Room k (A.deeper (envOfC qual (defScope st) s.heap.objs.size f cdv)) → SSs (BX P w K mg base N qual st f cdv A outer s H E) (defBody st) body) :
    FnOk P w K mg base CX0 (k + 1) f fd ps (spD K mg (runF N.length ps.length body fr) fr) := by
  have hpl : ps.length ≤ N.length := by have := congrArg List.length S.pre; rw [List.length_take] at this; omega
  refine F.ok S (fun vs H Q E h => ?_) (fun cdv A outer s H vs Q E hr h => ?_)
  · obtain ⟨Ev, obs, ds, r, obs', n, rl, hf, _⟩ := h
    unfold runF at hf
    split at hf
    · rename_i hl
      rw [rl.length]; exact hl
    · cases hf
  · obtain ⟨Ev, obs, ds, r, obs', n, rl, hf, q⟩ := h
    unfold runF at hf
    by_cases hl : ds.length = ps.length
    · rw [if_pos hl] at hf
      refine ⟨_, hb cdv A outer s H E hr, ?_⟩
      have S0 := n.sit (N := N) rl (by omega)
      rw [hl] at S0
      cases eb : body ⟨ds.map Slot.pl ++ List.replicate (N.length - ps.length) .un, obs⟩ with
      | no => rw [eb] at hf; cases hf
      | ok fl m' =>
        rw [eb] at hf
        refine ⟨_, _, S0, fl, m', eb, ?_⟩
        -- what the callee's end is to the caller
        have fin : ∀ {W' : Wd} {σ' : L2.St} {H' : Hp} {v : V} {d : D}, Lat ⟨Ev.N, Ev, H, fun _ => none, Ev.ob⟩ W' → Sit K mg W' σ' H' m' → Rep K mg (W'.ev m'.obs.length) H' v d → CEnd K mg Ev H d m'.obs false v W'.ob H' := by
          rintro W' σ' H' v d ⟨e1, e2, e3⟩ S' rv
          have le : (W'.ev m'.obs.length).Le (Ev.grow W'.ob m'.obs.length) := by
            refine ⟨Nat.le_refl _, fun _ _ => rfl, fun a h => ?_⟩
            rcases h with h | h
            · exact .inl (e1 ▸ h)
            · exact .inr (.inr h)
          refine ⟨?_, S'.obi, fun i ds h => (S'.ob i ds h).le le, rv.le le⟩
          have x := S'.ext
          rw [e2, e3] at x
          exact ⟨x.no, x.ob, fun a h => x.n2 a (le.n a h), fun a h => x.m2 a (.inr h), x.dm, x.keep, x.tup, x.frz⟩
        cases fl with
        | nx =>
          cases fr with
          | true => cases hf
          | false =>
            cases hf
            exact fun W' σ' H' la S' => q _ W'.ob H' (fin la S' .non)
        | bk => cases fr <;> cases hf
        | ct => cases fr <;> cases hf
        | rt d =>
          cases fr with
          | true => cases hf
          | false =>
            cases hf
            exact fun W' σ' H' v la S' rv => q v W'.ob H' (fin la S' rv)
        | rf d =>
          cases fr with
          | false => cases hf
          | true =>
            cases hf
            rintro W' σ' H' a ⟨e1, e2, e3⟩ nN h0 S' c
            have hn : H a = none := by
              rcases h0 with h0 | h0
              · rw [e2] at h0
                obtain ⟨i, hi, rfl⟩ := n.mx a h0
                exfalso
                refine nN (.inr (.inr ⟨i, ?_, ?_⟩))
                · have := S'.ext.no
                  rw [e2] at this
                  exact Nat.lt_of_lt_of_le hi this
                · have := S'.ext.ob i (by rw [e2]; exact hi)
                  rw [e2] at this
                  exact this
              · rw [e3] at h0; exact h0
            have le : ((W'.add a).ev m'.obs.length).Le ((Ev.grow W'.ob m'.obs.length).addN (· = a)) := by
              refine ⟨Nat.le_refl _, fun _ _ => rfl, fun b h => ?_⟩
              rcases h with (h | h) | h
              · exact .inl (.inl (e1 ▸ h))
              · exact .inr (.inr h)
              · exact .inl (.inr h)
            refine q _ W'.ob H' ⟨?_, S'.obi, a, rfl, hn, fun z => nN ?_, fun i ds h => (S'.ob i ds h).le le, c.le le⟩
            · have x := S'.ext
              have x' : Ext W'.E0 W'.H0 ((W'.add a).ev m'.obs.length) H' := x
              rw [e2, e3] at x'
              exact ⟨x'.no, x'.ob, fun b h => x'.n2 b (h.elim (fun h => .inl (.inl (e1 ▸ h))) fun h => .inr (.inr h)), fun b h => x'.m2 b (.inr h), x'.dm, x'.keep, x'.tup, x'.frz⟩
            · rcases z with z | z
              · exact .inl (e1 ▸ z)
              · exact .inr (.inr z)
    · rw [if_neg hl] at hf; cases hf
end
end PD
namespace PD
open PySem PySem.Spec PyProof.Rows L2

/-! ### names are stored -/
section
variable {K : PySem.W.Frag} {mg : Str → Option Value} {W W' W'' : Wd} {σ : L2.St} {H H' : Hp} {m : M}
theorem Lat.refl (W : Wd) : Lat W W := ⟨rfl, rfl, rfl⟩
theorem Lat.trans (a : Lat W W') (b : Lat W' W'') : Lat W W'' := ⟨b.1.trans a.1, b.2.1.trans a.2.1, b.2.2.trans a.2.2⟩
/-- fewer forbidden, the same objects -/
theorem Ext.sub {E0 E E' : Ev} {H0 : Hp} (x : Ext E0 H0 E H) (no : E'.no = E.no) (ob : E'.ob = E.ob) (n : ∀ a, E'.N a → E.N a ∨ H0 a = none) (mx : ∀ a, E'.Mx a → E.Mx a ∨ H0 a = none) : Ext E0 H0 E' H :=
  ⟨by rw [no]; exact x.no, fun i h => by rw [ob]; exact x.ob i h, fun a h => (n a h).elim (x.n2 a) .inr, fun a h => (mx a h).elim (x.m2 a) .inr, x.dm, x.keep, x.tup, x.frz⟩
abbrev Wd.drop (W : Wd) (i : Nat) : Wd := { W with own := fun j => if j = i then none else W.own j }
theorem drop_own {i j : Nat} {a : Addr} (h : (W.drop i).own j = some a) : W.own j = some a ∧ j ≠ i := by
  have h' : (if j = i then none else W.own j) = some a := h
  split at h'
  · cases h'
  · rename_i n; exact ⟨h', n⟩
theorem Wd.drop_le (W : Wd) (i no : Nat) : (W.ev no).Le ((W.drop i).ev no) := ⟨Nat.le_refl _, fun _ _ => rfl, fun a h => by
  rcases h with h | ⟨j, h⟩ | h
  · exact .inl h
  · exact .inr (.inl ⟨j, (drop_own h).1⟩)
  · exact .inr (.inr h)⟩
theorem Sit.setPl {i : Nat} {v : V} {d : D} (S : Sit K mg W σ H m) (r : Rep K mg (W.ev m.obs.length) H v d) : Sit K mg (W.drop i) (σ.set i (some v)) H { m with env := m.env.set i (.pl d) } := by
  have le := W.drop_le i m.obs.length
  refine ⟨by simpa using S.len, S.ext.sub rfl rfl (fun a h => .inl (le.n a h)) (fun a h => .inl ?_), fun j e h => ?_, fun j e h => ?_, fun j a h => ?_, fun j k a h1 h2 => S.inj j k a (drop_own h1).1 (drop_own h2).1, fun n ds h => (S.ob n ds h).le le, S.obi, fun n j h e => S.obo n j h (drop_own e).1, S.n0, fun j a h => S.o0 j a (drop_own h).1⟩
  · rcases h with ⟨j, h⟩ | h
    · exact .inl ⟨j, (drop_own h).1⟩
    · exact .inr h
  · by_cases hj : i = j
    · subst hj
      have hl : i < m.env.length := by
        have := (List.getElem?_eq_some_iff.mp h).1
        simpa using this
      rw [List.getElem?_set_self hl] at h
      cases h
      exact ⟨v, by rw [List.getElem?_set_self (by rw [S.len]; exact hl)], r.le le⟩
    · rw [List.getElem?_set_ne hj] at h
      obtain ⟨u, e1, r1⟩ := S.pl j e h
      exact ⟨u, by rw [List.getElem?_set_ne hj]; exact e1, r1.le le⟩
  · by_cases hj : i = j
    · subst hj
      have hl : i < m.env.length := by
        have := (List.getElem?_eq_some_iff.mp h).1
        simpa using this
      rw [List.getElem?_set_self hl] at h
      cases h
    · rw [List.getElem?_set_ne hj] at h
      obtain ⟨a, e1, e2, c⟩ := S.ow j e h
      refine ⟨a, ?_, by rw [List.getElem?_set_ne hj]; exact e2, c.le le⟩
      show (if j = i then none else W.own j) = some a
      rw [if_neg (Ne.symm hj)]
      exact e1
  · obtain ⟨h1, h2⟩ := drop_own h
    obtain ⟨d, hd⟩ := S.owi j a h1
    exact ⟨d, by rw [List.getElem?_set_ne (Ne.symm h2)]; exact hd⟩
abbrev Wd.put (W : Wd) (i : Nat) (a : Addr) (N0 : Addr → Prop) : Wd := { W with N0 := N0, own := fun j => if j = i then some a else W.own j }
theorem put_own {i j : Nat} {a b : Addr} {N0 : Addr → Prop} (h : (W.put i a N0).own j = some b) : (j = i ∧ b = a) ∨ (W.own j = some b ∧ j ≠ i) := by
  have h' : (if j = i then some a else W.own j) = some b := h
  split at h'
  · rename_i e; cases h'; exact .inl ⟨e, rfl⟩
  · rename_i n; exact .inr ⟨h', n⟩
/-- a cell that stood forbidden becomes the name's own -/
theorem Sit.setOw {i : Nat} {a : Addr} {d : D} {N0 : Addr → Prop} (S : Sit K mg W σ H m) (hi : i < m.env.length) (c : Cell K mg (W.ev m.obs.length) H a d) (ha : W.N0 a) (h0 : W.E0.Mx a ∨ W.H0 a = none)
    (hob : ∀ n, n < m.obs.length → W.ob n ≠ a) (h1 : ∀ b, N0 b → W.N0 b) (h2 : ¬ N0 a) : Sit K mg (W.put i a N0) (σ.set i (some (.ref a))) H { m with env := m.env.set i (.ow d) } := by
  have le : (W.ev m.obs.length).Le ((W.put i a N0).ev m.obs.length) := ⟨Nat.le_refl _, fun _ _ => rfl, fun b h => by
    rcases h with h | ⟨j, h⟩ | h
    · exact .inl (h1 b h)
    · rcases put_own h with ⟨_, rfl⟩ | ⟨h, _⟩
      · exact .inl ha
      · exact .inr (.inl ⟨j, h⟩)
    · exact .inr (.inr h)⟩
  have na : ∀ j b, W.own j = some b → b ≠ a := fun j b h e => S.o0 j b h (e ▸ ha)
  refine ⟨by simpa using S.len, ?_, fun j e h => ?_, fun j e h => ?_, fun j b h => ?_, fun j k b e1 e2 => ?_, fun n ds h => (S.ob n ds h).le le, S.obi, fun n j h e => ?_, fun b h => S.n0 b (h1 b h), fun j b h => ?_⟩
  · have x := S.ext
    refine ⟨x.no, x.ob, fun b h => x.n2 b (le.n b h), fun b h => ?_, x.dm, x.keep, x.tup, x.frz⟩
    rcases h with ⟨j, h⟩ | h
    · rcases put_own h with ⟨_, rfl⟩ | ⟨h, _⟩
      · exact h0
      · exact x.m2 b (.inl ⟨j, h⟩)
    · exact x.m2 b (.inr h)
  · by_cases hj : i = j
    · subst hj
      rw [List.getElem?_set_self hi] at h
      cases h
    · rw [List.getElem?_set_ne hj] at h
      obtain ⟨u, e1, r1⟩ := S.pl j e h
      exact ⟨u, by rw [List.getElem?_set_ne hj]; exact e1, r1.le le⟩
  · by_cases hj : i = j
    · subst hj
      rw [List.getElem?_set_self hi] at h
      cases h
      refine ⟨a, if_pos rfl, by rw [List.getElem?_set_self (by rw [S.len]; exact hi)], c.le le⟩
    · rw [List.getElem?_set_ne hj] at h
      obtain ⟨b, e1, e2, c⟩ := S.ow j e h
      refine ⟨b, ?_, by rw [List.getElem?_set_ne hj]; exact e2, c.le le⟩
      show (if j = i then some a else W.own j) = some b
      rw [if_neg (Ne.symm hj)]
      exact e1
  · rcases put_own h with ⟨rfl, _⟩ | ⟨h, n⟩
    · exact ⟨d, by rw [List.getElem?_set_self hi]⟩
    · obtain ⟨d, hd⟩ := S.owi j b h
      exact ⟨d, by rw [List.getElem?_set_ne (Ne.symm n)]; exact hd⟩
  · rcases put_own e1 with ⟨rfl, rfl⟩ | ⟨e1, n1⟩
    · rcases put_own e2 with ⟨rfl, _⟩ | ⟨e2, n2⟩
      · rfl
      · exact absurd rfl (na k b e2)
    · rcases put_own e2 with ⟨_, e2⟩ | ⟨e2, n2⟩
      · exact absurd e2 (na j b e1)
      · exact S.inj j k b e1 e2
  · rcases put_own e with ⟨_, e⟩ | ⟨e, _⟩
    · exact hob n h e
    · exact S.obo n j h e
  · rcases put_own h with ⟨_, rfl⟩ | ⟨h, _⟩
    · exact h2
    · exact fun z => S.o0 j b h (h1 b z)
/-- a name's own cell is let go: from now on it is data -/
theorem Sit.freeze {i : Nat} {d : D} (S : Sit K mg W σ H m) (h : m.env[i]? = some (Slot.ow d)) : Sit K mg (W.drop i) σ H { m with env := m.env.set i (.pl d) } := by
  obtain ⟨a, e1, e2, c⟩ := S.ow i d h
  have hl : i < m.env.length := (List.getElem?_eq_some_iff.mp h).1
  have le := W.drop_le i m.obs.length
  have nN : ¬ ((W.drop i).ev m.obs.length).N a := fun z => by
    rcases z with z | ⟨j, z⟩ | ⟨n, hn, z⟩
    · exact S.o0 i a e1 z
    · obtain ⟨z, n⟩ := drop_own z
      exact n (S.inj j i a z e1)
    · exact S.obo n i hn (by rw [show W.ob n = a from z]; exact e1)
  refine ⟨by simpa using S.len, S.ext.sub rfl rfl (fun a h => .inl (le.n a h)) (fun a h => .inl ?_), fun j e h => ?_, fun j e h => ?_, fun j a h => ?_, fun j k a h1 h2 => S.inj j k a (drop_own h1).1 (drop_own h2).1, fun n ds h => (S.ob n ds h).le le, S.obi, fun n j h e => S.obo n j h (drop_own e).1, S.n0, fun j a h => S.o0 j a (drop_own h).1⟩
  · rcases h with ⟨j, h⟩ | h
    · exact .inl ⟨j, (drop_own h).1⟩
    · exact .inr h
  · by_cases hj : i = j
    · subst hj
      rw [List.getElem?_set_self hl] at h
      cases h
      exact ⟨_, e2, Cell.rep nN (c.le le)⟩
    · rw [List.getElem?_set_ne hj] at h
      obtain ⟨u, e1, r1⟩ := S.pl j e h
      exact ⟨u, e1, r1.le le⟩
  · by_cases hj : i = j
    · subst hj
      rw [List.getElem?_set_self hl] at h
      cases h
    · rw [List.getElem?_set_ne hj] at h
      obtain ⟨a, e1, e2, c⟩ := S.ow j e h
      refine ⟨a, ?_, e2, c.le le⟩
      show (if j = i then none else W.own j) = some a
      rw [if_neg (Ne.symm hj)]
      exact e1
  · obtain ⟨h1, h2⟩ := drop_own h
    obtain ⟨d, hd⟩ := S.owi j a h1
    exact ⟨d, by rw [List.getElem?_set_ne (Ne.symm h2)]; exact hd⟩
/-- the content of a cell of one's own changes -/
theorem Ext.upd {E : Ev} {a : Addr} {o u : HO} (ha : H a = some u) (hm : E.Mx a) (ht : ∀ xs, H a ≠ some (.tup xs)) (hf : ∀ o u, H a ≠ some (.frz o u)) : Ext E H E (L2.upd H a o) :=
  ⟨Nat.le_refl _, fun _ _ => rfl, fun _ h => .inl h, fun _ h => .inl h, fun b w h => by
    by_cases e : b = a
    · exact ⟨o, by rw [e, upd_same]⟩
    · exact ⟨w, by rw [upd_ne e]; exact h⟩, fun b w n h => by rw [upd_ne (show b ≠ a from fun e => n (by rw [e]; exact hm))]; exact h, fun b xs h => by rw [upd_ne (show b ≠ a from fun e => ht xs (by rw [← e]; exact h))]; exact h, fun b w x h => by rw [upd_ne (show b ≠ a from fun e => hf w x (by rw [← e]; exact h))]; exact h⟩
theorem Sit.updOw {i : Nat} {d d' : D} {o : HO} (S : Sit K mg W σ H m) (h : m.env[i]? = some (Slot.ow d)) {a : Addr} (ea : W.own i = some a)
    (c : Ext (W.ev m.obs.length) H (W.ev m.obs.length) (L2.upd H a o) → Cell K mg (W.ev m.obs.length) (L2.upd H a o) a d') : Ext (W.ev m.obs.length) H (W.ev m.obs.length) (L2.upd H a o) ∧ Sit K mg W σ (L2.upd H a o) { m with env := m.env.set i (.ow d') } := by
  obtain ⟨b, e1, e2, c0⟩ := S.ow i d h
  rw [ea] at e1; cases e1
  have hl : i < m.env.length := (List.getElem?_eq_some_iff.mp h).1
  obtain ⟨u, hu⟩ := c0.dom
  have x : Ext (W.ev m.obs.length) H (W.ev m.obs.length) (L2.upd H a o) := .upd hu (.inl ⟨i, ea⟩) c0.mut.1 c0.mut.2
  have keep : ∀ b w, b ≠ a → H b = some w → L2.upd H a o b = some w := fun b w n h => by rw [upd_ne n]; exact h
  refine ⟨x, by simpa using S.len, S.ext.trans x, fun j e h => ?_, fun j e h => ?_, fun j b h => ?_, S.inj, fun n ds h => ?_, S.obi, S.obo, fun b h => ?_, S.o0⟩
  · by_cases hj : i = j
    · subst hj
      rw [List.getElem?_set_self hl] at h
      cases h
    · rw [List.getElem?_set_ne hj] at h
      obtain ⟨v, e, r⟩ := S.pl j e h
      exact ⟨v, e, r.ext x (W.sub _)⟩
  · by_cases hj : i = j
    · subst hj
      rw [List.getElem?_set_self hl] at h
      cases h
      exact ⟨a, ea, e2, c x⟩
    · rw [List.getElem?_set_ne hj] at h
      obtain ⟨b, e1, e2, c⟩ := S.ow j e h
      refine ⟨b, e1, e2, c.ext x (W.sub _) fun w q => keep b w (fun e => hj ?_) q⟩
      subst e
      exact S.inj i j b ea e1
  · obtain ⟨e, he⟩ := S.owi j b h
    by_cases hj : i = j
    · subst hj
      exact ⟨d', by rw [List.getElem?_set_self hl]⟩
    · exact ⟨e, by rw [List.getElem?_set_ne hj]; exact he⟩
  · have hn : n < m.obs.length := (List.getElem?_eq_some_iff.mp h).1
    exact (S.ob n ds h).ext x (W.sub _) fun w q => keep _ w (fun e => S.obo n i hn (by rw [e]; exact ea)) q
  · obtain ⟨w, e⟩ := S.n0 b h
    exact x.dm b w e
theorem Sit.updOb {n : Nat} {ds ds' : List D} {vs : List V} (S : Sit K mg W σ H m) (h : m.obs[n]? = some ds) (r : RepL K mg (W.ev m.obs.length) H vs ds') :
    Ext (W.ev m.obs.length) H (W.ev m.obs.length) (L2.upd H (W.ob n) (.lst vs)) ∧ Sit K mg W σ (L2.upd H (W.ob n) (.lst vs)) { m with obs := m.obs.set n ds' } := by
  have c0 := S.ob n ds h
  have hn : n < m.obs.length := (List.getElem?_eq_some_iff.mp h).1
  obtain ⟨u, hu⟩ := c0.dom
  have x : Ext (W.ev m.obs.length) H (W.ev m.obs.length) (L2.upd H (W.ob n) (.lst vs)) := .upd hu (.inr ⟨n, hn, rfl⟩) c0.mut.1 c0.mut.2
  have keep : ∀ b w, b ≠ W.ob n → H b = some w → L2.upd H (W.ob n) (.lst vs) b = some w := fun b w n h => by rw [upd_ne n]; exact h
  have el : (m.obs.set n ds').length = m.obs.length := List.length_set
  refine ⟨x, S.len, ?_, fun j e h => ?_, fun j e h => ?_, S.owi, S.inj, fun k es h => ?_, ?_, ?_, fun b h => ?_, S.o0⟩
  · show Ext W.E0 W.H0 (W.ev (m.obs.set n ds').length) _
    rw [el]
    exact S.ext.trans x
  · show ∃ v, _ ∧ Rep K mg (W.ev (m.obs.set n ds').length) _ v e
    rw [el]
    obtain ⟨v, e, r⟩ := S.pl j e h
    exact ⟨v, e, r.ext x (W.sub _)⟩
  · show ∃ a, _ ∧ _ ∧ Cell K mg (W.ev (m.obs.set n ds').length) _ a e
    rw [el]
    obtain ⟨b, e1, e2, c⟩ := S.ow j e h
    exact ⟨b, e1, e2, c.ext x (W.sub _) fun w q => keep b w (fun e => S.obo n j hn (by rw [← e]; exact e1)) q⟩
  · show Cell K mg (W.ev (m.obs.set n ds').length) _ _ _
    rw [el]
    have h' : (m.obs.set n ds')[k]? = some es := h
    by_cases hk : n = k
    · subst hk
      rw [List.getElem?_set_self hn] at h'
      cases h'
      exact ⟨vs, upd_same, r.ext x (W.sub _)⟩
    · rw [List.getElem?_set_ne hk] at h'
      have hk2 : k < m.obs.length := (List.getElem?_eq_some_iff.mp h').1
      exact (S.ob k es h').ext x (W.sub _) fun w q => keep _ w (fun e => hk (S.obi n k hn hk2 e.symm)) q
  · show ∀ i k, i < (m.obs.set n ds').length → k < (m.obs.set n ds').length → _
    rw [el]
    exact S.obi
  · show ∀ i k, i < (m.obs.set n ds').length → _
    rw [el]
    exact S.obo
  · obtain ⟨w, e⟩ := S.n0 b h
    exact x.dm b w e
end

/-! ### statements -/
def sSeq (f g : Co Flow') : Co Flow' := Co.bind f fun fl => match fl with
  | .nx => g
  | fl => Co.ret fl
def sNext : Co Flow' := Co.ret .nx
section
variable {X : Cx} {st : Stmt} {rest : List Stmt} {f g : Co Flow'} {e c : Expr} {pos : Pos} {fe : Co D} {ft : Co Bool}
theorem rdS_seq {D : Ends} {σ : L2.St} {H : Hp} (h : rdS X.K X.mg (sSeq f g) D σ H) : rdS X.K X.mg f { D with nx := rdS X.K X.mg g D } σ H := by
  obtain ⟨W, m, S, fl, m', hf, q⟩ := h
  obtain ⟨fl1, m1, e1, e2⟩ := Co.bind_ok hf
  refine ⟨W, m, S, fl1, m1, e1, ?_⟩
  cases fl1 with
  | nx =>
    refine fun W' σ' H' la S' => ⟨W', m1, S', fl, m', e2, ?_⟩
    cases fl with
    | nx => exact fun W2 σ2 H2 l2 S2 => q W2 σ2 H2 (la.trans l2) S2
    | bk => exact fun W2 σ2 H2 l2 S2 => q W2 σ2 H2 (la.trans l2) S2
    | ct => exact fun W2 σ2 H2 l2 S2 => q W2 σ2 H2 (la.trans l2) S2
    | rt d => exact fun W2 σ2 H2 v l2 S2 r2 => q W2 σ2 H2 v (la.trans l2) S2 r2
    | rf d => exact fun W2 σ2 H2 a l2 n2 h2 S2 c2 => q W2 σ2 H2 a (la.trans l2) n2 h2 S2 c2
  | bk => cases e2; exact q
  | ct => cases e2; exact q
  | rt d => cases e2; exact q
  | rf d => cases e2; exact q
theorem ss_nil : SSs X [] sNext := PSs.imp pss_nil fun D σ H ⟨W, m, S, fl, m', hf, q⟩ => by
  cases hf
  exact q W σ H (Lat.refl W) S
theorem ss_cons (h1 : SS X st f) (h2 : SSs X rest g) : SSs X (st :: rest) (sSeq f g) := PSs.imp (pss_cons h1 h2) fun D σ H h => rdS_seq h
theorem ss_one (h1 : SS X st f) : SSs X [st] f := pss_one h1
def sIf (t : Co Bool) (f g : Co Flow') : Co Flow' := Co.bind t fun c => if c = true then f else g
theorem rdS_after {D : Ends} {σ : L2.St} {H H' : Hp} {W : Wd} {m m1 m' : M} {fl : Flow'} {ob' : Nat → Addr} (A : After X.K X.mg W σ H m ob' H' m1) (hf : f m1 = .ok fl m')
    (q : FPost X.K X.mg D W m' fl) : rdS X.K X.mg f D σ H' := ⟨_, m1, A.2, fl, m', hf, by cases fl <;> exact q⟩
theorem ss_if {a b : List Stmt} (hc : ET X c ft) (ha : SSs X a f) (hb : SSs X b g) : SS X (.If c a b pos) (sIf ft f g) := PS.imp (ps_if hc ha hb) fun D σ H ⟨W, m, S, fl, m', hf, q⟩ => by
  obtain ⟨k, m1, e1, e2⟩ := Co.bind_ok hf
  refine ⟨W, m, S, k, m1, e1, fun ob' H' A => ?_⟩
  cases k with
  | true => exact rdS_after A e2 q
  | false => exact rdS_after A e2 q
def sRet (f : Co D) : Co Flow' := Co.bind f fun d => Co.ret (.rt d)
theorem ss_ret (he : EE X e fe) : SS X (.Return (some e) pos) (sRet fe) := PS.imp (ps_ret he) fun D σ H ⟨W, m, S, fl, m', hf, q⟩ => by
  obtain ⟨d, m1, e1, e2⟩ := Co.bind_ok hf
  cases e2
  exact ⟨W, m, S, d, _, e1, fun v ob' H' A r => q { W with ob := ob' } σ H' v ⟨rfl, rfl, rfl⟩ A.2 r⟩
def sRetF (f : Co D) : Co Flow' := Co.bind f fun d => Co.ret (.rf d)
theorem ss_retF (he : EF X e fe) : SS X (.Return (some e) pos) (sRetF fe) := PS.imp (ps_ret he) fun D σ H ⟨W, m, S, fl, m', hf, q⟩ => by
  obtain ⟨d, m1, e1, e2⟩ := Co.bind_ok hf
  cases e2
  exact ⟨W, m, S, d, _, e1, fun a ob' H' hn x nN S' c => q { W with ob := ob' } σ H' a ⟨rfl, rfl, rfl⟩ nN (.inr (S.ext.nn hn)) S' c⟩
theorem ss_retN : SS X (.Return none pos) (Co.ret (.rt .non)) := PS.imp ps_retN fun D σ H ⟨W, m, S, fl, m', hf, q⟩ => by
  cases hf
  exact q W σ H .non (Lat.refl W) S .non
/-- return x, the name's own cell goes out -/
def sRetOw (i : Nat) : Co Flow' := fun m => match m.env[i]? with
  | some (.ow d) => .ok (.rf d) { m with env := m.env.set i .un }
  | _ => .no
theorem ss_retOw (i : Nat) {x : Str} {p : Pos} (hN : X.N[i]? = some x := by rfl) (hv : Vis X.env.scope x := by first | exact Or.inl rfl | exact Or.inr (Or.inl rfl) | exact Or.inr (Or.inr rfl)) (hd : (x == ("__debug__" : Str)) = false := by decide)
    (hcd : (x == ("__classdict__" : Str)) = false := by decide) : SS X (.Return (some (.Name x p)) pos) (sRetOw i) := PS.imp (ps_ret (pe_var hN hv hd hcd)) fun D σ H ⟨W, m, S, fl, m', hf, q⟩ => by
  unfold sRetOw at hf
  split at hf
  · rename_i d he
    cases hf
    obtain ⟨a, e1, e2, c⟩ := S.ow i d he
    refine ⟨_, e2, ?_⟩
    have le : (W.ev m.obs.length).Le (((W.drop i).add a).ev m.obs.length) := ⟨Nat.le_refl _, fun _ _ => rfl, fun b h => by
      rcases h with (h | rfl) | ⟨j, h⟩ | h
      · exact .inl h
      · exact .inr (.inl ⟨i, e1⟩)
      · exact .inr (.inl ⟨j, (drop_own h).1⟩)
      · exact .inr (.inr h)⟩
    have hl : i < m.env.length := (List.getElem?_eq_some_iff.mp he).1
    refine q (W.drop i) σ H a ⟨rfl, rfl, rfl⟩ (fun z => ?_) (S.ext.m2 a (.inl ⟨i, e1⟩)) ⟨by simpa using S.len, ?_, fun j e h => ?_, fun j e h => ?_, fun j b h => ?_, fun j k b h1 h2 => S.inj j k b (drop_own h1).1 (drop_own h2).1, fun n ds h => (S.ob n ds h).le le, S.obi, fun n j h e => S.obo n j h (drop_own e).1, fun b h => ?_, fun j b h z => ?_⟩ (c.le le)
    · rcases z with z | ⟨j, z⟩ | ⟨n, hn, z⟩
      · exact S.o0 i a e1 z
      · obtain ⟨z, n⟩ := drop_own z
        exact n (S.inj j i a z e1)
      · exact S.obo n i hn (by rw [show W.ob n = a from z]; exact e1)
    · refine S.ext.sub rfl rfl (fun b h => .inl (le.n b h)) fun b h => .inl ?_
      rcases h with ⟨j, h⟩ | h
      · exact .inl ⟨j, (drop_own h).1⟩
      · exact .inr h
    · by_cases hj : i = j
      · subst hj
        rw [List.getElem?_set_self hl] at h
        cases h
      · rw [List.getElem?_set_ne hj] at h
        obtain ⟨u, e1, r1⟩ := S.pl j e h
        exact ⟨u, e1, r1.le le⟩
    · by_cases hj : i = j
      · subst hj
        rw [List.getElem?_set_self hl] at h
        cases h
      · rw [List.getElem?_set_ne hj] at h
        obtain ⟨b, f1, f2, c⟩ := S.ow j e h
        refine ⟨b, ?_, f2, c.le le⟩
        show (if j = i then none else W.own j) = some b
        rw [if_neg (Ne.symm hj)]
        exact f1
    · obtain ⟨h1, h2⟩ := drop_own h
      obtain ⟨d, hd⟩ := S.owi j b h1
      exact ⟨d, by rw [List.getElem?_set_ne (Ne.symm h2)]; exact hd⟩
    · rcases h with h | rfl
      · exact S.n0 b h
      · exact c.dom
    · obtain ⟨h1, h2⟩ := drop_own h
      rcases z with z | rfl
      · exact S.o0 j b h1 z
      · exact h2 (S.inj j i b h1 e1)
  · cases hf
def sFrz (i : Nat) (g : Co Flow') : Co Flow' := fun m => match m.env[i]? with
  | some (.ow d) => g { m with env := m.env.set i (.pl d) }
  | _ => g m
theorem rdS_frz {i : Nat} {D : Ends} {σ : L2.St} {H : Hp} (h : rdS X.K X.mg (sFrz i g) D σ H) : rdS X.K X.mg g D σ H := by
  obtain ⟨W, m, S, fl, m', hf, q⟩ := h
  unfold sFrz at hf
  split at hf
  · rename_i d he
    exact ⟨_, _, S.freeze he, fl, m', hf, by cases fl <;> exact q⟩
  · exact ⟨W, m, S, fl, m', hf, q⟩
theorem ss_frz (i : Nat) (h : SS X st g) : SS X st (sFrz i g) := PS.imp h fun D σ H h => rdS_frz h
theorem sss_frz (i : Nat) {sts : List Stmt} (h : SSs X sts g) : SSs X sts (sFrz i g) := PSs.imp h fun D σ H h => rdS_frz h
def sExpr (f : Co D) : Co Flow' := Co.bind f fun _ => Co.ret .nx
theorem ss_expr (he : EE X e fe) (hs : swapsWith e none pos.line X.env = pure false := by rfl) : SS X (.Expr e pos) (sExpr fe) := PS.imp (ps_expr he hs) fun D σ H ⟨W, m, S, fl, m', hf, q⟩ => by
  obtain ⟨d, m1, e1, e2⟩ := Co.bind_ok hf
  cases e2
  exact ⟨W, m, S, d, _, e1, fun v ob' H' A r => q { W with ob := ob' } σ H' ⟨rfl, rfl, rfl⟩ A.2⟩
def sNo : Co Flow' := fun _ => .no
theorem ss_never : SS X st sNo := PS.imp ps_never fun D σ H ⟨W, m, S, fl, m', hf, q⟩ => nomatch hf
theorem ss_pass : SS X (.Pass pos) sNext := PS.imp ps_pass fun D σ H ⟨W, m, S, fl, m', hf, q⟩ => by
  cases hf
  exact q W σ H (Lat.refl W) S
theorem ss_brk : SS X (.Break pos) (Co.ret .bk) := PS.imp ps_break fun D σ H ⟨W, m, S, fl, m', hf, q⟩ => by
  cases hf
  exact q W σ H (Lat.refl W) S
theorem ss_cont : SS X (.Continue pos) (Co.ret .ct) := PS.imp ps_continue fun D σ H ⟨W, m, S, fl, m', hf, q⟩ => by
  cases hf
  exact q W σ H (Lat.refl W) S
/-- x = e -/
def sSet (i : Nat) (f : Co D) : Co Flow' := Co.bind f fun d m => .ok .nx { m with env := m.env.set i (.pl d) }
def sSetF (i : Nat) (f : Co D) : Co Flow' := Co.bind f fun d m => if i < m.env.length then .ok .nx { m with env := m.env.set i (.ow d) } else .no
theorem Sit.setF {W : Wd} {σ : L2.St} {H H' : Hp} {m m' : M} {i : Nat} {a : Addr} {d : D} {ob' : Nat → Addr} {K : PySem.W.Frag} {mg : Str → Option Value} (S : Sit K mg W σ H m) (hi : i < m'.env.length) (hn : H a = none) (nN : ¬ ({ W with ob := ob' }.ev m'.obs.length).N a) (S' : Sit K mg ({ W with ob := ob' }.add a) σ H' m')
    (c : Cell K mg (({ W with ob := ob' }.add a).ev m'.obs.length) H' a d) : Sit K mg ({ W with ob := ob' }.put i a W.N0) (σ.set i (some (.ref a))) H' { m' with env := m'.env.set i (.ow d) } :=
  S'.setOw (N0 := W.N0) hi c (.inr rfl) (.inr (S.ext.nn hn)) (fun n hl e => nN (.inr (.inr ⟨n, hl, e⟩))) (fun _ h => .inl h) fun z => nN (.inl z)
theorem ss_set {i : Nat} {x : Str} {p : Pos} (hN : X.N.Nodup) (he : EE X e fe) (hi : X.N[i]? = some x := by rfl) (hx : Loc X.env.scope x := by first | exact Or.inl rfl | exact Or.inr rfl) (hs : swapsWith e (some (.Name x p)) pos.line X.env = pure false := by rfl)
    (hf : X.fn x = true ∨ X.env.scope.names.lookup x = some .local := by first | exact .inl rfl | exact .inr rfl) : SS X (.Assign [.Name x p] e pos) (sSet i fe) := PS.imp (ps_set hN hi hx he hs hf) fun D σ H ⟨W, m, S, fl, m', hf, q⟩ => by
  obtain ⟨d, m1, e1, e2⟩ := Co.bind_ok hf
  cases e2
  exact ⟨W, m, S, d, m1, e1, fun v ob' H' A r => q (Wd.drop { W with ob := ob' } i) _ H' (by exact ⟨rfl, rfl, rfl⟩) (A.2.setPl (i := i) r)⟩
theorem ss_setF {i : Nat} {x : Str} {p : Pos} (hN : X.N.Nodup) (he : EF X e fe) (hi : X.N[i]? = some x := by rfl) (hx : Loc X.env.scope x := by first | exact Or.inl rfl | exact Or.inr rfl) (hs : swapsWith e (some (.Name x p)) pos.line X.env = pure false := by rfl)
    (hf : X.fn x = true ∨ X.env.scope.names.lookup x = some .local := by first | exact .inl rfl | exact .inr rfl) : SS X (.Assign [.Name x p] e pos) (sSetF i fe) := PS.imp (ps_set hN hi hx he hs hf) fun D σ H ⟨W, m, S, fl, m', hf, q⟩ => by
  obtain ⟨d, m1, e1, e2⟩ := Co.bind_ok hf
  split at e2
  · rename_i hl
    cases e2
    exact ⟨W, m, S, d, m1, e1, fun a ob' H' hn x nN S' c => q (Wd.put { W with ob := ob' } i a W.N0) _ H' (by exact ⟨rfl, rfl, rfl⟩) (S.setF hl hn nN S' c)⟩
  · cases e2
end
end PD
namespace PD
open PySem PySem.Spec PyProof.Rows L2

/-! ### several values, some of them new cells -/
inductive RepX (K : PySem.W.Frag) (mg : Str → Option Value) (E : Ev) (H : Hp) : List Addr → List V → List (Bool × D) → Prop
  | nil : RepX K mg E H [] [] []
  | pl {F : List Addr} {v : V} {vs : List V} {d : D} {ls : List (Bool × D)} : Rep K mg E H v d → RepX K mg E H F vs ls → RepX K mg E H F (v :: vs) ((false, d) :: ls)
  | fr {F : List Addr} {a : Addr} {vs : List V} {d : D} {ls : List (Bool × D)} : Cell K mg E H a d → RepX K mg E H F vs ls → RepX K mg E H (a :: F) (.ref a :: vs) ((true, d) :: ls)
abbrev Wd.adds (W : Wd) (F : List Addr) : Wd := { W with N0 := fun b => W.N0 b ∨ b ∈ F }
def rdX (K : PySem.W.Frag) (mg : Str → Option Value) (f : Co (List (Bool × D))) : TA := fun σ H Q => ∃ W m, Sit K mg W σ H m ∧ ∃ ls m', f m = .ok ls m' ∧
  ∀ vs ob' H' F, (∀ a, a ∈ F → H a = none ∧ ¬ ({ W with ob := ob' }.ev m'.obs.length).N a) → F.Nodup → Ext (W.ev m.obs.length) H ({ W with ob := ob' }.ev m'.obs.length) H' →
    Sit K mg ({ W with ob := ob' }.adds F) σ H' m' → RepX K mg (({ W with ob := ob' }.adds F).ev m'.obs.length) H' F vs ls → Q vs H'
abbrev EX (X : Cx) (es : List Expr) (f : Co (List (Bool × D))) : Prop := PA X es (rdX X.K X.mg f)
def xNil : Co (List (Bool × D)) := Co.ret []
def xPl (f : Co D) (fs : Co (List (Bool × D))) : Co (List (Bool × D)) := Co.bind f fun d => Co.bind fs fun ds => Co.ret ((false, d) :: ds)
def xFr (f : Co D) (fs : Co (List (Bool × D))) : Co (List (Bool × D)) := Co.bind f fun d => Co.bind fs fun ds => Co.ret ((true, d) :: ds)
section
variable {K : PySem.W.Frag} {mg : Str → Option Value} {W W' : Wd} {σ : L2.St} {H H' : Hp} {m m' : M} {E E' : Ev}
theorem RepX.le (x : E.Le E') : ∀ {F : List Addr} {vs : List V} {ls : List (Bool × D)}, RepX K mg E H F vs ls → RepX K mg E' H F vs ls
  | _, _, _, .nil => .nil
  | _, _, _, .pl r t => .pl (r.le x) (RepX.le x t)
  | _, _, _, .fr r t => .fr (r.le x) (RepX.le x t)
theorem adds_nil (W : Wd) : W.adds [] = W := by
  unfold Wd.adds
  simp
theorem adds_cons (W : Wd) (a : Addr) (F : List Addr) : (W.add a).adds F = W.adds (a :: F) := by
  unfold Wd.adds Wd.add
  congr 1
  funext b
  simp [or_assoc]
end
section
variable {X : Cx} {e : Expr} {es : List Expr} {f : Co D} {fs : Co (List (Bool × D))}
theorem ex_nil : EX X [] xNil := PA.imp pa_nil fun σ H Q ⟨W, m, S, d, m', hf, q⟩ => by
  cases hf
  refine q [] W.ob H [] (fun _ h => nomatch h) .nil Ext.refl ?_ .nil
  show Sit X.K X.mg (W.adds []) σ H m
  rw [adds_nil]
  exact S
theorem ex_pl (ha : EE X e f) (hr : EX X es fs) (hs : starEach (e :: es) X.env = (false, eval e X.env) :: starEach es X.env := by rfl) : EX X (e :: es) (xPl f fs) :=
  PA.imp (pa_cons ha hr hs) fun σ H Q ⟨W, m, S, d, m', hf, q⟩ => by
    obtain ⟨d1, m1, e1, hf⟩ := Co.bind_ok hf
    obtain ⟨ds, m2, e2, hf⟩ := Co.bind_ok hf
    cases hf
    refine ⟨W, m, S, d1, m1, e1, fun v ob1 H1 A1 r1 => ⟨_, m1, A1.2, ds, _, e2, fun vs ob2 H2 F hF nd x2 S2 r2 => ?_⟩⟩
    refine q _ ob2 H2 F (fun a h => ⟨A1.1.nn (hF a h).1, (hF a h).2⟩) nd (A1.1.trans x2) S2 (.pl ?_ r2)
    have r1' := r1.ext x2 (Wd.sub _ _)
    -- the new cells are not in it
    refine Rep.le (E := { ({ W with ob := ob2 }.ev m'.obs.length) with N := (({ W with ob := ob2 }.adds F).ev m'.obs.length).N }) ⟨Nat.le_refl _, fun _ _ => rfl, fun _ h => h⟩ ?_
    have nw : Rep X.K X.mg { ({ W with ob := ob1 }.ev m1.obs.length) with N := fun b => ({ W with ob := ob1 }.ev m1.obs.length).N b ∨ b ∈ F } H1 v d1 := r1.new fun a h => h.elim .inl fun h => .inr (hF a h).1
    have x3 : Ext { ({ W with ob := ob1 }.ev m1.obs.length) with N := fun b => ({ W with ob := ob1 }.ev m1.obs.length).N b ∨ b ∈ F } H1 { ({ W with ob := ob2 }.ev m'.obs.length) with N := (({ W with ob := ob2 }.adds F).ev m'.obs.length).N } H2 := by
      refine ⟨x2.no, x2.ob, fun a h => ?_, x2.m2, x2.dm, x2.keep, x2.tup, x2.frz⟩
      rcases h with (h | h) | h
      · exact (x2.n2 a (.inl h)).elim (fun h => .inl (.inl h)) .inr
      · exact .inl (.inr h)
      · exact (x2.n2 a (.inr h)).elim (fun h => .inl (.inl h)) .inr
    exact nw.ext x3 fun a h => .inl (.inr h)
theorem ex_fr (ha : EF X e f) (hr : EX X es fs) (hs : starEach (e :: es) X.env = (false, eval e X.env) :: starEach es X.env := by rfl) : EX X (e :: es) (xFr f fs) :=
  PA.imp (pa_cons ha hr hs) fun σ H Q ⟨W, m, S, d, m', hf, q⟩ => by
    obtain ⟨d1, m1, e1, hf⟩ := Co.bind_ok hf
    obtain ⟨ds, m2, e2, hf⟩ := Co.bind_ok hf
    cases hf
    refine ⟨W, m, S, d1, m1, e1, fun a ob1 H1 hn x1 nN S1 c1 => ⟨_, m1, S1, ds, _, e2, fun vs ob2 H2 F hF nd x2 S2 r2 => ?_⟩⟩
    have S2' : Sit X.K X.mg (({ W with ob := ob2 } : Wd).adds (a :: F)) σ H2 m' := by
      rw [← adds_cons]
      exact S2
    have x2' : Ext ({ W with ob := ob1 }.ev m1.obs.length) H1 ({ W with ob := ob2 }.ev m'.obs.length) H2 := by
      refine ⟨x2.no, x2.ob, fun b h => ?_, x2.m2, x2.dm, x2.keep, x2.tup, x2.frz⟩
      by_cases e : b = a
      · subst e
        have : ∃ o, H1 b = some o := c1.dom
        rcases h with h | h
        · exact (nN (.inl h)).elim
        · rcases x2.m2 b h with h | h
          · exact .inl (.inr h)
          · obtain ⟨o, ho⟩ := this
            rw [h] at ho; cases ho
      · have h' : (({ W with ob := ob2 }.add a).ev m'.obs.length).N b := h.elim (fun h => .inl (.inl h)) .inr
        rcases x2.n2 b h' with (h | h) | h
        · rcases h with h | h
          · exact .inl (.inl h)
          · exact (e h).elim
        · exact .inl (.inr h)
        · exact .inr h
    have ca : Cell X.K X.mg ((({ W with ob := ob1 } : Wd).add a).ev m1.obs.length) H1 a d1 := c1
    have keepA : ∀ o, H1 a = some o → H2 a = some o := fun o h => x2.keep a o (fun z => nN (.inr z)) h
    refine q _ ob2 H2 (a :: F) (fun b h => ?_) (List.nodup_cons.mpr ⟨fun h => (hF a h).2 (.inl (.inr rfl)), nd⟩) (x1.trans x2') S2' (.fr ?_ ?_)
    · rcases List.mem_cons.mp h with rfl | h
      · refine ⟨hn, fun z => ?_⟩
        rcases z with z | z
        · exact nN (.inl z)
        · rcases x2.m2 b z with z | z
          · exact nN (.inr z)
          · obtain ⟨o, ho⟩ := c1.dom
            rw [z] at ho; cases ho
      · exact ⟨x1.nn (hF b h).1, fun z => (hF b h).2 (z.elim (fun z => .inl (.inl z)) .inr)⟩
    · have nw : Cell X.K X.mg { ((({ W with ob := ob1 } : Wd).add a).ev m1.obs.length) with N := fun b => ((({ W with ob := ob1 } : Wd).add a).ev m1.obs.length).N b ∨ b ∈ F } H1 a d1 := ca.new fun b h => h.elim .inl fun h => .inr (hF b h).1
      have x3 : Ext { ((({ W with ob := ob1 } : Wd).add a).ev m1.obs.length) with N := fun b => ((({ W with ob := ob1 } : Wd).add a).ev m1.obs.length).N b ∨ b ∈ F } H1 ((({ W with ob := ob2 } : Wd).adds (a :: F)).ev m'.obs.length) H2 := by
        refine ⟨x2.no, x2.ob, fun b h => ?_, x2.m2, x2.dm, x2.keep, x2.tup, x2.frz⟩
        rcases h with (h | h) | h
        · exact (x2.n2 b (.inl (.inl h))).elim (fun h => .inl (.inl h)) .inr
        · rcases List.mem_cons.mp h with rfl | h
          · exact .inl (.inl (.inl (.inr rfl)))
          · exact .inl (.inr h)
        · exact (x2.n2 b (.inr h)).elim (fun h => .inl (.inl h)) .inr
      exact nw.ext x3 (fun b h => .inl (.inr h)) keepA
    · show RepX X.K X.mg ((({ W with ob := ob2 } : Wd).adds (a :: F)).ev m'.obs.length) H2 F vs ds
      rw [← adds_cons]
      exact r2
end
/-- names are stored, one behind another -/
def setEnv : List Slot → List Nat → List (Bool × D) → Option (List Slot)
  | env, [], [] => some env
  | env, i :: is, (fr, d) :: ls => if i < env.length then setEnv (env.set i (if fr = true then .ow d else .pl d)) is ls else none
  | _, _, _ => none
def setSt : L2.St → List Nat → List V → L2.St
  | σ, i :: is, v :: vs => setSt (σ.set i (some v)) is vs
  | σ, _, _ => σ
def sAsg (is : List Nat) (f : Co (List (Bool × D))) : Co Flow' := Co.bind f fun ls m => match setEnv m.env is ls with
  | some env => .ok .nx { m with env := env }
  | none => .no
section
variable {K : PySem.W.Frag} {mg : Str → Option Value} {σ : L2.St} {H H' : Hp} {m m' : M} {E E' : Ev}
theorem Wd.put_le {W : Wd} {i no : Nat} {a : Addr} {N0 : Addr → Prop} (ha : W.N0 a) (h1 : ∀ b, N0 b → W.N0 b) : (W.ev no).Le ((W.put i a N0).ev no) := ⟨Nat.le_refl _, fun _ _ => rfl, fun b h => by
  rcases h with h | ⟨j, h⟩ | h
  · exact .inl (h1 b h)
  · rcases put_own h with ⟨_, rfl⟩ | ⟨h, _⟩
    · exact .inl ha
    · exact .inr (.inl ⟨j, h⟩)
  · exact .inr (.inr h)⟩
theorem Sit.setAll {B : Addr → Prop} : ∀ {ls : List (Bool × D)} {is : List Nat} {F : List Addr} {vs : List V} {W : Wd} {σ : L2.St} {m : M} {env : List Slot}, (∀ b, W.N0 b ↔ B b ∨ b ∈ F) →
    (∀ a, a ∈ F → (W.E0.Mx a ∨ W.H0 a = none) ∧ ¬ B a ∧ ∀ n, n < m.obs.length → W.ob n ≠ a) → F.Nodup → Sit K mg W σ H m → RepX K mg (W.ev m.obs.length) H F vs ls → setEnv m.env is ls = some env →
    ∃ W' : Wd, W'.N0 = B ∧ W'.E0 = W.E0 ∧ W'.H0 = W.H0 ∧ W'.ob = W.ob ∧ (∀ j, j ∉ is → W'.own j = W.own j) ∧ Sit K mg W' (setSt σ is vs) H { m with env := env }
  | [], is, F, vs, W, σ, m, env, hB, hF, nd, S, r, h => by
    cases r
    cases is with
    | cons i is => cases h
    | nil =>
      cases h
      have e : W.N0 = B := by
        funext b
        have := hB b
        simpa using this
      exact ⟨W, e, rfl, rfl, rfl, fun _ _ => rfl, S⟩
  | (fr, d) :: ls, [], F, vs, W, σ, m, env, hB, hF, nd, S, r, h => nomatch h
  | (fr, d) :: ls, i :: is, F, vs, W, σ, m, env, hB, hF, nd, S, r, h => by
    unfold setEnv at h
    split at h
    · rename_i hi
      cases r with
      | pl r t =>
        obtain ⟨W', h1, h2, h3, h4, h5, S'⟩ := Sit.setAll (W := W.drop i) (m := { m with env := m.env.set i (.pl d) }) hB hF nd (S.setPl (i := i) r) (t.le (W.drop_le i _)) h
        refine ⟨W', h1, h2, h3, h4, fun j hj => ?_, S'⟩
        rw [h5 j (fun z => hj (List.mem_cons_of_mem _ z))]
        exact if_neg fun z => hj (by rw [z]; exact List.mem_cons_self)
      | fr c t =>
        rename_i F a vs
        obtain ⟨ha, hb⟩ := List.nodup_cons.mp nd
        obtain ⟨k1, k2, k3⟩ := hF a List.mem_cons_self
        have hN : W.N0 a := (hB a).mpr (.inr List.mem_cons_self)
        have hsub : ∀ b, (B b ∨ b ∈ F) → W.N0 b := fun b h => (hB b).mpr (h.elim .inl fun h => .inr (List.mem_cons_of_mem _ h))
        obtain ⟨W', h1, h2, h3, h4, h5, S'⟩ := Sit.setAll (W := W.put i a fun b => B b ∨ b ∈ F) (m := { m with env := m.env.set i (.ow d) }) (fun b => Iff.rfl) (fun b h => hF b (List.mem_cons_of_mem _ h)) hb
          (S.setOw hi c hN k1 k3 hsub fun z => z.elim k2 ha) (t.le (Wd.put_le hN hsub)) h
        refine ⟨W', h1, h2, h3, h4, fun j hj => ?_, S'⟩
        rw [h5 j (fun z => hj (List.mem_cons_of_mem _ z))]
        exact if_neg fun z => hj (by rw [z]; exact List.mem_cons_self)
    · cases h
end
section
variable {X : Cx} {a b c : Expr} {fs : Co (List (Bool × D))} {pos : Pos}
theorem sAsg_rd {D : Ends} {σ : L2.St} {H : Hp} {is : List Nat} (h : rdS X.K X.mg (sAsg is fs) D σ H) : rdX X.K X.mg fs σ H fun vs H1 => D.nx (setSt σ is vs) H1 := by
  obtain ⟨W, m, S, fl, m', hf, q⟩ := h
  obtain ⟨ls, m1, e1, e2⟩ := Co.bind_ok hf
  cases e3 : setEnv m1.env is ls with
  | none => rw [e3] at e2; cases e2
  | some env =>
    rw [e3] at e2
    cases e2
    refine ⟨W, m, S, ls, m1, e1, fun vs ob' H' F hF nd x S' r => ?_⟩
    obtain ⟨W', h1, h2, h3, h4, h5, S2⟩ := Sit.setAll (W := { W with ob := ob' }.adds F) (B := W.N0) (fun b => Iff.rfl) (fun a h => ⟨.inr (S.ext.nn (hF a h).1), fun z => (hF a h).2 (.inl z), fun n hn e => (hF a h).2 (.inr (.inr ⟨n, hn, e⟩))⟩) nd S' r e3
    exact q W' _ H' ⟨h1, h2, h3⟩ S2
theorem RepX_len {K : PySem.W.Frag} {mg : Str → Option Value} {E : Ev} {H : Hp} : ∀ {F : List Addr} {vs : List V} {ls : List (Bool × D)}, RepX K mg E H F vs ls → vs.length = ls.length
  | _, _, _, .nil => rfl
  | _, _, _, .pl _ t => congrArg (· + 1) (RepX_len t)
  | _, _, _, .fr _ t => congrArg (· + 1) (RepX_len t)
theorem setEnv_len : ∀ {env env' : List Slot} {is : List Nat} {ls : List (Bool × D)}, setEnv env is ls = some env' → is.length = ls.length
  | _, _, [], [], _ => rfl
  | _, _, [], _ :: _, h => nomatch h
  | _, _, _ :: _, [], h => nomatch h
  | env, env', i :: is, (fr, d) :: ls, h => by
    unfold setEnv at h
    split at h
    · rw [List.length_cons, List.length_cons, setEnv_len h]
    · cases h
/-- .. told that as many values come as names -/
theorem sAsg_rd' {D : Ends} {σ : L2.St} {H : Hp} {is : List Nat} (h : rdS X.K X.mg (sAsg is fs) D σ H) : rdX X.K X.mg fs σ H fun vs H1 => vs.length = is.length ∧ D.nx (setSt σ is vs) H1 := by
  obtain ⟨W, m, S, fl, m', hf, q⟩ := id h
  obtain ⟨ls, m1, e1, e2⟩ := Co.bind_ok hf
  cases e3 : setEnv m1.env is ls with
  | none => rw [e3] at e2; cases e2
  | some env =>
    obtain ⟨W2, m2, S2, ls2, m3, f1, q2⟩ := sAsg_rd h
    have hl := setEnv_len e3
    refine ⟨W, m, S, ls, m1, e1, fun vs ob' H' F hF nd x S' r => ⟨(RepX_len r).trans hl.symm, ?_⟩⟩
    rw [e3] at e2
    cases e2
    obtain ⟨W', h1, h2, h3, h4, h5, S2⟩ := Sit.setAll (W := { W with ob := ob' }.adds F) (B := W.N0) (fun b => Iff.rfl) (fun a h => ⟨.inr (S.ext.nn (hF a h).1), fun z => (hF a h).2 (.inl z), fun n hn e => (hF a h).2 (.inr (.inr ⟨n, hn, e⟩))⟩) nd S' r e3
    exact q W' _ H' ⟨h1, h2, h3⟩ S2
theorem ss_par {i j : Nat} {x y : Str} {px py pt : Pos} {kt k2 pt2} (hN : X.N.Nodup) (ha : EX X [a, b] fs) (hc : X.calm = true := by rfl) (hi : X.N[i]? = some x := by rfl) (hj : X.N[j]? = some y := by rfl) (hij : i ≠ j := by decide)
    (hx : X.env.scope.names.lookup x = some .local := by rfl) (hy : X.env.scope.names.lookup y = some .local := by rfl)
    (hw : swappedStores [.Tuple [.Name x px, .Name y py] kt pt] (.Tuple [a, b] k2 pt2) X.env = pure (some [x, y]) := by rfl)
    (hs : swapsWithSole [.Tuple [.Name x px, .Name y py] kt pt] (.Tuple [a, b] k2 pt2) pos.line X.env = pure false := by rfl) :
    SS X (.Assign [.Tuple [.Name x px, .Name y py] kt pt] (.Tuple [a, b] k2 pt2) pos) (sAsg [i, j] fs) := PS.imp (ps_par hc hN hi hj hij hx hy ha hw hs) fun D σ H h => by
  obtain ⟨W, m, S, ls, m', e1, q⟩ := sAsg_rd' h
  refine ⟨W, m, S, ls, m', e1, fun vs ob' H' F hF nd x S' r => ?_⟩
  obtain ⟨hl, q⟩ := q vs ob' H' F hF nd x S' r
  match vs, hl with
  | [v, w], _ => exact ⟨v, w, rfl, q⟩
theorem ss_par3 {i j l : Nat} {x y z : Str} {px py pz pt : Pos} {kt k2 pt2} (hN : X.N.Nodup) (ha : EX X [a, b, c] fs) (hc : X.calm = true := by rfl) (hi : X.N[i]? = some x := by rfl) (hj : X.N[j]? = some y := by rfl) (hl : X.N[l]? = some z := by rfl) (hij : i ≠ j := by decide) (hil : i ≠ l := by decide) (hjl : j ≠ l := by decide)
    (hx : X.env.scope.names.lookup x = some .local := by rfl) (hy : X.env.scope.names.lookup y = some .local := by rfl) (hz : X.env.scope.names.lookup z = some .local := by rfl)
    (hw : swappedStores [.Tuple [.Name x px, .Name y py, .Name z pz] kt pt] (.Tuple [a, b, c] k2 pt2) X.env = pure (some [x, y, z]) := by rfl)
    (hs : swapsWithSole [.Tuple [.Name x px, .Name y py, .Name z pz] kt pt] (.Tuple [a, b, c] k2 pt2) pos.line X.env = pure false := by rfl) :
    SS X (.Assign [.Tuple [.Name x px, .Name y py, .Name z pz] kt pt] (.Tuple [a, b, c] k2 pt2) pos) (sAsg [i, j, l] fs) := PS.imp (ps_par3 hc hN hi hj hl hij hil hjl hx hy hz ha hw hs) fun D σ H h => by
  obtain ⟨W, m, S, ls, m', e1, q⟩ := sAsg_rd' h
  refine ⟨W, m, S, ls, m', e1, fun vs ob' H' F hF nd x S' r => ?_⟩
  obtain ⟨hl, q⟩ := q vs ob' H' F hF nd x S' r
  match vs, hl with
  | [v, w, u], _ => exact ⟨v, w, u, rfl, q⟩
end
/-! ### targets that are names -/
/-- a tuple's or list's items to names, in order: what a target tells -/
inductive Tg where
  | name (i : Nat) | tup (ts : List Tg)
/-- names of a flat tuple target -/
def gNames : List Nat → TGs
  | [] => gNil
  | i :: is => gCons (gName i) (gNames is)
theorem gNames_rd : ∀ {is : List Nat} {vs : List V} {σ : L2.St} {H : Hp} {Q : L2.St → Hp → Prop}, vs.length = is.length → Q (setSt σ is vs) H → gNames is vs σ H Q
  | [], [], σ, H, Q, _, q => ⟨rfl, q⟩
  | i :: is, v :: vs, σ, H, Q, hl, q => ⟨v, vs, rfl, gNames_rd (by simpa using hl) q⟩
section
variable {X : Cx} {es ts : List Expr} {fs : Co (List (Bool × D))} {pos : Pos}
theorem pgn_nil : PGs X [] (gNames []) := pgs_nil
theorem pgn_cons {i : Nat} {is : List Nat} {x : Str} {p : Pos} (hN : X.N.Nodup) (h2 : PGs X ts (gNames is)) (hi : X.N[i]? = some x := by rfl) (hx : Loc X.env.scope x := by first | exact Or.inl rfl | exact Or.inr rfl)
    (hf : X.fn x = true ∨ X.env.scope.names.lookup x = some .local := by first | exact .inl rfl | exact .inr rfl)
    (hs : (assignEach (.Name x p :: ts) X.env).map (·.2) = assign (.Name x p) X.env :: (assignEach ts X.env).map (·.2) := by rfl) : PGs X (.Name x p :: ts) (gNames (i :: is)) := pgs_cons (pg_name hN hi hx hf) h2 hs
/-- (x, y, ..) = (e, f, ..) by way of a tuple -/
theorem ss_asgT {is : List Nat} {k x1 : Nat} {tp ep : Pos} (ha : EX X es fs) (hg : PGs X ts (gNames is)) (hz : is.length ≤ 100 := by decide) (hc : X.calm = true := by rfl) (hn : (assignEach ts X.env).length = is.length := by rfl) (hst : (assignEach ts X.env).findIdx? (·.1) = none := by rfl)
    (hs : swapsWithSole [.Tuple ts k tp] (.Tuple es x1 ep) pos.line X.env = pure false := by rfl) (hw : swappedStores [.Tuple ts k tp] (.Tuple es x1 ep) X.env = pure none := by rfl)
    (h1 : (assignEach [.Tuple ts k tp] X.env).map (·.2) = [assign (.Tuple ts k tp) X.env] := by rfl) : SS X (.Assign [.Tuple ts k tp] (.Tuple es x1 ep) pos) (sAsg is fs) :=
  PS.imp (ps_asg (pe_tup ha) (pg_tup hc hg hn hst) hs hw h1) fun D σ H h => by
    obtain ⟨W, m, S, fl, m', hf, q⟩ := h
    obtain ⟨ls, m1, e1, e2⟩ := Co.bind_ok hf
    cases e3 : setEnv m1.env is ls with
    | none => rw [e3] at e2; cases e2
    | some env =>
      rw [e3] at e2
      cases e2
      refine ⟨W, m, S, ls, m1, e1, fun vs ob' H' F hF nd x S' r => ?_⟩
      have hl : vs.length = is.length := (RepX_len r).trans (setEnv_len e3).symm
      refine ⟨by rw [hl, sizeLine_eq]; omega, fun p hp => ?_⟩
      have sm := same_new hp (.tup vs)
      refine ⟨p, vs, rfl, SqT.of upd_same, hl, gNames_rd hl ?_⟩
      have up : ∀ {G : List Addr} {ws : List V} {ks : List (Bool × PD.D)}, RepX X.K X.mg (({ W with ob := ob' }.adds F).ev m1.obs.length) H' G ws ks → RepX X.K X.mg (({ W with ob := ob' }.adds F).ev m1.obs.length) (upd H' p (.tup vs)) G ws ks := by
        intro G ws ks h
        induction h with
        | nil => exact .nil
        | pl r t ih => exact .pl (r.up sm) ih
        | fr c t ih => exact .fr (c.up sm) ih
      obtain ⟨W', h1, h2, h3, h4, h5, S2⟩ := Sit.setAll (W := { W with ob := ob' }.adds F) (B := W.N0) (fun b => Iff.rfl) (fun a h => ⟨.inr (S.ext.nn (hF a h).1), fun z => (hF a h).2 (.inl z), fun n hn e => (hF a h).2 (.inr (.inr ⟨n, hn, e⟩))⟩) nd (S'.same sm) (up r) e3
      exact q W' _ _ ⟨h1, h2, h3⟩ S2
/-- x, y = e (a tuple comes): data alone -/
def sUnp (is : List Nat) (f : Co D) : Co Flow' := Co.bind f fun d m => match d with
  | .tup ds => match setEnv m.env is (ds.map fun d => (false, d)) with
    | some env => .ok .nx { m with env := env }
    | none => .no
  | _ => .no
theorem RepL.x {K : PySem.W.Frag} {mg : Str → Option Value} {E : Ev} {H : Hp} : ∀ {vs : List V} {ds : List D}, RepL K mg E H vs ds → RepX K mg E H [] vs (ds.map fun d => (false, d))
  | _, _, .nil => .nil
  | _, _, .cons r t => .pl r (RepL.x t)
theorem ss_unp {is : List Nat} {k : Nat} {tp : Pos} {e : Expr} {fe : Co D} (he : EE X e fe) (hg : PGs X ts (gNames is)) (hc : X.calm = true := by rfl) (hn : (assignEach ts X.env).length = is.length := by rfl) (hst : (assignEach ts X.env).findIdx? (·.1) = none := by rfl)
    (hs : swapsWithSole [.Tuple ts k tp] e pos.line X.env = pure false := by rfl) (hw : swappedStores [.Tuple ts k tp] e X.env = pure none := by rfl)
    (h1 : (assignEach [.Tuple ts k tp] X.env).map (·.2) = [assign (.Tuple ts k tp) X.env] := by rfl) : SS X (.Assign [.Tuple ts k tp] e pos) (sUnp is fe) :=
  PS.imp (ps_asg he (pg_tup hc hg hn hst) hs hw h1) fun D σ H ⟨W, m, S, fl, m', hf, q⟩ => by
    obtain ⟨d, m1, e1, e2⟩ := Co.bind_ok hf
    cases d <;> first
      | (cases e2; done)
      | skip
    rename_i ds
    cases e3 : setEnv m1.env is (ds.map fun d => (false, d)) with
    | none => simp only [e3] at e2; cases e2
    | some env =>
      simp only [e3] at e2
      cases e2
      refine ⟨W, m, S, _, m1, e1, fun v ob' H' A r => ?_⟩
      cases r with
      | tup h r =>
        have hl : _ = is.length := (RepX_len (RepL.x r)).trans (setEnv_len e3).symm
        refine ⟨_, _, rfl, SqT.of h, hl, gNames_rd hl ?_⟩
        obtain ⟨W', h1, h2, h3, h4, h5, S2⟩ := Sit.setAll (B := W.N0) (F := []) (fun b => by simp) (fun a h => nomatch h) .nil A.2 (RepL.x r) e3
        exact q W' _ _ ⟨h1, h2, h3⟩ S2
end
end PD
namespace PD
open PySem PySem.Spec PyProof.Rows L2

/-! ### a list that is written: a name's own, or an object -/
def updO (o : Opd) (h : List D → Option (List D)) : Co Unit := fun m => match o with
  | .slot i => match m.env[i]? with
    | some (.ow (.lst ds)) => match h ds with
      | some ds' => .ok () { m with env := m.env.set i (.ow (.lst ds')) }
      | none => .no
    | _ => .no
  | .val (.obj n) => match m.obs[n]? with
    | some ds => match h ds with
      | some ds' => .ok () { m with obs := m.obs.set n ds' }
      | none => .no
    | none => .no
  | _ => .no
section
variable {K : PySem.W.Frag} {mg : Str → Option Value} {W : Wd} {σ : L2.St} {H : Hp} {m m' : M}
theorem updO_sit {o : Opd} {h : List D → Option (List D)} {v : V} (S : Sit K mg W σ H m) (r : RepO K mg W σ H m v o) (e : updO o h m = .ok () m') :
    ∃ a ds ds' vs, v = .ref a ∧ H a = some (.lst vs) ∧ RepL K mg (W.ev m.obs.length) H vs ds ∧ h ds = some ds' ∧ o.get m = some (.lst ds) ∧ m'.obs.length = m.obs.length ∧
      ∀ vs', RepL K mg (W.ev m.obs.length) H vs' ds' → Ext (W.ev m.obs.length) H (W.ev m.obs.length) (upd H a (.lst vs')) ∧ Sit K mg W σ (upd H a (.lst vs')) m' := by
  cases o with
  | slot i =>
    obtain ⟨a, ea, rfl⟩ := r
    have ea' : W.own i = some a := ea
    unfold updO at e
    simp only at e
    split at e
    · rename_i ds he
      cases e2 : h ds with
      | none => rw [e2] at e; cases e
      | some ds' =>
        rw [e2] at e
        cases e
        obtain ⟨b, eb, _, vs, hb, rv⟩ := S.ow i _ he
        rw [ea'] at eb; cases eb
        refine ⟨a, ds, ds', vs, rfl, hb, rv, e2, ?_, rfl, fun vs' r' => ?_⟩
        · show (match m.env[i]? with | some (.ow d) => some d | _ => none) = _
          rw [he]
        · exact S.updOw he ea' fun x => ⟨vs', upd_same, r'.ext x (W.sub _)⟩
    · cases e
  | val d =>
    cases d <;> first
      | (cases e; done)
      | skip
    rename_i n
    have r' : Rep K mg (W.ev m.obs.length) H v (.obj n) := r
    cases r' with
    | obj _ hn =>
      unfold updO at e
      simp only at e
      have en : m.obs[n]? = some m.obs[n] := List.getElem?_eq_getElem hn
      rw [en] at e
      simp only at e
      cases e2 : h m.obs[n] with
      | none => rw [e2] at e; cases e
      | some ds' =>
        rw [e2] at e
        cases e
        obtain ⟨vs, hv, rv⟩ := S.ob n _ en
        refine ⟨_, _, ds', vs, rfl, hv, rv, e2, ?_, List.length_set, fun vs' r' => S.updOb en r'⟩
        show (m.obs[n]?).map D.lst = _
        rw [en]
        rfl
end
section
variable {X : Cx} {a b c e : Expr} {f fe fi : Co D} {g : Co Opd} {pos ap cp : Pos} {x : Str}
/-- seen as a list -/
def isLst (g : Co Opd) : Co Opd := Co.bind g fun o m => match o.get m with
  | some (.lst _) => .ok o m
  | _ => .no
theorem isLst_ok {m m' : M} {o : Opd} (h : isLst g m = .ok o m') : ∃ ds, g m = .ok o m' ∧ o.get m' = some (.lst ds) := by
  obtain ⟨o1, m1, e1, h⟩ := Co.bind_ok h
  split at h
  · rename_i ds e
    cases h
    exact ⟨ds, e1, e⟩
  · cases h
def eAppend (g : Co Opd) (f : Co D) : Co D := Co.bind (isLst g) fun o => Co.bind f fun d => Co.bind (updO o fun ds => if ds.length < sizeLine then some (ds ++ [d]) else none) fun _ => Co.ret .non
theorem tyV_lst {K : PySem.W.Frag} {H : Hp} {a : Addr} {vs : List V} (h : H a = some (.lst vs)) : tyV K "list" (.ref a) H := Or.inl ⟨rfl, _, Or.inl (Or.inl h)⟩
theorem ee_append (hg : EB X a g) (he : EE X e f)
    (hx : ∀ {r : V → List V → Hp → VK → Prop} {to : TE} {t : TA}, MtR X "list.append" r → PE X a to → PA X [e] t → PE X (.Call (.Attribute a "append" ap) [e] [] cp) (tBM X.K "list" r to t) := by exact fun hm ho ha => pe_bm PySem.F.plainAttrs_list PySem.F.slot_list_append PySem.F.type_list_append hm ho ha)
    (hs : starEach (e :: []) X.env = (false, eval e X.env) :: starEach [] X.env := by rfl) :
    EE X (.Call (.Attribute a "append" ap) [e] [] cp) (eAppend g f) := PE.imp (hx mt_append hg (pa_cons he pa_nil hs)) fun σ H Q ⟨W, m, S, d, m', hf, q⟩ => by
  obtain ⟨o, m1, e1, hf⟩ := Co.bind_ok hf
  obtain ⟨d1, m2, e2, hf⟩ := Co.bind_ok hf
  obtain ⟨_, m3, e3, hf⟩ := Co.bind_ok hf
  cases hf
  obtain ⟨ds0, e1, e1'⟩ := isLst_ok e1
  refine ⟨W, m, S, o, m1, e1, fun v ob1 H1 A1 r1 => ?_⟩
  obtain ⟨a0, vs0, rfl, hv0, _⟩ := (r1.view A1.2 e1').lst
  refine ⟨tyV_lst hv0, _, m1, A1.2, d1, m2, e2, fun w ob2 H2 A2 r2 => ?_⟩
  obtain ⟨a1, ds, ds', vs, ev, hv, rv, hh, _, hl, upd⟩ := updO_sit A2.2 (A2.repO r1) e3
  cases ev
  split at hh
  · rename_i hz
    cases hh
    obtain ⟨x, S3⟩ := upd (vs ++ [w]) (rv.append (.cons r2 .nil))
    refine ⟨a0, vs, w, rfl, rfl, hv, by rw [rv.length]; exact hz, ?_⟩
    have A3 : After X.K X.mg { W with ob := ob2 } σ H2 m2 ob2 (L2.upd H2 a0 (.lst (vs ++ [w]))) m' := ⟨by rw [hl]; exact x, S3⟩
    exact q _ ob2 _ ((A1.trans A2).trans A3) .non
  · cases hh
/-- x.pop(), x.pop(k) -/
def ePop (g : Co Opd) : Co D := Co.bind (isLst g) fun o m => match o.get m with
  | some (.lst ds) => match ds[ds.length - 1]? with
    | some d => match updO o (fun ds => some ds.dropLast) m with
      | .ok _ m' => .ok d m'
      | .no => .no
    | none => .no
  | _ => .no
theorem ee_pop (hg : EB X a g)
    (hx : ∀ {r : V → List V → Hp → VK → Prop} {to : TE}, MtR X "list.pop" r → PE X a to → PE X (.Call (.Attribute a "pop" ap) [] [] cp) (tBM0 X.K "list" r to) := by exact fun hm ho => pe_bm0 PySem.F.plainAttrs_list PySem.F.slot_list_pop PySem.F.type_list_pop hm ho) :
    EE X (.Call (.Attribute a "pop" ap) [] [] cp) (ePop g) := PE.imp (hx mt_pop hg) fun σ H Q ⟨W, m, S, d, m', hf, q⟩ => by
  obtain ⟨o, m1, e1, hf⟩ := Co.bind_ok hf
  obtain ⟨ds0, e1, e1'⟩ := isLst_ok e1
  simp only [e1'] at hf
  cases e2 : ds0[ds0.length - 1]? with
  | none => rw [e2] at hf; cases hf
  | some d0 =>
    rw [e2] at hf
    simp only at hf
    cases e3 : updO o (fun ds => some ds.dropLast) m1 with
    | no => rw [e3] at hf; cases hf
    | ok u m2 =>
      rw [e3] at hf
      cases hf
      refine ⟨W, m, S, o, m1, e1, fun v ob1 H1 A1 r1 => ?_⟩
      obtain ⟨a1, ds, ds', vs, rfl, hv, rv, hh, hg2, hl, upd⟩ := updO_sit A1.2 r1 e3
      rw [e1'] at hg2
      cases hg2
      cases hh
      obtain ⟨x, S3⟩ := upd vs.dropLast rv.dropLast
      obtain ⟨w, hw, rw'⟩ := rv.get' e2
      refine ⟨tyV_lst hv, a1, vs, w, rfl, rfl, hv, by rw [rv.length]; exact hw, ?_⟩
      have A3 : After X.K X.mg { W with ob := ob1 } σ H1 m1 ob1 (L2.upd H1 a1 (.lst vs.dropLast)) m' := ⟨by rw [hl]; exact x, S3⟩
      exact q _ ob1 _ (A1.trans A3) (A3.rep rw')
def CIx (i : Int) : Prop := -(2 ^ 63) ≤ i ∧ i < 2 ^ 63
instance {i : Int} : Decidable (CIx i) := inferInstanceAs (Decidable (_ ∧ _))
def ePopAt (g : Co Opd) (f : Co D) : Co D := Co.bind (isLst g) fun o => Co.bind f fun k m => match k with
  | .int i => if CIx i then match o.get m with
    | some (.lst ds) => match seqIndex? i ds.length with
      | some j => match ds[j]? with
        | some d => match updO o (fun ds => some (ds.eraseIdx j)) m with
          | .ok _ m' => .ok d m'
          | .no => .no
        | none => .no
      | none => .no
    | _ => .no
    else .no
  | _ => .no
theorem ee_popAt (hg : EB X a g) (he : EE X e f)
    (hx : ∀ {r : V → List V → Hp → VK → Prop} {to : TE} {t : TA}, MtR X "list.pop" r → PE X a to → PA X [e] t → PE X (.Call (.Attribute a "pop" ap) [e] [] cp) (tBM X.K "list" r to t) := by exact fun hm ho ha => pe_bm PySem.F.plainAttrs_list PySem.F.slot_list_pop PySem.F.type_list_pop hm ho ha)
    (hs : starEach (e :: []) X.env = (false, eval e X.env) :: starEach [] X.env := by rfl) :
    EE X (.Call (.Attribute a "pop" ap) [e] [] cp) (ePopAt g f) := PE.imp (hx mt_popAt hg (pa_cons he pa_nil hs)) fun σ H Q ⟨W, m, S, d, m', hf, q⟩ => by
  obtain ⟨o, m1, e1, hf⟩ := Co.bind_ok hf
  obtain ⟨k, m2, e2, hf⟩ := Co.bind_ok hf
  obtain ⟨ds0, e1, e1'⟩ := isLst_ok e1
  cases k <;> first
    | (cases hf; done)
    | skip
  rename_i i
  simp only at hf
  by_cases hi : CIx i
  · rw [if_pos hi] at hf
    split at hf
    · rename_i ds eg
      cases e3 : seqIndex? i ds.length with
      | none => rw [e3] at hf; cases hf
      | some j =>
        rw [e3] at hf
        simp only at hf
        cases e4 : ds[j]? with
        | none => rw [e4] at hf; cases hf
        | some d0 =>
          rw [e4] at hf
          simp only at hf
          cases e5 : updO o (fun ds => some (ds.eraseIdx j)) m2 with
          | no => rw [e5] at hf; cases hf
          | ok u m3 =>
            rw [e5] at hf
            cases hf
            refine ⟨W, m, S, o, m1, e1, fun v ob1 H1 A1 r1 => ?_⟩
            obtain ⟨a0, vs0, rfl, hv0, _⟩ := (r1.view A1.2 e1').lst
            refine ⟨tyV_lst hv0, _, m1, A1.2, _, m2, e2, fun w ob2 H2 A2 r2 => ?_⟩
            cases r2
            obtain ⟨a1, es, ds', vs, ev, hv, rv, hh, hg2, hl, upd⟩ := updO_sit A2.2 (A2.repO r1) e5
            cases ev
            rw [eg] at hg2
            cases hg2
            cases hh
            obtain ⟨x, S3⟩ := upd (vs.eraseIdx j) (rv.eraseIdx j)
            obtain ⟨w, hw, rw'⟩ := rv.get' e4
            refine ⟨a0, vs, i, j, w, rfl, rfl, hv, hi.1, hi.2, by rw [rv.length]; exact e3, hw, ?_⟩
            have A3 : After X.K X.mg { W with ob := ob2 } σ H2 m2 ob2 (L2.upd H2 a0 (.lst (vs.eraseIdx j))) m' := ⟨by rw [hl]; exact x, S3⟩
            exact q _ ob2 _ ((A1.trans A2).trans A3) (A3.rep rw')
    · cases hf
  · rw [if_neg hi] at hf; cases hf
/-- x[i] = e, a list -/
def sLSet (g : Co Opd) (fi fe : Co D) : Co Flow' := Co.bind fe fun d => Co.bind g fun o => Co.bind fi fun k => match k with
  | .int i => Co.bind (updO o fun ds => (ixN ds.length i).map fun j => ds.set j d) fun _ => Co.ret .nx
  | _ => fun _ => .no
theorem ss_lset {tp : Pos} (he : EE X e fe) (hg : EB X a g) (hi : EE X b fi)
    (hp : ∀ {to ti : TE} {t : TSet}, PE X a to → PE X b ti → PSet X t → PG X (.Subscript a b tp) (gSub to ti t) := by exact fun ho hi hs => pg_sub ho hi hs)
    (hs : swapsWithSole [.Subscript a b tp] e pos.line X.env = pure false := by rfl) (hw : swappedStores [.Subscript a b tp] e X.env = pure none := by rfl)
    (h1 : (assignEach [.Subscript a b tp] X.env).map (·.2) = [assign (.Subscript a b tp) X.env] := by rfl) : SS X (.Assign [.Subscript a b tp] e pos) (sLSet g fi fe) :=
  PS.imp (ps_asg he (hp hg hi set_list) hs hw h1) fun D σ H ⟨W, m, S, fl, m', hf, q⟩ => by
    obtain ⟨d, m1, e1, hf⟩ := Co.bind_ok hf
    obtain ⟨o, m2, e2, hf⟩ := Co.bind_ok hf
    obtain ⟨k, m3, e3, hf⟩ := Co.bind_ok hf
    cases k <;> first
      | (cases hf; done)
      | skip
    obtain ⟨_, m4, e4, hf⟩ := Co.bind_ok hf
    cases hf
    refine ⟨W, m, S, d, m1, e1, fun v ob1 H1 A1 r1 => ?_⟩
    refine ⟨_, m1, A1.2, o, m2, e2, fun w ob2 H2 A2 r2 => ?_⟩
    refine ⟨_, m2, A2.2, _, m3, e3, fun u ob3 H3 A3 r3 => ?_⟩
    cases r3
    obtain ⟨a1, ds, ds', vs, rfl, hv, rv, hh, _, hl, upd⟩ := updO_sit A3.2 (A3.repO r2) e4
    obtain ⟨j, hj, e5⟩ := Option.map_eq_some_iff.mp hh
    subst e5
    have rd := A3.rep (A2.rep r1)
    obtain ⟨x, S4⟩ := upd (vs.set j v) (rv.set rd j)
    exact ⟨a1, vs, _, j, rfl, rfl, hv, by rw [rv.length]; exact hj, q { W with ob := ob3 } σ _ ⟨rfl, rfl, rfl⟩ S4⟩
/-- x[i] += e, a list of ints -/
theorem get_list : PGet X (fun o i H Q => ∃ p xs k y, o = .ref p ∧ i = .int k ∧ H p = some (.lst xs) ∧ 0 ≤ k ∧ k < 2 ^ 63 ∧ xs[k.toNat]? = some y ∧ Q y H) := by
  intro pins s σ H o i ov iv Q I ro ri h
  obtain ⟨p, xs, k, y, rfl, rfl, hp, h0, h1, hy, q⟩ := h
  cases ro
  obtain ⟨t, rfl⟩ := ri
  obtain ⟨its, r, pl, hz⟩ := I.list (SqL.of hp)
  obtain ⟨w, ew, rw'⟩ := r.get hy
  exact wpAny_getItem_list pl.isList h0 h1 (by simpa using ew) ⟨y, H, I, rw', q⟩
def sLAug (op : Int → Int → Int) (g : Co Opd) (fi fe : Co D) : Co Flow' := Co.bind g fun o => Co.bind fi fun k => match k with
  | .int i => fun m => if 0 ≤ i ∧ i < 2 ^ 63 then match o.get m with
    | some (.lst ds) => match ds[i.toNat]? with
      | some (.int u) => (Co.bind fe fun d => match d with
        | .int w => Co.bind (updO o fun ds => if i.toNat < ds.length then some (ds.set i.toNat (.int (op u w))) else none) fun _ => Co.ret .nx
        | _ => fun _ => .no) m
      | _ => .no
    | _ => .no
    else .no
  | _ => fun _ => .no
theorem ss_laug {op : Operator} {f2 : Int → Int → Int} {tp : Pos} (hop : PIp X op (ipI f2)) (hg : EB X a g) (hi : EE X b fi) (he : EE X e fe)
    (ha : ∀ ov iv new, augStore b ov iv new = (do holding [new, ov, iv] (setItem ov iv new); release [new, ov, iv] []; pure .next) := by intros; rfl) :
    SS X (.AugAssign (.Subscript a b tp) op e pos) (sLAug f2 g fi fe) := PS.imp (ps_augS hg hi get_list he hop set_list ha) fun D σ H ⟨W, m, S, fl, m', hf, q⟩ => by
  obtain ⟨o, m1, e1, hf⟩ := Co.bind_ok hf
  obtain ⟨k, m2, e2, hf⟩ := Co.bind_ok hf
  cases k <;> first
    | (cases hf; done)
    | skip
  rename_i i
  simp only at hf
  by_cases hi : 0 ≤ i ∧ i < 2 ^ 63
  · rw [if_pos hi] at hf
    split at hf
    · rename_i ds eg
      split at hf
      · rename_i u eu
        obtain ⟨d, m3, e3, hf⟩ := Co.bind_ok hf
        cases d <;> first
          | (cases hf; done)
          | skip
        obtain ⟨_, m4, e4, hf⟩ := Co.bind_ok hf
        cases hf
        refine ⟨W, m, S, o, m1, e1, fun v ob1 H1 A1 r1 => ?_⟩
        refine ⟨_, m1, A1.2, _, m2, e2, fun w ob2 H2 A2 r2 => ?_⟩
        cases r2
        obtain ⟨a0, vs0, ev0, hv0, rv0⟩ := ((A2.repO r1).view A2.2 eg).lst
        obtain ⟨y, hy, ry⟩ := rv0.get' eu
        cases ry
        refine ⟨a0, vs0, i, _, ev0, rfl, hv0, hi.1, hi.2, hy, ?_⟩
        refine ⟨_, m2, A2.2, _, m3, e3, fun z ob3 H3 A3 r3 => ?_⟩
        cases r3
        refine ⟨_, _, rfl, rfl, ?_⟩
        obtain ⟨a1, es, ds', vs, ev, hv, rv, hh, _, hl, upd⟩ := updO_sit A3.2 (A3.repO (A2.repO r1)) e4
        split at hh
        · rename_i hlt
          cases hh
          obtain ⟨x, S4⟩ := upd (vs.set i.toNat (.int _)) (rv.set (.int _) i.toNat)
          refine ⟨a1, vs, i, i.toNat, ev, rfl, hv, ?_, q { W with ob := ob3 } σ _ ⟨rfl, rfl, rfl⟩ S4⟩
          unfold ixN
          rw [rv.length, if_pos hi.1, if_pos (by omega)]
        · cases hh
      · cases hf
    · cases hf
  · rw [if_neg hi] at hf; cases hf
end
end PD
namespace PD
open PySem PySem.Spec PyProof.Rows L2

/-! ### another beginning for the story of a frame -/
abbrev Wd.base (W : Wd) (no : Nat) (H : Hp) : Wd := { W with E0 := W.ev no, H0 := H }
section
variable {K : PySem.W.Frag} {mg : Str → Option Value} {W W1 : Wd} {σ σ0 : L2.St} {H H0 : Hp} {m m0 m' : M} {D : Ends} {fl : Flow'}
theorem Sit.rebase (S : Sit K mg W σ H m) : Sit K mg (W.base m.obs.length H) σ H m := ⟨S.len, .refl, S.pl, S.ow, S.owi, S.inj, S.ob, S.obi, S.obo, S.n0, S.o0⟩
theorem Sit.back (S0 : Sit K mg W σ0 H0 m0) (S : Sit K mg W1 σ H m) (e : W1.E0 = W.ev m0.obs.length) (h : W1.H0 = H0) : Sit K mg { W1 with E0 := W.E0, H0 := W.H0 } σ H m :=
  ⟨S.len, S0.ext.trans (by rw [← e, ← h]; exact S.ext), S.pl, S.ow, S.owi, S.inj, S.ob, S.obi, S.obo, S.n0, S.o0⟩
theorem FPost.base (S0 : Sit K mg W σ0 H0 m0) (q : FPost K mg D W m' fl) : FPost K mg D (W.base m0.obs.length H0) m' fl := by
  cases fl with
  | nx => exact fun W' σ' H' l S => q { W' with E0 := W.E0, H0 := W.H0 } σ' H' ⟨l.1, rfl, rfl⟩ (S0.back S l.2.1 l.2.2)
  | bk => exact fun W' σ' H' l S => q { W' with E0 := W.E0, H0 := W.H0 } σ' H' ⟨l.1, rfl, rfl⟩ (S0.back S l.2.1 l.2.2)
  | ct => exact fun W' σ' H' l S => q { W' with E0 := W.E0, H0 := W.H0 } σ' H' ⟨l.1, rfl, rfl⟩ (S0.back S l.2.1 l.2.2)
  | rt d => exact fun W' σ' H' v l S r => q { W' with E0 := W.E0, H0 := W.H0 } σ' H' v ⟨l.1, rfl, rfl⟩ (S0.back S l.2.1 l.2.2) r
  | rf d =>
    intro W' σ' H' a l n z S c
    refine q { W' with E0 := W.E0, H0 := W.H0 } σ' H' a ⟨l.1, rfl, rfl⟩ n ?_ (S0.back S l.2.1 l.2.2) c
    rw [l.2.1, l.2.2] at z
    rcases z with z | z
    · exact S0.ext.m2 a z
    · exact .inr (S0.ext.nn z)
end
/-! ### targets -/
def setTg (t : Bool) (is : List Nat) (d : D) (env : List Slot) : Option (List Slot) := match t with
  | false => setEnv env is [(false, d)]
  | true => match d with
    | .tup ds => setEnv env is (ds.map fun d => (false, d))
    | _ => none
def gD (K : PySem.W.Frag) (mg : Str → Option Value) (t : Bool) (is : List Nat) : TG := fun v σ H Q => ∃ W m d env, Sit K mg W σ H m ∧ Rep K mg (W.ev m.obs.length) H v d ∧ setTg t is d m.env = some env ∧
  ∀ W' vs, Lat W W' → W'.ob = W.ob → (∀ j, j ∉ is → W'.own j = W.own j) → Sit K mg W' (setSt σ is vs) H { m with env := env } → Q (setSt σ is vs) H
abbrev GG (X : Cx) (tg : Expr) (t : Bool) (is : List Nat) : Prop := PG X tg (gD X.K X.mg t is)
section
variable {X : Cx} {tg : Expr} {g g' : TG} {pos : Pos} {ts : List Expr}
theorem PG.imp (h : PG X tg g) (f : ∀ v σ H Q, g' v σ H Q → g v σ H Q) : PG X tg g' := ⟨fun pins s σ H v u Q I r q => h.run pins s σ H v u Q I r (f v σ H Q q)⟩
theorem gg_name {i : Nat} {x : Str} (hN : X.N.Nodup) (hi : X.N[i]? = some x := by rfl) (hx : Loc X.env.scope x := by first | exact Or.inl rfl | exact Or.inr rfl)
    (hf : X.fn x = true ∨ X.env.scope.names.lookup x = some .local := by first | exact .inl rfl | exact .inr rfl) : GG X (.Name x pos) false [i] :=
  PG.imp (pg_name hN hi hx hf) fun v σ H Q ⟨W, m, d, env, S, r, e, q⟩ => by
    obtain ⟨W', h1, h2, h3, h4, h5, S2⟩ := Sit.setAll (B := W.N0) (F := []) (fun b => by simp) (fun a h => nomatch h) .nil S (.pl r .nil) e
    exact q W' [v] ⟨h1, h2, h3⟩ h4 h5 S2
theorem gg_tup {is : List Nat} {k : Nat} (hg : PGs X ts (gNames is)) (hc : X.calm = true := by rfl) (hn : (assignEach ts X.env).length = is.length := by rfl) (hst : (assignEach ts X.env).findIdx? (·.1) = none := by rfl) : GG X (.Tuple ts k pos) true is :=
  PG.imp (pg_tup hc hg hn hst) fun v σ H Q ⟨W, m, d, env, S, r, e, q⟩ => by
    cases d <;> first
      | (cases e; done)
      | skip
    rename_i ds
    have e3 : setEnv m.env is (ds.map fun d => (false, d)) = some env := e
    cases r with
    | tup h r =>
      have hl : _ = is.length := (RepX_len (RepL.x r)).trans (setEnv_len e3).symm
      refine ⟨_, _, rfl, SqT.of h, hl, gNames_rd hl ?_⟩
      obtain ⟨W', h1, h2, h3, h4, h5, S2⟩ := Sit.setAll (B := W.N0) (F := []) (fun b => by simp) (fun a h => nomatch h) .nil S (RepL.x r) e3
      exact q W' _ ⟨h1, h2, h3⟩ h4 h5 S2
end
/-! ### what is walked -/
structure ItD (K : PySem.W.Frag) (mg : Str → Option Value) (E0 : Ev) (H0 : Hp) (J : It) (ds : List D) : Prop where
  ex : ∃ Y, Walk J ds.length (fun H => ∃ E, Ext E0 H0 E H) Y ∧ ∀ i E H x H', Ext E0 H0 E H → Y i H x H' → Same H H' ∧ ∀ d, ds[i]? = some d → Rep K mg E H' x d
def rdI (K : PySem.W.Frag) (mg : Str → Option Value) (f : Co (List D)) : TI := fun σ H R => ∃ W m, Sit K mg W σ H m ∧ ∃ ds m', f m = .ok ds m' ∧
  ∀ J ob' H', After K mg W σ H m ob' H' m' → (∀ M' : Addr → Prop, (∀ a, M' a → ({ W with ob := ob' }.ev m'.obs.length).N a) → ItD K mg { ({ W with ob := ob' }.ev m'.obs.length) with Mx := M' } H' J ds) → R J H'
abbrev EI (X : Cx) (tg e : Expr) (f : Co (List D)) : Prop := PI X tg e (rdI X.K X.mg f)
section
variable {K : PySem.W.Frag} {mg : Str → Option Value} {E0 : Ev} {H0 : Hp} {J : It} {ds : List D}
theorem ItD.of {G : Hp → Prop} {Y : Nat → Hp → V → Hp → Prop} {n : Nat} (w : Walk J n G Y) (hn : n = ds.length) (hG : ∀ E H, Ext E0 H0 E H → G H)
    (hY : ∀ i E H x H', Ext E0 H0 E H → Y i H x H' → Same H H' ∧ ∀ d, ds[i]? = some d → Rep K mg E H' x d) : ItD K mg E0 H0 J ds :=
  ⟨Y, by rw [← hn]; exact w.mono (fun H ⟨E, x⟩ => hG E H x) fun _ _ _ _ _ _ y => y, hY⟩
theorem Same.refl (H : Hp) : Same H H := fun _ _ h => h
theorem ItD.lst {a : Addr} {vs : List V} (sb : E0.Sub) (h : ∀ E H, Ext E0 H0 E H → SqL K H a vs) (r : RepL K mg E0 H0 vs ds) : ItD K mg E0 H0 (Itl K a) ds :=
  .of walk_list r.length h fun i E H x H' e y => by
    obtain ⟨rfl, y⟩ := y
    refine ⟨Same.refl _, fun d hd => ?_⟩
    obtain ⟨v, hv, rv⟩ := r.get' hd
    rw [y] at hv; cases hv
    exact rv.ext e sb
theorem ItD.tup {a : Addr} {vs : List V} (sb : E0.Sub) (h : ∀ E H, Ext E0 H0 E H → SqT K H a vs) (r : RepL K mg E0 H0 vs ds) : ItD K mg E0 H0 (Itt K a) ds :=
  .of walk_tup r.length h fun i E H x H' e y => by
    obtain ⟨rfl, y⟩ := y
    refine ⟨Same.refl _, fun d hd => ?_⟩
    obtain ⟨v, hv, rv⟩ := r.get' hd
    rw [y] at hv; cases hv
    exact rv.ext e sb
/-- lo, lo + 1, .. below hi -/
def rgD (lo hi : Int) : List D := (List.range (hi - lo).toNat).map fun (i : Nat) => D.int (lo + i)
theorem ItD.rg {lo hi : Int} : ItD K mg E0 H0 (Itr lo (hi - lo).toNat) (rgD lo hi) :=
  .of walk_range (by simp [rgD]) (fun _ _ _ => trivial) fun i E H x H' e y => by
    obtain ⟨rfl, rfl⟩ := y
    refine ⟨Same.refl _, fun d hd => ?_⟩
    unfold rgD at hd
    rw [List.getElem?_map] at hd
    obtain ⟨j, hj, rfl⟩ := Option.map_eq_some_iff.mp hd
    rw [List.getElem?_range (by
      rcases Nat.lt_or_ge i (hi - lo).toNat with z | z
      · exact z
      · rw [List.getElem?_eq_none (by simpa using z)] at hj; cases hj)] at hj
    cases hj
    exact .int _
def chD (z : Str) : List D := z.cps.toList.map fun c => D.str ⟨#[c]⟩
theorem ItD.str {z : Str} : ItD K mg E0 H0 (Its z) (chD z) :=
  .of walk_str (by simp [chD]) (fun _ _ _ => trivial) fun i E H x H' e y => by
    obtain ⟨rfl, c, hc, rfl⟩ := y
    refine ⟨Same.refl _, fun d hd => ?_⟩
    unfold chD at hd
    rw [List.getElem?_map, Array.getElem?_toList, hc] at hd
    cases hd
    exact .str _
end
section
variable {X : Cx} {tg e a b iter : Expr} {f : Co D} {fs : Co (List D)} {fi : Co (List D)} {fb : Co Flow'} {fc : Co Bool} {pos p : Pos} {body : List Stmt} {t : Bool} {is : List Nat}
theorem PI.or {w w' : TI} (h : PI X tg e w) (h' : PI X tg e w') : PI X tg e (fun σ H R => w σ H R ∨ w' σ H R) := ⟨fun pins s σ H R I q => q.elim (h.run pins s σ H R I) (h'.run pins s σ H R I)⟩
/-- a list, a tuple, the script, a text -/
def itD : D → Option (List D)
  | .lst ds => some ds
  | .tup ds => some ds
  | .scr ns => some (ns.map D.int)
  | .str x => some (chD x)
  | _ => none
def iVal (f : Co D) : Co (List D) := Co.bind f fun d => Co.lift (itD d)
theorem repL_ints {K : PySem.W.Frag} {mg : Str → Option Value} {E : Ev} {H : Hp} : ∀ (ns : List Int), RepL K mg E H (ns.map V.int) (ns.map D.int)
  | [] => .nil
  | n :: ns => .cons (.int n) (repL_ints ns)
theorem ei_val (he : EE X e f) : EI X tg e (iVal f) := PI.imp (PI.or (PI.or (pi_list he) (pi_tup he)) (pi_str he)) fun σ H R ⟨W, m, S, ds, m', hf, q⟩ => by
  obtain ⟨d, m1, e1, hf⟩ := Co.bind_ok hf
  cases d <;> first
    | (cases hf; done)
    | (cases hf; skip)
  · rename_i x
    refine .inr ⟨W, m, S, _, _, e1, fun v ob' H' A r => ?_⟩
    cases r
    exact ⟨_, rfl, q _ ob' H' A fun _ _ => .str⟩
  · refine .inl (.inr ⟨W, m, S, _, _, e1, fun v ob' H' A r => ?_⟩)
    cases r with
    | tup h r => exact ⟨_, rfl, ⟨_, SqT.of h⟩, q _ ob' H' A fun _ hM => .tup hM (fun E H x => SqT.of (x.tup _ _ h)) (r.le (Ev.le_mx _ _))⟩
  · refine .inl (.inl ⟨W, m, S, _, _, e1, fun v ob' H' A r => ?_⟩)
    cases r with
    | lst h n r => exact ⟨_, rfl, ⟨_, SqL.of h⟩, q _ ob' H' A fun _ hM => .lst hM (fun E H x => SqL.of (x.keep _ _ (fun z => n (hM _ z)) h)) (r.le (Ev.le_mx _ _))⟩
  · rename_i ns
    refine .inl (.inl ⟨W, m, S, _, _, e1, fun v ob' H' A r => ?_⟩)
    cases r with
    | scr _ h n => exact ⟨_, rfl, ⟨_, .inl h⟩, q _ ob' H' A fun _ hM => .lst hM (fun E H x => .inl (x.rd hM h n).1) (repL_ints ns)⟩
    | scrK _ h => exact ⟨_, rfl, ⟨_, h _⟩, q _ ob' H' A fun _ hM => .lst hM (fun E H x => h H) (repL_ints ns)⟩
def CRg (i : Int) : Prop := -(2 ^ 62) ≤ i ∧ i < 2 ^ 62
instance {i : Int} : Decidable (CRg i) := inferInstanceAs (Decidable (_ ∧ _))
/-- range(..) -/
def rg1 : List D → Option (List D)
  | [.int j] => if CRg j then some (rgD 0 j) else none
  | _ => none
def rg2 : List D → Option (List D)
  | [.int i, .int j] => if CRg i ∧ CRg j then some (rgD i j) else none
  | _ => none
theorem rg1_ok {as ds : List D} (h : rg1 as = some ds) : ∃ j, as = [.int j] ∧ CRg j ∧ ds = rgD 0 j := by
  unfold rg1 at h
  split at h
  · split at h
    · cases h; exact ⟨_, rfl, by assumption, rfl⟩
    · cases h
  · cases h
theorem rg2_ok {as ds : List D} (h : rg2 as = some ds) : ∃ i j, as = [.int i, .int j] ∧ CRg i ∧ CRg j ∧ ds = rgD i j := by
  unfold rg2 at h
  split at h
  · split at h
    · rename_i c; cases h; exact ⟨_, _, rfl, c.1, c.2, rfl⟩
    · cases h
  · cases h
theorem Co.lift_ok {α : Type} {o : Option α} {m m' : M} {x : α} (h : Co.lift o m = .ok x m') : o = some x ∧ m' = m := by
  unfold Co.lift at h
  split at h
  · cases h; exact ⟨rfl, rfl⟩
  · cases h
def iRg1' (fs : Co (List D)) : Co (List D) := Co.bind fs fun ds => Co.lift (rg1 ds)
def iRg2' (fs : Co (List D)) : Co (List D) := Co.bind fs fun ds => Co.lift (rg2 ds)
theorem ei_rg1 (hm : X.mg "range" = none) (ha : EA X [a] fs) (hg : Gl X "range" := by rfl) (hs : starEach [a] X.env = [(false, eval a X.env)] := by rfl) : EI X tg (.Call (.Name "range" p) [a] [] pos) (iRg1' fs) :=
  PI.imp (pi_range1 hg hm ha hs) fun σ H R ⟨W, m, S, ds, m', hf, q⟩ => by
    obtain ⟨as, m1, e1, hf⟩ := Co.bind_ok hf
    obtain ⟨h, rfl⟩ := Co.lift_ok hf
    obtain ⟨j, rfl, c, rfl⟩ := rg1_ok h
    refine ⟨W, m, S, _, _, e1, fun vs ob' H' A r => ?_⟩
    cases r with
    | cons r t =>
      cases r; cases t
      refine ⟨_, rfl, c.1, c.2, q _ ob' H' A fun M' _ => ?_⟩
      have := ItD.rg (K := X.K) (mg := X.mg) (E0 := { ({ W with ob := ob' }.ev m'.obs.length) with Mx := M' }) (H0 := H') (lo := 0) (hi := j)
      simpa using this
theorem ei_rg2 (hm : X.mg "range" = none) (ha : EA X [a, b] fs) (hg : Gl X "range" := by rfl) (hs : starEach [a, b] X.env = [(false, eval a X.env), (false, eval b X.env)] := by rfl) (hs2 : starEach [b] X.env = [(false, eval b X.env)] := by rfl) :
    EI X tg (.Call (.Name "range" p) [a, b] [] pos) (iRg2' fs) :=
  PI.imp (pi_range2 hg hm ha hs hs2) fun σ H R ⟨W, m, S, ds, m', hf, q⟩ => by
    obtain ⟨as, m1, e1, hf⟩ := Co.bind_ok hf
    obtain ⟨h, rfl⟩ := Co.lift_ok hf
    obtain ⟨i, j, rfl, c, c2, rfl⟩ := rg2_ok h
    refine ⟨W, m, S, _, _, e1, fun vs ob' H' A r => ?_⟩
    cases r with
    | cons r t =>
      cases t with
      | cons r' t =>
        cases r; cases r'; cases t
        exact ⟨_, _, rfl, ⟨c.1, c.2, c2.1, c2.2⟩, q _ ob' H' A fun _ _ => .rg⟩
/-- zip of two lists or of two tuples; enumerate of a list -/
def zipD : List D → Option (List D)
  | [.lst as, .lst bs] => some ((as.zip bs).map fun p => .tup [p.1, p.2])
  | [.tup as, .tup bs] => some ((as.zip bs).map fun p => .tup [p.1, p.2])
  | _ => none
def iZip (fs : Co (List D)) : Co (List D) := Co.bind fs fun ds => Co.lift (zipD ds)
theorem ItD.pair {K : PySem.W.Frag} {mg : Str → Option Value} {E0 : Ev} {H0 : Hp} {J : It} {n : Nat} {G : Hp → Prop} {xs ys : Nat → Option V} {ds : List D} (sb : E0.Sub) (w : Walk J n G (YPair xs ys)) (hn : n = ds.length) (hG : ∀ E H, Ext E0 H0 E H → G H)
    (hY : ∀ i x y d, xs i = some x → ys i = some y → ds[i]? = some d → ∃ a b, d = .tup [a, b] ∧ Rep K mg E0 H0 x a ∧ Rep K mg E0 H0 y b) : ItD K mg E0 H0 J ds :=
  .of w hn hG fun i E H v H' e y => by
    obtain ⟨T, x, y, rfl, hT, rfl, hx, hy⟩ := y
    have sm := same_new hT (.tup [x, y])
    refine ⟨sm, fun d hd => ?_⟩
    obtain ⟨a, b, rfl, ra, rb⟩ := hY i x y d hx hy hd
    exact .tup upd_same (.cons ((ra.ext e sb).up sm) (.cons ((rb.ext e sb).up sm) .nil))
theorem repL_zip {K : PySem.W.Frag} {mg : Str → Option Value} {E : Ev} {H : Hp} {vs ws : List V} {as bs : List D} (r : RepL K mg E H vs as) (r2 : RepL K mg E H ws bs) (i : Nat) (x y : V) (d : D) (hx : vs[i]? = some x) (hy : ws[i]? = some y)
    (hd : ((as.zip bs).map fun p => D.tup [p.1, p.2])[i]? = some d) : ∃ a b, d = .tup [a, b] ∧ Rep K mg E H x a ∧ Rep K mg E H y b := by
  rw [List.getElem?_map] at hd
  obtain ⟨⟨a, b⟩, hab, rfl⟩ := Option.map_eq_some_iff.mp hd
  obtain ⟨ha, hb⟩ := List.getElem?_zip_eq_some.mp hab
  obtain ⟨v, hv, rv⟩ := r.get' ha
  obtain ⟨w, hw, rw'⟩ := r2.get' hb
  rw [hx] at hv; cases hv
  rw [hy] at hw; cases hw
  exact ⟨a, b, rfl, rv, rw'⟩
theorem ei_zip {tpos : Pos} {elts : List Expr} {kk : Nat} (hm : X.mg "zip" = none) (ha : EA X [a, b] fs) (hg : Gl X "zip" := by rfl)
    (hs : starEach [a, b] X.env = (false, eval a X.env) :: starEach [b] X.env := by rfl) (hpl : (backTo pos (starEach [b] X.env)).any (·.1) = false := by rfl) :
    EI X (.Tuple elts kk tpos) (.Call (.Name "zip" p) [a, b] [] pos) (iZip fs) :=
  PI.imp (RZ.pi_zipA hg hm ha hs hpl) fun σ H R ⟨W, m, S, ds, m', hf, q⟩ => by
    obtain ⟨as, m1, e1, hf⟩ := Co.bind_ok hf
    obtain ⟨h, rfl⟩ := Co.lift_ok hf
    refine ⟨W, m, S, _, _, e1, fun vs ob' H' A r => ?_⟩
    unfold zipD at h
    split at h
    · cases h
      rename_i as bs
      cases r with
      | cons r t =>
        cases t with
        | cons r' t =>
          cases t
          cases r with
          | @lst a1 vs1 _ h1 n1 r1 =>
          cases r' with
          | @lst a2 vs2 _ h2 n2 r2 =>
          refine ⟨_, _, _, _, rfl, .inl ⟨SqL.of h1, SqL.of h2, q _ ob' H' A fun M' hM => ?_⟩⟩
          refine .pair hM (walk_zip (xs := vs1) (ys := vs2) rfl) ?_ (fun E H x => ⟨SqL.of (x.keep _ _ (fun z => n1 (hM _ z)) h1), SqL.of (x.keep _ _ (fun z => n2 (hM _ z)) h2)⟩) (repL_zip (r1.le (Ev.le_mx _ _)) (r2.le (Ev.le_mx _ _)))
          simp [r1.length, r2.length]
    · cases h
      rename_i as bs
      cases r with
      | cons r t =>
        cases t with
        | cons r' t =>
          cases t
          cases r with
          | @tup a1 vs1 _ h1 r1 =>
          cases r' with
          | @tup a2 vs2 _ h2 r2 =>
          refine ⟨_, _, _, _, rfl, .inr ⟨SqT.of h1, SqT.of h2, q _ ob' H' A fun M' hM => ?_⟩⟩
          have w : Walk (RZ.ItzT X.K a1 a2) (min vs1.length vs2.length) (fun H => SqT X.K H a1 vs1 ∧ SqT X.K H a2 vs2) (YPair (fun i => vs1[i]?) (fun i => vs2[i]?)) := by
            refine ⟨fun i _ hi q => ?_, fun _ q => ⟨vs1, vs2, q.1, q.2, by omega⟩, fun i H v H' _ q y => ?_⟩
            · have h1 : i < vs1.length := by omega
              have h2 : i < vs2.length := by omega
              exact ⟨vs1, vs2, vs1[i], vs2[i], q.1, q.2, by simp [h1], by simp [h2]⟩
            · obtain ⟨T, x, z, h1, h2, h3, h4, h5⟩ := y
              exact ⟨T, x, z, h1, h2, h3, h4 vs1 q.1, h5 vs2 q.2⟩
          refine .pair hM w ?_ (fun E H x => ⟨SqT.of (x.tup _ _ h1), SqT.of (x.tup _ _ h2)⟩) (repL_zip (r1.le (Ev.le_mx _ _)) (r2.le (Ev.le_mx _ _)))
          simp [r1.length, r2.length]
    · cases h
def enumD (k : Nat) : List D → List D
  | [] => []
  | d :: ds => .tup [.int k, d] :: enumD (k + 1) ds
theorem enumD_get : ∀ {ds : List D} {k i : Nat} {d : D}, (enumD k ds)[i]? = some d → ∃ b, ds[i]? = some b ∧ d = .tup [.int ((k + i : Nat) : Int), b]
  | [], _, _, _, h => nomatch h
  | e :: ds, k, 0, d, h => by cases h; exact ⟨e, rfl, rfl⟩
  | e :: ds, k, i + 1, d, h => by
    have h' : (enumD (k + 1) ds)[i]? = some d := by simpa [enumD] using h
    obtain ⟨b, hb, e⟩ := enumD_get h'
    exact ⟨b, by simpa using hb, by rw [e]; congr 4; omega⟩
theorem enumD_len : ∀ (ds : List D) (k : Nat), (enumD k ds).length = ds.length
  | [], _ => rfl
  | _ :: ds, k => by simp [enumD, enumD_len ds]
def iEnu (fs : Co (List D)) : Co (List D) := Co.bind fs fun ds => Co.lift (match ds with
  | [.lst as] => some (enumD 0 as)
  | _ => none)
theorem ei_enum {tpos : Pos} {elts : List Expr} {kk : Nat} (hm : X.mg "enumerate" = none) (ha : EA X [a] fs) (hg : Gl X "enumerate" := by rfl) (hs : starEach [a] X.env = [(false, eval a X.env)] := by rfl) :
    EI X (.Tuple elts kk tpos) (.Call (.Name "enumerate" p) [a] [] pos) (iEnu fs) :=
  PI.imp (pi_enum hg hm ha hs) fun σ H R ⟨W, m, S, ds, m', hf, q⟩ => by
    obtain ⟨as, m1, e1, hf⟩ := Co.bind_ok hf
    obtain ⟨h, rfl⟩ := Co.lift_ok hf
    refine ⟨W, m, S, _, _, e1, fun vs ob' H' A r => ?_⟩
    split at h
    · cases h
      cases r with
      | cons r t =>
        cases t
        cases r with
        | @lst a1 vs1 _ h1 n1 r1 =>
        refine ⟨_, _, rfl, SqL.of h1, q _ ob' H' A fun M' hM => ?_⟩
        refine .pair hM (walk_enum (xs := vs1)) ?_ (fun E H x => SqL.of (x.keep _ _ (fun z => n1 (hM _ z)) h1)) fun i x y d hx hy hd => ?_
        · rw [enumD_len, r1.length]
        · obtain ⟨b, hb, rfl⟩ := enumD_get hd
          obtain ⟨w, hw, rw'⟩ := r1.get' hb
          have hy' : vs1[i]? = some y := hy
          rw [hy'] at hw; cases hw
          cases hx
          exact ⟨_, _, rfl, by rw [Nat.zero_add]; exact .int _, rw'.le (Ev.le_mx _ _)⟩
    · cases h
/-! ### for -/
def forL (t : Bool) (is : List Nat) (b : Co Flow') : List D → Co Flow'
  | [], m => .ok .nx m
  | d :: ds, m => match setTg t is d m.env with
    | none => .no
    | some env => match b { m with env := env } with
      | .ok .nx m' => forL t is b ds m'
      | .ok .ct m' => forL t is b ds m'
      | .ok .bk m' => .ok .nx m'
      | .ok (.rt d) m' => .ok (.rt d) m'
      | .ok (.rf d) m' => .ok (.rf d) m'
      | .no => .no
def sFor (fi : Co (List D)) (t : Bool) (is : List Nat) (b : Co Flow') : Co Flow' := Co.bind fi fun ds => forL t is b ds
theorem for_rd {K : PySem.W.Frag} {mg : Str → Option Value} {W : Wd} {σ : L2.St} {H1 : Hp} {m1 m' : M} {J : It} {ds : List D} {fl : Flow'} {D : Ends} (S1 : Sit K mg W σ H1 m1) (it : ItD K mg (W.ev m1.obs.length) H1 J ds) (hf : forL t is fb ds m1 = .ok fl m') (q : FPost K mg D W m' fl) :
    ∃ Wv : Nat → Nat → L2.St → Hp → Prop, (∃ m, Wv 0 m σ H1) ∧ ∀ i m σ H, Wv i m σ H →
      (J.stop i H ∧ D.nx σ H) ∨ (J.go i H ∧ ∃ N : L2.St → Hp → Prop, (∀ σ' H', N σ' H' → ∃ m', m' < m ∧ Wv (i + 1) m' σ' H') ∧ ∀ x H', J.yld i H x H' → gD K mg t is x σ H' fun σ2 H2 => rdS K mg fb { D with nx := N, ct := N, bk := D.nx } σ2 H2) := by
  obtain ⟨Y, wk, yd⟩ := it
  have q1 : FPost K mg D (W.base m1.obs.length H1) m' fl := FPost.base S1 q
  refine for_it wk (fun i σ H => ∃ W2 m2, Lat (W.base m1.obs.length H1) W2 ∧ Sit K mg W2 σ H m2 ∧ forL t is fb (ds.drop i) m2 = .ok fl m') ⟨_, m1, Lat.refl _, S1.rebase, hf⟩ (fun i σ H _ ⟨W2, m2, l, S2, _⟩ => ?_) (fun i x σ H H' hi ⟨W2, m2, l, S2, h2⟩ y => ?_) fun σ H ⟨W2, m2, l, S2, h2⟩ => ?_
  · exact ⟨_, by have := S2.ext; rw [l.2.1, l.2.2] at this; exact this⟩
  · have ed : ds.drop i = ds[i] :: ds.drop (i + 1) := List.drop_eq_getElem_cons hi
    rw [ed] at h2
    unfold forL at h2
    have x2 := S2.ext
    rw [l.2.1, l.2.2] at x2
    obtain ⟨sm, rp⟩ := yd i _ H x H' x2 y
    cases e2 : setTg t is ds[i] m2.env with
    | none => rw [e2] at h2; cases h2
    | some env =>
      rw [e2] at h2
      refine ⟨W2, m2, ds[i], env, S2.same sm, rp ds[i] (by simp [hi]), e2, fun W3 vs l3 _ _ S3 => ?_⟩
      simp only at h2
      cases e3 : fb { m2 with env := env } with
      | no => rw [e3] at h2; cases h2
      | ok f3 m3 =>
        rw [e3] at h2
        refine ⟨W3, _, S3, f3, m3, e3, ?_⟩
        have l' := l.trans l3
        cases f3 with
        | nx => exact fun W4 σ4 H4 l4 S4 => ⟨W4, m3, l'.trans l4, S4, h2⟩
        | ct => exact fun W4 σ4 H4 l4 S4 => ⟨W4, m3, l'.trans l4, S4, h2⟩
        | bk => cases h2; exact fun W4 σ4 H4 l4 S4 => q1 W4 σ4 H4 (l'.trans l4) S4
        | rt d => cases h2; exact fun W4 σ4 H4 v l4 S4 r => q1 W4 σ4 H4 v (l'.trans l4) S4 r
        | rf d =>
          cases h2
          refine fun W4 σ4 H4 a l4 n z S c => q1 W4 σ4 H4 a (l'.trans l4) n z S c
  · rw [List.drop_length] at h2
    cases h2
    exact q1 W2 σ H l S2
theorem ss_for (hi : EI X tg iter fi) (hg : GG X tg t is) (hb : SSs X body fb) (hp : PassesOwn (model X.prog X.w) X.A X.env X.xe := by exact PassesOwn.never) (hc : X.calm = true := by rfl)
    (hs : ∀ x, foldedSetIterable iter X.env x = pure x := by intro _; rfl) : SS X (.For tg iter body [] pos) (sFor fi t is fb) :=
  PS.imp (ps_for hp hc hi hg hb hs) fun D σ H ⟨W, m, S, fl, m', hf, q⟩ => by
    obtain ⟨ds, m1, e1, hf⟩ := Co.bind_ok hf
    exact ⟨W, m, S, ds, m1, e1, fun J ob' H1 A it => for_rd A.2 (it _ (Wd.sub _ _)) hf (by cases fl <;> exact q)⟩
/-! ### while -/
def whileN (c : Co Bool) (b : Co Flow') : Nat → Co Flow'
  | 0, _ => .no
  | n + 1, m => match c m with
    | .no => .no
    | .ok false m1 => .ok .nx m1
    | .ok true m1 => match b m1 with
      | .ok .nx m' => whileN c b n m'
      | .ok .ct m' => whileN c b n m'
      | .ok .bk m' => .ok .nx m'
      | .ok (.rt d) m' => .ok (.rt d) m'
      | .ok (.rf d) m' => .ok (.rf d) m'
      | .no => .no
open Classical in
noncomputable def sWhile (c : Co Bool) (b : Co Flow') : Co Flow' := fun m =>
  if h : ∃ n fl m', whileN c b n m = .ok fl m' then whileN c b h.choose m else .no
theorem whileN_mono {c : Co Bool} {b : Co Flow'} : ∀ {n k : Nat} {m m' : M} {fl : Flow'}, whileN c b n m = .ok fl m' → n ≤ k → whileN c b k m = .ok fl m'
  | 0, _, _, _, _, h, _ => nomatch h
  | n + 1, 0, _, _, _, _, hk => absurd hk (by omega)
  | n + 1, k + 1, m, m', fl, h, hk => by
    unfold whileN at h ⊢
    cases ec : c m with
    | no => rw [ec] at h; cases h
    | ok t m1 =>
      rw [ec] at h
      cases t with
      | false => exact h
      | true =>
        simp only at h ⊢
        cases eb : b m1 with
        | no => rw [eb] at h; cases h
        | ok f m2 =>
          rw [eb] at h
          cases f <;> first
            | exact whileN_mono h (by omega)
            | exact h
theorem sWhile_of {c : Co Bool} {b : Co Flow'} {n : Nat} {m m' : M} {fl : Flow'} (h : whileN c b n m = .ok fl m') : sWhile c b m = .ok fl m' := by
  have hx : ∃ n fl m', whileN c b n m = .ok fl m' := ⟨n, fl, m', h⟩
  unfold sWhile
  rw [dif_pos hx]
  obtain ⟨fl', m2, e⟩ := hx.choose_spec
  have h1 := whileN_mono e (Nat.le_max_left _ n)
  have h2 := whileN_mono h (Nat.le_max_right hx.choose n)
  rw [e, ← h1, h2]
theorem sWhile_ok {c : Co Bool} {b : Co Flow'} {m m' : M} {fl : Flow'} (h : sWhile c b m = .ok fl m') : ∃ n, whileN c b n m = .ok fl m' := by
  unfold sWhile at h
  split at h
  · exact ⟨_, h⟩
  · cases h
theorem ss_while {cnd : Expr} (hc : ET X cnd fc) (hb : SSs X body fb) (hp : PassesOwn (model X.prog X.w) X.A X.env X.xe := by exact PassesOwn.never) : SS X (.While cnd body [] pos) (sWhile fc fb) :=
  PS.imp (ps_while hp hc hb) fun D σ H ⟨W, m, S, fl, m', hf, q⟩ => by
    obtain ⟨n, hf⟩ := sWhile_ok hf
    refine ⟨fun n σ H => ∃ W2 m2, Lat W W2 ∧ Sit X.K X.mg W2 σ H m2 ∧ whileN fc fb n m2 = .ok fl m', ⟨n, W, m, Lat.refl _, S, hf⟩, fun n σ H ⟨W2, m2, l, S2, h2⟩ => ?_⟩
    cases n with
    | zero => cases h2
    | succ n =>
      unfold whileN at h2
      cases ec : fc m2 with
      | no => rw [ec] at h2; cases h2
      | ok c m3 =>
        rw [ec] at h2
        refine ⟨W2, m2, S2, c, m3, ec, fun ob' H3 A => ?_⟩
        have l' : Lat W { W2 with ob := ob' } := l.trans ⟨rfl, rfl, rfl⟩
        cases c with
        | false =>
          cases h2
          show if false = true then _ else _
          rw [if_neg (by decide)]
          exact q _ σ H3 l' A.2
        | true =>
          show if true = true then _ else _
          rw [if_pos rfl]
          refine ⟨fun σ H => ∃ W2 m2, Lat W W2 ∧ Sit X.K X.mg W2 σ H m2 ∧ whileN fc fb n m2 = .ok fl m', fun σ' H' h => ⟨n, Nat.lt_succ_self n, h⟩, ?_⟩
          simp only at h2
          cases e3 : fb m3 with
          | no => rw [e3] at h2; cases h2
          | ok f3 m4 =>
            rw [e3] at h2
            refine ⟨_, m3, A.2, f3, m4, e3, ?_⟩
            cases f3 with
            | nx => exact fun W4 σ4 H4 l4 S4 => ⟨W4, m4, l'.trans l4, S4, h2⟩
            | ct => exact fun W4 σ4 H4 l4 S4 => ⟨W4, m4, l'.trans l4, S4, h2⟩
            | bk => cases h2; exact fun W4 σ4 H4 l4 S4 => q W4 σ4 H4 (l'.trans l4) S4
            | rt d => cases h2; exact fun W4 σ4 H4 v l4 S4 r => q W4 σ4 H4 v (l'.trans l4) S4 r
            | rf d =>
              cases h2
              exact fun W4 σ4 H4 a l4 n z S c => q W4 σ4 H4 a (l'.trans l4) n z S c
end
end PD
namespace PD
open PySem PySem.Spec PyProof.Rows L2

def noOw (vs : List Nat) (env : List Slot) : Bool := vs.all fun i => match env[i]? with
  | some (.ow _) => false
  | _ => true
def wipeE (env : List Slot) : List Nat → List Slot
  | [] => env
  | v :: vs => (wipeE env vs).set v .un
def unwipe (e0 e : List Slot) : List Nat → List Slot
  | [] => e
  | v :: vs => (unwipe e0 e vs).set v (e0[v]?.getD .un)
theorem wipeE_len (env : List Slot) : ∀ vs, (wipeE env vs).length = env.length
  | [] => rfl
  | v :: vs => by unfold wipeE; rw [List.length_set, wipeE_len env vs]
theorem unwipe_len (e0 e : List Slot) : ∀ vs, (unwipe e0 e vs).length = e.length
  | [] => rfl
  | v :: vs => by unfold unwipe; rw [List.length_set, unwipe_len e0 e vs]
theorem wipeE_in {env : List Slot} {i : Nat} {s : Slot} : ∀ {vs : List Nat}, i ∈ vs → (wipeE env vs)[i]? = some s → s = .un
  | v :: vs, hi, h => by
    unfold wipeE at h
    by_cases e : v = i
    · subst e
      rw [List.getElem?_set] at h
      rw [if_pos rfl] at h
      split at h
      · cases h; rfl
      · cases h
    · rw [List.getElem?_set_ne e] at h
      exact wipeE_in ((List.mem_cons.mp hi).resolve_left fun z => e z.symm) h
theorem wipeE_out {env : List Slot} {i : Nat} : ∀ {vs : List Nat}, i ∉ vs → (wipeE env vs)[i]? = env[i]?
  | [], _ => rfl
  | v :: vs, hi => by
    unfold wipeE
    rw [List.getElem?_set_ne fun z => hi (by rw [z]; exact List.mem_cons_self)]
    exact wipeE_out fun z => hi (List.mem_cons_of_mem _ z)
theorem unwipe_out {e0 e : List Slot} {i : Nat} : ∀ {vs : List Nat}, i ∉ vs → (unwipe e0 e vs)[i]? = e[i]?
  | [], _ => rfl
  | v :: vs, hi => by
    unfold unwipe
    rw [List.getElem?_set_ne fun z => hi (by rw [z]; exact List.mem_cons_self)]
    exact unwipe_out fun z => hi (List.mem_cons_of_mem _ z)
theorem unwipe_in {e0 e : List Slot} {i : Nat} {s : Slot} : ∀ {vs : List Nat}, i ∈ vs → (unwipe e0 e vs)[i]? = some s → s = e0[i]?.getD .un
  | v :: vs, hi, h => by
    unfold unwipe at h
    by_cases e : v = i
    · subst e
      rw [List.getElem?_set] at h
      rw [if_pos rfl] at h
      split at h
      · cases h; rfl
      · cases h
    · rw [List.getElem?_set_ne e] at h
      exact unwipe_in ((List.mem_cons.mp hi).resolve_left fun z => e z.symm) h
theorem noOw_out {vs : List Nat} {env : List Slot} (h : noOw vs env = true) {i : Nat} {d : D} (e : env[i]? = some (.ow d)) : i ∉ vs := fun hi => by
  unfold noOw at h
  have := List.all_eq_true.mp h i hi
  rw [e] at this
  cases this
section
variable {K : PySem.W.Frag} {mg : Str → Option Value} {W W1 : Wd} {σ : L2.St} {H H' : Hp} {m m1 : M} {vs : List Nat}
theorem Sit.wipe (S : Sit K mg W σ H m) (h : noOw vs m.env = true) : Sit K mg W (L2.wipe σ vs) H { m with env := wipeE m.env vs } where
  len := by rw [wipe_length]; exact S.len.trans (wipeE_len m.env vs).symm
  ext := S.ext
  pl := fun i d e => by
    by_cases hi : i ∈ vs
    · cases wipeE_in hi e
    · have e' : (wipeE m.env vs)[i]? = some (.pl d) := e
      rw [wipeE_out hi] at e'
      rw [wipe_out hi]
      exact S.pl i d e'
  ow := fun i d e => by
    by_cases hi : i ∈ vs
    · cases wipeE_in hi e
    · have e' : (wipeE m.env vs)[i]? = some (.ow d) := e
      rw [wipeE_out hi] at e'
      rw [wipe_out hi]
      exact S.ow i d e'
  owi := fun i a e => by
    obtain ⟨d, hd⟩ := S.owi i a e
    refine ⟨d, ?_⟩
    show (wipeE m.env vs)[i]? = _
    rw [wipeE_out (noOw_out h hd)]
    exact hd
  inj := S.inj
  ob := S.ob
  obi := S.obi
  obo := S.obo
  n0 := S.n0
  o0 := S.o0
/-- out of the block: the names as they were ahead -/
theorem Sit.unwipe (S0 : Sit K mg W σ H m) (h0 : noOw vs m.env = true) (x : Ext (W.ev m.obs.length) H (W1.ev m1.obs.length) H') (S : Sit K mg W1 (L2.wipe σ vs) H' m1) : Sit K mg W1 σ H' { m1 with env := PD.unwipe m.env m1.env vs } where
  len := by rw [unwipe_len]; exact (wipe_length σ vs).symm.trans S.len
  ext := S.ext
  pl := fun i d e => by
    have e' : (PD.unwipe m.env m1.env vs)[i]? = some (.pl d) := e
    by_cases hi : i ∈ vs
    · have z := unwipe_in hi e'
      have z2 : m.env[i]? = some (.pl d) := by
        cases q : m.env[i]? with
        | none => rw [q] at z; cases z
        | some s => rw [q] at z; rw [z]; rfl
      obtain ⟨v, hv, r⟩ := S0.pl i d z2
      exact ⟨v, hv, r.ext x (W.sub _)⟩
    · rw [unwipe_out hi] at e'
      obtain ⟨v, hv, r⟩ := S.pl i d e'
      exact ⟨v, (wipe_some hv).1, r⟩
  ow := fun i d e => by
    have e' : (PD.unwipe m.env m1.env vs)[i]? = some (.ow d) := e
    by_cases hi : i ∈ vs
    · have z := unwipe_in hi e'
      have z2 : m.env[i]? = some (.ow d) := by
        cases q : m.env[i]? with
        | none => rw [q] at z; cases z
        | some s => rw [q] at z; rw [z]; rfl
      exact absurd hi (noOw_out h0 z2)
    · rw [unwipe_out hi] at e'
      obtain ⟨a, ea, es, c⟩ := S.ow i d e'
      exact ⟨a, ea, (wipe_some es).1, c⟩
  owi := fun i a e => by
    obtain ⟨d, hd⟩ := S.owi i a e
    obtain ⟨b, _, es, _⟩ := S.ow i d hd
    have hi := (wipe_some es).2
    refine ⟨d, ?_⟩
    show (PD.unwipe m.env m1.env vs)[i]? = _
    rw [unwipe_out hi]
    exact hd
  inj := S.inj
  ob := S.ob
  obi := S.obi
  obo := S.obo
  n0 := S.n0
  o0 := S.o0
/-- a forbidden cell's content changes, one that the story's beginning does not know -/
theorem Sit.updC {a : Addr} {o1 o2 : HO} (S : Sit K mg W σ H m) (hN : W.N0 a) (nm : ¬ (W.ev m.obs.length).Mx a) (h : H a = some o1) (ht : ∀ xs, o1 ≠ .tup xs) (hf : ∀ o u, o1 ≠ .frz o u) (h0 : W.H0 a = none) :
    Sit K mg W σ (L2.upd H a o2) m ∧ ∀ vs ds, RepL K mg (W.ev m.obs.length) H vs ds → RepL K mg (W.ev m.obs.length) (L2.upd H a o2) vs ds := by
  have x : Ext { (W.ev m.obs.length) with Mx := fun b => (W.ev m.obs.length).Mx b ∨ b = a } H { (W.ev m.obs.length) with Mx := fun b => (W.ev m.obs.length).Mx b ∨ b = a } (L2.upd H a o2) :=
    Ext.upd h (.inr rfl) (fun xs z => by rw [h] at z; exact ht xs (Option.some.inj z)) (fun o u z => by rw [h] at z; exact hf o u (Option.some.inj z))
  have sb : Ev.Sub { (W.ev m.obs.length) with Mx := fun b => (W.ev m.obs.length).Mx b ∨ b = a } := fun b z => z.elim (W.sub _ b) fun z => by rw [z]; exact .inl hN
  have up : ∀ {v d}, Rep K mg (W.ev m.obs.length) H v d → Rep K mg (W.ev m.obs.length) (L2.upd H a o2) v d := fun r =>
    ((r.le (Ev.le_mx _ _)).ext x sb).le (Ev.mx_le _ _)
  have upL : ∀ {v d}, RepL K mg (W.ev m.obs.length) H v d → RepL K mg (W.ev m.obs.length) (L2.upd H a o2) v d := fun r =>
    ((r.le (Ev.le_mx _ _)).ext x sb).le (Ev.mx_le _ _)
  have upC : ∀ {b d}, b ≠ a → Cell K mg (W.ev m.obs.length) H b d → Cell K mg (W.ev m.obs.length) (L2.upd H a o2) b d := fun n c =>
    ((c.le (Ev.le_mx _ _)).ext x sb (fun o q => by rw [upd_ne n]; exact q)).le (Ev.mx_le _ _)
  refine ⟨⟨S.len, ?_, fun i d e => ?_, fun i d e => ?_, S.owi, S.inj, fun n ds e => ?_, S.obi, S.obo, fun b e => ?_, S.o0⟩, fun vs ds r => upL r⟩
  · have e := S.ext
    refine ⟨e.no, e.ob, e.n2, e.m2, fun b o q => ?_, fun b o n q => ?_, fun b xs q => ?_, fun b o u q => ?_⟩
    · obtain ⟨o', q'⟩ := e.dm b o q
      exact x.dm b o' q'
    · rw [upd_ne (fun z => by rw [z, h0] at q; cases q)]; exact e.keep b o n q
    · rw [upd_ne (fun z => by rw [z, h0] at q; cases q)]; exact e.tup b xs q
    · rw [upd_ne (fun z => by rw [z, h0] at q; cases q)]; exact e.frz b o u q
  · obtain ⟨v, e, r⟩ := S.pl i d e
    exact ⟨v, e, up r⟩
  · obtain ⟨b, e, es, c⟩ := S.ow i d e
    exact ⟨b, e, es, upC (fun z => nm (.inl ⟨i, by rw [← z]; exact e⟩)) c⟩
  · exact upC (fun z => nm (.inr ⟨n, (List.getElem?_eq_some_iff.mp e).1, z⟩)) (S.ob n ds e)
  · obtain ⟨o, q⟩ := S.n0 b e
    exact x.dm b o q
theorem Sit.updN {a : Addr} {xs ys : List V} (S : Sit K mg W σ H m) (hN : W.N0 a) (nm : ¬ (W.ev m.obs.length).Mx a) (h : H a = some (.lst xs)) (h0 : W.H0 a = none) :
    Sit K mg W σ (L2.upd H a (.lst ys)) m ∧ ∀ vs ds, RepL K mg (W.ev m.obs.length) H vs ds → RepL K mg (W.ev m.obs.length) (L2.upd H a (.lst ys)) vs ds := S.updC hN nm h (fun _ z => nomatch z) (fun _ _ z => nomatch z) h0
theorem setSt_wipe : ∀ {is : List Nat} {xs : List V} {σ : L2.St} {vs : List Nat}, (∀ i ∈ is, i ∈ vs) → L2.wipe (setSt σ is xs) vs = L2.wipe σ vs
  | [], xs, σ, vs, _ => by cases xs <;> rfl
  | i :: is, [], σ, vs, _ => rfl
  | i :: is, x :: xs, σ, vs, h => by
    unfold setSt
    rw [setSt_wipe fun j hj => h j (List.mem_cons_of_mem _ hj)]
    exact wipe_set (h i List.mem_cons_self)
where
  wipe_set {i : Nat} {x : Option V} {σ : L2.St} : ∀ {vs : List Nat}, i ∈ vs → L2.wipe (σ.set i x) vs = L2.wipe σ vs
    | v :: vs, h => by
      unfold L2.wipe
      by_cases hi : i ∈ vs
      · rw [wipe_set hi]
      · have e : i = v := (List.mem_cons.mp h).resolve_right hi
        subst e
        have : ∀ {us : List Nat}, i ∉ us → L2.wipe (σ.set i x) us = (L2.wipe σ us).set i x := by
          intro us
          induction us with
          | nil => intro _; rfl
          | cons u us ih =>
            intro hu
            unfold L2.wipe
            rw [ih fun z => hu (List.mem_cons_of_mem _ z), List.set_comm _ _ (fun z => hu (by rw [z]; exact List.mem_cons_self))]
        rw [this hi, List.set_set]
end
theorem wipe_set2 {σ : L2.St} {vs : List Nat} {v : Nat} (h : v ∈ vs) : (L2.wipe σ vs).set v none = L2.wipe σ vs := by
  induction vs with
  | nil => cases h
  | cons u us ih =>
    unfold L2.wipe
    by_cases e : u = v
    · subst e; rw [List.set_set]
    · rw [List.set_comm _ _ e, ih ((List.mem_cons.mp h).resolve_left fun z => e z.symm)]
theorem wipe_idem {σ : L2.St} : ∀ {us vs : List Nat}, (∀ i ∈ us, i ∈ vs) → L2.wipe (L2.wipe σ vs) us = L2.wipe σ vs
  | [], _, _ => rfl
  | u :: us, vs, h => by
    show (L2.wipe (L2.wipe σ vs) us).set u none = _
    rw [wipe_idem fun j hj => h j (List.mem_cons_of_mem _ hj), wipe_set2 (h u List.mem_cons_self)]
theorem setEnv_get : ∀ {is : List Nat} {ds : List D} {env env' : List Slot}, setEnv env is (ds.map fun d => (false, d)) = some env' → ∀ j, (∃ d, env'[j]? = some (.pl d)) ∨ (j ∉ is ∧ env'[j]? = env[j]?)
  | [], [], env, env', h, j => by cases h; exact .inr ⟨by simp, rfl⟩
  | [], d :: ds, env, env', h, j => nomatch h
  | i :: is, [], env, env', h, j => nomatch h
  | i :: is, d :: ds, env, env', h, j => by
    rw [List.map_cons] at h
    unfold setEnv at h
    split at h
    · rename_i hi
      rcases setEnv_get h j with z | ⟨z, e⟩
      · exact .inl z
      · by_cases hj : j = i
        · subst hj
          rw [List.getElem?_set_self hi] at e
          exact .inl ⟨d, e⟩
        · rw [List.getElem?_set_ne (Ne.symm hj)] at e
          exact .inr ⟨by simp [hj, z], e⟩
    · cases h
theorem setTg_get {t : Bool} {is : List Nat} {d : D} {env env' : List Slot} (h : setTg t is d env = some env') (j : Nat) : (∃ d, env'[j]? = some (.pl d)) ∨ (j ∉ is ∧ env'[j]? = env[j]?) := by
  unfold setTg at h
  split at h
  · exact setEnv_get (ds := [d]) h j
  · split at h
    · exact setEnv_get h j
    · cases h
/-! ### comprehensions -/
def lcL (t : Bool) (is vs : List Nat) (ft : Co Bool) (fe : Co D) : List D → Co (List D)
  | [], m => .ok [] m
  | d :: ds, m => match setTg t is d m.env with
    | none => .no
    | some env => match ft { m with env := env } with
      | .no => .no
      | .ok false m1 => if noOw vs m1.env = true then lcL t is vs ft fe ds { m1 with env := wipeE m1.env vs } else .no
      | .ok true m1 => match fe m1 with
        | .no => .no
        | .ok y m2 => if noOw vs m2.env = true then match lcL t is vs ft fe ds { m2 with env := wipeE m2.env vs } with
          | .ok ys m' => .ok (y :: ys) m'
          | .no => .no
          else .no
def eLc (fi : Co (List D)) (t : Bool) (is vs : List Nat) (ft : Co Bool) (fe : Co D) : Co D := Co.bind fi fun ds m =>
  if noOw vs m.env = true ∧ ds.length ≤ sizeLine then match lcL t is vs ft fe ds { m with env := wipeE m.env vs } with
    | .ok ys m' => .ok (.lst ys) { m' with env := unwipe m.env m'.env vs }
    | .no => .no
  else .no
abbrev ETs (X : Cx) (ifs : List Expr) (f : Co Bool) : Prop := PTs X ifs (rdT X.K X.mg f)
section
variable {X : Cx} {tg iter elt : Expr} {ifs : List Expr} {fi : Co (List D)} {t : Bool} {is : List Nat} {ft : Co Bool} {fe : Co D} {scope : Scope} {own : List (Str × Nat)} {pos : Pos} {i : Nat}
theorem PTs.imp {w w' : TT} (h : PTs X ifs w) (g : ∀ σ H Q, w' σ H Q → w σ H Q) : PTs X ifs w' := ⟨fun pins s σ H Q I q => h.run pins s σ H Q I (g σ H Q q)⟩
theorem ets_nil : ETs X [] (Co.ret true) := PTs.imp pts_nil fun σ H Q ⟨W, m, S, d, m', hf, q⟩ => by
  cases hf
  exact q _ H ⟨.refl, S⟩
theorem ets_one {c : Expr} (h : ET X c ft) : ETs X [c] ft := pts_one h
/-- the fresh list of a comprehension -/
theorem lc_rd {σ : L2.St} {H : Hp} {Q : VK} {K : PySem.W.Frag} {mg : Str → Option Value} (hv : ∀ i ∈ is, i ∈ own.map (·.2)) (h : rdF K mg (eLc fi t is (own.map (·.2)) ft fe) σ H Q) : tLc (rdI K mg fi) (gD K mg t is) (rdT K mg ft) (rdE K mg fe) (own.map (·.2)) σ H Q := by
  obtain ⟨W, m, S, d, m', hf, q⟩ := h
  obtain ⟨ds, m1, e1, hf⟩ := Co.bind_ok hf
  generalize own.map (·.2) = vs at *
  split at hf
  · rename_i hc
    obtain ⟨h0, hz⟩ := hc
    split at hf
    · rename_i ys mf el
      cases hf
      refine ⟨W, m, S, ds, m1, e1, fun J ob' H1 A it Dl hD => ?_⟩
      obtain ⟨Y, wk, yd⟩ := it _ (Wd.sub _ _)
      have S1 := A.2
      have sm := same_new hD (.lst [])
      have Sa : Sit K mg (({ W with ob := ob' } : Wd).base m1.obs.length H1 |>.add Dl) (L2.wipe σ vs) (upd H1 Dl (.lst [])) { m1 with env := wipeE m1.env vs } := (S1.rebase.add hD sm ⟨_, upd_same⟩).wipe h0
      have nm1 : ¬ ({ W with ob := ob' }.ev m1.obs.length).Mx Dl := fun z => S1.fresh hD (.inr z)
      refine lc_it wk (fun i H => ∃ W2 m2 avs acc rest, Lat (({ W with ob := ob' } : Wd).base m1.obs.length H1 |>.add Dl) W2 ∧ (∀ j, j ∉ vs → W2.own j = W.own j) ∧ ¬ (W2.ev m2.obs.length).Mx Dl ∧ Sit K mg W2 (L2.wipe σ vs) H m2 ∧
        H Dl = some (.lst avs) ∧ RepL K mg (W2.ev m2.obs.length) H avs acc ∧ acc.length ≤ i ∧ lcL t is vs ft fe (ds.drop i) m2 = .ok rest mf ∧ acc ++ rest = ys)
        ⟨_, _, [], [], ys, Lat.refl _, fun _ _ => rfl, nm1, Sa, upd_same, .nil, Nat.zero_le _, el, rfl⟩
        (fun i H _ ⟨W2, m2, avs, acc, rest, l, _, _, S2, _⟩ => ⟨_, by have := S2.ext; rw [l.2.1, l.2.2] at this; exact this⟩) (fun i x H H' hi ⟨W2, m2, avs, acc, rest, l, ho, nm, S2, hl, ra, hlen, h2, he⟩ y => ?_)
        fun H ⟨W2, m2, avs, acc, rest, l, ho, nm, S2, hl, ra, hlen, h2, he⟩ => ?_
      · have ed : ds.drop i = ds[i] :: ds.drop (i + 1) := List.drop_eq_getElem_cons hi
        rw [ed] at h2
        unfold lcL at h2
        have x2 := S2.ext
        rw [l.2.1, l.2.2] at x2
        obtain ⟨sm2, rp⟩ := yd i _ H x H' x2 y
        cases e2 : setTg t is ds[i] m2.env with
        | none => rw [e2] at h2; cases h2
        | some env =>
          rw [e2] at h2
          simp only at h2
          have lN : W2.N0 Dl := by rw [l.1]; exact .inr rfl
          refine ⟨W2, m2, ds[i], env, S2.same sm2, rp ds[i] (by simp [hi]), e2, fun W3 xs l3 o3 w3 S3 => ⟨(setSt_wipe hv).trans (wipe_idem fun _ z => z), ?_⟩⟩
          have l3N : W3.N0 Dl := by rw [l3.1]; exact lN
          have nm3 : ¬ (W3.ev m2.obs.length).Mx Dl := fun z => by
            rcases z with ⟨j, hj⟩ | ⟨n, hn, en⟩
            · exact S3.o0 j Dl hj l3N
            · exact nm (.inr ⟨n, hn, by rw [← en, o3]⟩)
          have lt3 := l.trans l3
          have own3 : ∀ j, j ∉ vs → W3.own j = W.own j := fun j hj => (w3 j fun z => hj (hv j z)).trans (ho j hj)
          have hl' : H' Dl = some (.lst avs) := sm2 _ _ hl
          have le3 : (W2.ev m2.obs.length).Le (W3.ev m2.obs.length) := by
            refine ⟨Nat.le_refl _, fun n _ => congrFun o3 n, fun b z => ?_⟩
            rcases z with z | ⟨j, z⟩ | ⟨n, hn, z⟩
            · exact .inl (by rw [← l3.1]; exact z)
            · by_cases hj : j ∈ is
              · obtain ⟨d3, hd3⟩ := S3.owi j b z
                rcases setTg_get e2 j with ⟨d4, h4⟩ | ⟨h4, _⟩
                · have h5 : env[j]? = some (.ow d3) := hd3
                  rw [h4] at h5; cases h5
                · exact absurd hj h4
              · exact .inr (.inl ⟨j, by rw [← w3 j hj]; exact z⟩)
            · exact .inr (.inr ⟨n, hn, by rw [← o3]; exact z⟩)
          have ra3 : RepL K mg (W3.ev m2.obs.length) H' avs acc := (ra.up sm2).le le3
          cases e3 : ft { m2 with env := env } with
          | no => rw [e3] at h2; cases h2
          | ok b m3 =>
            rw [e3] at h2
            refine ⟨W3, _, S3, b, m3, e3, fun ob3 H3 A3 => ?_⟩
            have hl3 : H3 Dl = some (.lst avs) := A3.1.keep _ _ nm3 hl'
            have nm4 := A3.1.notM hl' nm3
            have ra4 := ra3.ext A3.1 (Wd.sub _ _)
            cases b with
            | false =>
              show if false = true then _ else _
              rw [if_neg (by decide)]
              simp only at h2
              split at h2
              · rename_i hn
                refine ⟨_, { m3 with env := wipeE m3.env vs }, avs, acc, rest, lt3.trans (show Lat W3 { W3 with ob := ob3 } from ⟨rfl, rfl, rfl⟩), own3, nm4, ?_, hl3, ra4, by omega, h2, he⟩
                have := A3.2.wipe hn
                rw [setSt_wipe hv] at this
                have e : L2.wipe (L2.wipe σ vs) vs = L2.wipe σ vs := wipe_idem fun _ z => z
                rw [e] at this
                exact this
              · cases h2
            | true =>
              show if true = true then _ else _
              rw [if_pos rfl]
              simp only at h2
              cases e4 : fe m3 with
              | no => rw [e4] at h2; cases h2
              | ok yv m4 =>
                rw [e4] at h2
                simp only at h2
                split at h2
                · rename_i hn
                  split at h2
                  · rename_i zs mg2 e5
                    cases h2
                    refine ⟨_, m3, A3.2, yv, m4, e4, fun v ob4 H4 A4 rv => ⟨avs, A4.1.keep _ _ nm4 hl3, ?_, ?_⟩⟩
                    · rw [ra.length]; omega
                    · have Sw := A4.2.wipe hn
                      rw [setSt_wipe hv] at Sw
                      have e : L2.wipe (L2.wipe σ vs) vs = L2.wipe σ vs := wipe_idem fun _ z => z
                      rw [e] at Sw
                      have hl4 := A4.1.keep _ _ nm4 hl3
                      have nm5 := A4.1.notM hl3 nm4
                      obtain ⟨S5, up⟩ := Sw.updN (a := Dl) (xs := avs) (ys := avs ++ [v]) l3N nm5 hl4 (by rw [lt3.2.2]; exact hD)
                      refine ⟨_, { m4 with env := wipeE m4.env vs }, avs ++ [v], acc ++ [yv], zs, lt3.trans (show Lat W3 { W3 with ob := ob4 } from ⟨rfl, rfl, rfl⟩), own3, nm5, S5, upd_same, up _ _ ((ra4.ext A4.1 (Wd.sub _ _)).append (.cons rv .nil)), by simp; omega, e5, by simp [he]⟩
                  · cases h2
                · cases h2
      · rw [List.drop_length] at h2
        cases h2
        rw [List.append_nil] at he
        subst he
        have ownE : W2.own = W.own := by
          funext j
          by_cases hj : j ∈ vs
          · have e1 : W2.own j = none := by
              cases e : W2.own j with
              | none => rfl
              | some a =>
                obtain ⟨d, hd⟩ := S2.owi j a e
                obtain ⟨b, _, es, _⟩ := S2.ow j d hd
                exact absurd hj (wipe_some es).2
            have e2 : W.own j = none := by
              cases e : W.own j with
              | none => rfl
              | some a =>
                obtain ⟨d, hd⟩ := S1.owi j a e
                exact absurd hj (noOw_out h0 hd)
            rw [e1, e2]
          · exact ho j hj
        obtain ⟨N0, E0, H0, own2, ob2⟩ := W2
        obtain ⟨l1, l2, l3⟩ := l
        simp only at l1 l2 l3 ownE
        subst l1 l2 l3 ownE
        have S3 := S1.back (S1.unwipe h0 S2.ext S2) rfl rfl
        refine q Dl ob2 H (A.1.nn hD) (A.1.trans (S2.ext.sub rfl rfl (fun b z => ?_) fun b z => .inl z)) (fun z => ?_) S3 ⟨avs, hl, ra⟩
        · exact .inl (z.elim (fun z => .inl (.inl z)) .inr)
        · rcases z with z | z
          · obtain ⟨o, z⟩ := S1.n0 Dl z
            rw [hD] at z; cases z
          · exact nm z
    · cases hf
  · cases hf
theorem ef_lc (hN : X.N.Nodup) (hi : EI X tg iter fi) (ok : BlkOk X.N X.env.scope scope own)
    (hg : ∀ (s : Shared) (H : Hp) (C : Addr) (cl : List (Str × Addr)) (fp : List Addr), GG (X.blk s H scope (compEnvC scope cl C X.env) fp) tg t is)
    (ht : ∀ (s : Shared) (H : Hp) (C : Addr) (cl : List (Str × Addr)) (fp : List Addr), ETs (X.blk s H scope (compEnvC scope cl C X.env) fp) ifs ft)
    (he : ∀ (s : Shared) (H : Hp) (C : Addr) (cl : List (Str × Addr)) (fp : List Addr), EE (X.blk s H scope (compEnvC scope cl C X.env) fp) elt fe)
    (hv : ∀ i ∈ is, i ∈ own.map (·.2) := by decide) (hc : X.calm = true := by rfl) (hs : ∀ x, foldedSetIterable iter X.env x = pure x := by intro _; rfl) :
    EF X (.ListComp elt [⟨tg, iter, ifs, 0⟩] scope pos) (eLc fi t is (own.map (·.2)) ft fe) := PE.imp (pe_lc hc hN hi ok hg ht he hs) fun σ H Q h => lc_rd hv h
/-- name = [..], a fresh list that the name owns, by the reading alone -/
theorem rdS_setF {D : Ends} {σ : L2.St} {H : Hp} {K : PySem.W.Frag} {mg : Str → Option Value} {f : Co PD.D} (h : rdS K mg (sSetF i f) D σ H) : rdF K mg f σ H fun v H1 => gName i v σ H1 D.nx := by
  obtain ⟨W, m, S, fl, m', hf, q⟩ := h
  obtain ⟨d, m1, e1, e2⟩ := Co.bind_ok hf
  split at e2
  · rename_i hl
    cases e2
    exact ⟨W, m, S, d, m1, e1, fun a ob' H' hn x nN S' c => q (Wd.put { W with ob := ob' } i a W.N0) _ H' (by exact ⟨rfl, rfl, rfl⟩) (S.setF hl hn nN S' c)⟩
  · cases e2
theorem ss_setLc {y : Str} {py spos : Pos} (hN : X.N.Nodup) (hi : EI X tg iter fi) (ok : BlkOk X.N X.env.scope scope own)
    (hg : ∀ (s : Shared) (H : Hp) (C : Addr) (cl : List (Str × Addr)) (fp : List Addr), GG (X.blk s H scope (compEnvC scope cl C X.env) fp) tg t is)
    (ht : ∀ (s : Shared) (H : Hp) (C : Addr) (cl : List (Str × Addr)) (fp : List Addr), ETs (X.blk s H scope (compEnvC scope cl C X.env) fp) ifs ft)
    (he : ∀ (s : Shared) (H : Hp) (C : Addr) (cl : List (Str × Addr)) (fp : List Addr), EE (X.blk s H scope (compEnvC scope cl C X.env) fp) elt fe)
    (hy : X.N[i]? = some y := by rfl) (hyl : X.env.scope.names.lookup y = some .local := by rfl) (hsw : swapsWith (.ListComp elt [⟨tg, iter, ifs, 0⟩] scope pos) (some (.Name y py)) spos.line X.env = pure true := by exact sw_true rfl rfl rfl rfl)
    (hv : ∀ i ∈ is, i ∈ own.map (·.2) := by decide) (hc : X.calm = true := by rfl) (hs : ∀ x, foldedSetIterable iter X.env x = pure x := by intro _; rfl) :
    SS X (.Assign [.Name y py] (.ListComp elt [⟨tg, iter, ifs, 0⟩] scope pos) spos) (sSetF i (eLc fi t is (own.map (·.2)) ft fe)) :=
  PS.imp (ps_setLc hc hN hy hyl hsw hi ok hg ht he hs) fun D σ H h => lc_rd hv (rdS_setF h)
end
/-! ### two clauses -/
def lc2L (t : Bool) (is vs : List Nat) (ft : Co Bool) (fi1 : Co (List D)) (t1 : Bool) (is1 vs1 : List Nat) (ft1 : Co Bool) (fe : Co D) : List D → Co (List D)
  | [], m => .ok [] m
  | d :: ds, m => match setTg t is d m.env with
    | none => .no
    | some env => match ft { m with env := env } with
      | .no => .no
      | .ok false m1 => if noOw vs m1.env = true then lc2L t is vs ft fi1 t1 is1 vs1 ft1 fe ds { m1 with env := wipeE m1.env vs } else .no
      | .ok true m1 => match fi1 m1 with
        | .no => .no
        | .ok es m2 => if noOw vs1 m2.env = true then match lcL t1 is1 vs1 ft1 fe es { m2 with env := wipeE m2.env vs1 } with
          | .no => .no
          | .ok ys m3 => if noOw vs m3.env = true then match lc2L t is vs ft fi1 t1 is1 vs1 ft1 fe ds { m3 with env := wipeE m3.env vs } with
            | .ok zs m' => .ok (ys ++ zs) m'
            | .no => .no
            else .no
          else .no
def eLc2 (fi : Co (List D)) (t : Bool) (is vs : List Nat) (ft : Co Bool) (fi1 : Co (List D)) (t1 : Bool) (is1 vs1 : List Nat) (ft1 : Co Bool) (fe : Co D) : Co D := Co.bind fi fun ds m =>
  if noOw vs m.env = true then match lc2L t is vs ft fi1 t1 is1 vs1 ft1 fe ds { m with env := wipeE m.env vs } with
    | .ok ys m' => if ys.length ≤ sizeLine then .ok (.lst ys) { m' with env := unwipe m.env m'.env vs } else .no
    | .no => .no
  else .no
/-- one loop of a comprehension, any body -/
theorem walk_loop {J : It} {n : Nat} {G : Hp → Prop} {Y : Nat → Hp → V → Hp → Prop} (w : Walk J n G Y) {B : V → Hp → (Hp → Prop) → Prop} {Qd : Hp → Prop} {H0 : Hp} (Pv : Nat → Hp → Prop) (h0 : Pv 0 H0) (hG : ∀ i H, i ≤ n → Pv i H → G H)
    (hs : ∀ i x H H', i < n → Pv i H → Y i H x H' → B x H' (Pv (i + 1))) (hd : ∀ H, Pv n H → Qd H) :
    ∃ W : Nat → Nat → Hp → Prop, (∃ m, W 0 m H0) ∧ ∀ i m H, W i m H →
      (J.stop i H ∧ Qd H) ∨ (J.go i H ∧ ∃ Nx : Hp → Prop, (∀ H', Nx H' → ∃ m', m' < m ∧ W (i + 1) m' H') ∧ ∀ x H', J.yld i H x H' → B x H' Nx) := by
  refine ⟨fun i m H => m = n - i ∧ i ≤ n ∧ Pv i H, ⟨n, by simp, Nat.zero_le _, h0⟩, ?_⟩
  rintro i m H ⟨rfl, hi, p⟩
  have q := hG i H hi p
  by_cases hlt : i < n
  · refine .inr ⟨w.goes i H hlt q, Pv (i + 1), fun H' p' => ⟨n - (i + 1), by omega, rfl, hlt, p'⟩, fun x H' y => hs i x H H' hlt p (w.yields i H x H' hlt q y)⟩
  · have e : i = n := by omega
    subst e
    exact .inl ⟨w.stops H q, hd H p⟩
/-- where a block stands: Dl its new list, avs what it holds, acc its data -/
structure Lci (K : PySem.W.Frag) (mg : Str → Option Value) (WB : Wd) (own0 : Nat → Option Addr) (vs : List Nat) (Dl : Addr) (EI : Ev) (HI : Hp) (σ : L2.St) (H : Hp) (W : Wd) (m : M) (avs : List V) (acc : List D) : Prop where
  lat : Lat WB W
  own : ∀ j, j ∉ vs → W.own j = own0 j
  nm : ¬ (W.ev m.obs.length).Mx Dl
  nN : W.N0 Dl
  sit : Sit K mg W σ H m
  lst : H Dl = some (.lst avs)
  rep : RepL K mg (W.ev m.obs.length) H avs acc
  ext : Ext EI HI (W.ev m.obs.length) H
section
variable {K : PySem.W.Frag} {mg : Str → Option Value} {WB W W' : Wd} {own0 : Nat → Option Addr} {vs is : List Nat} {Dl : Addr} {EI : Ev} {HI : Hp} {σ : L2.St} {H H' : Hp} {m m' : M} {avs : List V} {acc : List D} {t : Bool} {d : D} {env : List Slot} {ob' : Nat → Addr}
theorem Lci.after (L : Lci K mg WB own0 vs Dl EI HI σ H W m avs acc) (A : After K mg W σ H m ob' H' m') : Lci K mg WB own0 vs Dl EI HI σ H' { W with ob := ob' } m' avs acc :=
  ⟨L.lat.trans ⟨rfl, rfl, rfl⟩, L.own, A.1.notM L.lst L.nm, L.nN, A.2, A.1.keep _ _ L.nm L.lst, L.rep.ext A.1 (Wd.sub _ _), L.ext.trans A.1⟩
theorem Lci.same (L : Lci K mg WB own0 vs Dl EI HI σ H W m avs acc) (sm : Same H H') : Lci K mg WB own0 vs Dl EI HI σ H' W m avs acc :=
  ⟨L.lat, L.own, L.nm, L.nN, L.sit.same sm, sm _ _ L.lst, L.rep.up sm, L.ext.trans (.same sm)⟩
theorem Lci.set (L : Lci K mg WB own0 vs Dl EI HI σ H W m avs acc) {xs : List V} (hv : ∀ i ∈ is, i ∈ vs) (e : setTg t is d m.env = some env) (l : Lat W W') (o : W'.ob = W.ob) (w : ∀ j, j ∉ is → W'.own j = W.own j)
    (S : Sit K mg W' (setSt σ is xs) H { m with env := env }) : Lci K mg WB own0 vs Dl EI HI (setSt σ is xs) H W' { m with env := env } avs acc := by
  have n3 : W'.N0 Dl := by rw [l.1]; exact L.nN
  have no : ∀ j b, W'.own j = some b → W.own j = some b := fun j b z => by
    by_cases hj : j ∈ is
    · obtain ⟨d3, hd3⟩ := S.owi j b z
      rcases setTg_get e j with ⟨d4, h4⟩ | ⟨h4, _⟩
      · have h5 : env[j]? = some (.ow d3) := hd3
        rw [h4] at h5; cases h5
      · exact absurd hj h4
    · rw [← w j hj]; exact z
  have nn : ∀ b, (W'.ev m.obs.length).N b → (W.ev m.obs.length).N b := fun b z => by
    rcases z with z | ⟨j, z⟩ | ⟨n, hn, z⟩
    · exact .inl (by rw [← l.1]; exact z)
    · exact .inr (.inl ⟨j, no j b z⟩)
    · exact .inr (.inr ⟨n, hn, by rw [← o]; exact z⟩)
  have mm : ∀ b, (W'.ev m.obs.length).Mx b → (W.ev m.obs.length).Mx b := fun b z => by
    rcases z with ⟨j, z⟩ | ⟨n, hn, z⟩
    · exact .inl ⟨j, no j b z⟩
    · exact .inr ⟨n, hn, by rw [← o]; exact z⟩
  have le : (W.ev m.obs.length).Le (W'.ev m.obs.length) := ⟨Nat.le_refl _, fun n _ => congrFun o n, nn⟩
  exact ⟨L.lat.trans l, fun j hj => (w j fun z => hj (hv j z)).trans (L.own j hj), fun z => L.nm (mm _ z), n3, S, L.lst, L.rep.le le, L.ext.sub rfl o (fun b z => .inl (nn b z)) fun b z => .inl (mm b z)⟩
theorem Lci.wipe (L : Lci K mg WB own0 vs Dl EI HI σ H W m avs acc) {us : List Nat} (h : noOw us m.env = true) : Lci K mg WB own0 vs Dl EI HI (L2.wipe σ us) H W { m with env := wipeE m.env us } avs acc :=
  ⟨L.lat, L.own, L.nm, L.nN, L.sit.wipe h, L.lst, L.rep, L.ext⟩
theorem Lci.push (L : Lci K mg WB own0 vs Dl EI HI σ H W m avs acc) (h0 : WB.H0 Dl = none) (hI : EI.Mx Dl ∧ (∃ xs, HI Dl = some (.lst xs)) ∨ HI Dl = none) {v : V} {y : D} (r : Rep K mg (W.ev m.obs.length) H v y) :
    Lci K mg WB own0 vs Dl EI HI σ (L2.upd H Dl (.lst (avs ++ [v]))) W m (avs ++ [v]) (acc ++ [y]) := by
  obtain ⟨S5, up⟩ := L.sit.updN (a := Dl) (xs := avs) (ys := avs ++ [v]) L.nN L.nm L.lst (by rw [L.lat.2.2]; exact h0)
  have e := L.ext
  have ne : ∀ b o, HI b = some o → (¬ EI.Mx b ∨ ∀ xs, o ≠ .lst xs) → b ≠ Dl := fun b o q n z => by
    subst z
    rcases hI with ⟨h1, xs, h2⟩ | h1
    · rw [q] at h2
      cases h2
      rcases n with n | n
      · exact n h1
      · exact n xs rfl
    · rw [q] at h1; cases h1
  refine ⟨L.lat, L.own, L.nm, L.nN, S5, upd_same, up _ _ (L.rep.append (.cons r .nil)), e.no, e.ob, e.n2, e.m2, fun b o q => ?_, fun b o n q => ?_, fun b xs q => ?_, fun b o u q => ?_⟩
  · by_cases z : b = Dl
    · exact ⟨_, by rw [z, upd_same]⟩
    · rw [upd_ne z]; exact e.dm b o q
  · rw [upd_ne (ne b o q (.inl n))]; exact e.keep b o n q
  · rw [upd_ne (ne b _ q (.inr fun _ z => nomatch z))]; exact e.tup b xs q
  · rw [upd_ne (ne b _ q (.inr fun _ z => nomatch z))]; exact e.frz b o u q
theorem Lci.re (L : Lci K mg WB own0 vs Dl EI HI σ H W m avs acc) : Lci K mg WB own0 vs Dl WB.E0 WB.H0 σ H W m avs acc :=
  ⟨L.lat, L.own, L.nm, L.nN, L.sit, L.lst, L.rep, by have := L.sit.ext; rw [L.lat.2.1, L.lat.2.2] at this; exact this⟩
theorem Lci.here (L : Lci K mg WB own0 vs Dl EI HI σ H W m avs acc) : Lci K mg WB own0 vs Dl { (W.ev m.obs.length) with Mx := fun b => (W.ev m.obs.length).Mx b ∨ b = Dl } H σ H W m avs acc :=
  ⟨L.lat, L.own, L.nm, L.nN, L.sit, L.lst, L.rep, Ext.sub (.refl (E := { (W.ev m.obs.length) with Mx := fun b => (W.ev m.obs.length).Mx b ∨ b = Dl })) rfl rfl (fun b z => .inl z) fun b z => .inl (.inl z)⟩
/-- the end: out of the block -/
theorem Lci.fin {W1 : Wd} {m1 mf : M} {H1 : Hp} {σ : L2.St} (S1 : Sit K mg W1 σ H1 m1) (h0 : noOw vs m1.env = true) (hD : H1 Dl = none) (L : Lci K mg ((W1.base m1.obs.length H1).add Dl) W1.own vs Dl EI HI (L2.wipe σ vs) H W mf avs acc) :
    Ext (W1.ev m1.obs.length) H1 ({ W1 with ob := W.ob }.ev mf.obs.length) H ∧ ¬ ({ W1 with ob := W.ob }.ev mf.obs.length).N Dl ∧ Sit K mg ({ W1 with ob := W.ob }.add Dl) σ H { mf with env := PD.unwipe m1.env mf.env vs } ∧
      Cell K mg (({ W1 with ob := W.ob }.add Dl).ev mf.obs.length) H Dl (.lst acc) := by
  have S2 := L.sit
  have ownE : W.own = W1.own := by
    funext j
    by_cases hj : j ∈ vs
    · have e1 : W.own j = none := by
        cases e : W.own j with
        | none => rfl
        | some a =>
          obtain ⟨d, hd⟩ := S2.owi j a e
          obtain ⟨b, _, es, _⟩ := S2.ow j d hd
          exact absurd hj (wipe_some es).2
      have e2 : W1.own j = none := by
        cases e : W1.own j with
        | none => rfl
        | some a =>
          obtain ⟨d, hd⟩ := S1.owi j a e
          exact absurd hj (noOw_out h0 hd)
      rw [e1, e2]
    · exact L.own j hj
  have nm := L.nm
  have hl := L.lst
  have ra := L.rep
  obtain ⟨l1, l2, l3⟩ := L.lat
  clear L
  obtain ⟨N0, E0, H0, own2, ob2⟩ := W
  simp only at l1 l2 l3 ownE
  subst l1 l2 l3 ownE
  have S3 := S1.back (S1.unwipe h0 S2.ext S2) rfl rfl
  refine ⟨S2.ext.sub rfl rfl (fun b z => ?_) fun b z => .inl z, fun z => ?_, S3, avs, hl, ra⟩
  · exact .inl (z.elim (fun z => .inl (.inl z)) .inr)
  · rcases z with z | z
    · obtain ⟨o, z⟩ := S1.n0 Dl z
      rw [hD] at z; cases z
    · exact nm z
end
theorem wipe_sub {us vs : List Nat} {τ : L2.St} (h : ∀ i ∈ us, i ∈ vs) : L2.wipe (L2.wipe τ us) vs = L2.wipe τ vs := by
  induction us generalizing τ with
  | nil => rfl
  | cons u us ih =>
    show L2.wipe ((L2.wipe τ us).set u none) vs = _
    rw [setSt_wipe.wipe_set (h u List.mem_cons_self)]
    exact ih fun j hj => h j (List.mem_cons_of_mem _ hj)
section
variable {X : Cx} {tg iter elt tg1 iter1 : Expr} {ifs ifs1 : List Expr} {fi fi1 : Co (List D)} {t t1 : Bool} {is is1 vs1 : List Nat} {ft ft1 : Co Bool} {fe : Co D} {scope : Scope} {own : List (Str × Nat)} {pos : Pos} {i : Nat}
theorem lc2_rd {σ : L2.St} {H : Hp} {Q : VK} {K : PySem.W.Frag} {mg : Str → Option Value} (hv : ∀ i ∈ is, i ∈ own.map (·.2)) (hv1 : ∀ i ∈ is1, i ∈ vs1) (hv2 : ∀ i ∈ vs1, i ∈ own.map (·.2)) (h : rdF K mg (eLc2 fi t is (own.map (·.2)) ft fi1 t1 is1 vs1 ft1 fe) σ H Q) :
    tLc2 (rdI K mg fi) (gD K mg t is) (rdT K mg ft) (rdI K mg fi1) (gD K mg t1 is1) (rdT K mg ft1) (rdE K mg fe) (own.map (·.2)) vs1 σ H Q := by
  obtain ⟨W, m, S, d, m', hf, q⟩ := h
  obtain ⟨ds, m1, e1, hf⟩ := Co.bind_ok hf
  generalize own.map (·.2) = vs at *
  split at hf
  · rename_i h0
    split at hf
    · rename_i ys mf el
      split at hf
      · rename_i hz
        cases hf
        refine ⟨W, m, S, ds, m1, e1, fun J ob' H1 A it Dl hD => ?_⟩
        obtain ⟨Y, wk, yd⟩ := it _ (Wd.sub _ _)
        have S1 := A.2
        have sm := same_new hD (.lst [])
        have Sa : Sit K mg (({ W with ob := ob' } : Wd).base m1.obs.length H1 |>.add Dl) (L2.wipe σ vs) (upd H1 Dl (.lst [])) { m1 with env := wipeE m1.env vs } := (S1.rebase.add hD sm ⟨_, upd_same⟩).wipe h0
        have nm1 : ¬ ({ W with ob := ob' }.ev m1.obs.length).Mx Dl := fun z => S1.fresh hD (.inr z)
        refine walk_loop wk (fun i H => ∃ W2 m2 avs acc rest, Lci K mg (({ W with ob := ob' } : Wd).base m1.obs.length H1 |>.add Dl) W.own vs Dl ({ W with ob := ob' }.ev m1.obs.length) H1 (L2.wipe σ vs) H W2 m2 avs acc ∧
          lc2L t is vs ft fi1 t1 is1 vs1 ft1 fe (ds.drop i) m2 = .ok rest mf ∧ acc ++ rest = ys)
          ⟨_, { m1 with env := wipeE m1.env vs }, [], [], ys, ⟨Lat.refl _, fun _ _ => rfl, nm1, .inr rfl, Sa, upd_same, .nil, Sa.ext⟩, el, rfl⟩
          (fun i H _ ⟨W2, m2, avs, acc, rest, L, _⟩ => ⟨_, L.ext⟩) (fun i x H H' hi ⟨W2, m2, avs, acc, rest, L, h2, he⟩ y => ?_)
          fun H ⟨W2, m2, avs, acc, rest, L, h2, he⟩ => ?_
        · have ed : ds.drop i = ds[i] :: ds.drop (i + 1) := List.drop_eq_getElem_cons hi
          rw [ed] at h2
          unfold lc2L at h2
          obtain ⟨sm2, rp⟩ := yd i _ H x H' L.ext y
          cases e2 : setTg t is ds[i] m2.env with
          | none => rw [e2] at h2; cases h2
          | some env =>
            rw [e2] at h2
            simp only at h2
            have L' := L.same sm2
            refine ⟨W2, m2, ds[i], env, L'.sit, rp ds[i] (by simp [hi]), e2, fun W3 xs l3 o3 w3 S3 => ⟨(setSt_wipe hv).trans (wipe_idem fun _ z => z), ?_⟩⟩
            have L3 := L'.set hv e2 l3 o3 w3 S3
            cases e3 : ft { m2 with env := env } with
            | no => rw [e3] at h2; cases h2
            | ok b m3 =>
              rw [e3] at h2
              refine ⟨W3, _, S3, b, m3, e3, fun ob3 H3 A3 => ?_⟩
              have L4 := L3.after A3
              cases b with
              | false =>
                show if false = true then _ else _
                rw [if_neg (by decide)]
                simp only at h2
                split at h2
                · rename_i hn
                  refine ⟨{ W3 with ob := ob3 }, { m3 with env := wipeE m3.env vs }, avs, acc, rest, ?_, h2, he⟩
                  have := L4.wipe hn
                  rw [setSt_wipe hv, wipe_idem fun _ z => z] at this
                  exact this
                · cases h2
              | true =>
                show if true = true then _ else _
                rw [if_pos rfl]
                simp only at h2
                cases e4 : fi1 m3 with
                | no => rw [e4] at h2; cases h2
                | ok es m4 =>
                  rw [e4] at h2
                  simp only at h2
                  split at h2
                  · rename_i hn1
                    split at h2
                    · cases h2
                    · rename_i ws m5 e5
                      split at h2
                      · rename_i hn
                        split at h2
                        · rename_i zs mg2 e6
                          cases h2
                          refine ⟨_, m3, A3.2, es, m4, e4, fun J1 ob4 H4 A4 it1 => ?_⟩
                          have L5 := (L4.after A4).here
                          obtain ⟨Y1, wk1, yd1⟩ := it1 (fun b => ({ W3 with ob := ob4 }.ev m4.obs.length).Mx b ∨ b = Dl) fun b z => z.elim (Wd.sub _ _ b) fun z => by rw [z]; exact .inl L5.nN
                          have L5w := L5.wipe hn1
                          refine walk_loop wk1 (fun j H => ∃ W6 m6 avs6 acc6 rest6, Lci K mg (({ W with ob := ob' } : Wd).base m1.obs.length H1 |>.add Dl) W.own vs Dl { ({ W3 with ob := ob4 }.ev m4.obs.length) with Mx := fun b => ({ W3 with ob := ob4 }.ev m4.obs.length).Mx b ∨ b = Dl } H4
                              (L2.wipe (setSt (L2.wipe σ vs) is xs) vs1) H W6 m6 avs6 acc6 ∧
                            lcL t1 is1 vs1 ft1 fe (es.drop j) m6 = .ok rest6 m5 ∧ acc6 ++ rest6 = acc ++ ws) ⟨_, { m4 with env := wipeE m4.env vs1 }, avs, acc, ws, L5w, e5, rfl⟩ (fun j H _ ⟨W6, m6, avs6, acc6, rest6, L6, _⟩ => ⟨_, L6.ext⟩)
                            (fun j x H H' hj ⟨W6, m6, avs6, acc6, rest6, L6, h6, he6⟩ y => ?_) fun H ⟨W6, m6, avs6, acc6, rest6, L6, h6, he6⟩ => ?_
                          · have ed : es.drop j = es[j] :: es.drop (j + 1) := List.drop_eq_getElem_cons hj
                            rw [ed] at h6
                            unfold lcL at h6
                            obtain ⟨sm6, rp6⟩ := yd1 j _ H x H' L6.ext y
                            cases e7 : setTg t1 is1 es[j] m6.env with
                            | none => rw [e7] at h6; cases h6
                            | some env7 =>
                              rw [e7] at h6
                              simp only at h6
                              have L6' := L6.same sm6
                              refine ⟨W6, m6, es[j], env7, L6'.sit, rp6 es[j] (by simp [hj]), e7, fun W7 xs7 l7 o7 w7 S7 => ⟨(setSt_wipe hv1).trans (wipe_idem fun _ z => z), ?_⟩⟩
                              have L7 := L6'.set (fun i hi => hv2 i (hv1 i hi)) e7 l7 o7 w7 S7
                              cases e8 : ft1 { m6 with env := env7 } with
                              | no => rw [e8] at h6; cases h6
                              | ok b8 m8 =>
                                rw [e8] at h6
                                refine ⟨W7, _, S7, b8, m8, e8, fun ob8 H8 A8 => ?_⟩
                                have L8 := L7.after A8
                                cases b8 with
                                | false =>
                                  show if false = true then _ else _
                                  rw [if_neg (by decide)]
                                  simp only at h6
                                  split at h6
                                  · rename_i hn8
                                    refine ⟨{ W7 with ob := ob8 }, { m8 with env := wipeE m8.env vs1 }, avs6, acc6, rest6, ?_, h6, he6⟩
                                    have := L8.wipe hn8
                                    rw [setSt_wipe hv1, wipe_idem fun _ z => z] at this
                                    exact this
                                  · cases h6
                                | true =>
                                  show if true = true then _ else _
                                  rw [if_pos rfl]
                                  simp only at h6
                                  cases e9 : fe m8 with
                                  | no => rw [e9] at h6; cases h6
                                  | ok yv m9 =>
                                    rw [e9] at h6
                                    simp only at h6
                                    split at h6
                                    · rename_i hn9
                                      split at h6
                                      · rename_i zs9 mg9 e10
                                        cases h6
                                        refine ⟨_, m8, A8.2, yv, m9, e9, fun v ob9 H9 A9 rv => ⟨avs6, (L8.after A9).lst, ?_, ?_⟩⟩
                                        · rw [L6.rep.length]
                                          have := congrArg List.length he
                                          have := congrArg List.length he6
                                          simp at *
                                          omega
                                        · have Lw := (L8.after A9).wipe hn9
                                          rw [setSt_wipe hv1, wipe_idem fun _ z => z] at Lw
                                          refine ⟨{ W7 with ob := ob9 }, { m9 with env := wipeE m9.env vs1 }, avs6 ++ [v], acc6 ++ [yv], zs9, Lw.push hD (.inl ⟨.inr rfl, _, L5.lst⟩) rv, e10, by simp [he6]⟩
                                      · cases h6
                                    · cases h6
                          · rw [List.drop_length] at h6
                            cases h6
                            rw [List.append_nil] at he6
                            subst he6
                            refine ⟨W6, { m5 with env := wipeE m5.env vs }, avs6, acc ++ ws, zs, ?_, e6, by simpa using he⟩
                            have := (L6.wipe hn).re
                            rw [wipe_sub hv2, setSt_wipe hv, wipe_idem fun _ z => z] at this
                            exact this
                        · cases h2
                      · cases h2
                  · cases h2
        · rw [List.drop_length] at h2
          cases h2
          rw [List.append_nil] at he
          subst he
          obtain ⟨x, nN, Sf, c⟩ := Lci.fin S1 h0 hD L
          exact q Dl W2.ob H (A.1.nn hD) (A.1.trans x) nN Sf c
      · cases hf
    · cases hf
  · cases hf
theorem ef_lc2 (hN : X.N.Nodup) (vs1 : List Nat) (hi : EI X tg iter fi) (ok : BlkOk X.N X.env.scope scope own)
    (hg : ∀ (s : Shared) (H : Hp) (C : Addr) (cl : List (Str × Addr)) (fp : List Addr), GG (X.blk s H scope (compEnvC scope cl C X.env) fp) tg t is)
    (ht : ∀ (s : Shared) (H : Hp) (C : Addr) (cl : List (Str × Addr)) (fp : List Addr), ETs (X.blk s H scope (compEnvC scope cl C X.env) fp) ifs ft)
    (hi1 : ∀ (s : Shared) (H : Hp) (C : Addr) (cl : List (Str × Addr)) (fp : List Addr), EI (X.blk s H scope (compEnvC scope cl C X.env) fp) tg1 iter1 fi1)
    (hg1 : ∀ (s : Shared) (H : Hp) (C : Addr) (cl : List (Str × Addr)) (fp : List Addr), GG (X.blk s H scope (compEnvC scope cl C X.env) fp) tg1 t1 is1)
    (ht1 : ∀ (s : Shared) (H : Hp) (C : Addr) (cl : List (Str × Addr)) (fp : List Addr), ETs (X.blk s H scope (compEnvC scope cl C X.env) fp) ifs1 ft1)
    (he : ∀ (s : Shared) (H : Hp) (C : Addr) (cl : List (Str × Addr)) (fp : List Addr), EE (X.blk s H scope (compEnvC scope cl C X.env) fp) elt fe)
    (hv : ∀ i ∈ is, i ∈ own.map (·.2) := by decide) (hv1 : ∀ i ∈ is1, i ∈ vs1 := by decide) (hv2 : ∀ i ∈ vs1, i ∈ own.map (·.2) := by decide) (hc : X.calm = true := by rfl) (hs : ∀ x, foldedSetIterable iter X.env x = pure x := by intro _; rfl) (hs1 : ∀ env x, foldedSetIterable iter1 env x = pure x := by intro _ _; rfl) :
    EF X (.ListComp elt [⟨tg, iter, ifs, 0⟩, ⟨tg1, iter1, ifs1, 0⟩] scope pos) (eLc2 fi t is (own.map (·.2)) ft fi1 t1 is1 vs1 ft1 fe) := PE.imp (pe_lc2 hc hN hi ok hv2 hg ht hi1 hg1 ht1 he hs hs1) fun σ H Q h => lc2_rd hv hv1 hv2 h
theorem ss_setLc2 {y : Str} {py spos : Pos} (hN : X.N.Nodup) (vs1 : List Nat) (hi : EI X tg iter fi) (ok : BlkOk X.N X.env.scope scope own)
    (hg : ∀ (s : Shared) (H : Hp) (C : Addr) (cl : List (Str × Addr)) (fp : List Addr), GG (X.blk s H scope (compEnvC scope cl C X.env) fp) tg t is)
    (ht : ∀ (s : Shared) (H : Hp) (C : Addr) (cl : List (Str × Addr)) (fp : List Addr), ETs (X.blk s H scope (compEnvC scope cl C X.env) fp) ifs ft)
    (hi1 : ∀ (s : Shared) (H : Hp) (C : Addr) (cl : List (Str × Addr)) (fp : List Addr), EI (X.blk s H scope (compEnvC scope cl C X.env) fp) tg1 iter1 fi1)
    (hg1 : ∀ (s : Shared) (H : Hp) (C : Addr) (cl : List (Str × Addr)) (fp : List Addr), GG (X.blk s H scope (compEnvC scope cl C X.env) fp) tg1 t1 is1)
    (ht1 : ∀ (s : Shared) (H : Hp) (C : Addr) (cl : List (Str × Addr)) (fp : List Addr), ETs (X.blk s H scope (compEnvC scope cl C X.env) fp) ifs1 ft1)
    (he : ∀ (s : Shared) (H : Hp) (C : Addr) (cl : List (Str × Addr)) (fp : List Addr), EE (X.blk s H scope (compEnvC scope cl C X.env) fp) elt fe)
    (hy : X.N[i]? = some y := by rfl) (hyl : X.env.scope.names.lookup y = some .local := by rfl) (hsw : swapsWith (.ListComp elt [⟨tg, iter, ifs, 0⟩, ⟨tg1, iter1, ifs1, 0⟩] scope pos) (some (.Name y py)) spos.line X.env = pure true := by exact sw_true rfl rfl rfl rfl)
    (hv : ∀ i ∈ is, i ∈ own.map (·.2) := by decide) (hv1 : ∀ i ∈ is1, i ∈ vs1 := by decide) (hv2 : ∀ i ∈ vs1, i ∈ own.map (·.2) := by decide) (hc : X.calm = true := by rfl) (hs : ∀ x, foldedSetIterable iter X.env x = pure x := by intro _; rfl) (hs1 : ∀ env x, foldedSetIterable iter1 env x = pure x := by intro _ _; rfl) :
    SS X (.Assign [.Name y py] (.ListComp elt [⟨tg, iter, ifs, 0⟩, ⟨tg1, iter1, ifs1, 0⟩] scope pos) spos) (sSetF i (eLc2 fi t is (own.map (·.2)) ft fi1 t1 is1 vs1 ft1 fe)) :=
  PS.imp (ps_setLc2 hc hN hy hyl hsw hi ok hv2 hg ht hi1 hg1 ht1 he hs hs1) fun D σ H h => lc2_rd hv hv1 hv2 (rdS_setF h)
end
end PD
namespace PD
open PySem PySem.Spec PyProof.Rows L2

/-! ### keys -/
def keyD : D → Option Key
  | .int i => some (.inl i)
  | .str x => some (.inr x)
  | _ => none
def keysD : List D → Option (List Key)
  | [] => some []
  | d :: ds => match keyD d with
    | some k => (keysD ds).map (k :: ·)
    | none => none
def keyT : D → Option (List Key)
  | .tup ds => keysD ds
  | _ => none
def dK : Key → D
  | .inl i => .int i
  | .inr x => .str x
section
variable {κ : Type} [DecidableEq κ]
def valD (kds : List (κ × D)) (k : κ) : Option D := (kds.find? fun kv => decide (kv.1 = k)).map (·.2)
def putD (kds : List (κ × D)) (k : κ) (v : D) : List (κ × D) :=
  if (kds.any fun kv => decide (kv.1 = k)) = true then kds.map (fun kv => if kv.1 = k then (kv.1, v) else kv) else kds ++ [(k, v)]
def dropD (kds : List (κ × D)) (k : κ) : List (κ × D) := kds.filter fun kv => decide (kv.1 ≠ k)
end
section
variable {K : PySem.W.Frag} {mg : Str → Option Value} {E : Ev} {H : Hp} {κ : Type} [DecidableEq κ]
/-- a dict's pairs by their data -/
structure RepK (K : PySem.W.Frag) (mg : Str → Option Value) (E : Ev) (H : Hp) (kvs : List (κ × V)) (kds : List (κ × D)) : Prop where
  k : kvs.map (·.1) = kds.map (·.1)
  v : RepL K mg E H (kvs.map (·.2)) (kds.map (·.2))
theorem RepK.nil : RepK K mg E H ([] : List (κ × V)) [] := ⟨rfl, .nil⟩
theorem RepK.cons {k : κ} {v : V} {d : D} {kvs : List (κ × V)} {kds : List (κ × D)} (r : Rep K mg E H v d) (t : RepK K mg E H kvs kds) : RepK K mg E H ((k, v) :: kvs) ((k, d) :: kds) :=
  ⟨by rw [List.map_cons, List.map_cons, t.k], .cons r t.v⟩
theorem RepK.ind {P : List (κ × V) → List (κ × D) → Prop} (h0 : P [] []) (hc : ∀ k v d kvs kds, Rep K mg E H v d → RepK K mg E H kvs kds → P kvs kds → P ((k, v) :: kvs) ((k, d) :: kds)) : ∀ {kvs : List (κ × V)} {kds : List (κ × D)}, RepK K mg E H kvs kds → P kvs kds
  | [], [], _ => h0
  | [], _ :: _, r => nomatch r.k
  | _ :: _, [], r => nomatch r.k
  | (k, v) :: kvs, (k', d) :: kds, r => by
    have e1 := r.k
    rw [List.map_cons, List.map_cons] at e1
    injection e1 with e1 e2
    have e1' : k = k' := e1
    subst e1'
    cases r.v with
    | cons rv rt => exact hc _ _ _ _ _ rv ⟨e2, rt⟩ (RepK.ind h0 hc ⟨e2, rt⟩)
theorem RepK.val {kvs : List (κ × V)} {kds : List (κ × D)} (r : RepK K mg E H kvs kds) (k : κ) : (valV kvs k = none ∧ valD kds k = none) ∨ ∃ v d, valV kvs k = some v ∧ valD kds k = some d ∧ Rep K mg E H v d := by
  refine RepK.ind (P := fun kvs kds => (valV kvs k = none ∧ valD kds k = none) ∨ ∃ v d, valV kvs k = some v ∧ valD kds k = some d ∧ Rep K mg E H v d) (.inl ⟨rfl, rfl⟩) (fun k' v d kvs kds rv _ ih => ?_) r
  by_cases e : k' = k
  · refine .inr ⟨v, d, valV_pos e, ?_, rv⟩
    simp [valD, List.find?_cons, e]
  · have h2 : valD ((k', d) :: kds) k = valD kds k := by simp [valD, List.find?_cons, e]
    rw [valV_neg e, h2]
    exact ih
theorem RepK.any {kvs : List (κ × V)} {kds : List (κ × D)} (r : RepK K mg E H kvs kds) (k : κ) : (kvs.any fun kv => decide (kv.1 = k)) = kds.any fun kv => decide (kv.1 = k) := by
  refine RepK.ind (P := fun kvs kds => (kvs.any fun kv => decide (kv.1 = k)) = kds.any fun kv => decide (kv.1 = k)) rfl (fun k' v d kvs kds rv _ ih => ?_) r
  rw [List.any_cons, List.any_cons, ih]
theorem RepK.append {kvs kvs' : List (κ × V)} {kds kds' : List (κ × D)} (r : RepK K mg E H kvs kds) (r' : RepK K mg E H kvs' kds') : RepK K mg E H (kvs ++ kvs') (kds ++ kds') :=
  ⟨by rw [List.map_append, List.map_append, r.k, r'.k], by rw [List.map_append, List.map_append]; exact r.v.append r'.v⟩
theorem RepK.put {kvs : List (κ × V)} {kds : List (κ × D)} (r : RepK K mg E H kvs kds) (k : κ) {v : V} {d : D} (rv : Rep K mg E H v d) : RepK K mg E H (putK kvs k v) (putD kds k d) := by
  unfold putK putD
  rw [r.any k]
  split
  · refine RepK.ind (P := fun kvs kds => RepK K mg E H (kvs.map fun kv => if kv.1 = k then (kv.1, v) else kv) (kds.map fun kv => if kv.1 = k then (kv.1, d) else kv)) .nil (fun k' v' d' kvs kds rv' _ ih => ?_) r
    rw [List.map_cons, List.map_cons]
    by_cases e : k' = k
    · rw [if_pos e, if_pos e]; exact .cons rv ih
    · rw [if_neg e, if_neg e]; exact .cons rv' ih
  · exact r.append (.cons rv .nil)
theorem RepK.drop {kvs : List (κ × V)} {kds : List (κ × D)} (r : RepK K mg E H kvs kds) (k : κ) : RepK K mg E H (dropK kvs k) (dropD kds k) := by
  unfold dropK dropD
  refine RepK.ind (P := fun kvs kds => RepK K mg E H (kvs.filter fun kv => decide (kv.1 ≠ k)) (kds.filter fun kv => decide (kv.1 ≠ k))) .nil (fun k' v' d' kvs kds rv' _ ih => ?_) r
  by_cases e : k' = k
  · simp only [List.filter_cons, e, ne_eq, not_true_eq_false, decide_false, Bool.false_eq_true, if_false]; exact ih
  · simp only [List.filter_cons, e, ne_eq, not_false_eq_true, decide_true, if_true]; exact .cons rv' ih
theorem RepK.len {kvs : List (κ × V)} {kds : List (κ × D)} (r : RepK K mg E H kvs kds) : kvs.length = kds.length := by
  have := congrArg List.length r.k
  simpa using this
theorem rep_key {v : V} {d : D} {k : Key} (r : Rep K mg E H v d) (h : keyD d = some k) : v = kV k := by
  cases d <;> first
    | (cases h; done)
    | (cases h; cases r; rfl)
theorem repL_keys : ∀ {vs : List V} {ds : List D} {ks : List Key}, RepL K mg E H vs ds → keysD ds = some ks → vs = ks.map kV
  | _, _, _, .nil, h => by cases h; rfl
  | _, _, _, .cons (d := d) r t, h => by
    unfold keysD at h
    split at h
    · rename_i k e
      obtain ⟨ks', h1, rfl⟩ := Option.map_eq_some_iff.mp h
      rw [rep_key r e, repL_keys t h1]
      rfl
    · cases h
theorem rep_dK (k : Key) : Rep K mg E H (kV k) (dK k) := by cases k <;> constructor
/-- what a dict holds at a key -/
def dgetD (d k : D) : Option (Option D) := match d with
  | .dk kds => (keyD k).map (valD kds)
  | .dt kds => (keyT k).map (valD kds)
  | _ => none
theorem dget_of {x y : V} {d k : D} {od : Option D} (rd : RepV K mg E H x d) (rk : RepV K mg E H y k) (h : dgetD d k = some od) :
    ∃ a o, x = .ref a ∧ IsD H a ∧ DGet H a y o ∧ (od = none → o = none) ∧ ∀ c, od = some c → ∃ v, o = some v ∧ Rep K mg E H v c := by
  unfold dgetD at h
  split at h
  · rename_i kds
    obtain ⟨kk, h1, rfl⟩ := Option.map_eq_some_iff.mp h
    obtain ⟨a, kvs, rfl, ha, hk, hv⟩ := rd.dk
    have rk' : Rep K mg E H y k := by
      cases k <;> first
        | (cases h1; done)
        | exact rk.rep_flat rfl
    have e := rep_key rk' h1
    subst e
    refine ⟨a, valV kvs kk, rfl, .inl ⟨_, ha⟩, .inl ⟨kvs, kk, ha, rfl, rfl⟩, fun e => ?_, fun c e => ?_⟩
    · rcases (RepK.mk hk hv).val kk with ⟨z, _⟩ | ⟨v, d, _, z, _⟩
      · exact z
      · rw [z] at e; cases e
    · rcases (RepK.mk hk hv).val kk with ⟨_, z⟩ | ⟨v, d, z1, z, r⟩
      · rw [z] at e; cases e
      · rw [z] at e; cases e; exact ⟨v, z1, r⟩
  · rename_i kds
    obtain ⟨kk, h1, rfl⟩ := Option.map_eq_some_iff.mp h
    obtain ⟨a, kvs, rfl, ha, hk, hv⟩ := rd.dt
    cases k <;> first
      | (cases h1; done)
      | skip
    rename_i ks
    obtain ⟨b, vs, rfl, hb, rb⟩ := rk.tup
    have e := repL_keys rb h1
    subst e
    refine ⟨a, valV kvs kk, rfl, .inr ⟨_, ha⟩, .inr ⟨kvs, kk, b, ha, rfl, hb, rfl⟩, fun e => ?_, fun c e => ?_⟩
    · rcases (RepK.mk hk hv).val kk with ⟨z, _⟩ | ⟨v, d, _, z, _⟩
      · exact z
      · rw [z] at e; cases e
    · rcases (RepK.mk hk hv).val kk with ⟨_, z⟩ | ⟨v, d, z1, z, r⟩
      · rw [z] at e; cases e
      · rw [z] at e; cases e; exact ⟨v, z1, r⟩
  · cases h
/-- d[k], k in d, k not in d -/
def dixD (d k : D) : Option D := (dgetD d k).bind id
def dinD (k d : D) : Option D := (dgetD d k).map fun o => .bl o.isSome
def dninD (k d : D) : Option D := (dgetD d k).map fun o => .bl !o.isSome
theorem opd_dix : OpD K mg dixD (fun x y H Q => ∃ a v, x = .ref a ∧ DGet H a y (some v) ∧ Q v H) := fun E H x y d1 d2 d Q hN r1 r2 g q => by
  unfold dixD at g
  obtain ⟨o, h, e⟩ := Option.bind_eq_some_iff.mp g
  obtain ⟨a, ov, rfl, _, hg, _, h2⟩ := dget_of r1 r2 h
  obtain ⟨v, rfl, rv⟩ := h2 d e
  exact ⟨a, v, rfl, hg, q _ _ (Same.refl _) rv⟩
theorem opd_din : OpD K mg dinD (fun y x H Q => ∃ a o, x = .ref a ∧ DGet H a y o ∧ Q (.bl o.isSome) H) := fun E H x y d1 d2 d Q hN r1 r2 g q => by
  obtain ⟨o, h, rfl⟩ := Option.map_eq_some_iff.mp g
  obtain ⟨a, ov, rfl, _, hg, h1, h2⟩ := dget_of r2 r1 h
  have e : ov.isSome = o.isSome := by
    cases o with
    | none => rw [h1 rfl]; rfl
    | some c => obtain ⟨v, e, _⟩ := h2 c rfl; rw [e]; rfl
  exact ⟨a, ov, rfl, hg, q _ _ (Same.refl _) (by rw [e]; exact .bl _)⟩
theorem opd_dnin : OpD K mg dninD (fun y x H Q => ∃ a o, x = .ref a ∧ DGet H a y o ∧ Q (.bl (!o.isSome)) H) := fun E H x y d1 d2 d Q hN r1 r2 g q => by
  obtain ⟨o, h, rfl⟩ := Option.map_eq_some_iff.mp g
  obtain ⟨a, ov, rfl, _, hg, h1, h2⟩ := dget_of r2 r1 h
  have e : ov.isSome = o.isSome := by
    cases o with
    | none => rw [h1 rfl]; rfl
    | some c => obtain ⟨v, e, _⟩ := h2 c rfl; rw [e]; rfl
  exact ⟨a, ov, rfl, hg, q _ _ (Same.refl _) (by rw [e]; exact .bl _)⟩
end
/-- one rule or the other, as the data say -/
def orD (f g : D → D → Option D) (b : D → D → Bool) (x y : D) : Option D := if b x y = true then f x y else g x y
def isDict : D → Bool
  | .dk _ => true
  | .dt _ => true
  | _ => false
theorem Co.bind_of {α β : Type} {c : Co α} {k : α → Co β} {m m1 : M} {a : α} {r : Res β} (h : c m = .ok a m1) (h2 : k a m1 = r) : Co.bind c k m = r := by
  unfold Co.bind; rw [h]; exact h2
theorem Opd2.of {g : D → D → Option D} {o1 o2 : Opd} {m : M} {d1 d2 d : D} (h1 : o1.get m = some d1) (h2 : o2.get m = some d2) (h3 : g d1 d2 = some d) : Opd2 g o1 o2 m = .ok d m := by
  unfold Opd2; simp only [h1, h2, h3]
theorem eOp_orP {f g : D → D → Option D} {b : D → D → Bool} {g1 g2 : Co Opd} {m m' : M} {d : D} (hf : eOp (orD f g b) g1 g2 m = .ok d m') : eOp f g1 g2 m = .ok d m' ∨ eOp g g1 g2 m = .ok d m' := by
  obtain ⟨o1, m1, e1, hf⟩ := Co.bind_ok hf
  obtain ⟨o2, m2, e2, hf⟩ := Co.bind_ok hf
  obtain ⟨d1, d2, k1, k2, k3, rfl⟩ := Opd2.ok hf
  unfold orD at k3
  split at k3
  · exact .inl (Co.bind_of e1 (Co.bind_of e2 (Opd2.of k1 k2 k3)))
  · exact .inr (Co.bind_of e1 (Co.bind_of e2 (Opd2.of k1 k2 k3)))
theorem eOp_or {K : PySem.W.Frag} {mg : Str → Option Value} {f g : D → D → Option D} {b : D → D → Bool} {g1 g2 : Co Opd} {σ : L2.St} {H : Hp} {Q : VK} (h : rdE K mg (eOp (orD f g b) g1 g2) σ H Q) : rdE K mg (eOp f g1 g2) σ H Q ∨ rdE K mg (eOp g g1 g2) σ H Q := by
  obtain ⟨W, m, S, d, m', hf, q⟩ := h
  rcases eOp_orP hf with h | h
  · exact .inl ⟨W, m, S, d, m', h, q⟩
  · exact .inr ⟨W, m, S, d, m', h, q⟩
theorem rdT_or {K : PySem.W.Frag} {mg : Str → Option Value} {f g : D → D → Option D} {b : D → D → Bool} {g1 g2 : Co Opd} {σ : L2.St} {H : Hp} {Q : Bool → Hp → Prop} (h : rdT K mg (tB' (eOp (orD f g b) g1 g2)) σ H Q) : rdT K mg (tB' (eOp f g1 g2)) σ H Q ∨ rdT K mg (tB' (eOp g g1 g2)) σ H Q := by
  obtain ⟨W, m, S, b, m', hf, q⟩ := h
  obtain ⟨d, m1, e1, e2⟩ := Co.bind_ok hf
  rcases eOp_orP e1 with h | h
  · exact .inl ⟨W, m, S, b, m', Co.bind_of h e2, q⟩
  · exact .inr ⟨W, m, S, b, m', Co.bind_of h e2, q⟩
section
variable {X : Cx} {a b c e f2 : Expr} {es : List Expr} {pos apos cpos tp : Pos} {f fe fd fi : Co D} {g g1 g2 g3 : Co Opd} {fs : Co (List D)} {gs : Co (List Opd)} {st : Stmt} {x : Str} {p : Pos}
theorem PE.or {t t' : TE} (h : PE X e t) (h' : PE X e t') : PE X e (fun σ H Q => t σ H Q ∨ t' σ H Q) := ⟨fun pins s σ H Q I q => q.elim (h.run pins s σ H Q I) (h'.run pins s σ H Q I)⟩
theorem PT.or {t t' : TT} (h : PT X e t) (h' : PT X e t') : PT X e (fun σ H Q => t σ H Q ∨ t' σ H Q) := ⟨fun pins s σ H Q I q => q.elim (h.run pins s σ H Q I) (h'.run pins s σ H Q I)⟩
theorem PS.or {t t' : TS} (h : PS X st t) (h' : PS X st t') : PS X st (fun D σ H => t D σ H ∨ t' D σ H) := ⟨fun pins s σ H D I q => q.elim (h.run pins s σ H D I) (h'.run pins s σ H D I)⟩
/-- x[i] of a list, a tuple, a text, the script, a dict -/
def subD' : D → D → Option D := orD dixD ixD fun x _ => isDict x
theorem ee_sub (hu : X.A.units + 1 < cLine) (ha : EB X a g1) (hb : EB X b g2) (hs : PlainIx b := by exact fun _ _ => rfl) (hs2 : NoSl b := by exact fun _ _ => rfl) : EE X (.Subscript a b pos) (eOp subD' g1 g2) :=
  PE.imp (PE.or (pe_dget hu ha hb hs2) (pe_ix ix_seq ha hb hs)) fun σ H Q h => by
    rcases eOp_or h with h | h
    · exact .inl (bin2 opd_dix (fun _ q => q) (fun _ _ q => q) h)
    · exact .inr (bin2 opd_ix (fun _ q => q) (fun _ _ q => q) h)
def inU : D → D → Option D := orD dinD inD fun _ y => isDict y
def notInU : D → D → Option D := orD dninD notInD fun _ y => isDict y
theorem ee_in (hu : X.A.units + 65 < cLine) (ha : EB X a g1) (hb : EB X b g2) (hm : behindInMarks .In b = false := by first | exact nobehind _ (by decide) (by decide) | rfl) : EE X (.Compare a [.In] [b] pos) (eOp inU g1 g2) :=
  PE.imp (PE.or (pe_cmp (pc_din (by omega) ha hb) hm) (pe_cmpR (op_inAll hu) ha hb hm)) fun σ H Q h => by
    rcases eOp_or h with h | h
    · exact .inl (bin2 opd_din (fun _ q => q) (fun _ _ q => q) h)
    · exact .inr (bin2 opd_in (fun _ q => q) (fun _ _ q => q) h)
theorem ee_notIn (hu : X.A.units + 65 < cLine) (ha : EB X a g1) (hb : EB X b g2) (hm : behindInMarks .NotIn b = false := by first | exact nobehind _ (by decide) (by decide) | rfl) : EE X (.Compare a [.NotIn] [b] pos) (eOp notInU g1 g2) :=
  PE.imp (PE.or (pe_cmp (pc_dnotin (by omega) ha hb) hm) (pe_cmpR (op_notInAll hu) ha hb hm)) fun σ H Q h => by
    rcases eOp_or h with h | h
    · exact .inl (bin2 opd_dnin (fun _ q => q) (fun _ _ q => q) h)
    · exact .inr (bin2 opd_notIn (fun _ q => q) (fun _ _ q => q) h)
theorem et_in (hu : X.A.units + 65 < cLine) (ha : EB X a g1) (hb : EB X b g2) (hm : behindInMarks .In b = false := by first | exact nobehind _ (by decide) (by decide) | rfl) : ET X (.Compare a [.In] [b] pos) (tB' (eOp inU g1 g2)) :=
  PT.imp (PT.or (pt_cmp (pc_din (by omega) ha hb) hm) (pt_cmpR (op_inAll hu) ha hb hm)) fun σ H Q h => by
    rcases rdT_or h with h | h
    · exact .inl (bin2 opd_din (fun _ q => q) (fun _ _ q => q) (rdT_of h))
    · exact .inr (bin2 opd_in (fun _ q => q) (fun _ _ q => q) (rdT_of h))
theorem et_notIn (hu : X.A.units + 65 < cLine) (ha : EB X a g1) (hb : EB X b g2) (hm : behindInMarks .NotIn b = false := by first | exact nobehind _ (by decide) (by decide) | rfl) : ET X (.Compare a [.NotIn] [b] pos) (tB' (eOp notInU g1 g2)) :=
  PT.imp (PT.or (pt_cmp (pc_dnotin (by omega) ha hb) hm) (pt_cmpR (op_notInAll hu) ha hb hm)) fun σ H Q h => by
    rcases rdT_or h with h | h
    · exact .inl (bin2 opd_dnin (fun _ q => q) (fun _ _ q => q) (rdT_of h))
    · exact .inr (bin2 opd_notIn (fun _ q => q) (fun _ _ q => q) (rdT_of h))
/-! ### d.get(k, x), d.get(k) -/
def isD' (g : Co Opd) : Co Opd := Co.bind g fun o m => match o.get m with
  | some (.dk _) => .ok o m
  | some (.dt _) => .ok o m
  | _ => .no
theorem isD'_ok {m m' : M} {o : Opd} (h : isD' g m = .ok o m') : ∃ d, g m = .ok o m' ∧ o.get m' = some d ∧ isDict d = true := by
  obtain ⟨o1, m1, e1, h⟩ := Co.bind_ok h
  split at h
  · rename_i ds e; cases h; exact ⟨_, e1, e, rfl⟩
  · rename_i ds e; cases h; exact ⟨_, e1, e, rfl⟩
  · cases h
theorem isD_view {K : PySem.W.Frag} {mg : Str → Option Value} {E : Ev} {H : Hp} {v : V} {d : D} (r : RepV K mg E H v d) (h : isDict d = true) : ∃ a, v = .ref a ∧ IsD H a := by
  cases d <;> first
    | (cases h; done)
    | skip
  · obtain ⟨a, kvs, rfl, ha, _⟩ := r.dk
    exact ⟨a, rfl, .inl ⟨_, ha⟩⟩
  · obtain ⟨a, kvs, rfl, ha, _⟩ := r.dt
    exact ⟨a, rfl, .inr ⟨_, ha⟩⟩
def eGet2 (g : Co Opd) (f fd : Co D) : Co D := Co.bind (isD' g) fun o => Co.bind f fun k => Co.bind fd fun z m => match o.get m with
  | some d => match dgetD d k with
    | some (some v) => .ok v m
    | some none => .ok z m
    | none => .no
  | none => .no
theorem ee_get2 (hu : X.A.units + 1 < cLine) (ha : EB X a g) (hb : EE X b f) (hc : EE X c fd) (m2 : M2 X a "get" apos b c cpos := by exact ⟨rfl, rfl, rfl, rfl⟩) : EE X (.Call (.Attribute a "get" apos) [b, c] [] cpos) (eGet2 g f fd) :=
  PE.imp (pe_dget2 hu ha hb hc m2) fun σ H Q ⟨W, m, S, d, m', hf, q⟩ => by
    obtain ⟨o, m1, e1, hf⟩ := Co.bind_ok hf
    obtain ⟨k, m2, e2, hf⟩ := Co.bind_ok hf
    obtain ⟨z, m3, e3, hf⟩ := Co.bind_ok hf
    obtain ⟨dd, e1, k1, hd⟩ := isD'_ok e1
    refine ⟨W, m, S, o, m1, e1, fun x ob1 H1 A1 r1 => ?_⟩
    obtain ⟨a0, rfl, isd⟩ := isD_view (r1.view A1.2 k1) hd
    refine ⟨a0, rfl, isd, _, m1, A1.2, k, m2, e2, fun y ob2 H2 A2 r2 => ⟨_, m2, A2.2, z, m3, e3, fun w ob3 H3 A3 r3 => ?_⟩⟩
    split at hf
    · rename_i d1 k3
      have A := A1.trans (A2.trans A3)
      have v1 := (A3.repO (A2.repO r1)).view A3.2 k3
      split at hf
      · rename_i v hv
        cases hf
        obtain ⟨a1, ov, ea, _, hg, _, h2⟩ := dget_of v1 (.of (A3.rep r2)) hv
        cases ea
        obtain ⟨u, rfl, ru⟩ := h2 _ rfl
        exact ⟨_, hg, q u ob3 H3 A ru⟩
      · rename_i hv
        cases hf
        obtain ⟨a1, ov, ea, _, hg, h1, _⟩ := dget_of v1 (.of (A3.rep r2)) hv
        cases ea
        rw [h1 rfl] at hg
        exact ⟨_, hg, q w ob3 H3 A r3⟩
      · cases hf
    · cases hf
def eGet1 (g : Co Opd) (f : Co D) : Co D := Co.bind (isD' g) fun o => Co.bind f fun k m => match o.get m with
  | some d => match dgetD d k with
    | some (some v) => .ok v m
    | some none => .ok .non m
    | none => .no
  | none => .no
theorem ee_get1 (hu : X.A.units + 1 < cLine) (ha : EB X a g) (hb : EE X b f) (m1 : M1 X a "get" apos b cpos := by exact ⟨rfl, rfl, rfl, rfl⟩) : EE X (.Call (.Attribute a "get" apos) [b] [] cpos) (eGet1 g f) :=
  PE.imp (pe_dget1 hu ha hb m1) fun σ H Q ⟨W, m, S, d, m', hf, q⟩ => by
    obtain ⟨o, m1, e1, hf⟩ := Co.bind_ok hf
    obtain ⟨k, m2, e2, hf⟩ := Co.bind_ok hf
    obtain ⟨dd, e1, k1, hd⟩ := isD'_ok e1
    refine ⟨W, m, S, o, m1, e1, fun x ob1 H1 A1 r1 => ?_⟩
    obtain ⟨a0, rfl, isd⟩ := isD_view (r1.view A1.2 k1) hd
    refine ⟨a0, rfl, isd, _, m1, A1.2, k, m2, e2, fun y ob2 H2 A2 r2 => ?_⟩
    split at hf
    · rename_i d1 k3
      have A := A1.trans A2
      have v1 := (A2.repO r1).view A2.2 k3
      split at hf
      · rename_i v hv
        cases hf
        obtain ⟨a1, ov, ea, _, hg, _, h2⟩ := dget_of v1 (.of r2) hv
        cases ea
        obtain ⟨u, rfl, ru⟩ := h2 _ rfl
        exact ⟨_, hg, q u ob2 H2 A ru⟩
      · rename_i hv
        cases hf
        obtain ⟨a1, ov, ea, _, hg, h1, _⟩ := dget_of v1 (.of r2) hv
        cases ea
        rw [h1 rfl] at hg
        exact ⟨_, hg, q .non ob2 H2 A .non⟩
      · cases hf
    · cases hf
/-! ### {} and displays -/
theorem ef_dnewK : EF X (.Dict [] [] pos) (Co.ret (.dk [])) := PE.imp pe_dnewK fun σ H Q ⟨W, m, S, d, m', hf, q⟩ => by
  cases hf
  exact fun p hp => fin_dk (kvs := []) (kds := []) (.refl S) hp rfl .nil q
theorem ef_dnewT : EF X (.Dict [] [] pos) (Co.ret (.dt [])) := PE.imp pe_dnewT fun σ H Q ⟨W, m, S, d, m', hf, q⟩ => by
  cases hf
  exact fun p hp => fin_dt (kvs := []) (kds := []) (.refl S) hp rfl .nil q
/-- the pairs of a display: keys by their data -/
def rdP (K : PySem.W.Frag) (mg : Str → Option Value) (f : Co (List (Key × D))) (trs : List (TE × TE)) : Prop := ∀ σ H (Q : List (V × V) → Hp → Prop), (∃ W m, Sit K mg W σ H m ∧ ∃ kds m', f m = .ok kds m' ∧
  ∀ (kvs : List (Key × V)) ob' H', After K mg W σ H m ob' H' m' → RepK K mg ({ W with ob := ob' }.ev m'.obs.length) H' kvs kds → Q (kvs.map fun kv => (kV kv.1, kv.2)) H') → tPairs trs σ H Q
structure EP' (X : Cx) (pos : Pos) (keys : List (Option Expr)) (values : List Expr) (f : Co (List (Key × D))) : Prop where
  ex : ∃ trs, PPs X pos keys values trs ∧ rdP X.K X.mg f trs
theorem ep_nil : EP' X pos [] [] (Co.ret []) := ⟨[], pps_nil, fun σ H Q ⟨W, m, S, kds, m', hf, q⟩ => by
  cases hf
  exact q [] W.ob H (.refl S) .nil⟩
def pCons (fk fv : Co D) (r : Co (List (Key × D))) : Co (List (Key × D)) := Co.bind fk fun dk => Co.bind (Co.lift (keyD dk)) fun k => Co.bind fv fun v => Co.bind r fun t => Co.ret ((k, v) :: t)
theorem ep_cons {k v : Expr} {ks : List (Option Expr)} {vs : List Expr} {fk fv : Co D} {r : Co (List (Key × D))} (hk : EE X k fk) (hv : EE X v fv) (hr : EP' X pos ks vs r) : EP' X pos (some k :: ks) (v :: vs) (pCons fk fv r) := by
  obtain ⟨trs, h1, h2⟩ := hr
  refine ⟨_, pps_cons hk hv h1, fun σ H Q ⟨W, m, S, kds, m', hf, q⟩ => ?_⟩
  obtain ⟨dk, m1, e1, hf⟩ := Co.bind_ok hf
  obtain ⟨kk, m2, e2, hf⟩ := Co.bind_ok hf
  obtain ⟨dv, m3, e3, hf⟩ := Co.bind_ok hf
  obtain ⟨t, m4, e4, hf⟩ := Co.bind_ok hf
  cases hf
  obtain ⟨ek, rfl⟩ := Co.lift_ok e2
  refine ⟨W, m, S, dk, _, e1, fun x ob1 H1 A1 r1 => ⟨_, _, A1.2, dv, m3, e3, fun y ob2 H2 A2 r2 => h2 _ _ _ ⟨_, m3, A2.2, t, _, e4, fun kvs ob3 H3 A3 r3 => ?_⟩⟩⟩
  have e := rep_key r1 ek
  subst e
  exact q ((kk, y) :: kvs) ob3 H3 ((A1.trans A2).trans A3) (.cons (A3.rep r2) r3)
def mergeD (more : List (Key × D)) : List (Key × D) := more.foldl (fun acc kv => putD acc kv.1 kv.2) []
theorem RepK.merge {K : PySem.W.Frag} {mg : Str → Option Value} {E : Ev} {H : Hp} : ∀ {more : List (Key × V)} {moreD : List (Key × D)} {kvs : List (Key × V)} {kds : List (Key × D)}, RepK K mg E H more moreD → RepK K mg E H kvs kds → RepK K mg E H (mergeK kvs more) (moreD.foldl (fun acc kv => putD acc kv.1 kv.2) kds)
  | [], [], _, _, _, r => r
  | [], _ :: _, _, _, r, _ => nomatch r.k
  | _ :: _, [], _, _, r, _ => nomatch r.k
  | (k, v) :: more, (k', d) :: moreD, kvs, kds, r, r0 => by
    have e1 := r.k
    rw [List.map_cons, List.map_cons] at e1
    injection e1 with e1 e2
    have e1' : k = k' := e1
    subst e1'
    cases r.v with
    | cons rv rt => exact RepK.merge (more := more) (moreD := moreD) ⟨e2, rt⟩ (r0.put k rv)
theorem sm_none {H H' : Hp} (sm : Same H H') {b : Addr} (h : H' b = none) : H b = none := by
  cases q : H b with
  | none => rfl
  | some o => rw [sm _ _ q] at h; cases h
def eDisp (f : Co (List (Key × D))) : Co D := Co.bind f fun kds => if kds.length ≤ 15 then Co.ret (.dk (mergeD kds)) else fun _ => .no
theorem ef_disp {keys : List (Option Expr)} {values : List Expr} {f : Co (List (Key × D))} (h : EP' X pos keys values f) (hall : keys.all (·.isSome) = true := by rfl) (hl : keys.length = values.length := by rfl) (h0 : keys ≠ [] := by exact List.cons_ne_nil _ _) (h15 : keys.length ≤ 15 := by decide) :
    EF X (.Dict keys values pos) (eDisp f) := by
  obtain ⟨trs, h1, h2⟩ := h
  refine PE.imp (pe_disp h1 hall hl h0 h15) fun σ H Q ⟨W, m, S, d, m', hf, q⟩ p hp => ?_
  obtain ⟨kds, m1, e1, hf⟩ := Co.bind_ok hf
  split at hf
  · rename_i hz
    cases hf
    have sm := same_new hp (.dK [])
    have S0 := S.add hp sm ⟨_, upd_same⟩
    have nm : ¬ ((W.add p).ev m.obs.length).Mx p := fun z => S.fresh hp (.inr z)
    refine h2 _ _ _ ⟨_, m, S0, kds, _, e1, fun kvs ob' H' A r => ?_⟩
    have hp' := A.1.keep _ _ nm upd_same
    have nm2 := A.1.notM upd_same nm
    refine ⟨hp', kvs, rfl, by rw [r.len]; exact hz, ?_⟩
    have h0 : W.H0 p = none := S.ext.nn hp
    obtain ⟨S5, up⟩ := A.2.updC (a := p) (o2 := .dK (mergeK [] kvs)) (.inr rfl) nm2 hp' (fun _ z => nomatch z) (fun _ _ z => nomatch z) h0
    have rm := RepK.merge r (RepK.nil (κ := Key))
    have xt : Ext (W.ev m.obs.length) H ({ W with ob := ob' }.ev m'.obs.length) (upd H' p (.dK (mergeK [] kvs))) := by
      have e := A.1
      have ne : ∀ b o, H b = some o → b ≠ p := fun b o q z => by rw [z, hp] at q; cases q
      refine ⟨e.no, e.ob, fun b z => ?_, fun b z => ?_, fun b o q => ?_, fun b o n q => ?_, fun b xs q => ?_, fun b o u q => ?_⟩
      · rcases e.n2 b (z.elim (fun z => .inl (.inl z)) .inr) with (z | z) | z
        · exact z.elim (fun z => .inl (.inl z)) fun z => .inr (by rw [z]; exact hp)
        · exact .inl (.inr z)
        · exact .inr (sm_none sm z)
      · rcases e.m2 b z with z | z
        · exact .inl z
        · exact .inr (sm_none sm z)
      · obtain ⟨o', q'⟩ := e.dm b o (sm _ _ q)
        exact ⟨o', by rw [upd_ne (ne b o q)]; exact q'⟩
      · rw [upd_ne (ne b o q)]; exact e.keep b o (fun z => n z) (sm _ _ q)
      · rw [upd_ne (ne b _ q)]; exact e.tup b xs (sm _ _ q)
      · rw [upd_ne (ne b _ q)]; exact e.frz b o u (sm _ _ q)
    refine q p ob' _ hp xt (fun z => ?_) S5 ⟨_, upd_same, rm.k, up _ _ rm.v⟩
    rcases z with z | z
    · obtain ⟨o, z⟩ := S.n0 p z
      rw [hp] at z; cases z
    · exact nm2 z
  · cases hf
end
end PD
namespace PD
open PySem PySem.Spec PyProof.Rows L2

/-! ### a name's own dict is written -/
def updW (i : Nat) (h : D → Option D) : Co Unit := fun m => match m.env[i]? with
  | some (.ow d) => match h d with
    | some d' => .ok () { m with env := m.env.set i (.ow d') }
    | none => .no
  | _ => .no
def asSlot (g : Co Opd) : Co Nat := Co.bind g fun o m => match o with
  | .slot i => .ok i m
  | _ => .no
def putDD (k v : D) : D → Option D
  | .dk kds => match keyD k with
    | some kk => if kds.length < sizeLine then some (.dk (putD kds kk v)) else none
    | none => none
  | .dt kds => match keyT k with
    | some kk => if kds.length < sizeLine then some (.dt (putD kds kk v)) else none
    | none => none
  | _ => none
section
variable {K : PySem.W.Frag} {mg : Str → Option Value} {W : Wd} {σ : L2.St} {H : Hp} {m m' : M}
theorem asSlot_ok {g : Co Opd} {i : Nat} (h : asSlot g m = .ok i m') : g m = .ok (.slot i) m' := by
  obtain ⟨o, m1, e1, h⟩ := Co.bind_ok h
  cases o with
  | val d => cases h
  | slot j => cases h; exact e1
theorem updW_ok {i : Nat} {h : D → Option D} {u : Unit} (e : updW i h m = .ok u m') : ∃ d d', m.env[i]? = some (.ow d) ∧ h d = some d' ∧ m' = { m with env := m.env.set i (.ow d') } := by
  unfold updW at e
  split at e
  · rename_i d hd
    cases e2 : h d with
    | none => rw [e2] at e; cases e
    | some d' => rw [e2] at e; cases e; exact ⟨d, d', hd, e2, rfl⟩
  · cases e
/-- the put: the heap behind it, and where one stands -/
theorem put_sit {i : Nat} {k v : D} {d d' : D} {a : Addr} {x y : V} (S : Sit K mg W σ H m) (ea : W.own i = some a) (he : m.env[i]? = some (.ow d)) (hp : putDD k v d = some d') (rk : Rep K mg (W.ev m.obs.length) H x k) (rv : Rep K mg (W.ev m.obs.length) H y v) :
    ∃ H', DPut H a x y H' ∧ Ext (W.ev m.obs.length) H (W.ev m.obs.length) H' ∧ Sit K mg W σ H' { m with env := m.env.set i (.ow d') } := by
  obtain ⟨b, eb, _, c⟩ := S.ow i d he
  rw [ea] at eb; cases eb
  unfold putDD at hp
  split at hp
  · rename_i kds
    split at hp
    · rename_i kk ek
      split at hp
      · rename_i hz
        cases hp
        obtain ⟨kvs, ha, l, r⟩ := c
        have rk' : RepK K mg (W.ev m.obs.length) H kvs kds := ⟨l, r⟩
        have e := rep_key rk ek
        subst e
        refine ⟨_, DPut.k ha (by rw [rk'.len]; exact hz), S.updOw he ea fun x => ?_⟩
        have q := rk'.put kk rv
        exact ⟨_, upd_same, q.k, q.v.ext x (W.sub _)⟩
      · cases hp
    · cases hp
  · rename_i kds
    split at hp
    · rename_i kk ek
      split at hp
      · rename_i hz
        cases hp
        obtain ⟨kvs, ha, l, r⟩ := c
        have rk' : RepK K mg (W.ev m.obs.length) H kvs kds := ⟨l, r⟩
        cases k <;> first
          | (cases ek; done)
          | skip
        cases rk with
        | tup hb rb =>
          have e := repL_keys rb ek
          subst e
          refine ⟨_, DPut.t ha hb (by rw [rk'.len]; exact hz), S.updOw he ea fun x => ?_⟩
          have q := rk'.put kk rv
          exact ⟨_, upd_same, q.k, q.v.ext x (W.sub _)⟩
      · cases hp
    · cases hp
  · cases hp
end
/-- what stands at the operand is a dict -/
def opIsD (g : Co Opd) (m : M) : Bool := match g m with
  | .ok o m' => match o.get m' with
    | some d => isDict d
    | none => false
  | .no => false
def sDPut' (g : Co Opd) (fi fe : Co D) : Co Flow' := Co.bind fe fun d => Co.bind (asSlot g) fun i => Co.bind fi fun k => Co.bind (updW i (putDD k d)) fun _ => Co.ret .nx
/-- x[i] = e of a list or a dict: which, the data say ahead -/
def sPut (g : Co Opd) (fi fe : Co D) : Co Flow' := fun m => match sDPut' g fi fe m with
  | .ok fl m' => .ok fl m'
  | .no => sLSet g fi fe m
section
variable {X : Cx} {a b e : Expr} {pos tp : Pos} {fi fe : Co D} {g : Co Opd}
theorem rdS_dput {D : Ends} {σ : L2.St} {H : Hp} (h : rdS X.K X.mg (sDPut' g fi fe) D σ H) : sDPut (rdB X.K X.mg g) (rdE X.K X.mg fi) (rdE X.K X.mg fe) D σ H := by
  obtain ⟨W, m, S, fl, m', hf, q⟩ := h
  obtain ⟨d, m1, e1, hf⟩ := Co.bind_ok hf
  obtain ⟨i, m2, e2, hf⟩ := Co.bind_ok hf
  obtain ⟨k, m3, e3, hf⟩ := Co.bind_ok hf
  obtain ⟨_, m4, e4, hf⟩ := Co.bind_ok hf
  cases hf
  obtain ⟨dd, dd', h1, h2, em⟩ := updW_ok e4
  refine ⟨W, m, S, d, m1, e1, fun v ob1 H1 A1 r1 => ⟨_, m1, A1.2, .slot i, m2, asSlot_ok e2, fun w ob2 H2 A2 r2 => ⟨_, m2, A2.2, k, m3, e3, fun u ob3 H3 A3 r3 => ?_⟩⟩⟩
  obtain ⟨a, ea, rfl⟩ := r2
  obtain ⟨H4, hp, _, S4⟩ := put_sit A3.2 ea h1 h2 r3 (A3.rep (A2.rep r1))
  subst em
  exact ⟨a, H4, rfl, hp, q { W with ob := ob3 } σ _ ⟨rfl, rfl, rfl⟩ S4⟩
theorem ss_put (hu : X.A.units + 1 < cLine) (he : EE X e fe) (hg : EB X a g) (hi : EE X b fi)
    (hp : ∀ {to ti : TE} {t : TSet}, PE X a to → PE X b ti → PSet X t → PG X (.Subscript a b tp) (gSub to ti t) := by exact fun ho hi hs => pg_sub ho hi hs)
    (hs : swapsWithSole [.Subscript a b tp] e pos.line X.env = pure false := by rfl) (hs1 : swapsWith e (some (.Subscript a b tp)) pos.line X.env = pure false := by rfl)
    (hw : swappedStores [.Subscript a b tp] e X.env = pure none := by rfl) (h1 : (assignEach [.Subscript a b tp] X.env).map (·.2) = [assign (.Subscript a b tp) X.env] := by rfl) : SS X (.Assign [.Subscript a b tp] e pos) (sPut g fi fe) :=
  PS.imp (PS.or (ps_dput hu hg hi he hs1) (ss_lset he hg hi hp hs hw h1)) fun D σ H ⟨W, m, S, fl, m', hf, q⟩ => by
    unfold sPut at hf
    split at hf
    · rename_i e5
      cases hf
      exact .inl (rdS_dput ⟨W, m, S, _, _, e5, q⟩)
    · exact .inr ⟨W, m, S, fl, m', hf, q⟩
/-! ### x += e, ints -/
def sAug (op : Int → Int → Int) (i : Nat) (f : Co D) : Co Flow' := fun m => match m.env[i]? with
  | some (.pl (.int u)) => (Co.bind f fun d m => match d with
    | .int w => .ok .nx { m with env := m.env.set i (.pl (.int (op u w))) }
    | _ => .no) m
  | _ => .no
theorem ss_aug {op : Operator} {f2 : Int → Int → Int} {i : Nat} {x : Str} {p : Pos} (hN : X.N.Nodup) (hop : PIp X op (ipI f2)) (he : EE X e fe) (hi : X.N[i]? = some x := by rfl) (hx : Loc X.env.scope x := by first | exact Or.inl rfl | exact Or.inr rfl)
    (hf : X.fn x = true ∨ X.env.scope.names.lookup x = some .local := by first | exact .inl rfl | exact .inr rfl) : SS X (.AugAssign (.Name x p) op e pos) (sAug f2 i fe) := PS.imp (ps_aug hN hi hx he hop hf) fun D σ H ⟨W, m, S, fl, m', hf, q⟩ => by
  unfold sAug at hf
  split at hf
  · rename_i u eu
    obtain ⟨d, m1, e1, hf⟩ := Co.bind_ok hf
    cases d <;> first
      | (cases hf; done)
      | skip
    cases hf
    obtain ⟨v, hv, rv⟩ := S.pl i _ eu
    cases rv
    refine ⟨_, hv, W, m, S, _, m1, e1, fun v ob' H' A r => ?_⟩
    cases r
    exact ⟨_, _, rfl, rfl, q (Wd.drop { W with ob := ob' } i) _ H' (by exact ⟨rfl, rfl, rfl⟩) (A.2.setPl (i := i) (.int _))⟩
  · cases hf
end
/-! ### built-ins that take dicts too -/
section
variable {X : Cx} {K : PySem.W.Frag} {mg : Str → Option Value}
theorem CallD.or {g g' : List D → Option D} {r r' : List V → Hp → VK → Prop} (h : CallD K mg g r) (h' : CallD K mg g' r') : CallD K mg (fun ds => match g ds with | some d => some d | none => g' ds) (fun xs H Q => r xs H Q ∨ r' xs H Q) := fun E H xs ds d Q hN r g q => by
  simp only at g
  split at g
  · rename_i e; cases g; exact .inl (h E H xs ds d Q hN r e q)
  · exact .inr (h' E H xs ds d Q hN r g q)
theorem CallF.or {g g' : List D → Option D} {r r' : List V → Hp → VK → Prop} (h : CallF K mg g r) (h' : CallF K mg g' r') : CallF K mg (fun ds => match g ds with | some d => some d | none => g' ds) (fun xs H Q => r xs H Q ∨ r' xs H Q) := fun E H xs ds d Q r g q => by
  simp only at g
  split at g
  · rename_i e; cases g; exact .inl (h E H xs ds d Q r e q)
  · exact .inr (h' E H xs ds d Q r g q)
theorem call_lenK : CallR X (.builtin "len") (fun xs H Q => ∃ a kvs, xs = [V.ref a] ∧ Rd H a (.dK kvs) ∧ Q (.int kvs.length) H) := by
  intro pins s σ H xs us Q I r h
  obtain ⟨a, kvs, rfl, ha, q⟩ := h
  obtain ⟨u, rfl, ru⟩ := vals1 r
  cases ru
  exact d_len I ha fun t s' I' => ⟨.int kvs.length, H, I', ⟨t, rfl⟩, q⟩
def lenKD : List D → Option D
  | [.dk xs] => some (.int xs.length)
  | _ => none
theorem cd_lenK : CallD K mg lenKD (fun xs H Q => ∃ a kvs, xs = [V.ref a] ∧ Rd H a (.dK kvs) ∧ Q (.int kvs.length) H) := fun E H xs ds d Q hN r g q => by
  unfold lenKD at g
  split at g
  · cases g
    cases r with
    | cons r t =>
      cases t
      obtain ⟨a, kvs, rfl, ha, l, rv⟩ := r.dk
      refine ⟨a, kvs, rfl, ha, q _ _ (Same.refl _) ?_⟩
      rw [(RepK.mk l rv).len]
      exact .int _
  · cases g
def listKD : List D → Option D
  | [.dk xs] => some (.lst (xs.map fun kv => dK kv.1))
  | _ => none
theorem repL_dK {κ : Type} {E : Ev} {H : Hp} : ∀ (ks : List Key), RepL K mg E H (ks.map kV) (ks.map dK)
  | [] => .nil
  | k :: ks => .cons (rep_dK k) (repL_dK (κ := κ) ks)
theorem cf_listK : CallF K mg listKD (fun xs H Q => ∃ (a : Addr) (kvs : List (Key × V)), xs = [.ref a] ∧ Rd H a (.dK kvs) ∧ ∀ p, H p = none → Q (.ref p) (upd H p (.lst (kvs.map fun kv => kV kv.1)))) := fun E H xs ds es Q r g q => by
  unfold listKD at g
  split at g
  · cases g
    cases r with
    | cons r t =>
      cases t
      obtain ⟨a, kvs, rfl, ha, l, rv⟩ := r.dk
      refine ⟨a, kvs, rfl, ha, fun p hp => q p _ hp ?_⟩
      have := repL_dK (K := K) (mg := mg) (κ := Key) (E := E) (H := H) (kvs.map (·.1))
      rw [List.map_map] at this
      rw [l, List.map_map] at this
      exact this
  · cases g
/-- dict(d) -/
def dictD : List D → Option D
  | [.dk xs] => some (.dk xs)
  | _ => none
end
section
variable {X : Cx} {a b e : Expr} {es : List Expr} {pos p : Pos} {gs : Co (List Opd)} {fs : Co (List D)} {f f1 f2 : Co D}
theorem ef_dict (hm : X.mg "dict" = none) (ha : EBs X [e] gs) (hg : Gl X "dict" := by rfl) (he : starEach [e] X.env = (false, eval e X.env) :: starEach [] X.env := by rfl) (hpl : (backTo pos (starEach [] X.env)).any (·.1) = false := by rfl) :
    EF X (.Call (.Name "dict" p) [e] [] pos) (eCall dictD gs) :=
  PE.imp (pe_callTy call_dictD hg hm (by rfl) ha (by decide) (by decide) he hpl) fun σ H Q ⟨W, m, S, d, m', hf, q⟩ => by
    obtain ⟨os, ds, e1, e2, e3⟩ := eCall_ok hf
    refine ⟨W, m, S, os, m', e1, fun vs ob' H' A rs => ?_⟩
    unfold dictD at e3
    split at e3
    · cases e3
      have r := rs.view A.2 e2
      cases r with
      | cons r t =>
        cases t
        obtain ⟨a, kvs, rfl, ha, l, rv⟩ := r.dk
        exact ⟨a, kvs, rfl, ha, fun p hp => fin_dk A hp l rv q⟩
    · cases e3
/-! ### list(range(..)), tuple(range(..)) -/
def rdR (K : PySem.W.Frag) (mg : Str → Option Value) (f : Co (Int × Int)) : L2.St → Hp → (Int → Int → Hp → Prop) → Prop := fun σ H Q => ∃ W m, Sit K mg W σ H m ∧ ∃ ij m', f m = .ok ij m' ∧ ∀ ob' H', After K mg W σ H m ob' H' m' → Q ij.1 ij.2 H'
def toI (f : Co D) : Co Int := Co.bind f fun d m => match d with
  | .int i => .ok i m
  | _ => .no
theorem toI_ok {m m' : M} {i : Int} (h : toI f m = .ok i m') : f m = .ok (.int i) m' := by
  obtain ⟨d, m1, e, h⟩ := Co.bind_ok h
  cases d <;> first
    | (cases h; done)
    | (cases h; exact e)
def rR1 (f : Co D) : Co (Int × Int) := Co.bind (toI f) fun j => Co.ret (0, j)
def rR2 (f1 f2 : Co D) : Co (Int × Int) := Co.bind (toI f1) fun i => Co.bind (toI f2) fun j => Co.ret (i, j)
theorem PRg.imp {t t' : L2.St → Hp → (Int → Int → Hp → Prop) → Prop} (h : PRg X e t) (g : ∀ σ H Q, t' σ H Q → t σ H Q) : PRg X e t' := fun pins s σ H Q I q => h pins s σ H Q I (g σ H Q q)
theorem er_1 (hm : X.mg "range" = none) (ha : EE X a f) (hg : Gl X "range" := by rfl) (na : starEach [a] X.env = (false, eval a X.env) :: starEach [] X.env := by rfl) : PRg X (.Call (.Name "range" p) [a] [] pos) (rdR X.K X.mg (rR1 f)) :=
  PRg.imp (prg_1 hg hm ha na) fun σ H Q ⟨W, m, S, ij, m', hf, q⟩ => by
    obtain ⟨j, m1, e1, hf⟩ := Co.bind_ok hf
    cases hf
    refine ⟨W, m, S, _, _, toI_ok e1, fun v ob' H' A r => ?_⟩
    cases r
    exact ⟨_, rfl, q ob' H' A⟩
theorem er_2 (hm : X.mg "range" = none) (ha : EE X a f1) (hb : EE X b f2) (hg : Gl X "range" := by rfl) (na : starEach [a, b] X.env = (false, eval a X.env) :: starEach [b] X.env := by rfl)
    (nb : starEach [b] X.env = (false, eval b X.env) :: starEach [] X.env := by rfl) (hp : (backTo pos (starEach [b] X.env)).any (·.1) = false := by rfl) : PRg X (.Call (.Name "range" p) [a, b] [] pos) (rdR X.K X.mg (rR2 f1 f2)) :=
  PRg.imp (prg_2 hg hm ha hb na nb hp) fun σ H Q ⟨W, m, S, ij, m', hf, q⟩ => by
    obtain ⟨i, m1, e1, hf⟩ := Co.bind_ok hf
    obtain ⟨j, m2, e2, hf⟩ := Co.bind_ok hf
    cases hf
    refine ⟨W, m, S, _, _, toI_ok e1, fun v ob1 H1 A1 r1 => ⟨_, _, A1.2, _, _, toI_ok e2, fun w ob2 H2 A2 r2 => ?_⟩⟩
    cases r1; cases r2
    exact ⟨_, _, rfl, rfl, q ob2 H2 (A1.trans A2)⟩
instance {a b : Int} : Decidable (RgOk a b) := inferInstanceAs (Decidable (_ ∧ _ ∧ _ ∧ _ ∧ _))
def eLRg (r : Co (Int × Int)) : Co D := Co.bind r fun ij m => if RgOk ij.1 ij.2 then .ok (.lst (rgD ij.1 ij.2)) m else .no
def eTRg (r : Co (Int × Int)) : Co D := Co.bind r fun ij m => if RgOk ij.1 ij.2 then .ok (.tup (rgD ij.1 ij.2)) m else .no
theorem repL_rg {K : PySem.W.Frag} {mg : Str → Option Value} {E : Ev} {H : Hp} (a b : Int) : RepL K mg E H (rgV a b) (rgD a b) := by
  unfold rgV rgD
  generalize List.range (b - a).toNat = l
  induction l with
  | nil => exact .nil
  | cons n l ih => exact .cons (.int _) ih
theorem ef_lrg {r : Co (Int × Int)} (hm : X.mg "list" = none) (he : PRg X e (rdR X.K X.mg r)) (hc : X.calm = true := by rfl) (hg : Gl X "list" := by rfl) (na : starEach [e] X.env = (false, eval e X.env) :: starEach [] X.env := by rfl) :
    EF X (.Call (.Name "list" p) [e] [] pos) (eLRg r) := PE.imp (pe_listRg hc hg hm he na) fun σ H Q ⟨W, m, S, d, m', hf, q⟩ => by
  obtain ⟨ij, m1, e1, hf⟩ := Co.bind_ok hf
  split at hf
  · rename_i hz
    cases hf
    exact ⟨W, m, S, ij, _, e1, fun ob' H' A => ⟨hz, fun p hp => fin_lst A hp (repL_rg _ _) q⟩⟩
  · cases hf
theorem ee_trg {r : Co (Int × Int)} (hm : X.mg "tuple" = none) (he : PRg X e (rdR X.K X.mg r)) (hc : X.calm = true := by rfl) (hg : Gl X "tuple" := by rfl) (na : starEach [e] X.env = (false, eval e X.env) :: starEach [] X.env := by rfl) :
    EE X (.Call (.Name "tuple" p) [e] [] pos) (eTRg r) := PE.imp (pe_tupRg hc hg hm he na) fun σ H Q ⟨W, m, S, d, m', hf, q⟩ => by
  obtain ⟨ij, m1, e1, hf⟩ := Co.bind_ok hf
  split at hf
  · rename_i hz
    cases hf
    exact ⟨W, m, S, ij, _, e1, fun ob' H' A => ⟨hz, fun p hp => q _ ob' _ (A.trans (.same A.2 (same_new hp _))) (.newT hp (repL_rg _ _))⟩⟩
  · cases hf
end
/-! ### isinstance -/
def tyD : D → Option String
  | .non => some "NoneType"
  | .bl _ => some "bool"
  | .int _ => some "int"
  | .str _ => some "str"
  | .tup _ => some "tuple"
  | .lst _ => some "list"
  | .dk _ => some "dict"
  | .dt _ => some "dict"
  | _ => none
def isB (t n : String) : Bool := t == n || (t == "bool" && n == "int")
def tyNs : List String := ["NoneType", "bool", "int", "str", "tuple", "list", "dict"]
def clNs : List String := ["bool", "int", "str", "tuple", "list", "dict"]
theorem kit_isB : ∀ t ∈ tyNs, ∀ n ∈ clNs, kitB t n = some (isB t n) := by decide +kernel
theorem tyD_in {d : D} {t : String} (h : tyD d = some t) : t ∈ tyNs := by
  cases d <;> first
    | (cases h; done)
    | (cases h; decide)
def clOf : List D → Option (List String)
  | [] => some []
  | .ty n :: ds => if clNs.contains n then (clOf ds).map (n :: ·) else none
  | _ :: _ => none
def isiD : List D → Option D
  | [x, .ty n] => if clNs.contains n then (tyD x).map fun t => .bl (isB t n) else none
  | [x, .tup ts] => match clOf ts with
    | some ns => (tyD x).map fun t => .bl (ns.any fun n => isB t n)
    | none => none
  | _ => none
/-- types, a locked dict with tuple keys among them -/
inductive TyY (K : PySem.W.Frag) (H : Hp) : V → Value → Prop where
  | x {v : V} {t : Value} (h : TyX K H v t) : TyY K H v t
  | fDT {a : Addr} {o : Obj} {kvs : List (List Key × V)} (e : H a = some (.frz o (.dT kvs))) : TyY K H (.ref a) (.type "dict")
section
variable {X : Cx} {pins : List (Addr × Obj)} {σ : L2.St} {H : Hp} {s : Shared} {K : PySem.W.Frag} {mg : Str → Option Value}
theorem kit_of' {x : V} {u t : Value} (I : Inv X pins σ H s) (rx : RelV x u) (ty : TyY X.K H x t) : ∃ P : Heap → Prop, PySem.W.KitX X.K u t P ∧ P s.heap ∧ u ≠ .builtin "__main__.__loader__#opaque" := by
  cases ty with
  | x h => exact kit_of I rx h
  | @fDT a ob kvs ea =>
    cases (show u = Value.ref a from rx)
    obtain ⟨_, _, _, vs, _, o, es, ep, h1, h2, _⟩ := (show ObjOk X.prog X.w H s.heap a (.frz ob (.dT kvs)) from I.hok a _ ea)
    exact ⟨_, PySem.W.kitx_dict, ⟨o, h1, h2.1⟩, fun z => nomatch z⟩
def rIsiY (K : PySem.W.Frag) : List V → Hp → VK → Prop := fun xs H Q => (∃ (x c : V) (t u : Value) (b : Bool), xs = [x, c] ∧ ClsV c u ∧ TyY K H x t ∧ PySem.W.kitOne K t u = some b ∧ Q (.bl b) H) ∨
  ∃ (x : V) (tp : Addr) (cs : List V) (t : Value) (us : List Value) (b : Bool), xs = [x, .ref tp] ∧ H tp = some (.tup cs) ∧ Paired ClsV cs us ∧ TyY K H x t ∧ PySem.W.kitAny K t us = some b ∧ Q (.bl b) H
theorem call_isiY : CallR X (.builtin "isinstance") (rIsiY X.K) := by
  intro pins s σ H xs us Q I r h
  rcases h with ⟨x, c, t, u, b, rfl, k, ty, e, q⟩ | ⟨x, tp, cs, t, ws, b, rfl, hT, k, ty, e, q⟩
  · obtain ⟨u1, u2, rfl, r1, r2⟩ := vals2 r
    have e2 := k.eq r2
    subst e2
    obtain ⟨P, Z, p, hx⟩ := kit_of' I r1 ty
    exact PySem.W.kia_one Z I.kIn p e hx fun tk => ⟨.bl b, H, I.tok tk, rfl, q⟩
  · obtain ⟨u1, u2, rfl, r1, r2⟩ := vals2 r
    cases (show u2 = Value.ref tp from r2)
    obtain ⟨P, Z, p, hx⟩ := kit_of' I r1 ty
    obtain ⟨_, its, rv, o, h1, h2, n, h3⟩ := (show ObjOk X.prog X.w H s.heap tp (.tup cs) from I.hok tp _ hT)
    have e3 := ClsV.all k rv
    subst e3
    obtain ⟨oc, od, dt, sl⟩ := o
    simp only at h2 h3
    subst h2 h3
    exact PySem.W.kia_tup Z I.kIn p h1 e hx fun tk => ⟨.bl b, H, I.tok tk, rfl, q⟩
theorem tyY_of {E : Ev} {v : V} {d : D} {t : String} (r : RepV K mg E H v d) (h : tyD d = some t) : TyY K H v (.type t) := by
  cases d <;> first
    | (cases h; done)
    | (cases h; skip)
  · rw [r.non]; exact .x (.base .non)
  · rw [r.bl]; exact .x (.base (.bl _))
  · rw [r.int]; exact .x (.base (.int _))
  · rw [r.str]; exact .x (.base (.str _))
  · obtain ⟨a, vs, rfl, ha, _⟩ := r.tup; exact .x (.base (.tup ha))
  · obtain ⟨a, vs, rfl, ha, _⟩ := r.lst; exact .x (.base (.lst ha))
  · obtain ⟨a, kvs, rfl, ha | ⟨o, ha⟩, _⟩ := r.dk
    · exact .x (.base (.dK ha))
    · exact .x (.fDict ha)
  · obtain ⟨a, kvs, rfl, ha | ⟨o, ha⟩, _⟩ := r.dt
    · exact .x (.base (.dT ha))
    · exact .fDT ha
theorem clOf_rep {E : Ev} : ∀ {vs : List V} {ts : List D} {ns : List String}, RepL K mg E H vs ts → clOf ts = some ns → Paired ClsV vs (ns.map Value.type) ∧ ∀ n ∈ ns, n ∈ clNs
  | _, _, _, .nil, h => by cases h; exact ⟨.nil, fun _ z => nomatch z⟩
  | _, _, _, .cons (d := d) r t, h => by
    cases d <;> first
      | (cases h; done)
      | skip
    unfold clOf at h
    split at h
    · rename_i hc
      obtain ⟨ns', h1, rfl⟩ := Option.map_eq_some_iff.mp h
      obtain ⟨p, q⟩ := clOf_rep t h1
      cases r
      refine ⟨.cons (.ty _) p, fun n hn => ?_⟩
      rcases List.mem_cons.mp hn with rfl | hn
      · exact List.contains_iff_mem.mp hc
      · exact q n hn
    · cases h
theorem kitAny_isB {t : String} (ht : t ∈ tyNs) : ∀ {ns : List String}, (∀ n ∈ ns, n ∈ clNs) → PySem.W.kitAny K (.type t) (ns.map Value.type) = some (ns.any fun n => isB t n)
  | [], _ => kitAny_nil
  | n :: ns, h => by
    have e := kit_isB t ht n (h n List.mem_cons_self)
    rw [List.map_cons, List.any_cons]
    refine kitAny_cons (kit_ty e) (fun z => ?_) fun z => by rw [z, Bool.true_or]
    rw [z, Bool.false_or]
    exact kitAny_isB ht fun k hk => h k (List.mem_cons_of_mem _ hk)
theorem cd_isi : CallD K mg isiD (rIsiY K) := fun E H xs ds d Q hN r g q => by
  unfold isiD at g
  split at g
  · rename_i x n
    split at g
    · rename_i hc
      obtain ⟨t, ht, rfl⟩ := Option.map_eq_some_iff.mp g
      cases r with
      | cons r t' =>
        cases t' with
        | cons r' t' =>
          cases t'
          cases r' with
          | cell c => exact c.elim
          | of r' =>
          cases r'
          exact .inl ⟨_, _, _, _, _, rfl, .ty n, tyY_of r ht, kit_ty (kit_isB t (tyD_in ht) n (List.contains_iff_mem.mp hc)), q _ _ (Same.refl _) (.bl _)⟩
    · cases g
  · rename_i x ts
    split at g
    · rename_i ns hc
      obtain ⟨t, ht, rfl⟩ := Option.map_eq_some_iff.mp g
      cases r with
      | cons r t' =>
        cases t' with
        | cons r' t' =>
          cases t'
          obtain ⟨a, vs, rfl, ha, rv⟩ := r'.tup
          obtain ⟨h1, h2⟩ := clOf_rep rv hc
          exact .inr ⟨_, a, vs, _, _, _, rfl, ha, h1, tyY_of r ht, kitAny_isB (tyD_in ht) h2, q _ _ (Same.refl _) (.bl _)⟩
    · cases g
  · cases g
end
end PD
namespace PD
open PySem PySem.Spec PyProof.Rows L2

/-! ### what is read stays, where a dict is locked or unlocked -/
structure Trp (N : Addr → Prop) (H H' : Hp) : Prop where
  tup : ∀ a xs, H a = some (.tup xs) → H' a = some (.tup xs)
  lst : ∀ a xs, ¬ N a → H a = some (.lst xs) → H' a = some (.lst xs)
  rd : ∀ a u, ¬ N a → (∀ o w, u ≠ .frz o w) → Rd H a u → Rd H' a u
section
variable {K : PySem.W.Frag} {mg : Str → Option Value} {E : Ev} {H H' : Hp}
theorem Trp.dk {N : Addr → Prop} (t : Trp N H H') {a : Addr} {kvs : List (Key × V)} (n : ¬ N a) (h : Rd H a (.dK kvs)) : Rd H' a (.dK kvs) := t.rd _ _ n (fun _ _ z => nomatch z) h
theorem Trp.dt {N : Addr → Prop} (t : Trp N H H') {a : Addr} {kvs : List (List Key × V)} (n : ¬ N a) (h : Rd H a (.dT kvs)) : Rd H' a (.dT kvs) := t.rd _ _ n (fun _ _ z => nomatch z) h
theorem Trp.ls {N : Addr → Prop} (t : Trp N H H') {a : Addr} {xs : List V} (n : ¬ N a) (h : Rd H a (.lst xs)) : Rd H' a (.lst xs) := t.rd _ _ n (fun _ _ z => nomatch z) h
mutual
theorem Rep.trp (t : Trp E.N H H') : ∀ {v : V} {d : D}, Rep K mg E H v d → Rep K mg E H' v d
  | _, _, .non => .non
  | _, _, .bl b => .bl b
  | _, _, .int b => .int b
  | _, _, .str b => .str b
  | _, _, .ty b => .ty b
  | _, _, .tup h r => .tup (t.tup _ _ h) (RepL.trp t r)
  | _, _, .lst h n r => .lst (t.lst _ _ n h) n (RepL.trp t r)
  | _, _, .dk h n l r => .dk (t.dk n h) n l (RepL.trp t r)
  | _, _, .dt h n l r => .dt (t.dt n h) n l (RepL.trp t r)
  | _, _, .scr ns h n => .scr ns (t.ls n h) n
  | _, _, .scrK ns h => .scrK ns h
  | _, _, .obj n h => .obj n h
  | _, _, .fn h k => .fn h k
theorem RepL.trp (t : Trp E.N H H') : ∀ {v : List V} {d : List D}, RepL K mg E H v d → RepL K mg E H' v d
  | _, _, .nil => .nil
  | _, _, .cons h r => .cons (Rep.trp t h) (RepL.trp t r)
end
theorem Cell.trp (t : Trp E.N H H') {a : Addr} {d : D} (k : ∀ o, H a = some o → H' a = some o) (c : Cell K mg E H a d) : Cell K mg E H' a d := by
  cases d <;> first
    | exact c.elim
    | (obtain ⟨vs, h, r⟩ := c; exact ⟨vs, k _ h, r.trp t⟩)
    | (obtain ⟨vs, h, l, r⟩ := c; exact ⟨vs, k _ h, l, r.trp t⟩)
def DictO (o : HO) : Prop := (∃ kvs, o = .dK kvs) ∨ ∃ kvs, o = .dT kvs
theorem DictO.mut {o : HO} (h : DictO o) : Mut (some o) := by
  rcases h with ⟨_, rfl⟩ | ⟨_, rfl⟩ <;> exact trivial
theorem trp_lock {N : Addr → Prop} {d : Addr} {u : HO} {od : Obj} (h : H d = some u) (hu : DictO u) : Trp N H (upd H d (.frz od u)) where
  tup := fun a xs q => by rw [upd_ne]; exact q; intro e; rw [e, h] at q; cases q; rcases hu with ⟨_, z⟩ | ⟨_, z⟩ <;> cases z
  lst := fun a xs _ q => by rw [upd_ne]; exact q; intro e; rw [e, h] at q; cases q; rcases hu with ⟨_, z⟩ | ⟨_, z⟩ <;> cases z
  rd := fun a w _ nf q => by
    by_cases e : a = d
    · subst e
      rcases q with q | ⟨o, q⟩
      · rw [h] at q; cases q; exact .inr ⟨od, upd_same⟩
      · rw [h] at q; cases q; rcases hu with ⟨_, z⟩ | ⟨_, z⟩ <;> cases z
    · rcases q with q | ⟨o, q⟩
      · exact .inl (by rw [upd_ne e]; exact q)
      · exact .inr ⟨o, by rw [upd_ne e]; exact q⟩
theorem trp_unlock {N : Addr → Prop} {d : Addr} {u : HO} {od : Obj} (h : H d = some (.frz od u)) : Trp N H (upd H d u) where
  tup := fun a xs q => by rw [upd_ne]; exact q; intro e; rw [e, h] at q; cases q
  lst := fun a xs _ q => by rw [upd_ne]; exact q; intro e; rw [e, h] at q; cases q
  rd := fun a w _ nf q => by
    by_cases e : a = d
    · subst e
      rcases q with q | ⟨o, q⟩
      · rw [h] at q; cases q; exact (nf _ _ rfl).elim
      · rw [h] at q; cases q; exact .inl upd_same
    · rcases q with q | ⟨o, q⟩
      · exact .inl (by rw [upd_ne e]; exact q)
      · exact .inr ⟨o, by rw [upd_ne e]; exact q⟩
theorem dm_upd {d : Addr} {o1 o2 : HO} (h : H d = some o1) : ∀ a o, H a = some o → ∃ o', upd H d o2 a = some o' := fun a o q => by
  by_cases e : a = d
  · exact ⟨o2, by rw [e, upd_same]⟩
  · exact ⟨o, by rw [upd_ne e]; exact q⟩
variable {W W2 : Wd} {σ σ0 : L2.St} {H0 : Hp} {m m0 m' : M} {d : Addr} {u : HO} {od : Obj}
theorem Sit.trp {E0 : Ev} {H0 : Hp} (S : Sit K mg W σ H m) (t : Trp (W.ev m.obs.length).N H H') (k : ∀ a o, (W.ev m.obs.length).Mx a → H a = some o → H' a = some o) (x : Ext E0 H0 (W.ev m.obs.length) H') (dm : ∀ a o, H a = some o → ∃ o', H' a = some o') :
    Sit K mg { W with E0 := E0, H0 := H0 } σ H' m where
  len := S.len
  ext := x
  pl := fun i d e => let ⟨v, hv, r⟩ := S.pl i d e; ⟨v, hv, r.trp t⟩
  ow := fun i d e => let ⟨a, ea, es, c⟩ := S.ow i d e; ⟨a, ea, es, c.trp t fun o q => k a o (.inl ⟨i, ea⟩) q⟩
  owi := S.owi
  inj := S.inj
  ob := fun n ds e => (S.ob n ds e).trp t fun o q => k _ o (.inr ⟨n, (List.getElem?_eq_some_iff.mp e).1, rfl⟩) q
  obi := S.obi
  obo := S.obo
  n0 := fun a e => let ⟨o, q⟩ := S.n0 a e; dm a o q
  o0 := S.o0
theorem Sit.lock (S : Sit K mg W σ H m) (h : H d = some u) (hu : DictO u) (n : ¬ (W.ev m.obs.length).N d) (od : Obj) : Sit K mg (W.base m.obs.length (upd H d (.frz od u))) σ (upd H d (.frz od u)) m :=
  S.trp (trp_lock h hu) (fun a o z q => by rw [upd_ne (fun e => n (by rw [← e]; exact W.sub _ a z))]; exact q) .refl (dm_upd h)
/-- from a story that begins where the dict is locked to one that begins ahead of it -/
theorem Ext.unlock {E E' : Ev} (h : H d = some u) (hu : DictO u) (x : Ext E (L2.upd H d (.frz od u)) E' H') : Ext E H E' (L2.upd H' d u) := by
  have nd : ∀ b, L2.upd H d (.frz od u) b = none → H b = none := fun b z => by
    by_cases e : b = d
    · rw [e, upd_same] at z; cases z
    · rw [upd_ne e] at z; exact z
  refine ⟨x.no, x.ob, fun b z => (x.n2 b z).elim .inl fun z => .inr (nd b z), fun b z => (x.m2 b z).elim .inl fun z => .inr (nd b z), fun b o q => ?_, fun b o n q => ?_, fun b xs q => ?_, fun b o w q => ?_⟩
  · by_cases e : b = d
    · exact ⟨u, by rw [e, upd_same]⟩
    · obtain ⟨o', q'⟩ := x.dm b o (by rw [upd_ne e]; exact q)
      exact ⟨o', by rw [upd_ne e]; exact q'⟩
  · by_cases e : b = d
    · rw [e, upd_same, ← h, ← e]; exact q
    · rw [upd_ne e]; exact x.keep b o n (by rw [upd_ne e]; exact q)
  · have e : b ≠ d := fun e => by rw [e, h] at q; cases q; rcases hu with ⟨_, z⟩ | ⟨_, z⟩ <;> cases z
    rw [upd_ne e]; exact x.tup b xs (by rw [upd_ne e]; exact q)
  · have e : b ≠ d := fun e => by rw [e, h] at q; cases q; rcases hu with ⟨_, z⟩ | ⟨_, z⟩ <;> cases z
    rw [upd_ne e]; exact x.frz b o w (by rw [upd_ne e]; exact q)
theorem Sit.unlock (S0 : Sit K mg W σ0 H0 m0) (h : H0 d = some u) (hu : DictO u) (n : ¬ (W.ev m0.obs.length).N d) (S2 : Sit K mg W2 σ H m) (e1 : W2.E0 = W.ev m0.obs.length) (e2 : W2.H0 = upd H0 d (.frz od u)) :
    H d = some (.frz od u) ∧ ¬ (W2.ev m.obs.length).N d ∧ Sit K mg { W2 with E0 := W.E0, H0 := W.H0 } σ (upd H d u) m := by
  have x := S2.ext
  rw [e1, e2] at x
  have hd : H d = some (.frz od u) := x.frz _ _ _ upd_same
  have nd := x.notN upd_same n
  exact ⟨hd, nd, S2.trp (trp_unlock hd) (fun a o z q => by rw [upd_ne (fun e => nd (by rw [← e]; exact W2.sub _ a z))]; exact q) (S0.ext.trans (x.unlock h hu)) (dm_upd hd)⟩
/-- the ends of a statement that runs while d is locked -/
abbrev lockE (D : Ends) (d : Addr) (od : Obj) (u : HO) : Ends := ⟨fun σ' H' => H' d = some (.frz od u) ∧ D.nx σ' (upd H' d u), fun v H' => H' d = some (.frz od u) ∧ D.rt v (upd H' d u), fun σ' H' => H' d = some (.frz od u) ∧ D.bk σ' (upd H' d u), fun σ' H' => H' d = some (.frz od u) ∧ D.ct σ' (upd H' d u)⟩
theorem FPost.lock {D : Ends} {fl : Flow'} (S0 : Sit K mg W σ0 H0 m0) (h : H0 d = some u) (hu : DictO u) (n : ¬ (W.ev m0.obs.length).N d) (q : FPost K mg D W m' fl) : FPost K mg (lockE D d od u) (W.base m0.obs.length (upd H0 d (.frz od u))) m' fl := by
  cases fl with
  | nx =>
    intro W' σ' H' l S
    obtain ⟨h1, h2, h3⟩ := S0.unlock h hu n S l.2.1 l.2.2
    exact ⟨h1, q { W' with E0 := W.E0, H0 := W.H0 } σ' _ ⟨l.1, rfl, rfl⟩ h3⟩
  | bk =>
    intro W' σ' H' l S
    obtain ⟨h1, h2, h3⟩ := S0.unlock h hu n S l.2.1 l.2.2
    exact ⟨h1, q { W' with E0 := W.E0, H0 := W.H0 } σ' _ ⟨l.1, rfl, rfl⟩ h3⟩
  | ct =>
    intro W' σ' H' l S
    obtain ⟨h1, h2, h3⟩ := S0.unlock h hu n S l.2.1 l.2.2
    exact ⟨h1, q { W' with E0 := W.E0, H0 := W.H0 } σ' _ ⟨l.1, rfl, rfl⟩ h3⟩
  | rt r =>
    intro W' σ' H' v l S rv
    obtain ⟨h1, h2, h3⟩ := S0.unlock h hu n S l.2.1 l.2.2
    exact ⟨h1, q { W' with E0 := W.E0, H0 := W.H0 } σ' _ v ⟨l.1, rfl, rfl⟩ h3 (rv.trp (trp_unlock h1))⟩
  | rf r =>
    intro W' σ' H' a l nN z S c
    have e1 : (W'.add a).E0 = W.ev m0.obs.length := l.2.1
    obtain ⟨h1, h2, h3⟩ := S0.unlock h hu n S e1 l.2.2
    have ne : a ≠ d := fun e => h2 (.inl (.inr e.symm))
    refine ⟨h1, q { W' with E0 := W.E0, H0 := W.H0 } σ' _ a ⟨l.1, rfl, rfl⟩ nN ?_ h3 (c.trp (trp_unlock h1) fun o q => by rw [upd_ne ne]; exact q)⟩
    rw [l.2.1, l.2.2] at z
    rcases z with z | z
    · exact S0.ext.m2 a z
    · by_cases e : a = d
      · exact (ne e).elim
      · have z' : upd H0 d (.frz od u) a = none := z
        rw [upd_ne e] at z'
        exact .inr (S0.ext.nn z')
end
/-! ### for k, v in d.items() -/
def itemsD (kds : List (Key × D)) : List D := kds.map fun kv => .tup [dK kv.1, kv.2]
section
variable {K : PySem.W.Frag} {mg : Str → Option Value} {E0 : Ev} {H0 : Hp}
theorem ItD.items {d : Addr} {o : Obj} {kvs : List (Key × V)} {kds : List (Key × D)} (sb : E0.Sub) (h : H0 d = some (.frz o (.dK kvs))) (r : RepK K mg E0 H0 kvs kds) : ItD K mg E0 H0 (Iti d o kvs) (itemsD kds) := by
  refine .pair sb walk_items (by rw [r.len]; simp [itemsD]) (fun E H x => x.frz _ _ _ h) fun i x y c hx hy hc => ?_
  unfold itemsD at hc
  rw [List.getElem?_map] at hc
  obtain ⟨⟨k, dd⟩, hk, rfl⟩ := Option.map_eq_some_iff.mp hc
  obtain ⟨⟨k1, v1⟩, h1, rfl⟩ := Option.map_eq_some_iff.mp hx
  obtain ⟨⟨k2, v2⟩, h2, rfl⟩ := Option.map_eq_some_iff.mp hy
  rw [h1] at h2; cases h2
  have e1 : (kvs.map (·.1))[i]? = some k1 := by rw [List.getElem?_map, h1]; rfl
  rw [r.k, List.getElem?_map, hk] at e1
  cases e1
  have e2 : (kds.map (·.2))[i]? = some dd := by rw [List.getElem?_map, hk]; rfl
  obtain ⟨w, hw, rw'⟩ := r.v.get' e2
  rw [List.getElem?_map, h1] at hw
  cases hw
  exact ⟨_, _, rfl, rep_dK _, rw'⟩
end
def tFreeze (t : TE) : TE := fun σ H Q => t σ H fun x H1 => ∃ d u, x = .ref d ∧ H1 d = some u ∧ Mut (some u) ∧ ∀ od, Q x (upd H1 d (.frz od u))
section
variable {X : Cx} {tg e : Expr} {f : Co D} {fb : Co Flow'} {pos p apos cpos tpos : Pos} {body : List Stmt} {t : Bool} {is : List Nat} {elts : List Expr} {kk : Nat}
theorem pe_freeze {t : TE} (h : PE X e t) : PE X e (tFreeze t) := ⟨fun pins s σ H Q I q => thn (h.run pins s σ H _ I q) fun u s1 ⟨x, H1, I1, r, d, u', ex, hd, mu, q⟩ => by
  obtain ⟨od, I2⟩ := I1.lock hd mu
  exact ⟨x, _, I2, r, q od⟩⟩
/-- of a dict just made -/
def iItemsF (f : Co D) : Co (List D) := Co.bind f fun d => Co.lift (match d with
  | .dk kds => some (itemsD kds)
  | _ => none)
theorem ei_itemsF (he : EF X e f) (hbase : attributeBase e "items" X.env (eval e X.env) = eval e X.env := by rfl) (hline : (apos.endLine == cpos.line) = true := by rfl) :
    EI X (.Tuple elts kk tpos) (.Call (.Attribute e "items" apos) [] [] cpos) (iItemsF f) := PI.imp (pi_items (pe_freeze he) hbase hline) fun σ H R ⟨W, m, S, ds, m', hf, q⟩ => by
  obtain ⟨d, m1, e1, hf⟩ := Co.bind_ok hf
  obtain ⟨h, rfl⟩ := Co.lift_ok hf
  split at h
  · rename_i kds
    cases h
    refine ⟨W, m, S, _, _, e1, fun a ob' H1 hn x nN S1 c => ?_⟩
    obtain ⟨kvs, ha, l, r⟩ := c
    refine ⟨a, _, rfl, ha, trivial, fun od => ⟨a, od, kvs, rfl, upd_same, ?_⟩⟩
    have nm : ¬ (({ W with ob := ob' }.add a).ev m'.obs.length).Mx a := fun z => nN (.inr z)
    obtain ⟨S2, up⟩ := S1.updC (a := a) (o2 := .frz od (.dK kvs)) (.inr rfl) nm ha (fun _ z => nomatch z) (fun _ _ z => nomatch z) (S.ext.nn hn)
    have r2 := up _ _ r
    have xt : Ext (W.ev m.obs.length) H ({ W with ob := ob' }.ev m'.obs.length) (upd H1 a (.frz od (.dK kvs))) := by
      have ne : ∀ b o, H b = some o → b ≠ a := fun b o q z => by rw [z, hn] at q; cases q
      refine ⟨x.no, x.ob, x.n2, x.m2, fun b o q => ?_, fun b o n q => ?_, fun b xs q => ?_, fun b o u q => ?_⟩
      · obtain ⟨o', q'⟩ := x.dm b o q
        exact ⟨o', by rw [upd_ne (ne b o q)]; exact q'⟩
      · rw [upd_ne (ne b o q)]; exact x.keep b o n q
      · rw [upd_ne (ne b _ q)]; exact x.tup b xs q
      · rw [upd_ne (ne b _ q)]; exact x.frz b o u q
    exact q _ ob' _ ⟨xt, S2.forget⟩ fun M' hM => .items hM upd_same ⟨l, (r2.le (Wd.add_le _ _ _)).le (Ev.le_mx _ _)⟩
  · cases h
theorem mg_slot {x : Str} : True := trivial
/-- of a name's dict, which stays as it is meanwhile -/
def sForItems (i : Nat) (t : Bool) (is : List Nat) (b : Co Flow') : Co Flow' := fun m => match m.env[i]? with
  | some (.pl (.dk kds)) => forL t is b (itemsD kds) m
  | _ => .no
theorem ss_forItems (i : Nat) {x : Str} (hg : GG X (.Tuple elts kk tpos) t is) (hb : SSs X body fb) (hN : X.N[i]? = some x := by rfl) (hv : Vis X.env.scope x := by first | exact Or.inl rfl | exact Or.inr (Or.inl rfl) | exact Or.inr (Or.inr rfl)) (hd : (x == ("__debug__" : Str)) = false := by decide)
    (hcd : (x == ("__classdict__" : Str)) = false := by decide) (hbase : attributeBase (.Name x p) "items" X.env (eval (.Name x p) X.env) = eval (.Name x p) X.env := by rfl) (hline : (apos.endLine == cpos.line) = true := by rfl)
    (hp : PassesOwn (model X.prog X.w) X.A X.env X.xe := by exact PassesOwn.never) (hc : X.calm = true := by rfl) (hs : ∀ y, foldedSetIterable (.Call (.Attribute (.Name x p) "items" apos) [] [] cpos) X.env y = pure y := by intro _; rfl) :
    SS X (.For (.Tuple elts kk tpos) (.Call (.Attribute (.Name x p) "items" apos) [] [] cpos) body [] pos) (sForItems i t is fb) := by
  have R := ps_for (pos := pos) hp hc (pi_items (elts := elts) (kk := kk) (tpos := tpos) (apos := apos) (cpos := cpos) (pe_var (pos := p) hN hv hd hcd) hbase hline) hg hb hs
  refine PS.imp (PS.or (ps_lock R) R) fun D σ H ⟨W, m, S, fl, m', hf, q⟩ => ?_
  unfold sForItems at hf
  split at hf
  · rename_i kds ek
    obtain ⟨v, hv, r⟩ := S.pl i _ ek
    cases r with
    | @dk d kvs _ hd n l r =>
      rcases hd with hd | ⟨o, hd⟩
      · refine .inl ?_
        have hu : DictO (.dK kvs) := .inl ⟨_, rfl⟩
        refine ⟨d, _, hd, trivial, fun od => ⟨_, hv, d, od, kvs, rfl, upd_same, ?_⟩⟩
        have S1 := S.lock hd hu n od
        exact for_rd S1 (.items (Wd.sub _ _) upd_same ⟨l, r.trp (trp_lock hd hu)⟩) hf (q.lock S hd hu n)
      · exact .inr ⟨_, hv, ⟨d, o, kvs, rfl, hd, for_rd S (.items (Wd.sub _ _) hd ⟨l, r⟩) hf q⟩⟩
  · cases hf
end
end PD
namespace PD
open PySem PySem.Spec PyProof.Rows L2

/-! ### a new object -/
section
variable {K : PySem.W.Frag} {mg : Str → Option Value} {W : Wd} {σ : L2.St} {H H' : Hp} {m m' : M} {a : Addr} {ds : List D} {ob' : Nat → Addr}
abbrev Wd.newOb (W : Wd) (no : Nat) (a : Addr) : Wd := { W with ob := fun n => if n = no then a else W.ob n }
theorem Sit.newOb (S : Sit K mg (W.add a) σ H m) (h0 : W.H0 a = none) (nN : ¬ (W.ev m.obs.length).N a) (c : Cell K mg ((W.add a).ev m.obs.length) H a (.lst ds)) :
    Sit K mg (W.newOb m.obs.length a) σ H { m with obs := m.obs ++ [ds] } := by
  have hl : (m.obs ++ [ds]).length = m.obs.length + 1 := by rw [List.length_append]; rfl
  have obn : ∀ n, n < m.obs.length → (W.newOb m.obs.length a).ob n = W.ob n := fun n h => if_neg (Nat.ne_of_lt h)
  have oba : (W.newOb m.obs.length a).ob m.obs.length = a := if_pos rfl
  have nle : ∀ b, ((W.newOb m.obs.length a).ev (m.obs ++ [ds]).length).N b → ((W.add a).ev m.obs.length).N b := fun b z => by
    rcases z with z | z | ⟨n, hn, z⟩
    · exact .inl (.inl z)
    · exact .inr (.inl z)
    · rw [hl] at hn
      by_cases e : n = m.obs.length
      · subst e; rw [oba] at z; exact .inl (.inr z.symm)
      · exact .inr (.inr ⟨n, by omega, by rw [← obn n (by omega)]; exact z⟩)
  have le : ((W.add a).ev m.obs.length).Le ((W.newOb m.obs.length a).ev (m.obs ++ [ds]).length) := ⟨by show m.obs.length ≤ (m.obs ++ [ds]).length; omega, fun n h => obn n h, nle⟩
  refine ⟨S.len, ⟨?_, ?_, fun b z => S.ext.n2 b (nle b z), fun b z => ?_, S.ext.dm, S.ext.keep, S.ext.tup, S.ext.frz⟩, fun i d e => ?_, fun i d e => ?_, S.owi, S.inj, fun n es e => ?_, fun n k h1 h2 e => ?_, fun n i h e => ?_, fun b z => S.n0 b (.inl z), fun i b e z => S.o0 i b e (.inl z)⟩
  · exact Nat.le_trans S.ext.no (by show m.obs.length ≤ (m.obs ++ [ds]).length; omega)
  · intro n h
    have h' : n < m.obs.length := Nat.lt_of_lt_of_le h S.ext.no
    exact (obn n h').trans (S.ext.ob n h)
  · rcases z with z | ⟨n, hn, z⟩
    · exact S.ext.m2 b (.inl z)
    · rw [hl] at hn
      by_cases e : n = m.obs.length
      · subst e; rw [oba] at z; exact .inr (by rw [← z]; exact h0)
      · exact S.ext.m2 b (.inr ⟨n, by omega, by rw [← obn n (by omega)]; exact z⟩)
  · obtain ⟨v, hv, r⟩ := S.pl i d e
    exact ⟨v, hv, r.le le⟩
  · obtain ⟨b, hb, es, c⟩ := S.ow i d e
    exact ⟨b, hb, es, c.le le⟩
  · have e' : (m.obs ++ [ds])[n]? = some es := e
    by_cases hn : n < m.obs.length
    · rw [List.getElem?_append_left hn] at e'
      rw [obn n hn]
      exact (S.ob n es e').le le
    · have hn2 : n = m.obs.length := by
        have := (List.getElem?_eq_some_iff.mp e').1
        rw [hl] at this; omega
      subst hn2
      rw [List.getElem?_append_right (Nat.le_refl _), Nat.sub_self] at e'
      cases e'
      rw [oba]
      exact c.le le
  · have h1' : n < (m.obs ++ [ds]).length := h1
    have h2' : k < (m.obs ++ [ds]).length := h2
    rw [hl] at h1' h2'
    have key : ∀ n, n < m.obs.length → W.ob n ≠ a := fun n hn z => nN (.inr (.inr ⟨n, hn, z⟩))
    by_cases e1 : n = m.obs.length <;> by_cases e2 : k = m.obs.length
    · rw [e1, e2]
    · rw [e1, oba, obn k (by omega)] at e; exact (key k (by omega) e.symm).elim
    · rw [e2, oba, obn n (by omega)] at e; exact (key n (by omega) e).elim
    · rw [obn n (by omega), obn k (by omega)] at e
      exact S.obi n k (by omega) (by omega) e
  · have h' : n < (m.obs ++ [ds]).length := h
    rw [hl] at h'
    by_cases e1 : n = m.obs.length
    · rw [e1, oba] at e
      exact S.o0 i a e (.inr rfl)
    · rw [obn n (by omega)] at e
      exact S.obo n i (by omega) e
end
/-- x = [..], to be an object that the defs called may write -/
def sSetOb (i : Nat) (f : Co D) : Co Flow' := Co.bind f fun d m => match d with
  | .lst ds => .ok .nx { env := m.env.set i (.pl (.obj m.obs.length)), obs := m.obs ++ [ds] }
  | _ => .no
section
variable {X : Cx} {a b c e f2 : Expr} {es : List Expr} {pos apos cpos tp : Pos} {fe fd fi : Co D}
theorem rdS_setOb {i : Nat} {D : Ends} {σ : L2.St} {H : Hp} {K : PySem.W.Frag} {mg : Str → Option Value} {f : Co PD.D} (h : rdS K mg (sSetOb i f) D σ H) : rdF K mg f σ H fun v H1 => gName i v σ H1 D.nx := by
  obtain ⟨W, m, S, fl, m', hf, q⟩ := h
  obtain ⟨d, m1, e1, e2⟩ := Co.bind_ok hf
  cases d <;> first
    | (cases e2; done)
    | skip
  cases e2
  refine ⟨W, m, S, _, m1, e1, fun a ob' H' hn x nN S' c => ?_⟩
  have S2 := Sit.newOb (W := { W with ob := ob' }) S' (S.ext.nn hn) nN c
  have hl : ∀ (es : List PD.D), m1.obs.length < (m1.obs ++ [es]).length := fun es => by rw [List.length_append]; exact Nat.lt_succ_self _
  have r : ∀ (es : List PD.D), Rep K mg ((Wd.newOb { W with ob := ob' } m1.obs.length a).ev (m1.obs ++ [es]).length) H' (.ref a) (.obj m1.obs.length) := fun es => by
    have := Rep.obj (K := K) (mg := mg) (E := (Wd.newOb { W with ob := ob' } m1.obs.length a).ev (m1.obs ++ [es]).length) (H := H') m1.obs.length (hl es)
    have e : ((Wd.newOb { W with ob := ob' } m1.obs.length a).ev (m1.obs ++ [es]).length).ob m1.obs.length = a := if_pos rfl
    rw [e] at this
    exact this
  exact q (Wd.drop (Wd.newOb { W with ob := ob' } m1.obs.length a) i) _ H' (by exact ⟨rfl, rfl, rfl⟩) (S2.setPl (i := i) (r _))
theorem ss_setOb {i : Nat} {x : Str} {p : Pos} (hN : X.N.Nodup) (he : EF X e fe) (hi : X.N[i]? = some x := by rfl) (hx : Loc X.env.scope x := by first | exact Or.inl rfl | exact Or.inr rfl) (hs : swapsWith e (some (.Name x p)) pos.line X.env = pure false := by rfl)
    (hf : X.fn x = true ∨ X.env.scope.names.lookup x = some .local := by first | exact .inl rfl | exact .inr rfl) : SS X (.Assign [.Name x p] e pos) (sSetOb i fe) := PS.imp (ps_set hN hi hx he hs hf) fun D σ H h => rdS_setOb h
/-! ### a comprehension's list as data -/
theorem rdS_setP {i : Nat} {D : Ends} {σ : L2.St} {H : Hp} {K : PySem.W.Frag} {mg : Str → Option Value} {f : Co PD.D} (h : rdS K mg (sSet i f) D σ H) : rdF K mg f σ H fun v H1 => gName i v σ H1 D.nx := by
  obtain ⟨W, m, S, fl, m', hf, q⟩ := h
  obtain ⟨d, m1, e1, e2⟩ := Co.bind_ok hf
  cases e2
  exact ⟨W, m, S, d, m1, e1, fun a ob' H' hn x nN S' c => q (Wd.drop { W with ob := ob' } i) _ H' (by exact ⟨rfl, rfl, rfl⟩) (S'.forget.setPl (i := i) (Cell.rep nN (c.le (Wd.add_le _ _ _))))⟩
variable {tg iter elt tg1 iter1 : Expr} {ifs ifs1 : List Expr} {fi' fi1 : Co (List D)} {t t1 : Bool} {is is1 : List Nat} {ft ft1 : Co Bool} {scope : Scope} {own : List (Str × Nat)} {i : Nat}
theorem ss_setLcP {y : Str} {py spos : Pos} (hN : X.N.Nodup) (hi : EI X tg iter fi') (ok : BlkOk X.N X.env.scope scope own)
    (hg : ∀ (s : Shared) (H : Hp) (C : Addr) (cl : List (Str × Addr)) (fp : List Addr), GG (X.blk s H scope (compEnvC scope cl C X.env) fp) tg t is)
    (ht : ∀ (s : Shared) (H : Hp) (C : Addr) (cl : List (Str × Addr)) (fp : List Addr), ETs (X.blk s H scope (compEnvC scope cl C X.env) fp) ifs ft)
    (he : ∀ (s : Shared) (H : Hp) (C : Addr) (cl : List (Str × Addr)) (fp : List Addr), EE (X.blk s H scope (compEnvC scope cl C X.env) fp) elt fe)
    (hy : X.N[i]? = some y := by rfl) (hyl : X.env.scope.names.lookup y = some .local := by rfl) (hsw : swapsWith (.ListComp elt [⟨tg, iter, ifs, 0⟩] scope pos) (some (.Name y py)) spos.line X.env = pure true := by exact sw_true rfl rfl rfl rfl)
    (hv : ∀ i ∈ is, i ∈ own.map (·.2) := by decide) (hc : X.calm = true := by rfl) (hs : ∀ x, foldedSetIterable iter X.env x = pure x := by intro _; rfl) :
    SS X (.Assign [.Name y py] (.ListComp elt [⟨tg, iter, ifs, 0⟩] scope pos) spos) (sSet i (eLc fi' t is (own.map (·.2)) ft fe)) :=
  PS.imp (ps_setLc hc hN hy hyl hsw hi ok hg ht he hs) fun D σ H h => lc_rd hv (rdS_setP h)
theorem ss_setLc2P {y : Str} {py spos : Pos} (hN : X.N.Nodup) (vs1 : List Nat) (hi : EI X tg iter fi') (ok : BlkOk X.N X.env.scope scope own)
    (hg : ∀ (s : Shared) (H : Hp) (C : Addr) (cl : List (Str × Addr)) (fp : List Addr), GG (X.blk s H scope (compEnvC scope cl C X.env) fp) tg t is)
    (ht : ∀ (s : Shared) (H : Hp) (C : Addr) (cl : List (Str × Addr)) (fp : List Addr), ETs (X.blk s H scope (compEnvC scope cl C X.env) fp) ifs ft)
    (hi1 : ∀ (s : Shared) (H : Hp) (C : Addr) (cl : List (Str × Addr)) (fp : List Addr), EI (X.blk s H scope (compEnvC scope cl C X.env) fp) tg1 iter1 fi1)
    (hg1 : ∀ (s : Shared) (H : Hp) (C : Addr) (cl : List (Str × Addr)) (fp : List Addr), GG (X.blk s H scope (compEnvC scope cl C X.env) fp) tg1 t1 is1)
    (ht1 : ∀ (s : Shared) (H : Hp) (C : Addr) (cl : List (Str × Addr)) (fp : List Addr), ETs (X.blk s H scope (compEnvC scope cl C X.env) fp) ifs1 ft1)
    (he : ∀ (s : Shared) (H : Hp) (C : Addr) (cl : List (Str × Addr)) (fp : List Addr), EE (X.blk s H scope (compEnvC scope cl C X.env) fp) elt fe)
    (hy : X.N[i]? = some y := by rfl) (hyl : X.env.scope.names.lookup y = some .local := by rfl) (hsw : swapsWith (.ListComp elt [⟨tg, iter, ifs, 0⟩, ⟨tg1, iter1, ifs1, 0⟩] scope pos) (some (.Name y py)) spos.line X.env = pure true := by exact sw_true rfl rfl rfl rfl)
    (hv : ∀ i ∈ is, i ∈ own.map (·.2) := by decide) (hv1 : ∀ i ∈ is1, i ∈ vs1 := by decide) (hv2 : ∀ i ∈ vs1, i ∈ own.map (·.2) := by decide) (hc : X.calm = true := by rfl) (hs : ∀ x, foldedSetIterable iter X.env x = pure x := by intro _; rfl) (hs1 : ∀ env x, foldedSetIterable iter1 env x = pure x := by intro _ _; rfl) :
    SS X (.Assign [.Name y py] (.ListComp elt [⟨tg, iter, ifs, 0⟩, ⟨tg1, iter1, ifs1, 0⟩] scope pos) spos) (sSet i (eLc2 fi' t is (own.map (·.2)) ft fi1 t1 is1 vs1 ft1 fe)) :=
  PS.imp (ps_setLc2 hc hN hy hyl hsw hi ok hv2 hg ht hi1 hg1 ht1 he hs hs1) fun D σ H h => lc2_rd hv hv1 hv2 (rdS_setP h)
end
/-! ### defs that stand in the module -/
section
variable {P : Program} {w : World} {K : PySem.W.Frag} {mg : Str → Option Value} {base : Heap}
theorem has_mk {x : Str} {st : Stmt} {f : Addr} {fd : FuncData} {N ps : List Str} {k : Nat} {body : Co Flow'} (fr : Bool) (F : Fun K x x st f fd) (m : mg x = some (.ref f)) (b : Binds K fd ps []) (S : FnScope N ps (defScope st))
    (hb : ∀ (cdv : Value) (A : Around) (outer : List Env) (s : Shared) (H : Hp) (E : XK), Room k (A.deeper (envOfC x (defScope st) s.heap.objs.size f cdv)) → SSs (BX P w K mg base N x st f cdv A outer s H E) (defBody st) body) :
    Has P w K mg base (k + 1) x (runF N.length ps.length body fr) fr := ⟨f, fd, ps, m, F.kp, fn_ok F S hb, b⟩
/-- a def that calls itself: with no call left it promises nothing -/
theorem has_zero {x : Str} {st : Stmt} {f : Addr} {fd : FuncData} {ps : List Str} (fr : Bool) (F : Fun K x x st f fd) (m : mg x = some (.ref f)) (b : Binds K fd ps []) : Has P w K mg base 0 x (fun _ _ => none) fr :=
  ⟨f, fd, ps, m, F.kp, ⟨fun vs H Q E ⟨_, _, _, _, _, _, _, h, _⟩ => (nomatch h), fun A outer s H args us vs Q E _ _ _ _ ⟨_, _, _, _, _, _, _, h, _⟩ => (nomatch h)⟩, b⟩
theorem Has.mono {j k : Nat} {x : Str} {F : Fd} {fr : Bool} (h : Has P w K mg base j x F fr) (l : j ≤ k) : Has P w K mg base k x F fr := by
  obtain ⟨f, fd, ps, m, kp, G, b⟩ := h.ex
  exact ⟨f, fd, ps, m, kp, G.mono l, b⟩
def spLaw (K : PySem.W.Frag) : Sp := fun vs H Q _ => ∃ (a : Addr) (ns : List Int), vs = [.ref a] ∧ SqL K H a (ns.map V.int) ∧ ns.length ≤ 63 ∧ ∀ H', Q (.bl true) H'
theorem law_end {f : Addr} {F : Fd} {k : Nat} {fd : FuncData} {ps : List Str} (G : FnOk P w K mg base CX0 k f fd ps (spD K mg F false)) (hF : ∀ ns : List Int, ns.length ≤ 63 → ∃ obs', F [.scr ns] [] = some (.bl true, obs')) :
    FnOk P w K mg base CX0 k f fd ps (spLaw K) := G.imp fun vs H Q E ⟨a, ns, ev, hs, hl, q⟩ => by
  obtain ⟨obs', hf⟩ := hF ns hl
  refine ⟨⟨fun _ => False, fun _ => False, fun _ => 0, 0⟩, [], [.scr ns], .bl true, obs', ⟨rfl, fun _ z => z.elim, fun _ z => z.elim, fun n z => absurd z (Nat.not_lt_zero n), fun n z => absurd z (Nat.not_lt_zero n), fun n _ z => absurd z (Nat.not_lt_zero n), fun n ds z => by simp at z⟩, ?_, hf, fun v ob' H' c => ?_⟩
  · subst ev
    refine .cons ?_ .nil
    rcases hs with hs | hs
    · exact .scr ns hs fun z => z
    · exact .scrK ns fun H' => .inr hs
  · obtain ⟨_, _, _, r⟩ := c
    cases r
    exact q H'
end
end PD
namespace PD
open PySem PySem.Spec PyProof.Rows L2

/-- a name's own cell is given up, forbidden from here -/
theorem Sit.takeOw {K : PySem.W.Frag} {mg : Str → Option Value} {W : Wd} {σ : L2.St} {H : Hp} {m : M} {i : Nat} {d : D} (S : Sit K mg W σ H m) (he : m.env[i]? = some (.ow d)) :
    ∃ a, W.own i = some a ∧ σ[i]? = some (some (.ref a)) ∧ ¬ ((W.drop i).ev m.obs.length).N a ∧ (W.E0.Mx a ∨ W.H0 a = none) ∧ Sit K mg ((W.drop i).add a) σ H { m with env := m.env.set i .un } ∧ Cell K mg (((W.drop i).add a).ev m.obs.length) H a d := by
  obtain ⟨a, e1, e2, c⟩ := S.ow i d he
  have le : (W.ev m.obs.length).Le (((W.drop i).add a).ev m.obs.length) := ⟨Nat.le_refl _, fun _ _ => rfl, fun b h => by
    rcases h with (h | rfl) | ⟨j, h⟩ | h
    · exact .inl h
    · exact .inr (.inl ⟨i, e1⟩)
    · exact .inr (.inl ⟨j, (drop_own h).1⟩)
    · exact .inr (.inr h)⟩
  have hl : i < m.env.length := (List.getElem?_eq_some_iff.mp he).1
  refine ⟨a, e1, e2, fun z => ?_, S.ext.m2 a (.inl ⟨i, e1⟩), ⟨by simpa using S.len, ?_, fun j e h => ?_, fun j e h => ?_, fun j b h => ?_, fun j k b h1 h2 => S.inj j k b (drop_own h1).1 (drop_own h2).1, fun n ds h => (S.ob n ds h).le le, S.obi, fun n j h e => S.obo n j h (drop_own e).1, fun b h => ?_, fun j b h z => ?_⟩, c.le le⟩
  · rcases z with z | ⟨j, z⟩ | ⟨n, hn, z⟩
    · exact  S.o0 i a e1 z
    · obtain ⟨z, n⟩ := drop_own z
      exact n (S.inj j i a z e1)
    · exact S.obo n i hn (by rw [show W.ob n = a from z]; exact e1)
  · refine S.ext.sub rfl rfl (fun b h => .inl (le.n b h)) fun b h => .inl ?_
    rcases h with ⟨j, h⟩ | h
    · exact .inl ⟨j, (drop_own h).1⟩
    · exact .inr h
  · by_cases hj : i = j
    · subst hj
      rw [List.getElem?_set_self hl] at h
      cases h
    · rw [List.getElem?_set_ne hj] at h
      obtain ⟨u, e1, r1⟩ := S.pl j e h
      exact ⟨u, e1, r1.le le⟩
  · by_cases hj : i = j
    · subst hj
      rw [List.getElem?_set_self hl] at h
      cases h
    · rw [List.getElem?_set_ne hj] at h
      obtain ⟨b, f1, f2, c⟩ := S.ow j e h
      refine ⟨b, ?_, f2, c.le le⟩
      show (if j = i then none else W.own j) = some b
      rw [if_neg (Ne.symm hj)]
      exact f1
  · obtain ⟨h1, h2⟩ := drop_own h
    obtain ⟨d, hd⟩ := S.owi j b h1
    exact ⟨d, by rw [List.getElem?_set_ne (Ne.symm h2)]; exact hd⟩
  · rcases h with h | rfl
    · exact S.n0 b h
    · exact c.dom
  · obtain ⟨h1, h2⟩ := drop_own h
    rcases z with z | rfl
    · exact  S.o0 j b h1 z
    · exact h2 (S.inj j i b h1 e1)
/-- x = y, the cell that y owns goes over to x -/
def sMove (i j : Nat) : Co Flow' := fun m => match m.env[j]? with
  | some (.ow d) => if i < m.env.length ∧ i ≠ j then .ok .nx { m with env := (m.env.set j .un).set i (.ow d) } else .no
  | _ => .no
section
variable {X : Cx} {pos p p2 : Pos}
theorem ss_move (i j : Nat) {x y : Str} (hN : X.N.Nodup) (hi : X.N[i]? = some x := by rfl) (hj : X.N[j]? = some y := by rfl) (hx : Loc X.env.scope x := by first | exact Or.inl rfl | exact Or.inr rfl)
    (hv : Vis X.env.scope y := by first | exact Or.inl rfl | exact Or.inr (Or.inl rfl) | exact Or.inr (Or.inr rfl)) (hd : (y == ("__debug__" : Str)) = false := by decide)
    (hcd : (y == ("__classdict__" : Str)) = false := by decide) (hs : swapsWith (.Name y p2) (some (.Name x p)) pos.line X.env = pure false := by rfl)
    (hf : X.fn x = true ∨ X.env.scope.names.lookup x = some .local := by first | exact .inl rfl | exact .inr rfl) : SS X (.Assign [.Name x p] (.Name y p2) pos) (sMove i j) := PS.imp (ps_set hN hi hx (pe_var hj hv hd hcd) hs hf) fun D σ H ⟨W, m, S, fl, m', hf, q⟩ => by
  unfold sMove at hf
  split at hf
  · rename_i d he
    split at hf
    · rename_i hl
      cases hf
      obtain ⟨a, e1, e2, nN, h0, S1, c⟩ := S.takeOw he
      refine ⟨_, e2, ?_⟩
      have S2 := S1.setOw (i := i) (N0 := W.N0) (by simpa using hl.1) c (.inr rfl) h0 (fun n hn z => nN (.inr (.inr ⟨n, hn, z⟩))) (fun _ h => .inl h) fun z => nN (.inl z)
      exact q (Wd.put ((W.drop j).add a) i a W.N0) _ H (by exact ⟨rfl, rfl, rfl⟩) S2
    · cases hf
  · cases hf
end
/-- an operand that is a name: its own cell, or data -/
def vAny (i : Nat) : Co Opd := fun m => match m.env[i]? with
  | some (.ow _) => .ok (.slot i) m
  | some (.pl d) => .ok (.val d) m
  | _ => .no
def orL (f g : List D → Option D) (ds : List D) : Option D := match f ds with
  | some d => some d
  | none => g ds
section
variable {X : Cx} {a b c e : Expr} {es : List Expr} {pos p : Pos} {g g1 g2 : Co Opd} {gs : Co (List Opd)} {f : Co D}
theorem eb_any (i : Nat) {x : Str} (hN : X.N[i]? = some x := by rfl) (hv : Vis X.env.scope x := by first | exact Or.inl rfl | exact Or.inr (Or.inl rfl) | exact Or.inr (Or.inr rfl)) (hd : (x == ("__debug__" : Str)) = false := by decide)
    (hcd : (x == ("__classdict__" : Str)) = false := by decide) : EB X (.Name x pos) (vAny i) := PE.imp (pe_var hN hv hd hcd) fun σ H Q ⟨W, m, S, d, m', hf, q⟩ => by
  unfold vAny at hf
  split at hf
  · rename_i e he
    cases hf
    obtain ⟨a, e1, e2, c⟩ := S.ow i _ he
    exact ⟨_, e2, q _ W.ob H (.refl S) ⟨a, e1, rfl⟩⟩
  · rename_i e he
    cases hf
    obtain ⟨v, e1, r⟩ := S.pl i _ he
    exact ⟨v, e1, q v W.ob H (.refl S) r⟩
  · cases hf
def lenU : List D → Option D := orL lenD lenKD
theorem ee_len (hm : X.mg "len" = none) (ha : EBs X [e] gs) (hg : Gl X "len" := by rfl) (he : starEach [e] X.env = (false, eval e X.env) :: starEach [] X.env := by rfl) (hpl : (backTo pos (starEach [] X.env)).any (·.1) = false := by rfl) : EE X (.Call (.Name "len" p) [e] [] pos) (eCall lenU gs) :=
  ee_callB (CallR.or call_len call_lenK) (CallD.or cd_len cd_lenK) hm PySem.boot_len ha hg (by decide) (by decide) he hpl
theorem ee_abs (hm : X.mg "abs" = none) (ha : EBs X [e] gs) (hg : Gl X "abs" := by rfl) (he : starEach [e] X.env = (false, eval e X.env) :: starEach [] X.env := by rfl) (hpl : (backTo pos (starEach [] X.env)).any (·.1) = false := by rfl) : EE X (.Call (.Name "abs" p) [e] [] pos) (eCall absD gs) :=
  ee_callB call_abs cd_abs hm rfl ha hg (by decide) (by decide) he hpl
theorem ee_sum (hm : X.mg "sum" = none) (ha : EBs X [e] gs) (hc : X.calm = true := by rfl) (hg : Gl X "sum" := by rfl) (he : starEach [e] X.env = (false, eval e X.env) :: starEach [] X.env := by rfl) (hpl : (backTo pos (starEach [] X.env)).any (·.1) = false := by rfl) : EE X (.Call (.Name "sum" p) [e] [] pos) (eCall sumD gs) :=
  ee_callB (cr_sum hc) cd_sum hm rfl ha hg (by decide) (by decide) he hpl
theorem ee_all (hm : X.mg "all" = none) (ha : EBs X [e] gs) (hc : X.calm = true := by rfl) (hg : Gl X "all" := by rfl) (he : starEach [e] X.env = (false, eval e X.env) :: starEach [] X.env := by rfl) (hpl : (backTo pos (starEach [] X.env)).any (·.1) = false := by rfl) : EE X (.Call (.Name "all" p) [e] [] pos) (eCall allD gs) :=
  ee_callB (cr_all hc) cd_all hm rfl ha hg (by decide) (by decide) he hpl
theorem ee_any (hm : X.mg "any" = none) (ha : EBs X [e] gs) (hc : X.calm = true := by rfl) (hg : Gl X "any" := by rfl) (he : starEach [e] X.env = (false, eval e X.env) :: starEach [] X.env := by rfl) (hpl : (backTo pos (starEach [] X.env)).any (·.1) = false := by rfl) : EE X (.Call (.Name "any" p) [e] [] pos) (eCall anyD gs) :=
  ee_callB (cr_any hc) cd_any hm rfl ha hg (by decide) (by decide) he hpl
theorem ee_isi (hm : X.mg "isinstance" = none) (ha : EBs X [a, b] gs) (hg : Gl X "isinstance" := by rfl) (he : starEach [a, b] X.env = (false, eval a X.env) :: starEach [b] X.env := by rfl) (hpl : (backTo pos (starEach [b] X.env)).any (·.1) = false := by rfl) : EE X (.Call (.Name "isinstance" p) [a, b] [] pos) (eCall isiD gs) :=
  ee_callB call_isiY cd_isi hm rfl ha hg (by decide) (by decide) he hpl
theorem ee_tuple (hm : X.mg "tuple" = none) (ha : EBs X [e] gs) (hg : Gl X "tuple" := by rfl) (he : starEach [e] X.env = (false, eval e X.env) :: starEach [] X.env := by rfl) (hpl : (backTo pos (starEach [] X.env)).any (·.1) = false := by rfl) : EE X (.Call (.Name "tuple" p) [e] [] pos) (eCall tupleD gs) :=
  ee_callTy call_tuple_of cd_tuple hm rfl ha hg (by decide) (by decide) he hpl
def listU : List D → Option D := orL listD listKD
theorem ef_list (hm : X.mg "list" = none) (ha : EBs X [e] gs) (hc : X.calm = true := by rfl) (hg : Gl X "list" := by rfl) (he : starEach [e] X.env = (false, eval e X.env) :: starEach [] X.env := by rfl) (hpl : (backTo pos (starEach [] X.env)).any (·.1) = false := by rfl) : EF X (.Call (.Name "list" p) [e] [] pos) (asL (eCall listU gs)) :=
  ef_callTy (CallR.or call_list_of (call_listD hc)) (CallF.or cf_list cf_listK) hm rfl ha hg (by decide) (by decide) he hpl
theorem ef_sorted (hm : X.mg "sorted" = none) (ha : EBs X [e] gs) (hc : X.calm = true := by rfl) (hg : Gl X "sorted" := by rfl) (he : starEach [e] X.env = (false, eval e X.env) :: starEach [] X.env := by rfl) (hpl : (backTo pos (starEach [] X.env)).any (·.1) = false := by rfl) : EF X (.Call (.Name "sorted" p) [e] [] pos) (asL (eCall sortedID gs)) :=
  ef_callB (op_sortedID hc) cf_sorted hm rfl ha hg (by decide) (by decide) he hpl
theorem ee_int1 (hm : X.mg "int" = none) (ha : EBs X [e] gs) (hg : Gl X "int" := by rfl) (he : starEach [e] X.env = (false, eval e X.env) :: starEach [] X.env := by rfl) (hpl : (backTo pos (starEach [] X.env)).any (·.1) = false := by rfl) : EE X (.Call (.Name "int" p) [e] [] pos) (eCall intD gs) :=
  ee_callTy call_int1 cd_int hm rfl ha hg (by decide) (by decide) he hpl
end
theorem hu65 {A : Around} {k : Nat} (hr : Room k A) : A.units + 65 < cLine := by have := hr.un; omega
theorem hu64 {A : Around} {k : Nat} (hr : Room k A) : A.units + 64 < cLine := hr.units
theorem hu1 {A : Around} {k : Nat} (hr : Room k A) : A.units + 1 < cLine := by have := hr.un; omega
end PD
namespace C
open PySem PD
noncomputable def b_is_int : Co Flow' := sRet (eAnd (eCall isiD (bCons (vB (vPl 0)) (bCons (vB (Co.ret (.ty "int"))) (Co.ret [])))) (eNot (eCall isiD (bCons (vB (vPl 0)) (bCons (vB (Co.ret (.ty "bool"))) (Co.ret []))))))
noncomputable def F_is_int : Fd := runF 1 1 b_is_int false
noncomputable def b_is_in : Co Flow' := sRet (eAnd (eFn C.F_is_int (eCons (vPl 0) (Co.ret []))) (eChain leI leI (vB (vPl 1)) (vB (vPl 0)) (vB (vPl 2))))
noncomputable def F_is_in : Fd := runF 3 3 b_is_in false
noncomputable def b_need_number : Co Flow' := sIf (tNot' (tB' (eFn C.F_is_in (eCons (vPl 0) (eCons (vPl 1) (eCons (vPl 2) (Co.ret [])))))))
  sNo
  sNext
noncomputable def F_need_number : Fd := runF 3 3 b_need_number false
noncomputable def b_need_board : Co Flow' := sSeq (sExpr (eFn C.F_need_number (eCons (vPl 0) (eCons (Co.ret (.int 1)) (eCons (Co.ret (.int 12)) (Co.ret []))))))
  (sExpr (eFn C.F_need_number (eCons (vPl 1) (eCons (Co.ret (.int 1)) (eCons (Co.ret (.int 12)) (Co.ret []))))))
noncomputable def F_need_board : Fd := runF 2 2 b_need_board false
noncomputable def b_is_picture : Co Flow' := sSeq (sIf (tOr' (tNot' (tB' (eCall isiD (bCons (vB (vPl 0)) (bCons (vB (Co.ret (.ty "tuple"))) (Co.ret [])))))) (tNot' (tB' (eChain leI leI (vB (Co.ret (.int 1))) (vB (eCall lenU (bCons (vB (vPl 0)) (Co.ret [])))) (vB (Co.ret (.int 12)))))))
  (sRet (Co.ret (.bl false)))
  sNext)
  (sSeq (sIf (tOr' (tNot' (tB' (eCall allD (bCons (vB (eLc (iVal (vPl 0)) false [1] [1] (Co.ret true) (eCall isiD (bCons (vB (vPl 1)) (bCons (vB (Co.ret (.ty "str"))) (Co.ret [])))))) (Co.ret []))))) (tNot' (tB' (eChain leI leI (vB (Co.ret (.int 1))) (vB (eCall lenU (bCons (vB (eOp subD' (vB (vPl 0)) (vB (Co.ret (.int 0))))) (Co.ret [])))) (vB (Co.ret (.int 12)))))))
  (sRet (Co.ret (.bl false)))
  sNext)
  (sRet (eCall allD (bCons (vB (eLc (iVal (vPl 0)) false [1] [1] (Co.ret true) (eAnd (eOp eqD (vB (eCall lenU (bCons (vB (vPl 1)) (Co.ret [])))) (vB (eCall lenU (bCons (vB (eOp subD' (vB (vPl 0)) (vB (Co.ret (.int 0))))) (Co.ret []))))) (eCall allD (bCons (vB (eLc (iVal (vPl 1)) false [2] [2] (Co.ret true) (eOp inU (vB (vPl 2)) (vB (eTup (eCons (Co.ret (.str "#")) (eCons (Co.ret (.str ".")) (Co.ret [])))))))) (Co.ret [])))))) (Co.ret [])))))
noncomputable def F_is_picture : Fd := runF 3 1 b_is_picture false
noncomputable def b_need_picture : Co Flow' := sSeq (sIf (tNot' (tB' (eFn C.F_is_picture (eCons (vPl 2) (Co.ret [])))))
  sNo
  sNext)
  (sIf (tOr' (tB' (eOp neD (vB (eCall lenU (bCons (vB (vPl 2)) (Co.ret [])))) (vB (vPl 0)))) (tB' (eOp neD (vB (eCall lenU (bCons (vB (eOp subD' (vB (vPl 2)) (vB (Co.ret (.int 0))))) (Co.ret [])))) (vB (vPl 1)))))
  sNo
  sNext)
noncomputable def F_need_picture : Fd := runF 3 3 b_need_picture false
noncomputable def b_layers_of : Co Flow' := sSeq (sAsg [1, 2, 3] (xPl (eLRg (rR1 (eCall lenU (bCons (vB (vPl 0)) (Co.ret []))))) (xPl (eLRg (rR1 (eCall lenU (bCons (vB (eOp subD' (vB (vPl 0)) (vB (Co.ret (.int 0))))) (Co.ret []))))) (xFr (eLst (Co.ret [])) xNil))))
  (sSeq (sWhile (tOr' (tB' (eOp neD (vB (vPl 1)) (vB (eLst (Co.ret []))))) (tB' (eOp neD (vB (vPl 2)) (vB (eLst (Co.ret []))))))
  (sSeq (sSet 4 (eLc (iVal (vPl 1)) false [6] [6] (tB' (eCall allD (bCons (vB (eLc (iVal (vPl 2)) false [7] [7] (Co.ret true) (eOp eqD (vB (eOp subD' (vB (eOp subD' (vB (vPl 0)) (vB (vPl 6)))) (vB (vPl 7)))) (vB (Co.ret (.str "#")))))) (Co.ret [])))) (vPl 6)))
  (sSeq (sSet 5 (eLc (iVal (vPl 2)) false [7] [7] (tB' (eCall allD (bCons (vB (eLc (iVal (vPl 1)) false [6] [6] (Co.ret true) (eOp eqD (vB (eOp subD' (vB (eOp subD' (vB (vPl 0)) (vB (vPl 6)))) (vB (vPl 7)))) (vB (Co.ret (.str ".")))))) (Co.ret [])))) (vPl 7)))
  (sIf (tB' (eOp neD (vB (vPl 4)) (vB (eLst (Co.ret [])))))
  (sSeq (sExpr (eAppend (vAny 3) (eCall tupleD (bCons (vB (vPl 4)) (Co.ret [])))))
  (sSet 1 (eLc (iVal (vPl 1)) false [6] [6] (tB' (eOp notInU (vB (vPl 6)) (vB (vPl 4)))) (vPl 6))))
  (sIf (tB' (eOp neD (vB (vPl 5)) (vB (eLst (Co.ret [])))))
  (sSeq (sExpr (eAppend (vAny 3) (eCall tupleD (bCons (vB (eLc (iVal (vPl 5)) false [7] [7] (Co.ret true) (eOp addD (vB (eCall lenU (bCons (vB (vPl 0)) (Co.ret [])))) (vB (vPl 7))))) (Co.ret [])))))
  (sSet 2 (eLc (iVal (vPl 2)) false [7] [7] (tB' (eOp notInU (vB (vPl 7)) (vB (vPl 5)))) (vPl 7))))
  (sRet (Co.ret .non)))))))
  (sFrz 3 (sRet (vPl 3))))
noncomputable def F_layers_of : Fd := runF 8 1 b_layers_of false
noncomputable def b_is_free : Co Flow' := sSeq (sIf (tNot' (tB' (eFn C.F_is_picture (eCons (vPl 0) (Co.ret [])))))
  sNo
  sNext)
  (sRet (eOp isnotD (vB (eFn C.F_layers_of (eCons (vPl 0) (Co.ret [])))) (vB (Co.ret .non))))
noncomputable def F_is_free : Fd := runF 1 1 b_is_free false
noncomputable def b_common : Co Flow' := sSeq (sWhile (tB' (eOp gtI (vB (vPl 1)) (vB (Co.ret (.int 0)))))
  (sAsg [0, 1] (xPl (vPl 1) (xPl (eOp modD (vB (vPl 0)) (vB (vPl 1))) xNil))))
  (sRet (vPl 0))
noncomputable def F_common : Fd := runF 2 2 b_common false
noncomputable def b_lowered : Co Flow' := sSeq (sSet 2 (eFn C.F_common (eCons (eCall absD (bCons (vB (vPl 0)) (Co.ret []))) (eCons (vPl 1) (Co.ret [])))))
  (sRet (eTup (eCons (eOp divD (vB (vPl 0)) (vB (vPl 2))) (eCons (eOp divD (vB (vPl 1)) (vB (vPl 2))) (Co.ret [])))))
noncomputable def F_lowered : Fd := runF 3 2 b_lowered false
noncomputable def b_plus : Co Flow' := sRet (eFn C.F_lowered (eCons (eOp addD (vB (eOp mulD (vB (eOp subD' (vB (vPl 0)) (vB (Co.ret (.int 0))))) (vB (eOp subD' (vB (vPl 1)) (vB (Co.ret (.int 1))))))) (vB (eOp mulD (vB (eOp subD' (vB (vPl 1)) (vB (Co.ret (.int 0))))) (vB (eOp subD' (vB (vPl 0)) (vB (Co.ret (.int 1)))))))) (eCons (eOp mulD (vB (eOp subD' (vB (vPl 0)) (vB (Co.ret (.int 1))))) (vB (eOp subD' (vB (vPl 1)) (vB (Co.ret (.int 1)))))) (Co.ret []))))
noncomputable def F_plus : Fd := runF 2 2 b_plus false
noncomputable def b_minus : Co Flow' := sRet (eFn C.F_lowered (eCons (eOp subD (vB (eOp mulD (vB (eOp subD' (vB (vPl 0)) (vB (Co.ret (.int 0))))) (vB (eOp subD' (vB (vPl 1)) (vB (Co.ret (.int 1))))))) (vB (eOp mulD (vB (eOp subD' (vB (vPl 1)) (vB (Co.ret (.int 0))))) (vB (eOp subD' (vB (vPl 0)) (vB (Co.ret (.int 1)))))))) (eCons (eOp mulD (vB (eOp subD' (vB (vPl 0)) (vB (Co.ret (.int 1))))) (vB (eOp subD' (vB (vPl 1)) (vB (Co.ret (.int 1)))))) (Co.ret []))))
noncomputable def F_minus : Fd := runF 2 2 b_minus false
noncomputable def b_times : Co Flow' := sRet (eFn C.F_lowered (eCons (eOp mulD (vB (eOp subD' (vB (vPl 0)) (vB (Co.ret (.int 0))))) (vB (eOp subD' (vB (vPl 1)) (vB (Co.ret (.int 0)))))) (eCons (eOp mulD (vB (eOp subD' (vB (vPl 0)) (vB (Co.ret (.int 1))))) (vB (eOp subD' (vB (vPl 1)) (vB (Co.ret (.int 1)))))) (Co.ret []))))
noncomputable def F_times : Fd := runF 2 2 b_times false
noncomputable def b_need_weights : Co Flow' := sSeq (sExpr (eFn C.F_need_board (eCons (vPl 0) (eCons (vPl 1) (Co.ret [])))))
  (sSeq (sIf (tOr' (tNot' (tB' (eCall isiD (bCons (vB (vPl 2)) (bCons (vB (Co.ret (.ty "tuple"))) (Co.ret [])))))) (tB' (eOp neD (vB (eCall lenU (bCons (vB (vPl 2)) (Co.ret [])))) (vB (eOp addD (vB (vPl 0)) (vB (vPl 1)))))))
  sNo
  sNext)
  (sIf (tNot' (tB' (eCall allD (bCons (vB (eLc (iVal (vPl 2)) false [3] [3] (Co.ret true) (eFn C.F_is_in (eCons (vPl 3) (eCons (Co.ret (.int 1)) (eCons (Co.ret (.int 1000)) (Co.ret []))))))) (Co.ret [])))))
  sNo
  sNext))
noncomputable def F_need_weights : Fd := runF 4 3 b_need_weights false
noncomputable def b_sums_of : Co Flow' := sSeq (sSetF 1 (eDisp (pCons (Co.ret (.int 0)) (Co.ret (.int 1)) (Co.ret []))))
  (sSeq (sFor (iVal (vPl 0)) false [2]
  (sSeq (sSetF 3 (eCall dictD (bCons (vAny 1) (Co.ret []))))
  (sSeq (sFrz 1 (sForItems 1 true [4, 5]
  (sPut (vAny 3) (eOp addD (vB (vPl 4)) (vB (vPl 2))) (eOp subD (vB (eGet2 (vAny 3) (eOp addD (vB (vPl 4)) (vB (vPl 2))) (Co.ret (.int 0)))) (vB (vPl 5))))))
  (sMove 1 3))))
  (sRetOw 1))
noncomputable def F_sums_of : Fd := runF 6 1 b_sums_of true
noncomputable def b_ahead_of : Co Flow' := sSeq (sSet 3 (eCall sumD (bCons (vB (eLc (iVal (vPl 2)) false [7] [7] (Co.ret true) (eOp subD' (vB (vPl 0)) (vB (vPl 7))))) (Co.ret []))))
  (sSeq (sIf (tB' (eOp eqD (vB (vPl 3)) (vB (Co.ret (.int 0)))))
  (sRet (eTup (eCons (Co.ret (.int 1)) (eCons (Co.ret (.int 1)) (Co.ret [])))))
  sNext)
  (sSeq (sSet 4 (eTup (eCons (Co.ret (.int 0)) (eCons (Co.ret (.int 1)) (Co.ret [])))))
  (sSeq (sFor (iItemsF (eFn C.F_sums_of (eCons (eLc (iVal (vPl 1)) false [7] [7] (Co.ret true) (eOp subD' (vB (vPl 0)) (vB (vPl 7)))) (Co.ret [])))) true [5, 6]
  (sSet 4 (eFn C.F_plus (eCons (vPl 4) (eCons (eFn C.F_lowered (eCons (eOp mulD (vB (vPl 6)) (vB (vPl 3))) (eCons (eOp addD (vB (vPl 3)) (vB (vPl 5))) (Co.ret [])))) (Co.ret []))))))
  (sRet (vPl 4)))))
noncomputable def F_ahead_of : Fd := runF 8 3 b_ahead_of false
noncomputable def b_need_lines : Co Flow' := sSeq (sIf (tOr' (tNot' (tB' (eCall isiD (bCons (vB (vPl 2)) (bCons (vB (Co.ret (.ty "tuple"))) (Co.ret [])))))) (tNot' (tB' (eCall allD (bCons (vB (eLc (iVal (vPl 2)) false [3] [3] (Co.ret true) (eFn C.F_is_in (eCons (vPl 3) (eCons (Co.ret (.int 0)) (eCons (eOp subD (vB (eOp addD (vB (vPl 0)) (vB (vPl 1)))) (vB (Co.ret (.int 1)))) (Co.ret []))))))) (Co.ret []))))))
  sNo
  sNext)
  (sIf (tNot' (tB' (eCall allD (bCons (vB (eLc (iZip (eCons (vPl 2) (eCons (eSl (vB (vPl 2)) (ePart (Co.ret (.int 1))) (Co.ret none)) (Co.ret [])))) true [4, 5] [4, 5] (Co.ret true) (eOp ltI (vB (vPl 4)) (vB (vPl 5))))) (Co.ret [])))))
  sNo
  sNext)
noncomputable def F_need_lines : Fd := runF 6 3 b_need_lines false
noncomputable def b_ahead : Co Flow' := sSeq (sExpr (eFn C.F_need_weights (eCons (vPl 0) (eCons (vPl 1) (eCons (vPl 2) (Co.ret []))))))
  (sSeq (sExpr (eFn C.F_need_lines (eCons (vPl 0) (eCons (vPl 1) (eCons (vPl 3) (Co.ret []))))))
  (sSeq (sExpr (eFn C.F_need_lines (eCons (vPl 0) (eCons (vPl 1) (eCons (vPl 4) (Co.ret []))))))
  (sSeq (sIf (tB' (eCall anyD (bCons (vB (eLc (iVal (vPl 3)) false [5] [5] (Co.ret true) (eOp inU (vB (vPl 5)) (vB (vPl 4))))) (Co.ret []))))
  sNo
  sNext)
  (sRet (eFn C.F_ahead_of (eCons (vPl 2) (eCons (vPl 3) (eCons (vPl 4) (Co.ret [])))))))))
noncomputable def F_ahead : Fd := runF 6 5 b_ahead false
noncomputable def b_share_of : Co Flow' := sSeq (sSet 2 (eFn C.F_layers_of (eCons (vPl 1) (Co.ret []))))
  (sSeq (sIf (tB' (eOp isD (vB (vPl 2)) (vB (Co.ret .non))))
  (sRet (eTup (eCons (Co.ret (.int 0)) (eCons (Co.ret (.int 1)) (Co.ret [])))))
  sNext)
  (sSeq (sSet 3 (eTup (eCons (Co.ret (.int 1)) (eCons (Co.ret (.int 1)) (Co.ret [])))))
  (sSeq (sFor (iEnu (eCons (vPl 2) (Co.ret []))) true [4, 5]
  (sSeq (sSet 6 (eLc2 (iVal (eSl (vB (vPl 2)) (ePart (eOp addD (vB (vPl 4)) (vB (Co.ret (.int 1))))) (Co.ret none))) false [7] [7, 8] (Co.ret true) (iVal (vPl 7)) false [8] [8] (Co.ret true) (vPl 8)))
  (sSet 3 (eFn C.F_times (eCons (vPl 3) (eCons (eFn C.F_ahead_of (eCons (vPl 0) (eCons (vPl 5) (eCons (vPl 6) (Co.ret []))))) (Co.ret [])))))))
  (sRet (vPl 3)))))
noncomputable def F_share_of : Fd := runF 9 2 b_share_of false
noncomputable def b_long_share : Co Flow' := sSeq (sExpr (eFn C.F_need_weights (eCons (vPl 0) (eCons (vPl 1) (eCons (vPl 2) (Co.ret []))))))
  (sSeq (sExpr (eFn C.F_need_picture (eCons (vPl 0) (eCons (vPl 1) (eCons (vPl 3) (Co.ret []))))))
  (sRet (eFn C.F_share_of (eCons (vPl 2) (eCons (vPl 3) (Co.ret []))))))
noncomputable def F_long_share : Fd := runF 4 4 b_long_share false
noncomputable def b_need_cell : Co Flow' := sSeq (sIf (tOr' (tNot' (tB' (eCall isiD (bCons (vB (vPl 2)) (bCons (vB (Co.ret (.ty "tuple"))) (Co.ret [])))))) (tB' (eOp neD (vB (eCall lenU (bCons (vB (vPl 2)) (Co.ret [])))) (vB (Co.ret (.int 2))))))
  sNo
  sNext)
  (sIf (tOr' (tNot' (tB' (eFn C.F_is_in (eCons (eOp subD' (vB (vPl 2)) (vB (Co.ret (.int 0)))) (eCons (Co.ret (.int 0)) (eCons (eOp subD (vB (vPl 0)) (vB (Co.ret (.int 1)))) (Co.ret []))))))) (tNot' (tB' (eFn C.F_is_in (eCons (eOp subD' (vB (vPl 2)) (vB (Co.ret (.int 1)))) (eCons (Co.ret (.int 0)) (eCons (eOp subD (vB (vPl 1)) (vB (Co.ret (.int 1)))) (Co.ret []))))))))
  sNo
  sNext)
noncomputable def F_need_cell : Fd := runF 3 3 b_need_cell false
noncomputable def b_cell_of : Co Flow' := sSeq (sAsg [3, 4] (xPl (eOp subD' (vB (vPl 1)) (vB (eOp subD' (vB (vPl 2)) (vB (Co.ret (.int 0)))))) (xPl (eOp subD' (vB (vPl 1)) (vB (eOp addD (vB (vPl 0)) (vB (eOp subD' (vB (vPl 2)) (vB (Co.ret (.int 1)))))))) xNil)))
  (sRet (eFn C.F_lowered (eCons (vPl 3) (eCons (eOp addD (vB (vPl 3)) (vB (vPl 4))) (Co.ret [])))))
noncomputable def F_cell_of : Fd := runF 5 3 b_cell_of false
noncomputable def b_cell_share : Co Flow' := sSeq (sExpr (eFn C.F_need_weights (eCons (vPl 0) (eCons (vPl 1) (eCons (vPl 2) (Co.ret []))))))
  (sSeq (sExpr (eFn C.F_need_cell (eCons (vPl 0) (eCons (vPl 1) (eCons (vPl 3) (Co.ret []))))))
  (sRet (eFn C.F_cell_of (eCons (vPl 0) (eCons (vPl 2) (eCons (vPl 3) (Co.ret [])))))))
noncomputable def F_cell_share : Fd := runF 4 4 b_cell_share false
noncomputable def b_mean_black : Co Flow' := sSeq (sExpr (eFn C.F_need_weights (eCons (vPl 0) (eCons (vPl 1) (eCons (vPl 2) (Co.ret []))))))
  (sSeq (sSet 3 (eTup (eCons (Co.ret (.int 0)) (eCons (Co.ret (.int 1)) (Co.ret [])))))
  (sSeq (sFor (iRg1' (eCons (vPl 0) (Co.ret []))) false [4]
  (sFor (iRg1' (eCons (vPl 1) (Co.ret []))) false [5]
  (sSet 3 (eFn C.F_plus (eCons (vPl 3) (eCons (eFn C.F_cell_of (eCons (vPl 0) (eCons (vPl 2) (eCons (eTup (eCons (vPl 4) (eCons (vPl 5) (Co.ret [])))) (Co.ret []))))) (Co.ret [])))))))
  (sRet (vPl 3))))
noncomputable def F_mean_black : Fd := runF 6 3 b_mean_black false
noncomputable def b_over_rest : Co Flow' := sRet (eFn C.F_plus (eCons (eFn C.F_lowered (eCons (vPl 0) (eCons (vPl 3) (Co.ret [])))) (eCons (eFn C.F_times (eCons (eFn C.F_lowered (eCons (vPl 1) (eCons (vPl 3) (Co.ret [])))) (eCons (eFn C.F_lowered (eCons (vPl 0) (eCons (eOp addD (vB (vPl 0)) (vB (vPl 2))) (Co.ret [])))) (Co.ret [])))) (Co.ret []))))
noncomputable def F_over_rest : Fd := runF 4 4 b_over_rest false
noncomputable def b_both_of : Co Flow' := sSeq (sSet 4 (asL (eCall sortedID (bCons (vB (eDisp (pCons (eOp subD' (vB (vPl 2)) (vB (Co.ret (.int 0)))) (Co.ret (.bl true)) (pCons (eOp subD' (vB (vPl 3)) (vB (Co.ret (.int 0)))) (Co.ret (.bl true)) (Co.ret []))))) (Co.ret [])))))
  (sSeq (sSet 5 (asL (eCall sortedID (bCons (vB (eDisp (pCons (eOp addD (vB (vPl 0)) (vB (eOp subD' (vB (vPl 2)) (vB (Co.ret (.int 1)))))) (Co.ret (.bl true)) (pCons (eOp addD (vB (vPl 0)) (vB (eOp subD' (vB (vPl 3)) (vB (Co.ret (.int 1)))))) (Co.ret (.bl true)) (Co.ret []))))) (Co.ret [])))))
  (sSeq (sIf (tOr' (tB' (eOp ltI (vB (eCall lenU (bCons (vB (vPl 4)) (Co.ret [])))) (vB (Co.ret (.int 2))))) (tB' (eOp ltI (vB (eCall lenU (bCons (vB (vPl 5)) (Co.ret [])))) (vB (Co.ret (.int 2))))))
  (sRet (eFn C.F_ahead_of (eCons (vPl 1) (eCons (vPl 4) (eCons (vPl 5) (Co.ret []))))))
  sNext)
  (sSeq (sAsg [6, 7] (xPl (eOp subD' (vB (vPl 1)) (vB (eOp subD' (vB (vPl 2)) (vB (Co.ret (.int 0)))))) (xPl (eOp subD' (vB (vPl 1)) (vB (eOp subD' (vB (vPl 3)) (vB (Co.ret (.int 0)))))) xNil)))
  (sSeq (sAsg [8, 9] (xPl (eOp subD' (vB (vPl 1)) (vB (eOp addD (vB (vPl 0)) (vB (eOp subD' (vB (vPl 2)) (vB (Co.ret (.int 1)))))))) (xPl (eOp subD' (vB (vPl 1)) (vB (eOp addD (vB (vPl 0)) (vB (eOp subD' (vB (vPl 3)) (vB (Co.ret (.int 1)))))))) xNil)))
  (sSeq (sSet 10 (eOp addD (vB (eOp addD (vB (eOp addD (vB (vPl 6)) (vB (vPl 7)))) (vB (vPl 8)))) (vB (vPl 9))))
  (sSeq (sSet 11 (eFn C.F_times (eCons (eFn C.F_lowered (eCons (vPl 6) (eCons (vPl 10) (Co.ret [])))) (eCons (eFn C.F_over_rest (eCons (vPl 7) (eCons (vPl 8) (eCons (vPl 9) (eCons (eOp subD (vB (vPl 10)) (vB (vPl 6))) (Co.ret [])))))) (Co.ret [])))))
  (sRet (eFn C.F_plus (eCons (vPl 11) (eCons (eFn C.F_times (eCons (eFn C.F_lowered (eCons (vPl 7) (eCons (vPl 10) (Co.ret [])))) (eCons (eFn C.F_over_rest (eCons (vPl 6) (eCons (vPl 9) (eCons (vPl 8) (eCons (eOp subD (vB (vPl 10)) (vB (vPl 7))) (Co.ret [])))))) (Co.ret [])))) (Co.ret [])))))))))))
noncomputable def F_both_of : Fd := runF 12 4 b_both_of false
noncomputable def b_both_share : Co Flow' := sSeq (sExpr (eFn C.F_need_weights (eCons (vPl 0) (eCons (vPl 1) (eCons (vPl 2) (Co.ret []))))))
  (sSeq (sExpr (eFn C.F_need_cell (eCons (vPl 0) (eCons (vPl 1) (eCons (vPl 3) (Co.ret []))))))
  (sSeq (sExpr (eFn C.F_need_cell (eCons (vPl 0) (eCons (vPl 1) (eCons (vPl 4) (Co.ret []))))))
  (sRet (eFn C.F_both_of (eCons (vPl 0) (eCons (vPl 2) (eCons (vPl 3) (eCons (vPl 4) (Co.ret [])))))))))
noncomputable def F_both_share : Fd := runF 5 5 b_both_share false
noncomputable def b_variance_black : Co Flow' := sSeq (sExpr (eFn C.F_need_weights (eCons (vPl 0) (eCons (vPl 1) (eCons (vPl 2) (Co.ret []))))))
  (sSeq (sSet 3 (eLst (Co.ret [])))
  (sSeq (sFor (iRg1' (eCons (vPl 0) (Co.ret []))) false [4]
  (sSet 3 (eOp addD (vB (vPl 3)) (vB (eLc (iRg1' (eCons (vPl 1) (Co.ret []))) false [9] [9] (Co.ret true) (eTup (eCons (vPl 4) (eCons (vPl 9) (Co.ret [])))))))))
  (sSeq (sAsg [5, 6] (xPl (eTup (eCons (Co.ret (.int 0)) (eCons (Co.ret (.int 1)) (Co.ret [])))) (xPl (eTup (eCons (Co.ret (.int 0)) (eCons (Co.ret (.int 1)) (Co.ret [])))) xNil)))
  (sSeq (sFor (iVal (vPl 3)) false [7]
  (sSeq (sSet 6 (eFn C.F_plus (eCons (vPl 6) (eCons (eFn C.F_cell_of (eCons (vPl 0) (eCons (vPl 2) (eCons (vPl 7) (Co.ret []))))) (Co.ret [])))))
  (sFor (iVal (vPl 3)) false [8]
  (sSet 5 (eFn C.F_plus (eCons (vPl 5) (eCons (eFn C.F_both_of (eCons (vPl 0) (eCons (vPl 2) (eCons (vPl 7) (eCons (vPl 8) (Co.ret [])))))) (Co.ret []))))))))
  (sRet (eFn C.F_minus (eCons (vPl 5) (eCons (eFn C.F_times (eCons (vPl 6) (eCons (vPl 6) (Co.ret [])))) (Co.ret [])))))))))
noncomputable def F_variance_black : Fd := runF 10 3 b_variance_black false
noncomputable def b_part_share : Co Flow' := sSeq (sExpr (eFn C.F_need_weights (eCons (vPl 0) (eCons (vPl 1) (eCons (vPl 2) (Co.ret []))))))
  (sSeq (sExpr (eFn C.F_need_lines (eCons (vPl 0) (eCons (vPl 1) (eCons (vPl 3) (Co.ret []))))))
  (sSeq (sExpr (eFn C.F_need_lines (eCons (vPl 0) (eCons (vPl 1) (eCons (vPl 4) (Co.ret []))))))
  (sSeq (sIf (tOr' (tB' (eOp eqD (vB (vPl 3)) (vB (eTup (Co.ret []))))) (tOr' (tB' (eOp eqD (vB (vPl 4)) (vB (eTup (Co.ret []))))) (tOr' (tB' (eOp geI (vB (eOp subD' (vB (vPl 3)) (vB (un1 negD (Co.ret (.int 1)))))) (vB (vPl 0)))) (tB' (eOp ltI (vB (eOp subD' (vB (vPl 4)) (vB (Co.ret (.int 0))))) (vB (vPl 0)))))))
  sNo
  sNext)
  (sRet (eTup (eCons (eFn C.F_ahead_of (eCons (vPl 2) (eCons (vPl 3) (eCons (vPl 4) (Co.ret []))))) (eCons (eFn C.F_ahead_of (eCons (vPl 2) (eCons (vPl 4) (eCons (vPl 3) (Co.ret []))))) (Co.ret []))))))))
noncomputable def F_part_share : Fd := runF 5 5 b_part_share false
noncomputable def b__law_taken : Co Flow' := sSeq (sIf (tB' (eOp gtI (vB (eOp subD' (vB (vPl 0)) (vB (Co.ret (.int 3))))) (vB (Co.ret (.int 0)))))
  (sSeq (sSet 2 (eOp modD (vB (eCall intD (bCons (vB (eOp subD' (vB (vPl 0)) (vB (Co.ret (.int 3))))) (Co.ret [])))) (vB (vPl 1))))
  (sSeq (sPut (vB (vPl 0)) (Co.ret (.int 3)) (eOp divD (vB (eOp subD' (vB (vPl 0)) (vB (Co.ret (.int 3))))) (vB (vPl 1))))
  (sRet (vPl 2))))
  sNext)
  (sSeq (sPut (vB (vPl 0)) (Co.ret (.int 1)) (eOp addD (vB (eOp subD' (vB (vPl 0)) (vB (Co.ret (.int 1))))) (vB (Co.ret (.int 1)))))
  (sSeq (sIf (tB' (eOp gtI (vB (eOp subD' (vB (vPl 0)) (vB (Co.ret (.int 1))))) (vB (eCall lenU (bCons (vB (eOp subD' (vB (vPl 0)) (vB (Co.ret (.int 0))))) (Co.ret []))))))
  (sSeq (sPut (vB (vPl 0)) (Co.ret (.int 2)) (eOp modD (vB (eCall intD (bCons (vB (eOp addD (vB (eOp mulD (vB (eOp subD' (vB (vPl 0)) (vB (Co.ret (.int 2))))) (vB (Co.ret (.int 48271))))) (vB (Co.ret (.int 11))))) (Co.ret [])))) (vB (Co.ret (.int 2147483647)))))
  (sRet (eOp modD (vB (eCall intD (bCons (vB (eOp divD (vB (eOp subD' (vB (vPl 0)) (vB (Co.ret (.int 2))))) (vB (Co.ret (.int 7))))) (Co.ret [])))) (vB (vPl 1)))))
  sNext)
  (sSeq (sSet 3 (eOp subD' (vB (eOp subD' (vB (vPl 0)) (vB (Co.ret (.int 0))))) (vB (eOp subD (vB (eOp subD' (vB (vPl 0)) (vB (Co.ret (.int 1))))) (vB (Co.ret (.int 1)))))))
  (sSeq (sPut (vB (vPl 0)) (Co.ret (.int 2)) (eOp modD (vB (eCall intD (bCons (vB (eOp addD (vB (eOp addD (vB (eOp mulD (vB (eOp subD' (vB (vPl 0)) (vB (Co.ret (.int 2))))) (vB (Co.ret (.int 48271))))) (vB (vPl 3)))) (vB (Co.ret (.int 11))))) (Co.ret [])))) (vB (Co.ret (.int 2147483647)))))
  (sSeq (sIf (tB' (eOp geI (vB (vPl 3)) (vB (eOp powD (vB (Co.ret (.int 10))) (vB (Co.ret (.int 18)))))))
  (sPut (vB (vPl 0)) (Co.ret (.int 3)) (eOp divD (vB (vPl 3)) (vB (vPl 1))))
  sNext)
  (sRet (eOp modD (vB (eCall intD (bCons (vB (vPl 3)) (Co.ret [])))) (vB (vPl 1)))))))))
noncomputable def F__law_taken : Fd := runF 4 2 b__law_taken false
noncomputable def b__law_alike (self : Fd) : Co Flow' := sSeq (sIf (tB' (eCall isiD (bCons (vB (vPl 1)) (bCons (vB (eTup (eCons (Co.ret (.ty "tuple")) (eCons (Co.ret (.ty "list")) (Co.ret []))))) (Co.ret [])))))
  (sSeq (sIf (tOr' (tNot' (tB' (eCall isiD (bCons (vB (vPl 0)) (bCons (vB (eTup (eCons (Co.ret (.ty "tuple")) (eCons (Co.ret (.ty "list")) (Co.ret []))))) (Co.ret [])))))) (tB' (eOp neD (vB (eCall isiD (bCons (vB (vPl 0)) (bCons (vB (Co.ret (.ty "list"))) (Co.ret []))))) (vB (eCall isiD (bCons (vB (vPl 1)) (bCons (vB (Co.ret (.ty "list"))) (Co.ret []))))))))
  (sRet (Co.ret (.bl false)))
  sNext)
  (sSeq (sIf (tB' (eOp neD (vB (eCall lenU (bCons (vB (vPl 0)) (Co.ret [])))) (vB (eCall lenU (bCons (vB (vPl 1)) (Co.ret []))))))
  (sRet (Co.ret (.bl false)))
  sNext)
  (sRet (eOp eqD (vB (eLc (iRg1' (eCons (eCall lenU (bCons (vB (vPl 1)) (Co.ret []))) (Co.ret []))) false [2] [2] (tNot' (tB' (eFn self (eCons (eOp subD' (vB (vPl 0)) (vB (vPl 2))) (eCons (eOp subD' (vB (vPl 1)) (vB (vPl 2))) (Co.ret [])))))) (vPl 2))) (vB (eLst (Co.ret [])))))))
  sNext)
  (sSeq (sIf (tOr' (tB' (eOp isD (vB (vPl 1)) (vB (Co.ret .non)))) (tB' (eCall isiD (bCons (vB (vPl 1)) (bCons (vB (Co.ret (.ty "str"))) (Co.ret []))))))
  (sRet (eAnd (eOp eqD (vB (vPl 0)) (vB (vPl 1))) (eOp eqD (vB (eCall isiD (bCons (vB (vPl 0)) (bCons (vB (Co.ret (.ty "str"))) (Co.ret []))))) (vB (eCall isiD (bCons (vB (vPl 1)) (bCons (vB (Co.ret (.ty "str"))) (Co.ret []))))))))
  sNext)
  (sRet (eAnd (eCall isiD (bCons (vB (vPl 0)) (bCons (vB (Co.ret (.ty "int"))) (Co.ret [])))) (eAnd (eOp eqD (vB (eCall isiD (bCons (vB (vPl 0)) (bCons (vB (Co.ret (.ty "bool"))) (Co.ret []))))) (vB (eCall isiD (bCons (vB (vPl 1)) (bCons (vB (Co.ret (.ty "bool"))) (Co.ret [])))))) (eOp eqD (vB (vPl 0)) (vB (vPl 1)))))))
noncomputable def R__law_alike : Nat → Fd
  | 0 => fun _ _ => none
  | k + 1 => runF 3 2 (b__law_alike (R__law_alike k)) false
noncomputable def F__law_alike : Fd := R__law_alike 8
noncomputable def b__law_mixed : Co Flow' := sSeq (sAsg [2, 3] (xFr (asL (eCall listU (bCons (vB (vPl 1)) (Co.ret [])))) (xFr (eLst (Co.ret [])) xNil)))
  (sSeq (sFor (iRg1' (eCons (eCall lenU (bCons (vAny 2) (Co.ret []))) (Co.ret []))) false [4]
  (sExpr (eAppend (vAny 3) (ePopAt (vAny 2) (eFn C.F__law_taken (eCons (vPl 0) (eCons (eCall lenU (bCons (vAny 2) (Co.ret []))) (Co.ret []))))))))
  (sFrz 3 (sRet (vPl 3))))
noncomputable def F__law_mixed : Fd := runF 5 2 b__law_mixed false
noncomputable def b__law_stroke : Co Flow' := sSeq (sIf (tB' (eOp ltI (vB (vPl 1)) (vB (eCall lenU (bCons (vB (vPl 0)) (Co.ret []))))))
  (sRet (eOp addD (vB (eOp addD (vB (eSl (vB (vPl 0)) (Co.ret none) (ePart (vPl 1)))) (vB (eTup (eCons (eOp mulD (vB (Co.ret (.str "#"))) (vB (eCall lenU (bCons (vB (eOp subD' (vB (vPl 0)) (vB (Co.ret (.int 0))))) (Co.ret []))))) (Co.ret [])))))) (vB (eSl (vB (vPl 0)) (ePart (eOp addD (vB (vPl 1)) (vB (Co.ret (.int 1))))) (Co.ret none)))))
  sNext)
  (sSeq (sSet 2 (eOp subD (vB (vPl 1)) (vB (eCall lenU (bCons (vB (vPl 0)) (Co.ret []))))))
  (sRet (eCall tupleD (bCons (vB (eLc (iVal (vPl 0)) false [3] [3] (Co.ret true) (eOp addD (vB (eOp addD (vB (eSl (vB (vPl 3)) (Co.ret none) (ePart (vPl 2)))) (vB (Co.ret (.str "."))))) (vB (eSl (vB (vPl 3)) (ePart (eOp addD (vB (vPl 2)) (vB (Co.ret (.int 1))))) (Co.ret none)))))) (Co.ret [])))))
noncomputable def F__law_stroke : Fd := runF 4 2 b__law_stroke false
noncomputable def b__law_strokes : Co Flow' := sSeq (sFor (iVal (vPl 1)) false [2]
  (sSet 0 (eFn C.F__law_stroke (eCons (vPl 0) (eCons (vPl 2) (Co.ret []))))))
  (sRet (vPl 0))
noncomputable def F__law_strokes : Fd := runF 3 2 b__law_strokes false
noncomputable def b__law_common : Co Flow' := sSeq (sAsg [0, 1] (xPl (eCall absD (bCons (vB (vPl 0)) (Co.ret []))) (xPl (eCall absD (bCons (vB (vPl 1)) (Co.ret []))) xNil)))
  (sSeq (sWhile (tB' (eOp neD (vB (vPl 1)) (vB (Co.ret (.int 0)))))
  (sAsg [0, 1] (xPl (vPl 1) (xPl (eOp subD (vB (vPl 0)) (vB (eOp mulD (vB (vPl 1)) (vB (eOp divD (vB (vPl 0)) (vB (vPl 1))))))) xNil))))
  (sRet (vPl 0)))
noncomputable def F__law_common : Fd := runF 2 2 b__law_common false
noncomputable def b__law_share : Co Flow' := sSeq (sSet 2 (eFn C.F__law_common (eCons (vPl 0) (eCons (vPl 1) (Co.ret [])))))
  (sRet (eTup (eCons (eOp divD (vB (vPl 0)) (vB (vPl 2))) (eCons (eOp divD (vB (vPl 1)) (vB (vPl 2))) (Co.ret [])))))
noncomputable def F__law_share : Fd := runF 3 2 b__law_share false
noncomputable def b__law_plus : Co Flow' := sRet (eFn C.F__law_share (eCons (eOp addD (vB (eOp mulD (vB (eOp subD' (vB (vPl 0)) (vB (Co.ret (.int 0))))) (vB (eOp subD' (vB (vPl 1)) (vB (Co.ret (.int 1))))))) (vB (eOp mulD (vB (eOp subD' (vB (vPl 1)) (vB (Co.ret (.int 0))))) (vB (eOp subD' (vB (vPl 0)) (vB (Co.ret (.int 1)))))))) (eCons (eOp mulD (vB (eOp subD' (vB (vPl 0)) (vB (Co.ret (.int 1))))) (vB (eOp subD' (vB (vPl 1)) (vB (Co.ret (.int 1)))))) (Co.ret []))))
noncomputable def F__law_plus : Fd := runF 2 2 b__law_plus false
noncomputable def b__law_fact : Co Flow' := sSeq (sSet 1 (Co.ret (.int 1)))
  (sSeq (sFor (iRg2' (eCons (Co.ret (.int 2)) (eCons (eOp addD (vB (vPl 0)) (vB (Co.ret (.int 1)))) (Co.ret [])))) false [2]
  (sSet 1 (eOp mulD (vB (vPl 1)) (vB (vPl 2)))))
  (sRet (vPl 1)))
noncomputable def F__law_fact : Fd := runF 3 1 b__law_fact false
noncomputable def b_law_K16 : Co Flow' := sSeq (sSetOb 1 (eLst (eCons (vPl 0) (eCons (Co.ret (.int 0)) (eCons (Co.ret (.int 5716)) (eCons (Co.ret (.int 0)) (Co.ret [])))))))
  (sSeq (sAsg [2, 3] (xPl (eOp addD (vB (Co.ret (.int 1))) (vB (eFn C.F__law_taken (eCons (vPl 1) (eCons (Co.ret (.int 12)) (Co.ret [])))))) (xPl (eOp addD (vB (Co.ret (.int 1))) (vB (eFn C.F__law_taken (eCons (vPl 1) (eCons (Co.ret (.int 12)) (Co.ret [])))))) xNil)))
  (sSeq (sAsg [4, 5] (xPl (eOp addD (vB (Co.ret (.int 1))) (vB (eFn C.F__law_taken (eCons (vPl 1) (eCons (Co.ret (.int 1000)) (Co.ret [])))))) (xPl (eOp addD (vB (vPl 2)) (vB (vPl 3))) xNil)))
  (sSeq (sSet 6 (eOp mulD (vB (eTup (eCons (vPl 4) (Co.ret [])))) (vB (vPl 5))))
  (sSeq (sSet 7 (eFn C.F__law_mixed (eCons (vPl 1) (eCons (eLRg (rR1 (vPl 5))) (Co.ret [])))))
  (sSeq (sSet 8 (eFn C.F__law_strokes (eCons (eOp mulD (vB (eTup (eCons (eOp mulD (vB (Co.ret (.str "."))) (vB (vPl 3))) (Co.ret [])))) (vB (vPl 2))) (eCons (vPl 7) (Co.ret [])))))
  (sSeq (sSetF 9 (eLst (Co.ret [])))
  (sSeq (sAsg [10, 11] (xPl (eLRg (rR1 (vPl 2))) (xPl (eLRg (rR1 (vPl 3))) xNil)))
  (sSeq (sFor (iRg1' (eCons (vPl 5) (Co.ret []))) false [12]
  (sSeq (sSet 13 (eLc (iVal (vPl 10)) false [25] [25] (tB' (eOp eqD (vB (eLc (iVal (vPl 11)) false [26] [26] (tB' (eOp eqD (vB (eOp subD' (vB (eOp subD' (vB (vPl 8)) (vB (vPl 25)))) (vB (vPl 26)))) (vB (Co.ret (.str "."))))) (vPl 26))) (vB (eLst (Co.ret []))))) (vPl 25)))
  (sSeq (sSet 14 (eLc (iVal (vPl 11)) false [26] [26] (tB' (eOp eqD (vB (eLc (iVal (vPl 10)) false [25] [25] (tB' (eOp eqD (vB (eOp subD' (vB (eOp subD' (vB (vPl 8)) (vB (vPl 25)))) (vB (vPl 26)))) (vB (Co.ret (.str "#"))))) (vPl 25))) (vB (eLst (Co.ret []))))) (vPl 26)))
  (sIf (tAnd' (tB' (eOp neD (vB (vPl 10)) (vB (eLst (Co.ret []))))) (tB' (eOp neD (vB (vPl 13)) (vB (eLst (Co.ret []))))))
  (sSeq (sExpr (eAppend (vAny 9) (eCall lenU (bCons (vB (vPl 13)) (Co.ret [])))))
  (sSet 10 (eLc (iVal (vPl 10)) false [25] [25] (tB' (eOp notInU (vB (vPl 25)) (vB (vPl 13)))) (vPl 25))))
  (sIf (tAnd' (tB' (eOp neD (vB (vPl 11)) (vB (eLst (Co.ret []))))) (tB' (eOp neD (vB (vPl 14)) (vB (eLst (Co.ret []))))))
  (sSeq (sExpr (eAppend (vAny 9) (eCall lenU (bCons (vB (vPl 14)) (Co.ret [])))))
  (sSet 11 (eLc (iVal (vPl 11)) false [26] [26] (tB' (eOp notInU (vB (vPl 26)) (vB (vPl 14)))) (vPl 26))))
  sNext)))))
  (sSeq (sSet 15 (Co.ret (.int 1)))
  (sSeq (sFrz 9 (sFor (iVal (vPl 9)) false [16]
  (sSet 15 (eOp mulD (vB (vPl 15)) (vB (eFn C.F__law_fact (eCons (vPl 16) (Co.ret []))))))))
  (sSeq (sIf (tOr' (tB' (eOp neD (vB (eCall sumD (bCons (vAny 9) (Co.ret [])))) (vB (vPl 5)))) (tB' (eOp isnotD (vB (eFn C.F_is_free (eCons (vPl 8) (Co.ret [])))) (vB (Co.ret (.bl true))))))
  (sRet (Co.ret (.bl false)))
  sNext)
  (sSeq (sIf (tNot' (tB' (eFn C.F__law_alike (eCons (eFn C.F_long_share (eCons (vPl 2) (eCons (vPl 3) (eCons (vPl 6) (eCons (vPl 8) (Co.ret [])))))) (eCons (eFn C.F__law_share (eCons (vPl 15) (eCons (eFn C.F__law_fact (eCons (vPl 5) (Co.ret []))) (Co.ret [])))) (Co.ret []))))))
  (sRet (Co.ret (.bl false)))
  sNext)
  (sSeq (sAsg [17, 18] (xPl (eOp addD (vB (Co.ret (.int 1))) (vB (eFn C.F__law_taken (eCons (vPl 1) (eCons (vPl 2) (Co.ret [])))))) (xPl (eOp addD (vB (Co.ret (.int 1))) (vB (eFn C.F__law_taken (eCons (vPl 1) (eCons (vPl 3) (Co.ret [])))))) xNil)))
  (sSeq (sAsg [19, 20] (xPl (eTRg (rR1 (vPl 17))) (xPl (eTRg (rR2 (vPl 2) (eOp addD (vB (vPl 2)) (vB (vPl 18))))) xNil)))
  (sSeq (sSet 21 (eFn C.F__law_share (eCons (eOp mulD (vB (eFn C.F__law_fact (eCons (vPl 17) (Co.ret [])))) (vB (eFn C.F__law_fact (eCons (vPl 18) (Co.ret []))))) (eCons (eFn C.F__law_fact (eCons (eOp addD (vB (vPl 17)) (vB (vPl 18))) (Co.ret []))) (Co.ret [])))))
  (sSeq (sIf (tB' (eOp neD (vB (eFn C.F_ahead (eCons (vPl 2) (eCons (vPl 3) (eCons (vPl 6) (eCons (vPl 19) (eCons (vPl 20) (Co.ret [])))))))) (vB (vPl 21))))
  (sRet (Co.ret (.bl false)))
  sNext)
  (sSeq (sIf (tB' (eOp neD (vB (eFn C.F_part_share (eCons (vPl 2) (eCons (vPl 3) (eCons (vPl 6) (eCons (vPl 19) (eCons (vPl 20) (Co.ret [])))))))) (vB (eTup (eCons (vPl 21) (eCons (vPl 21) (Co.ret [])))))))
  (sRet (Co.ret (.bl false)))
  sNext)
  (sSeq (sIf (tB' (eOp neD (vB (eFn C.F_cell_share (eCons (vPl 2) (eCons (vPl 3) (eCons (vPl 6) (eCons (eTup (eCons (Co.ret (.int 0)) (eCons (Co.ret (.int 0)) (Co.ret [])))) (Co.ret []))))))) (vB (eTup (eCons (Co.ret (.int 1)) (eCons (Co.ret (.int 2)) (Co.ret [])))))))
  (sRet (Co.ret (.bl false)))
  sNext)
  (sSeq (sIf (tB' (eOp neD (vB (eFn C.F_mean_black (eCons (vPl 2) (eCons (vPl 3) (eCons (vPl 6) (Co.ret [])))))) (vB (eFn C.F__law_share (eCons (eOp mulD (vB (vPl 2)) (vB (vPl 3))) (eCons (Co.ret (.int 2)) (Co.ret [])))))))
  (sRet (Co.ret (.bl false)))
  sNext)
  (sSeq (sIf (tAnd' (tB' (eOp gtI (vB (vPl 2)) (vB (Co.ret (.int 1))))) (tAnd' (tB' (eOp gtI (vB (vPl 3)) (vB (Co.ret (.int 1))))) (tB' (eOp neD (vB (eFn C.F_both_share (eCons (vPl 2) (eCons (vPl 3) (eCons (vPl 6) (eCons (eTup (eCons (Co.ret (.int 0)) (eCons (Co.ret (.int 0)) (Co.ret [])))) (eCons (eTup (eCons (Co.ret (.int 1)) (eCons (Co.ret (.int 1)) (Co.ret [])))) (Co.ret [])))))))) (vB (eTup (eCons (Co.ret (.int 1)) (eCons (Co.ret (.int 4)) (Co.ret [])))))))))
  (sRet (Co.ret (.bl false)))
  sNext)
  (sSeq (sSet 22 (eOp mulD (vB (vPl 2)) (vB (vPl 3))))
  (sSeq (sSet 23 (eOp addD (vB (eOp mulD (vB (vPl 22)) (vB (eOp subD (vB (vPl 3)) (vB (Co.ret (.int 1))))))) (vB (eOp mulD (vB (vPl 22)) (vB (eOp subD (vB (vPl 2)) (vB (Co.ret (.int 1)))))))))
  (sSeq (sSet 24 (eFn C.F__law_plus (eCons (eFn C.F__law_share (eCons (vPl 22) (eCons (Co.ret (.int 2)) (Co.ret [])))) (eCons (eFn C.F__law_plus (eCons (eFn C.F__law_share (eCons (vPl 23) (eCons (Co.ret (.int 3)) (Co.ret [])))) (eCons (eFn C.F__law_share (eCons (eOp subD (vB (eOp subD (vB (eOp mulD (vB (vPl 22)) (vB (vPl 22)))) (vB (vPl 22)))) (vB (vPl 23))) (eCons (Co.ret (.int 4)) (Co.ret [])))) (Co.ret [])))) (Co.ret [])))))
  (sRet (eOp eqD (vB (eFn C.F_variance_black (eCons (vPl 2) (eCons (vPl 3) (eCons (vPl 6) (Co.ret [])))))) (vB (eFn C.F__law_plus (eCons (vPl 24) (eCons (eFn C.F__law_share (eCons (eOp subD (vB (Co.ret (.int 0))) (vB (eOp mulD (vB (vPl 22)) (vB (vPl 22))))) (eCons (Co.ret (.int 4)) (Co.ret [])))) (Co.ret []))))))))))))))))))))))))))))))
noncomputable def F_law_K16 : Fd := runF 27 1 b_law_K16 false
end C
namespace K16
open PySem PySem.Spec PyProof.Rows L2 PD
def top (i : Nat) : Stmt := PySem.Challenge.pw_chancestrokes_k16_whole_even_weights.main.body.getD i (.Pass ⟨0, 0, 0, 0⟩)
variable {P : Program} {w : World} {K : PySem.W.Frag} {mg : Str → Option Value} {base : Heap}
abbrev s_is_int : Stmt := top 12
theorem sc_is_int : FnScope ["value"] ["value"] (defScope s_is_int) := ⟨rfl, rfl, rfl, by decide +kernel, rfl, by decide +kernel, by decide +kernel⟩
theorem h_is_int {f : Addr} {fd : FuncData} (F : Fun K "is_int" "is_int" s_is_int f fd) (m : mg "is_int" = some (.ref f)) (b : Binds K fd ["value"] []) (z_bool : mg "bool" = none) (z_int : mg "int" = none) (z_isinstance : mg "isinstance" = none) : Has P w K mg base 1 "is_int" C.F_is_int false := has_mk false F m b sc_is_int fun _ _ _ _ _ _ hr =>
  ss_one (ss_ret (ee_and (ee_isi z_isinstance (ebs_cons (EB.of (ee_var 0)) (ebs_cons (EB.of (ee_ty z_int rfl)) ebs_nil))) (ee_one (ee_not (ee_isi z_isinstance (ebs_cons (EB.of (ee_var 0)) (ebs_cons (EB.of (ee_ty z_bool rfl)) ebs_nil)))))))
abbrev s_is_in : Stmt := top 13
theorem sc_is_in : FnScope ["value", "least", "most"] ["value", "least", "most"] (defScope s_is_in) := ⟨rfl, rfl, rfl, by decide +kernel, rfl, by decide +kernel, by decide +kernel⟩
theorem h_is_in {f : Addr} {fd : FuncData} (F : Fun K "is_in" "is_in" s_is_in f fd) (m : mg "is_in" = some (.ref f)) (b : Binds K fd ["value", "least", "most"] []) (h_is_int : Has P w K mg base 1 "is_int" C.F_is_int false) : Has P w K mg base 2 "is_in" C.F_is_in false := has_mk false F m b sc_is_in fun _ _ _ _ _ _ hr =>
  ss_one (ss_ret (ee_and (ee_fn h_is_int hr (ea_cons (ee_var 0) ea_nil)) (ee_one (ee_chain op_le (opd_cmpI _) op_le (opd_cmpI _) (EB.of (ee_var 1)) (EB.of (ee_var 0)) (EB.of (ee_var 2))))))
abbrev s_need_number : Stmt := top 14
theorem sc_need_number : FnScope ["value", "least", "most"] ["value", "least", "most"] (defScope s_need_number) := ⟨rfl, rfl, rfl, by decide +kernel, rfl, by decide +kernel, by decide +kernel⟩
theorem h_need_number {f : Addr} {fd : FuncData} (F : Fun K "need_number" "need_number" s_need_number f fd) (m : mg "need_number" = some (.ref f)) (b : Binds K fd ["value", "least", "most"] []) (h_is_in : Has P w K mg base 2 "is_in" C.F_is_in false) : Has P w K mg base 3 "need_number" C.F_need_number false := has_mk false F m b sc_need_number fun _ _ _ _ _ _ hr =>
  ss_one (ss_if (et_not (et_val (ee_fn h_is_in hr (ea_cons (ee_var 0) (ea_cons (ee_var 1) (ea_cons (ee_var 2) ea_nil))))))
  (ss_one ss_never)
  ss_nil)
abbrev s_need_board : Stmt := top 15
theorem sc_need_board : FnScope ["rows", "columns"] ["rows", "columns"] (defScope s_need_board) := ⟨rfl, rfl, rfl, by decide +kernel, rfl, by decide +kernel, by decide +kernel⟩
theorem h_need_board {f : Addr} {fd : FuncData} (F : Fun K "need_board" "need_board" s_need_board f fd) (m : mg "need_board" = some (.ref f)) (b : Binds K fd ["rows", "columns"] []) {t_MOST_SIDE : Tok} (c_MOST_SIDE : mg "MOST_SIDE" = some (.int 12 t_MOST_SIDE)) (h_need_number : Has P w K mg base 3 "need_number" C.F_need_number false) : Has P w K mg base 4 "need_board" C.F_need_board false := has_mk false F m b sc_need_board fun _ _ _ _ _ _ hr =>
  ss_cons (ss_expr (ee_fn h_need_number hr (ea_cons (ee_var 0) (ea_cons ee_int (ea_cons (ee_gInt c_MOST_SIDE) ea_nil)))))
  (ss_one (ss_expr (ee_fn h_need_number hr (ea_cons (ee_var 1) (ea_cons ee_int (ea_cons (ee_gInt c_MOST_SIDE) ea_nil))))))
abbrev s_is_picture : Stmt := top 16
theorem sc_is_picture : FnScope ["value", "row", "sign"] ["value"] (defScope s_is_picture) := ⟨rfl, rfl, rfl, by decide +kernel, rfl, by decide +kernel, by decide +kernel⟩
theorem h_is_picture {f : Addr} {fd : FuncData} (F : Fun K "is_picture" "is_picture" s_is_picture f fd) (m : mg "is_picture" = some (.ref f)) (b : Binds K fd ["value"] []) (z_all : mg "all" = none) (z_isinstance : mg "isinstance" = none) (z_len : mg "len" = none) (z_str : mg "str" = none) (z_tuple : mg "tuple" = none) {t_BLACK : Tok} (c_BLACK : mg "BLACK" = some (.str "#" t_BLACK)) {t_MOST_SIDE : Tok} (c_MOST_SIDE : mg "MOST_SIDE" = some (.int 12 t_MOST_SIDE)) {t_WHITE : Tok} (c_WHITE : mg "WHITE" = some (.str "." t_WHITE)) : Has P w K mg base 1 "is_picture" C.F_is_picture false := has_mk false F m b sc_is_picture fun _ _ _ _ _ _ hr =>
  ss_cons (ss_if (EW.et (ew_or (et_not (et_val (ee_isi z_isinstance (ebs_cons (EB.of (ee_var 0)) (ebs_cons (EB.of (ee_ty z_tuple rfl)) ebs_nil))))) (ew_or1 (et_not (et_chain op_le (opd_cmpI _) op_le (opd_cmpI _) (EB.of ee_int) (EB.of (ee_len z_len (ebs_cons (EB.of (ee_var 0)) ebs_nil))) (EB.of (ee_gInt c_MOST_SIDE)))))))
  (ss_one (ss_ret ee_bl))
  ss_nil)
  (ss_cons (ss_if (EW.et (ew_or (et_not (et_val (ee_all z_all (ebs_cons (EB.of (EE.ofF (ef_lc (own := [("row", 1)]) sc_is_picture.nd (ei_val (ee_var 0)) (blkOk_by (by kernel_rfl)) (fun _ _ _ _ _ => gg_name (i := 1) sc_is_picture.nd) (fun _ _ _ _ _ => ets_nil) (fun _ _ _ _ _ => ee_isi z_isinstance (ebs_cons (EB.of (ee_var 1)) (ebs_cons (EB.of (ee_ty z_str rfl)) ebs_nil)))))) ebs_nil)))) (ew_or1 (et_not (et_chain op_le (opd_cmpI _) op_le (opd_cmpI _) (EB.of ee_int) (EB.of (ee_len z_len (ebs_cons (EB.of (ee_sub (hu1 hr) (EB.of (ee_var 0)) (EB.of ee_int))) ebs_nil))) (EB.of (ee_gInt c_MOST_SIDE)))))))
  (ss_one (ss_ret ee_bl))
  ss_nil)
  (ss_one (ss_ret (ee_all z_all (ebs_cons (EB.of (EE.ofF (ef_lc (own := [("row", 1)]) sc_is_picture.nd (ei_val (ee_var 0)) (blkOk_by (by kernel_rfl)) (fun _ _ _ _ _ => gg_name (i := 1) sc_is_picture.nd) (fun _ _ _ _ _ => ets_nil) (fun _ _ _ _ _ => ee_and (ee_cmp (op_eqD (hu64 hr)) opd_eq (EB.of (ee_len z_len (ebs_cons (EB.of (ee_var 1)) ebs_nil))) (EB.of (ee_len z_len (ebs_cons (EB.of (ee_sub (hu1 hr) (EB.of (ee_var 0)) (EB.of ee_int))) ebs_nil)))) (ee_one (ee_all z_all (ebs_cons (EB.of (EE.ofF (ef_lc (own := [("sign", 2)]) sc_is_picture.nd (ei_val (ee_var 1)) (blkOk_by (by kernel_rfl)) (fun _ _ _ _ _ => gg_name (i := 2) sc_is_picture.nd) (fun _ _ _ _ _ => ets_nil) (fun _ _ _ _ _ => ee_in (hu65 hr) (EB.of (ee_var 2)) (EB.of (ee_tup (ea_cons (ee_gStr c_BLACK) (ea_cons (ee_gStr c_WHITE) ea_nil)))))))) ebs_nil))))))) ebs_nil)))))
abbrev s_need_picture : Stmt := top 17
theorem sc_need_picture : FnScope ["rows", "columns", "value"] ["rows", "columns", "value"] (defScope s_need_picture) := ⟨rfl, rfl, rfl, by decide +kernel, rfl, by decide +kernel, by decide +kernel⟩
theorem h_need_picture {f : Addr} {fd : FuncData} (F : Fun K "need_picture" "need_picture" s_need_picture f fd) (m : mg "need_picture" = some (.ref f)) (b : Binds K fd ["rows", "columns", "value"] []) (z_len : mg "len" = none) (h_is_picture : Has P w K mg base 1 "is_picture" C.F_is_picture false) : Has P w K mg base 2 "need_picture" C.F_need_picture false := has_mk false F m b sc_need_picture fun _ _ _ _ _ _ hr =>
  ss_cons (ss_if (et_not (et_val (ee_fn h_is_picture hr (ea_cons (ee_var 2) ea_nil))))
  (ss_one ss_never)
  ss_nil)
  (ss_one (ss_if (EW.et (ew_or (et_cmp (op_neD (hu64 hr)) opd_ne (EB.of (ee_len z_len (ebs_cons (EB.of (ee_var 2)) ebs_nil))) (EB.of (ee_var 0))) (ew_or1 (et_cmp (op_neD (hu64 hr)) opd_ne (EB.of (ee_len z_len (ebs_cons (EB.of (ee_sub (hu1 hr) (EB.of (ee_var 2)) (EB.of ee_int))) ebs_nil))) (EB.of (ee_var 1))))))
  (ss_one ss_never)
  ss_nil))
abbrev s_layers_of : Stmt := top 18
theorem sc_layers_of : FnScope ["goal", "high", "wide", "found", "full", "empty", "row", "at"] ["goal"] (defScope s_layers_of) := ⟨rfl, rfl, rfl, by decide +kernel, rfl, by decide +kernel, by decide +kernel⟩
theorem h_layers_of {f : Addr} {fd : FuncData} (F : Fun K "layers_of" "layers_of" s_layers_of f fd) (m : mg "layers_of" = some (.ref f)) (b : Binds K fd ["goal"] []) (z_all : mg "all" = none) (z_len : mg "len" = none) (z_list : mg "list" = none) (z_range : mg "range" = none) (z_tuple : mg "tuple" = none) {t_BLACK : Tok} (c_BLACK : mg "BLACK" = some (.str "#" t_BLACK)) {t_WHITE : Tok} (c_WHITE : mg "WHITE" = some (.str "." t_WHITE)) : Has P w K mg base 1 "layers_of" C.F_layers_of false := has_mk false F m b sc_layers_of fun _ _ _ _ _ _ hr =>
  ss_cons (ss_asgT (is := [1, 2, 3]) (ex_pl (EE.ofF (ef_lrg z_list (er_1 z_range (ee_len z_len (ebs_cons (EB.of (ee_var 0)) ebs_nil))))) (ex_pl (EE.ofF (ef_lrg z_list (er_1 z_range (ee_len z_len (ebs_cons (EB.of (ee_sub (hu1 hr) (EB.of (ee_var 0)) (EB.of ee_int))) ebs_nil))))) (ex_fr (ef_lst ea_nil) ex_nil))) (pgn_cons (i := 1) sc_layers_of.nd (pgn_cons (i := 2) sc_layers_of.nd (pgn_cons (i := 3) sc_layers_of.nd pgn_nil))))
  (ss_cons (ss_while (EW.et (ew_or (et_cmp (op_neD (hu64 hr)) opd_ne (EB.of (ee_var 1)) (EB.of (EE.ofF (ef_lst ea_nil)))) (ew_or1 (et_cmp (op_neD (hu64 hr)) opd_ne (EB.of (ee_var 2)) (EB.of (EE.ofF (ef_lst ea_nil)))))))
  (ss_cons (ss_set (i := 4) sc_layers_of.nd (EE.ofF (ef_lc (own := [("row", 6)]) sc_layers_of.nd (ei_val (ee_var 1)) (blkOk_by (by kernel_rfl)) (fun _ _ _ _ _ => gg_name (i := 6) sc_layers_of.nd) (fun _ _ _ _ _ => ets_one (et_val (ee_all z_all (ebs_cons (EB.of (EE.ofF (ef_lc (own := [("at", 7)]) sc_layers_of.nd (ei_val (ee_var 2)) (blkOk_by (by kernel_rfl)) (fun _ _ _ _ _ => gg_name (i := 7) sc_layers_of.nd) (fun _ _ _ _ _ => ets_nil) (fun _ _ _ _ _ => ee_cmp (op_eqD (hu64 hr)) opd_eq (EB.of (ee_sub (hu1 hr) (EB.of (ee_sub (hu1 hr) (EB.of (ee_var 0)) (EB.of (ee_var 6)))) (EB.of (ee_var 7)))) (EB.of (ee_gStr c_BLACK)))))) ebs_nil)))) (fun _ _ _ _ _ => ee_var 6))))
  (ss_cons (ss_set (i := 5) sc_layers_of.nd (EE.ofF (ef_lc (own := [("at", 7)]) sc_layers_of.nd (ei_val (ee_var 2)) (blkOk_by (by kernel_rfl)) (fun _ _ _ _ _ => gg_name (i := 7) sc_layers_of.nd) (fun _ _ _ _ _ => ets_one (et_val (ee_all z_all (ebs_cons (EB.of (EE.ofF (ef_lc (own := [("row", 6)]) sc_layers_of.nd (ei_val (ee_var 1)) (blkOk_by (by kernel_rfl)) (fun _ _ _ _ _ => gg_name (i := 6) sc_layers_of.nd) (fun _ _ _ _ _ => ets_nil) (fun _ _ _ _ _ => ee_cmp (op_eqD (hu64 hr)) opd_eq (EB.of (ee_sub (hu1 hr) (EB.of (ee_sub (hu1 hr) (EB.of (ee_var 0)) (EB.of (ee_var 6)))) (EB.of (ee_var 7)))) (EB.of (ee_gStr c_WHITE)))))) ebs_nil)))) (fun _ _ _ _ _ => ee_var 7))))
  (ss_one (ss_if (et_cmp (op_neD (hu64 hr)) opd_ne (EB.of (ee_var 4)) (EB.of (EE.ofF (ef_lst ea_nil))))
  (ss_cons (ss_expr (ee_append (eb_any 3) (ee_tuple z_tuple (ebs_cons (EB.of (ee_var 4)) ebs_nil))))
  (ss_one (ss_set (i := 1) sc_layers_of.nd (EE.ofF (ef_lc (own := [("row", 6)]) sc_layers_of.nd (ei_val (ee_var 1)) (blkOk_by (by kernel_rfl)) (fun _ _ _ _ _ => gg_name (i := 6) sc_layers_of.nd) (fun _ _ _ _ _ => ets_one (et_notIn (hu65 hr) (EB.of (ee_var 6)) (EB.of (ee_var 4)))) (fun _ _ _ _ _ => ee_var 6))))))
  (ss_one (ss_if (et_cmp (op_neD (hu64 hr)) opd_ne (EB.of (ee_var 5)) (EB.of (EE.ofF (ef_lst ea_nil))))
  (ss_cons (ss_expr (ee_append (eb_any 3) (ee_tuple z_tuple (ebs_cons (EB.of (EE.ofF (ef_lc (own := [("at", 7)]) sc_layers_of.nd (ei_val (ee_var 5)) (blkOk_by (by kernel_rfl)) (fun _ _ _ _ _ => gg_name (i := 7) sc_layers_of.nd) (fun _ _ _ _ _ => ets_nil) (fun _ _ _ _ _ => ee_op op_addAll opd_add (EB.of (ee_len z_len (ebs_cons (EB.of (ee_var 0)) ebs_nil))) (EB.of (ee_var 7)))))) ebs_nil))))
  (ss_one (ss_set (i := 2) sc_layers_of.nd (EE.ofF (ef_lc (own := [("at", 7)]) sc_layers_of.nd (ei_val (ee_var 2)) (blkOk_by (by kernel_rfl)) (fun _ _ _ _ _ => gg_name (i := 7) sc_layers_of.nd) (fun _ _ _ _ _ => ets_one (et_notIn (hu65 hr) (EB.of (ee_var 7)) (EB.of (ee_var 5)))) (fun _ _ _ _ _ => ee_var 7))))))
  (ss_one (ss_ret ee_non)))))))))
  (ss_one (ss_frz 3 (ss_ret (ee_var 3)))))
abbrev s_is_free : Stmt := top 19
theorem sc_is_free : FnScope ["goal"] ["goal"] (defScope s_is_free) := ⟨rfl, rfl, rfl, by decide +kernel, rfl, by decide +kernel, by decide +kernel⟩
theorem h_is_free {f : Addr} {fd : FuncData} (F : Fun K "is_free" "is_free" s_is_free f fd) (m : mg "is_free" = some (.ref f)) (b : Binds K fd ["goal"] []) (h_is_picture : Has P w K mg base 1 "is_picture" C.F_is_picture false) (h_layers_of : Has P w K mg base 1 "layers_of" C.F_layers_of false) : Has P w K mg base 2 "is_free" C.F_is_free false := has_mk false F m b sc_is_free fun _ _ _ _ _ _ hr =>
  ss_cons (ss_if (et_not (et_val (ee_fn h_is_picture hr (ea_cons (ee_var 0) ea_nil))))
  (ss_one ss_never)
  ss_nil)
  (ss_one (ss_ret (ee_cmp op_isnotAll opd_isnot (EB.of (ee_fn h_layers_of hr (ea_cons (ee_var 0) ea_nil))) (EB.of ee_non))))
abbrev s_common : Stmt := top 21
theorem sc_common : FnScope ["one", "other"] ["one", "other"] (defScope s_common) := ⟨rfl, rfl, rfl, by decide +kernel, rfl, by decide +kernel, by decide +kernel⟩
theorem h_common {f : Addr} {fd : FuncData} (F : Fun K "common" "common" s_common f fd) (m : mg "common" = some (.ref f)) (b : Binds K fd ["one", "other"] []) : Has P w K mg base 1 "common" C.F_common false := has_mk false F m b sc_common fun _ _ _ _ _ _ hr =>
  ss_cons (ss_while (et_cmp op_gt (opd_cmpI _) (EB.of (ee_var 1)) (EB.of ee_int))
  (ss_one (ss_par (i := 0) (j := 1) sc_common.nd (ex_pl (ee_var 1) (ex_pl (ee_op op_mod opd_mod (EB.of (ee_var 0)) (EB.of (ee_var 1))) ex_nil)))))
  (ss_one (ss_ret (ee_var 0)))
abbrev s_lowered : Stmt := top 22
theorem sc_lowered : FnScope ["above", "low", "shared"] ["above", "low"] (defScope s_lowered) := ⟨rfl, rfl, rfl, by decide +kernel, rfl, by decide +kernel, by decide +kernel⟩
theorem h_lowered {f : Addr} {fd : FuncData} (F : Fun K "lowered" "lowered" s_lowered f fd) (m : mg "lowered" = some (.ref f)) (b : Binds K fd ["above", "low"] []) (z_abs : mg "abs" = none) (h_common : Has P w K mg base 1 "common" C.F_common false) : Has P w K mg base 2 "lowered" C.F_lowered false := has_mk false F m b sc_lowered fun _ _ _ _ _ _ hr =>
  ss_cons (ss_set (i := 2) sc_lowered.nd (ee_fn h_common hr (ea_cons (ee_abs z_abs (ebs_cons (EB.of (ee_var 0)) ebs_nil)) (ea_cons (ee_var 1) ea_nil))))
  (ss_one (ss_ret (ee_tup (ea_cons (ee_op op_fdivW opd_div (EB.of (ee_var 0)) (EB.of (ee_var 2))) (ea_cons (ee_op op_fdivW opd_div (EB.of (ee_var 1)) (EB.of (ee_var 2))) ea_nil)))))
abbrev s_plus : Stmt := top 23
theorem sc_plus : FnScope ["one", "other"] ["one", "other"] (defScope s_plus) := ⟨rfl, rfl, rfl, by decide +kernel, rfl, by decide +kernel, by decide +kernel⟩
theorem h_plus {f : Addr} {fd : FuncData} (F : Fun K "plus" "plus" s_plus f fd) (m : mg "plus" = some (.ref f)) (b : Binds K fd ["one", "other"] []) (h_lowered : Has P w K mg base 2 "lowered" C.F_lowered false) : Has P w K mg base 3 "plus" C.F_plus false := has_mk false F m b sc_plus fun _ _ _ _ _ _ hr =>
  ss_one (ss_ret (ee_fn h_lowered hr (ea_cons (ee_op op_addAll opd_add (EB.of (ee_op op_mulAll opd_mul (EB.of (ee_sub (hu1 hr) (EB.of (ee_var 0)) (EB.of ee_int))) (EB.of (ee_sub (hu1 hr) (EB.of (ee_var 1)) (EB.of ee_int))))) (EB.of (ee_op op_mulAll opd_mul (EB.of (ee_sub (hu1 hr) (EB.of (ee_var 1)) (EB.of ee_int))) (EB.of (ee_sub (hu1 hr) (EB.of (ee_var 0)) (EB.of ee_int)))))) (ea_cons (ee_op op_mulAll opd_mul (EB.of (ee_sub (hu1 hr) (EB.of (ee_var 0)) (EB.of ee_int))) (EB.of (ee_sub (hu1 hr) (EB.of (ee_var 1)) (EB.of ee_int)))) ea_nil))))
abbrev s_minus : Stmt := top 24
theorem sc_minus : FnScope ["one", "other"] ["one", "other"] (defScope s_minus) := ⟨rfl, rfl, rfl, by decide +kernel, rfl, by decide +kernel, by decide +kernel⟩
theorem h_minus {f : Addr} {fd : FuncData} (F : Fun K "minus" "minus" s_minus f fd) (m : mg "minus" = some (.ref f)) (b : Binds K fd ["one", "other"] []) (h_lowered : Has P w K mg base 2 "lowered" C.F_lowered false) : Has P w K mg base 3 "minus" C.F_minus false := has_mk false F m b sc_minus fun _ _ _ _ _ _ hr =>
  ss_one (ss_ret (ee_fn h_lowered hr (ea_cons (ee_op op_sub opd_sub (EB.of (ee_op op_mulAll opd_mul (EB.of (ee_sub (hu1 hr) (EB.of (ee_var 0)) (EB.of ee_int))) (EB.of (ee_sub (hu1 hr) (EB.of (ee_var 1)) (EB.of ee_int))))) (EB.of (ee_op op_mulAll opd_mul (EB.of (ee_sub (hu1 hr) (EB.of (ee_var 1)) (EB.of ee_int))) (EB.of (ee_sub (hu1 hr) (EB.of (ee_var 0)) (EB.of ee_int)))))) (ea_cons (ee_op op_mulAll opd_mul (EB.of (ee_sub (hu1 hr) (EB.of (ee_var 0)) (EB.of ee_int))) (EB.of (ee_sub (hu1 hr) (EB.of (ee_var 1)) (EB.of ee_int)))) ea_nil))))
abbrev s_times : Stmt := top 25
theorem sc_times : FnScope ["one", "other"] ["one", "other"] (defScope s_times) := ⟨rfl, rfl, rfl, by decide +kernel, rfl, by decide +kernel, by decide +kernel⟩
theorem h_times {f : Addr} {fd : FuncData} (F : Fun K "times" "times" s_times f fd) (m : mg "times" = some (.ref f)) (b : Binds K fd ["one", "other"] []) (h_lowered : Has P w K mg base 2 "lowered" C.F_lowered false) : Has P w K mg base 3 "times" C.F_times false := has_mk false F m b sc_times fun _ _ _ _ _ _ hr =>
  ss_one (ss_ret (ee_fn h_lowered hr (ea_cons (ee_op op_mulAll opd_mul (EB.of (ee_sub (hu1 hr) (EB.of (ee_var 0)) (EB.of ee_int))) (EB.of (ee_sub (hu1 hr) (EB.of (ee_var 1)) (EB.of ee_int)))) (ea_cons (ee_op op_mulAll opd_mul (EB.of (ee_sub (hu1 hr) (EB.of (ee_var 0)) (EB.of ee_int))) (EB.of (ee_sub (hu1 hr) (EB.of (ee_var 1)) (EB.of ee_int)))) ea_nil))))
abbrev s_need_weights : Stmt := top 28
theorem sc_need_weights : FnScope ["rows", "columns", "value", "one"] ["rows", "columns", "value"] (defScope s_need_weights) := ⟨rfl, rfl, rfl, by decide +kernel, rfl, by decide +kernel, by decide +kernel⟩
theorem h_need_weights {f : Addr} {fd : FuncData} (F : Fun K "need_weights" "need_weights" s_need_weights f fd) (m : mg "need_weights" = some (.ref f)) (b : Binds K fd ["rows", "columns", "value"] []) (z_all : mg "all" = none) (z_isinstance : mg "isinstance" = none) (z_len : mg "len" = none) (z_tuple : mg "tuple" = none) {t_MOST_WEIGHT : Tok} (c_MOST_WEIGHT : mg "MOST_WEIGHT" = some (.int 1000 t_MOST_WEIGHT)) (h_is_in : Has P w K mg base 2 "is_in" C.F_is_in false) (h_need_board : Has P w K mg base 4 "need_board" C.F_need_board false) : Has P w K mg base 5 "need_weights" C.F_need_weights false := has_mk false F m b sc_need_weights fun _ _ _ _ _ _ hr =>
  ss_cons (ss_expr (ee_fn h_need_board hr (ea_cons (ee_var 0) (ea_cons (ee_var 1) ea_nil))))
  (ss_cons (ss_if (EW.et (ew_or (et_not (et_val (ee_isi z_isinstance (ebs_cons (EB.of (ee_var 2)) (ebs_cons (EB.of (ee_ty z_tuple rfl)) ebs_nil))))) (ew_or1 (et_cmp (op_neD (hu64 hr)) opd_ne (EB.of (ee_len z_len (ebs_cons (EB.of (ee_var 2)) ebs_nil))) (EB.of (ee_op op_addAll opd_add (EB.of (ee_var 0)) (EB.of (ee_var 1))))))))
  (ss_one ss_never)
  ss_nil)
  (ss_one (ss_if (et_not (et_val (ee_all z_all (ebs_cons (EB.of (EE.ofF (ef_lc (own := [("one", 3)]) sc_need_weights.nd (ei_val (ee_var 2)) (blkOk_by (by kernel_rfl)) (fun _ _ _ _ _ => gg_name (i := 3) sc_need_weights.nd) (fun _ _ _ _ _ => ets_nil) (fun _ _ _ _ _ => ee_fn h_is_in hr (ea_cons (ee_var 3) (ea_cons ee_int (ea_cons (ee_gInt c_MOST_WEIGHT) ea_nil))))))) ebs_nil))))
  (ss_one ss_never)
  ss_nil)))
abbrev s_sums_of : Stmt := top 29
theorem sc_sums_of : FnScope ["some", "found", "weight", "later", "told", "many"] ["some"] (defScope s_sums_of) := ⟨rfl, rfl, rfl, by decide +kernel, rfl, by decide +kernel, by decide +kernel⟩
theorem h_sums_of {f : Addr} {fd : FuncData} (F : Fun K "sums_of" "sums_of" s_sums_of f fd) (m : mg "sums_of" = some (.ref f)) (b : Binds K fd ["some"] []) (z_dict : mg "dict" = none) : Has P w K mg base 1 "sums_of" C.F_sums_of true := has_mk true F m b sc_sums_of fun _ _ _ _ _ _ hr =>
  ss_cons (ss_setF (i := 1) sc_sums_of.nd (ef_disp (ep_cons ee_int ee_int ep_nil)))
  (ss_cons (ss_for (ei_val (ee_var 0)) (gg_name (i := 2) sc_sums_of.nd)
  (ss_cons (ss_setF (i := 3) sc_sums_of.nd (ef_dict z_dict (ebs_cons (eb_any 1) ebs_nil)))
  (ss_cons (ss_frz 1 (ss_forItems 1 (gg_tup (is := [4, 5]) (pgn_cons (i := 4) sc_sums_of.nd (pgn_cons (i := 5) sc_sums_of.nd pgn_nil)))
  (ss_one (ss_put (hu1 hr) (ee_op op_sub opd_sub (EB.of (ee_get2 (hu1 hr) (eb_any 3) (ee_op op_addAll opd_add (EB.of (ee_var 4)) (EB.of (ee_var 2))) ee_int)) (EB.of (ee_var 5))) (eb_any 3) (ee_op op_addAll opd_add (EB.of (ee_var 4)) (EB.of (ee_var 2)))))))
  (ss_one (ss_move 1 3 sc_sums_of.nd)))))
  (ss_one (ss_retOw 1)))
abbrev s_ahead_of : Stmt := top 30
theorem sc_ahead_of : FnScope ["weights", "one", "other", "rest", "found", "told", "many", "line"] ["weights", "one", "other"] (defScope s_ahead_of) := ⟨rfl, rfl, rfl, by decide +kernel, rfl, by decide +kernel, by decide +kernel⟩
theorem h_ahead_of {f : Addr} {fd : FuncData} (F : Fun K "ahead_of" "ahead_of" s_ahead_of f fd) (m : mg "ahead_of" = some (.ref f)) (b : Binds K fd ["weights", "one", "other"] []) (z_sum : mg "sum" = none) (h_lowered : Has P w K mg base 2 "lowered" C.F_lowered false) (h_plus : Has P w K mg base 3 "plus" C.F_plus false) (h_sums_of : Has P w K mg base 1 "sums_of" C.F_sums_of true) : Has P w K mg base 4 "ahead_of" C.F_ahead_of false := has_mk false F m b sc_ahead_of fun _ _ _ _ _ _ hr =>
  ss_cons (ss_set (i := 3) sc_ahead_of.nd (ee_sum z_sum (ebs_cons (EB.of (EE.ofF (ef_lc (own := [("line", 7)]) sc_ahead_of.nd (ei_val (ee_var 2)) (blkOk_by (by kernel_rfl)) (fun _ _ _ _ _ => gg_name (i := 7) sc_ahead_of.nd) (fun _ _ _ _ _ => ets_nil) (fun _ _ _ _ _ => ee_sub (hu1 hr) (EB.of (ee_var 0)) (EB.of (ee_var 7)))))) ebs_nil)))
  (ss_cons (ss_if (et_cmp (op_eqD (hu64 hr)) opd_eq (EB.of (ee_var 3)) (EB.of ee_int))
  (ss_one (ss_ret (ee_tup (ea_cons ee_int (ea_cons ee_int ea_nil)))))
  ss_nil)
  (ss_cons (ss_set (i := 4) sc_ahead_of.nd (ee_tup (ea_cons ee_int (ea_cons ee_int ea_nil))))
  (ss_cons (ss_for (ei_itemsF (ef_fn h_sums_of hr (ea_cons (EE.ofF (ef_lc (own := [("line", 7)]) sc_ahead_of.nd (ei_val (ee_var 1)) (blkOk_by (by kernel_rfl)) (fun _ _ _ _ _ => gg_name (i := 7) sc_ahead_of.nd) (fun _ _ _ _ _ => ets_nil) (fun _ _ _ _ _ => ee_sub (hu1 hr) (EB.of (ee_var 0)) (EB.of (ee_var 7))))) ea_nil))) (gg_tup (is := [5, 6]) (pgn_cons (i := 5) sc_ahead_of.nd (pgn_cons (i := 6) sc_ahead_of.nd pgn_nil)))
  (ss_one (ss_set (i := 4) sc_ahead_of.nd (ee_fn h_plus hr (ea_cons (ee_var 4) (ea_cons (ee_fn h_lowered hr (ea_cons (ee_op op_mulAll opd_mul (EB.of (ee_var 6)) (EB.of (ee_var 3))) (ea_cons (ee_op op_addAll opd_add (EB.of (ee_var 3)) (EB.of (ee_var 5))) ea_nil))) ea_nil))))))
  (ss_one (ss_ret (ee_var 4))))))
abbrev s_need_lines : Stmt := top 31
theorem sc_need_lines : FnScope ["rows", "columns", "value", "line", "one", "other"] ["rows", "columns", "value"] (defScope s_need_lines) := ⟨rfl, rfl, rfl, by decide +kernel, rfl, by decide +kernel, by decide +kernel⟩
theorem h_need_lines {f : Addr} {fd : FuncData} (F : Fun K "need_lines" "need_lines" s_need_lines f fd) (m : mg "need_lines" = some (.ref f)) (b : Binds K fd ["rows", "columns", "value"] []) (z_all : mg "all" = none) (z_isinstance : mg "isinstance" = none) (z_tuple : mg "tuple" = none) (z_zip : mg "zip" = none) (h_is_in : Has P w K mg base 2 "is_in" C.F_is_in false) : Has P w K mg base 3 "need_lines" C.F_need_lines false := has_mk false F m b sc_need_lines fun _ _ _ _ _ _ hr =>
  ss_cons (ss_if (EW.et (ew_or (et_not (et_val (ee_isi z_isinstance (ebs_cons (EB.of (ee_var 2)) (ebs_cons (EB.of (ee_ty z_tuple rfl)) ebs_nil))))) (ew_or1 (et_not (et_val (ee_all z_all (ebs_cons (EB.of (EE.ofF (ef_lc (own := [("line", 3)]) sc_need_lines.nd (ei_val (ee_var 2)) (blkOk_by (by kernel_rfl)) (fun _ _ _ _ _ => gg_name (i := 3) sc_need_lines.nd) (fun _ _ _ _ _ => ets_nil) (fun _ _ _ _ _ => ee_fn h_is_in hr (ea_cons (ee_var 3) (ea_cons ee_int (ea_cons (ee_op op_sub opd_sub (EB.of (ee_op op_addAll opd_add (EB.of (ee_var 0)) (EB.of (ee_var 1)))) (EB.of ee_int)) ea_nil))))))) ebs_nil)))))))
  (ss_one ss_never)
  ss_nil)
  (ss_one (ss_if (et_not (et_val (ee_all z_all (ebs_cons (EB.of (EE.ofF (ef_lc (own := [("one", 4), ("other", 5)]) sc_need_lines.nd (ei_zip z_zip (ea_cons (ee_var 2) (ea_cons (ee_sl (EB.of (ee_var 2)) (eo_some ee_int) eo_none) ea_nil))) (blkOk_by (by kernel_rfl)) (fun _ _ _ _ _ => gg_tup (is := [4, 5]) (pgn_cons (i := 4) sc_need_lines.nd (pgn_cons (i := 5) sc_need_lines.nd pgn_nil))) (fun _ _ _ _ _ => ets_nil) (fun _ _ _ _ _ => ee_cmp op_lt (opd_cmpI _) (EB.of (ee_var 4)) (EB.of (ee_var 5)))))) ebs_nil))))
  (ss_one ss_never)
  ss_nil))
abbrev s_ahead : Stmt := top 32
theorem sc_ahead : FnScope ["rows", "columns", "weights", "one", "other", "line"] ["rows", "columns", "weights", "one", "other"] (defScope s_ahead) := ⟨rfl, rfl, rfl, by decide +kernel, rfl, by decide +kernel, by decide +kernel⟩
theorem h_ahead {f : Addr} {fd : FuncData} (F : Fun K "ahead" "ahead" s_ahead f fd) (m : mg "ahead" = some (.ref f)) (b : Binds K fd ["rows", "columns", "weights", "one", "other"] []) (z_any : mg "any" = none) (h_ahead_of : Has P w K mg base 4 "ahead_of" C.F_ahead_of false) (h_need_lines : Has P w K mg base 3 "need_lines" C.F_need_lines false) (h_need_weights : Has P w K mg base 5 "need_weights" C.F_need_weights false) : Has P w K mg base 6 "ahead" C.F_ahead false := has_mk false F m b sc_ahead fun _ _ _ _ _ _ hr =>
  ss_cons (ss_expr (ee_fn h_need_weights hr (ea_cons (ee_var 0) (ea_cons (ee_var 1) (ea_cons (ee_var 2) ea_nil)))))
  (ss_cons (ss_expr (ee_fn h_need_lines hr (ea_cons (ee_var 0) (ea_cons (ee_var 1) (ea_cons (ee_var 3) ea_nil)))))
  (ss_cons (ss_expr (ee_fn h_need_lines hr (ea_cons (ee_var 0) (ea_cons (ee_var 1) (ea_cons (ee_var 4) ea_nil)))))
  (ss_cons (ss_if (et_val (ee_any z_any (ebs_cons (EB.of (EE.ofF (ef_lc (own := [("line", 5)]) sc_ahead.nd (ei_val (ee_var 3)) (blkOk_by (by kernel_rfl)) (fun _ _ _ _ _ => gg_name (i := 5) sc_ahead.nd) (fun _ _ _ _ _ => ets_nil) (fun _ _ _ _ _ => ee_in (hu65 hr) (EB.of (ee_var 5)) (EB.of (ee_var 4)))))) ebs_nil)))
  (ss_one ss_never)
  ss_nil)
  (ss_one (ss_ret (ee_fn h_ahead_of hr (ea_cons (ee_var 2) (ea_cons (ee_var 3) (ea_cons (ee_var 4) ea_nil)))))))))
abbrev s_share_of : Stmt := top 34
theorem sc_share_of : FnScope ["weights", "goal", "layers", "found", "at", "some", "rest", "later", "line"] ["weights", "goal"] (defScope s_share_of) := ⟨rfl, rfl, rfl, by decide +kernel, rfl, by decide +kernel, by decide +kernel⟩
theorem h_share_of {f : Addr} {fd : FuncData} (F : Fun K "share_of" "share_of" s_share_of f fd) (m : mg "share_of" = some (.ref f)) (b : Binds K fd ["weights", "goal"] []) (z_enumerate : mg "enumerate" = none) (h_ahead_of : Has P w K mg base 4 "ahead_of" C.F_ahead_of false) (h_layers_of : Has P w K mg base 1 "layers_of" C.F_layers_of false) (h_times : Has P w K mg base 3 "times" C.F_times false) : Has P w K mg base 5 "share_of" C.F_share_of false := has_mk false F m b sc_share_of fun _ _ _ _ _ _ hr =>
  ss_cons (ss_set (i := 2) sc_share_of.nd (ee_fn h_layers_of hr (ea_cons (ee_var 1) ea_nil)))
  (ss_cons (ss_if (et_cmp op_isAll opd_is (EB.of (ee_var 2)) (EB.of ee_non))
  (ss_one (ss_ret (ee_tup (ea_cons ee_int (ea_cons ee_int ea_nil)))))
  ss_nil)
  (ss_cons (ss_set (i := 3) sc_share_of.nd (ee_tup (ea_cons ee_int (ea_cons ee_int ea_nil))))
  (ss_cons (ss_for (ei_enum z_enumerate (ea_cons (ee_var 2) ea_nil)) (gg_tup (is := [4, 5]) (pgn_cons (i := 4) sc_share_of.nd (pgn_cons (i := 5) sc_share_of.nd pgn_nil)))
  (ss_cons (ss_setLc2P (i := 6) (own := [("later", 7), ("line", 8)]) sc_share_of.nd [8] (ei_val (ee_sl (EB.of (ee_var 2)) (eo_some (ee_op op_addAll opd_add (EB.of (ee_var 4)) (EB.of ee_int))) eo_none)) (blkOk_by (by kernel_rfl)) (fun _ _ _ _ _ => gg_name (i := 7) sc_share_of.nd) (fun _ _ _ _ _ => ets_nil) (fun _ _ _ _ _ => ei_val (ee_var 7)) (fun _ _ _ _ _ => gg_name (i := 8) sc_share_of.nd) (fun _ _ _ _ _ => ets_nil) (fun _ _ _ _ _ => ee_var 8))
  (ss_one (ss_set (i := 3) sc_share_of.nd (ee_fn h_times hr (ea_cons (ee_var 3) (ea_cons (ee_fn h_ahead_of hr (ea_cons (ee_var 0) (ea_cons (ee_var 5) (ea_cons (ee_var 6) ea_nil)))) ea_nil)))))))
  (ss_one (ss_ret (ee_var 3))))))
abbrev s_long_share : Stmt := top 33
theorem sc_long_share : FnScope ["rows", "columns", "weights", "goal"] ["rows", "columns", "weights", "goal"] (defScope s_long_share) := ⟨rfl, rfl, rfl, by decide +kernel, rfl, by decide +kernel, by decide +kernel⟩
theorem h_long_share {f : Addr} {fd : FuncData} (F : Fun K "long_share" "long_share" s_long_share f fd) (m : mg "long_share" = some (.ref f)) (b : Binds K fd ["rows", "columns", "weights", "goal"] []) (h_need_picture : Has P w K mg base 2 "need_picture" C.F_need_picture false) (h_need_weights : Has P w K mg base 5 "need_weights" C.F_need_weights false) (h_share_of : Has P w K mg base 5 "share_of" C.F_share_of false) : Has P w K mg base 6 "long_share" C.F_long_share false := has_mk false F m b sc_long_share fun _ _ _ _ _ _ hr =>
  ss_cons (ss_expr (ee_fn h_need_weights hr (ea_cons (ee_var 0) (ea_cons (ee_var 1) (ea_cons (ee_var 2) ea_nil)))))
  (ss_cons (ss_expr (ee_fn h_need_picture hr (ea_cons (ee_var 0) (ea_cons (ee_var 1) (ea_cons (ee_var 3) ea_nil)))))
  (ss_one (ss_ret (ee_fn h_share_of hr (ea_cons (ee_var 2) (ea_cons (ee_var 3) ea_nil))))))
abbrev s_need_cell : Stmt := top 35
theorem sc_need_cell : FnScope ["rows", "columns", "value"] ["rows", "columns", "value"] (defScope s_need_cell) := ⟨rfl, rfl, rfl, by decide +kernel, rfl, by decide +kernel, by decide +kernel⟩
theorem h_need_cell {f : Addr} {fd : FuncData} (F : Fun K "need_cell" "need_cell" s_need_cell f fd) (m : mg "need_cell" = some (.ref f)) (b : Binds K fd ["rows", "columns", "value"] []) (z_isinstance : mg "isinstance" = none) (z_len : mg "len" = none) (z_tuple : mg "tuple" = none) (h_is_in : Has P w K mg base 2 "is_in" C.F_is_in false) : Has P w K mg base 3 "need_cell" C.F_need_cell false := has_mk false F m b sc_need_cell fun _ _ _ _ _ _ hr =>
  ss_cons (ss_if (EW.et (ew_or (et_not (et_val (ee_isi z_isinstance (ebs_cons (EB.of (ee_var 2)) (ebs_cons (EB.of (ee_ty z_tuple rfl)) ebs_nil))))) (ew_or1 (et_cmp (op_neD (hu64 hr)) opd_ne (EB.of (ee_len z_len (ebs_cons (EB.of (ee_var 2)) ebs_nil))) (EB.of ee_int)))))
  (ss_one ss_never)
  ss_nil)
  (ss_one (ss_if (EW.et (ew_or (et_not (et_val (ee_fn h_is_in hr (ea_cons (ee_sub (hu1 hr) (EB.of (ee_var 2)) (EB.of ee_int)) (ea_cons ee_int (ea_cons (ee_op op_sub opd_sub (EB.of (ee_var 0)) (EB.of ee_int)) ea_nil)))))) (ew_or1 (et_not (et_val (ee_fn h_is_in hr (ea_cons (ee_sub (hu1 hr) (EB.of (ee_var 2)) (EB.of ee_int)) (ea_cons ee_int (ea_cons (ee_op op_sub opd_sub (EB.of (ee_var 1)) (EB.of ee_int)) ea_nil)))))))))
  (ss_one ss_never)
  ss_nil))
abbrev s_cell_of : Stmt := top 37
theorem sc_cell_of : FnScope ["rows", "weights", "cell", "one", "other"] ["rows", "weights", "cell"] (defScope s_cell_of) := ⟨rfl, rfl, rfl, by decide +kernel, rfl, by decide +kernel, by decide +kernel⟩
theorem h_cell_of {f : Addr} {fd : FuncData} (F : Fun K "cell_of" "cell_of" s_cell_of f fd) (m : mg "cell_of" = some (.ref f)) (b : Binds K fd ["rows", "weights", "cell"] []) (h_lowered : Has P w K mg base 2 "lowered" C.F_lowered false) : Has P w K mg base 3 "cell_of" C.F_cell_of false := has_mk false F m b sc_cell_of fun _ _ _ _ _ _ hr =>
  ss_cons (ss_par (i := 3) (j := 4) sc_cell_of.nd (ex_pl (ee_sub (hu1 hr) (EB.of (ee_var 1)) (EB.of (ee_sub (hu1 hr) (EB.of (ee_var 2)) (EB.of ee_int)))) (ex_pl (ee_sub (hu1 hr) (EB.of (ee_var 1)) (EB.of (ee_op op_addAll opd_add (EB.of (ee_var 0)) (EB.of (ee_sub (hu1 hr) (EB.of (ee_var 2)) (EB.of ee_int)))))) ex_nil)))
  (ss_one (ss_ret (ee_fn h_lowered hr (ea_cons (ee_var 3) (ea_cons (ee_op op_addAll opd_add (EB.of (ee_var 3)) (EB.of (ee_var 4))) ea_nil)))))
abbrev s_cell_share : Stmt := top 36
theorem sc_cell_share : FnScope ["rows", "columns", "weights", "cell"] ["rows", "columns", "weights", "cell"] (defScope s_cell_share) := ⟨rfl, rfl, rfl, by decide +kernel, rfl, by decide +kernel, by decide +kernel⟩
theorem h_cell_share {f : Addr} {fd : FuncData} (F : Fun K "cell_share" "cell_share" s_cell_share f fd) (m : mg "cell_share" = some (.ref f)) (b : Binds K fd ["rows", "columns", "weights", "cell"] []) (h_cell_of : Has P w K mg base 3 "cell_of" C.F_cell_of false) (h_need_cell : Has P w K mg base 3 "need_cell" C.F_need_cell false) (h_need_weights : Has P w K mg base 5 "need_weights" C.F_need_weights false) : Has P w K mg base 6 "cell_share" C.F_cell_share false := has_mk false F m b sc_cell_share fun _ _ _ _ _ _ hr =>
  ss_cons (ss_expr (ee_fn h_need_weights hr (ea_cons (ee_var 0) (ea_cons (ee_var 1) (ea_cons (ee_var 2) ea_nil)))))
  (ss_cons (ss_expr (ee_fn h_need_cell hr (ea_cons (ee_var 0) (ea_cons (ee_var 1) (ea_cons (ee_var 3) ea_nil)))))
  (ss_one (ss_ret (ee_fn h_cell_of hr (ea_cons (ee_var 0) (ea_cons (ee_var 2) (ea_cons (ee_var 3) ea_nil)))))))
abbrev s_mean_black : Stmt := top 38
theorem sc_mean_black : FnScope ["rows", "columns", "weights", "found", "row", "column"] ["rows", "columns", "weights"] (defScope s_mean_black) := ⟨rfl, rfl, rfl, by decide +kernel, rfl, by decide +kernel, by decide +kernel⟩
theorem h_mean_black {f : Addr} {fd : FuncData} (F : Fun K "mean_black" "mean_black" s_mean_black f fd) (m : mg "mean_black" = some (.ref f)) (b : Binds K fd ["rows", "columns", "weights"] []) (z_range : mg "range" = none) (h_cell_of : Has P w K mg base 3 "cell_of" C.F_cell_of false) (h_need_weights : Has P w K mg base 5 "need_weights" C.F_need_weights false) (h_plus : Has P w K mg base 3 "plus" C.F_plus false) : Has P w K mg base 6 "mean_black" C.F_mean_black false := has_mk false F m b sc_mean_black fun _ _ _ _ _ _ hr =>
  ss_cons (ss_expr (ee_fn h_need_weights hr (ea_cons (ee_var 0) (ea_cons (ee_var 1) (ea_cons (ee_var 2) ea_nil)))))
  (ss_cons (ss_set (i := 3) sc_mean_black.nd (ee_tup (ea_cons ee_int (ea_cons ee_int ea_nil))))
  (ss_cons (ss_for (ei_rg1 z_range (ea_cons (ee_var 0) ea_nil)) (gg_name (i := 4) sc_mean_black.nd)
  (ss_one (ss_for (ei_rg1 z_range (ea_cons (ee_var 1) ea_nil)) (gg_name (i := 5) sc_mean_black.nd)
  (ss_one (ss_set (i := 3) sc_mean_black.nd (ee_fn h_plus hr (ea_cons (ee_var 3) (ea_cons (ee_fn h_cell_of hr (ea_cons (ee_var 0) (ea_cons (ee_var 2) (ea_cons (ee_tup (ea_cons (ee_var 4) (ea_cons (ee_var 5) ea_nil))) ea_nil)))) ea_nil))))))))
  (ss_one (ss_ret (ee_var 3)))))
abbrev s_over_rest : Stmt := top 40
theorem sc_over_rest : FnScope ["row", "free", "column", "whole"] ["row", "free", "column", "whole"] (defScope s_over_rest) := ⟨rfl, rfl, rfl, by decide +kernel, rfl, by decide +kernel, by decide +kernel⟩
theorem h_over_rest {f : Addr} {fd : FuncData} (F : Fun K "over_rest" "over_rest" s_over_rest f fd) (m : mg "over_rest" = some (.ref f)) (b : Binds K fd ["row", "free", "column", "whole"] []) (h_lowered : Has P w K mg base 2 "lowered" C.F_lowered false) (h_plus : Has P w K mg base 3 "plus" C.F_plus false) (h_times : Has P w K mg base 3 "times" C.F_times false) : Has P w K mg base 4 "over_rest" C.F_over_rest false := has_mk false F m b sc_over_rest fun _ _ _ _ _ _ hr =>
  ss_one (ss_ret (ee_fn h_plus hr (ea_cons (ee_fn h_lowered hr (ea_cons (ee_var 0) (ea_cons (ee_var 3) ea_nil))) (ea_cons (ee_fn h_times hr (ea_cons (ee_fn h_lowered hr (ea_cons (ee_var 1) (ea_cons (ee_var 3) ea_nil))) (ea_cons (ee_fn h_lowered hr (ea_cons (ee_var 0) (ea_cons (ee_op op_addAll opd_add (EB.of (ee_var 0)) (EB.of (ee_var 2))) ea_nil))) ea_nil))) ea_nil))))
abbrev s_both_of : Stmt := top 39
theorem sc_both_of : FnScope ["rows", "weights", "one", "other", "high", "wide", "left", "right", "up", "down", "whole", "first"] ["rows", "weights", "one", "other"] (defScope s_both_of) := ⟨rfl, rfl, rfl, by decide +kernel, rfl, by decide +kernel, by decide +kernel⟩
theorem h_both_of {f : Addr} {fd : FuncData} (F : Fun K "both_of" "both_of" s_both_of f fd) (m : mg "both_of" = some (.ref f)) (b : Binds K fd ["rows", "weights", "one", "other"] []) (z_len : mg "len" = none) (z_sorted : mg "sorted" = none) (h_ahead_of : Has P w K mg base 4 "ahead_of" C.F_ahead_of false) (h_lowered : Has P w K mg base 2 "lowered" C.F_lowered false) (h_over_rest : Has P w K mg base 4 "over_rest" C.F_over_rest false) (h_plus : Has P w K mg base 3 "plus" C.F_plus false) (h_times : Has P w K mg base 3 "times" C.F_times false) : Has P w K mg base 5 "both_of" C.F_both_of false := has_mk false F m b sc_both_of fun _ _ _ _ _ _ hr =>
  ss_cons (ss_set (i := 4) sc_both_of.nd (EE.ofF (ef_sorted z_sorted (ebs_cons (EB.of (EE.ofF (ef_disp (ep_cons (ee_sub (hu1 hr) (EB.of (ee_var 2)) (EB.of ee_int)) ee_bl (ep_cons (ee_sub (hu1 hr) (EB.of (ee_var 3)) (EB.of ee_int)) ee_bl ep_nil))))) ebs_nil))))
  (ss_cons (ss_set (i := 5) sc_both_of.nd (EE.ofF (ef_sorted z_sorted (ebs_cons (EB.of (EE.ofF (ef_disp (ep_cons (ee_op op_addAll opd_add (EB.of (ee_var 0)) (EB.of (ee_sub (hu1 hr) (EB.of (ee_var 2)) (EB.of ee_int)))) ee_bl (ep_cons (ee_op op_addAll opd_add (EB.of (ee_var 0)) (EB.of (ee_sub (hu1 hr) (EB.of (ee_var 3)) (EB.of ee_int)))) ee_bl ep_nil))))) ebs_nil))))
  (ss_cons (ss_if (EW.et (ew_or (et_cmp op_lt (opd_cmpI _) (EB.of (ee_len z_len (ebs_cons (EB.of (ee_var 4)) ebs_nil))) (EB.of ee_int)) (ew_or1 (et_cmp op_lt (opd_cmpI _) (EB.of (ee_len z_len (ebs_cons (EB.of (ee_var 5)) ebs_nil))) (EB.of ee_int)))))
  (ss_one (ss_ret (ee_fn h_ahead_of hr (ea_cons (ee_var 1) (ea_cons (ee_var 4) (ea_cons (ee_var 5) ea_nil))))))
  ss_nil)
  (ss_cons (ss_par (i := 6) (j := 7) sc_both_of.nd (ex_pl (ee_sub (hu1 hr) (EB.of (ee_var 1)) (EB.of (ee_sub (hu1 hr) (EB.of (ee_var 2)) (EB.of ee_int)))) (ex_pl (ee_sub (hu1 hr) (EB.of (ee_var 1)) (EB.of (ee_sub (hu1 hr) (EB.of (ee_var 3)) (EB.of ee_int)))) ex_nil)))
  (ss_cons (ss_par (i := 8) (j := 9) sc_both_of.nd (ex_pl (ee_sub (hu1 hr) (EB.of (ee_var 1)) (EB.of (ee_op op_addAll opd_add (EB.of (ee_var 0)) (EB.of (ee_sub (hu1 hr) (EB.of (ee_var 2)) (EB.of ee_int)))))) (ex_pl (ee_sub (hu1 hr) (EB.of (ee_var 1)) (EB.of (ee_op op_addAll opd_add (EB.of (ee_var 0)) (EB.of (ee_sub (hu1 hr) (EB.of (ee_var 3)) (EB.of ee_int)))))) ex_nil)))
  (ss_cons (ss_set (i := 10) sc_both_of.nd (ee_op op_addAll opd_add (EB.of (ee_op op_addAll opd_add (EB.of (ee_op op_addAll opd_add (EB.of (ee_var 6)) (EB.of (ee_var 7)))) (EB.of (ee_var 8)))) (EB.of (ee_var 9))))
  (ss_cons (ss_set (i := 11) sc_both_of.nd (ee_fn h_times hr (ea_cons (ee_fn h_lowered hr (ea_cons (ee_var 6) (ea_cons (ee_var 10) ea_nil))) (ea_cons (ee_fn h_over_rest hr (ea_cons (ee_var 7) (ea_cons (ee_var 8) (ea_cons (ee_var 9) (ea_cons (ee_op op_sub opd_sub (EB.of (ee_var 10)) (EB.of (ee_var 6))) ea_nil))))) ea_nil))))
  (ss_one (ss_ret (ee_fn h_plus hr (ea_cons (ee_var 11) (ea_cons (ee_fn h_times hr (ea_cons (ee_fn h_lowered hr (ea_cons (ee_var 7) (ea_cons (ee_var 10) ea_nil))) (ea_cons (ee_fn h_over_rest hr (ea_cons (ee_var 6) (ea_cons (ee_var 9) (ea_cons (ee_var 8) (ea_cons (ee_op op_sub opd_sub (EB.of (ee_var 10)) (EB.of (ee_var 7))) ea_nil))))) ea_nil))) ea_nil)))))))))))
abbrev s_both_share : Stmt := top 41
theorem sc_both_share : FnScope ["rows", "columns", "weights", "one", "other"] ["rows", "columns", "weights", "one", "other"] (defScope s_both_share) := ⟨rfl, rfl, rfl, by decide +kernel, rfl, by decide +kernel, by decide +kernel⟩
theorem h_both_share {f : Addr} {fd : FuncData} (F : Fun K "both_share" "both_share" s_both_share f fd) (m : mg "both_share" = some (.ref f)) (b : Binds K fd ["rows", "columns", "weights", "one", "other"] []) (h_both_of : Has P w K mg base 5 "both_of" C.F_both_of false) (h_need_cell : Has P w K mg base 3 "need_cell" C.F_need_cell false) (h_need_weights : Has P w K mg base 5 "need_weights" C.F_need_weights false) : Has P w K mg base 6 "both_share" C.F_both_share false := has_mk false F m b sc_both_share fun _ _ _ _ _ _ hr =>
  ss_cons (ss_expr (ee_fn h_need_weights hr (ea_cons (ee_var 0) (ea_cons (ee_var 1) (ea_cons (ee_var 2) ea_nil)))))
  (ss_cons (ss_expr (ee_fn h_need_cell hr (ea_cons (ee_var 0) (ea_cons (ee_var 1) (ea_cons (ee_var 3) ea_nil)))))
  (ss_cons (ss_expr (ee_fn h_need_cell hr (ea_cons (ee_var 0) (ea_cons (ee_var 1) (ea_cons (ee_var 4) ea_nil)))))
  (ss_one (ss_ret (ee_fn h_both_of hr (ea_cons (ee_var 0) (ea_cons (ee_var 2) (ea_cons (ee_var 3) (ea_cons (ee_var 4) ea_nil)))))))))
abbrev s_variance_black : Stmt := top 42
theorem sc_variance_black : FnScope ["rows", "columns", "weights", "cells", "row", "found", "mean", "one", "other", "column"] ["rows", "columns", "weights"] (defScope s_variance_black) := ⟨rfl, rfl, rfl, by decide +kernel, rfl, by decide +kernel, by decide +kernel⟩
theorem h_variance_black {f : Addr} {fd : FuncData} (F : Fun K "variance_black" "variance_black" s_variance_black f fd) (m : mg "variance_black" = some (.ref f)) (b : Binds K fd ["rows", "columns", "weights"] []) (z_range : mg "range" = none) (h_both_of : Has P w K mg base 5 "both_of" C.F_both_of false) (h_cell_of : Has P w K mg base 3 "cell_of" C.F_cell_of false) (h_minus : Has P w K mg base 3 "minus" C.F_minus false) (h_need_weights : Has P w K mg base 5 "need_weights" C.F_need_weights false) (h_plus : Has P w K mg base 3 "plus" C.F_plus false) (h_times : Has P w K mg base 3 "times" C.F_times false) : Has P w K mg base 6 "variance_black" C.F_variance_black false := has_mk false F m b sc_variance_black fun _ _ _ _ _ _ hr =>
  ss_cons (ss_expr (ee_fn h_need_weights hr (ea_cons (ee_var 0) (ea_cons (ee_var 1) (ea_cons (ee_var 2) ea_nil)))))
  (ss_cons (ss_set (i := 3) sc_variance_black.nd (EE.ofF (ef_lst ea_nil)))
  (ss_cons (ss_for (ei_rg1 z_range (ea_cons (ee_var 0) ea_nil)) (gg_name (i := 4) sc_variance_black.nd)
  (ss_one (ss_set (i := 3) sc_variance_black.nd (ee_op op_addAll opd_add (EB.of (ee_var 3)) (EB.of (EE.ofF (ef_lc (own := [("column", 9)]) sc_variance_black.nd (ei_rg1 z_range (ea_cons (ee_var 1) ea_nil)) (blkOk_by (by kernel_rfl)) (fun _ _ _ _ _ => gg_name (i := 9) sc_variance_black.nd) (fun _ _ _ _ _ => ets_nil) (fun _ _ _ _ _ => ee_tup (ea_cons (ee_var 4) (ea_cons (ee_var 9) ea_nil))))))))))
  (ss_cons (ss_asgT (is := [5, 6]) (ex_pl (ee_tup (ea_cons ee_int (ea_cons ee_int ea_nil))) (ex_pl (ee_tup (ea_cons ee_int (ea_cons ee_int ea_nil))) ex_nil)) (pgn_cons (i := 5) sc_variance_black.nd (pgn_cons (i := 6) sc_variance_black.nd pgn_nil)))
  (ss_cons (ss_for (ei_val (ee_var 3)) (gg_name (i := 7) sc_variance_black.nd)
  (ss_cons (ss_set (i := 6) sc_variance_black.nd (ee_fn h_plus hr (ea_cons (ee_var 6) (ea_cons (ee_fn h_cell_of hr (ea_cons (ee_var 0) (ea_cons (ee_var 2) (ea_cons (ee_var 7) ea_nil)))) ea_nil))))
  (ss_one (ss_for (ei_val (ee_var 3)) (gg_name (i := 8) sc_variance_black.nd)
  (ss_one (ss_set (i := 5) sc_variance_black.nd (ee_fn h_plus hr (ea_cons (ee_var 5) (ea_cons (ee_fn h_both_of hr (ea_cons (ee_var 0) (ea_cons (ee_var 2) (ea_cons (ee_var 7) (ea_cons (ee_var 8) ea_nil))))) ea_nil)))))))))
  (ss_one (ss_ret (ee_fn h_minus hr (ea_cons (ee_var 5) (ea_cons (ee_fn h_times hr (ea_cons (ee_var 6) (ea_cons (ee_var 6) ea_nil))) ea_nil)))))))))
abbrev s_part_share : Stmt := top 43
theorem sc_part_share : FnScope ["rows", "columns", "weights", "high", "wide"] ["rows", "columns", "weights", "high", "wide"] (defScope s_part_share) := ⟨rfl, rfl, rfl, by decide +kernel, rfl, by decide +kernel, by decide +kernel⟩
theorem h_part_share {f : Addr} {fd : FuncData} (F : Fun K "part_share" "part_share" s_part_share f fd) (m : mg "part_share" = some (.ref f)) (b : Binds K fd ["rows", "columns", "weights", "high", "wide"] []) (h_ahead_of : Has P w K mg base 4 "ahead_of" C.F_ahead_of false) (h_need_lines : Has P w K mg base 3 "need_lines" C.F_need_lines false) (h_need_weights : Has P w K mg base 5 "need_weights" C.F_need_weights false) : Has P w K mg base 6 "part_share" C.F_part_share false := has_mk false F m b sc_part_share fun _ _ _ _ _ _ hr =>
  ss_cons (ss_expr (ee_fn h_need_weights hr (ea_cons (ee_var 0) (ea_cons (ee_var 1) (ea_cons (ee_var 2) ea_nil)))))
  (ss_cons (ss_expr (ee_fn h_need_lines hr (ea_cons (ee_var 0) (ea_cons (ee_var 1) (ea_cons (ee_var 3) ea_nil)))))
  (ss_cons (ss_expr (ee_fn h_need_lines hr (ea_cons (ee_var 0) (ea_cons (ee_var 1) (ea_cons (ee_var 4) ea_nil)))))
  (ss_cons (ss_if (EW.et (ew_or (et_cmp (op_eqD (hu64 hr)) opd_eq (EB.of (ee_var 3)) (EB.of (ee_tup ea_nil))) (ew_or (et_cmp (op_eqD (hu64 hr)) opd_eq (EB.of (ee_var 4)) (EB.of (ee_tup ea_nil))) (ew_or (et_cmp op_ge (opd_cmpI _) (EB.of (ee_sub (hu1 hr) (EB.of (ee_var 3)) (EB.of (ee_neg ee_int)))) (EB.of (ee_var 0))) (ew_or1 (et_cmp op_lt (opd_cmpI _) (EB.of (ee_sub (hu1 hr) (EB.of (ee_var 4)) (EB.of ee_int))) (EB.of (ee_var 0))))))))
  (ss_one ss_never)
  ss_nil)
  (ss_one (ss_ret (ee_tup (ea_cons (ee_fn h_ahead_of hr (ea_cons (ee_var 2) (ea_cons (ee_var 3) (ea_cons (ee_var 4) ea_nil)))) (ea_cons (ee_fn h_ahead_of hr (ea_cons (ee_var 2) (ea_cons (ee_var 4) (ea_cons (ee_var 3) ea_nil)))) ea_nil))))))))
abbrev s__law_taken : Stmt := top 45
theorem sc__law_taken : FnScope ["_law_row", "_law_many", "_law_found", "_law_cell"] ["_law_row", "_law_many"] (defScope s__law_taken) := ⟨rfl, rfl, rfl, by decide +kernel, rfl, by decide +kernel, by decide +kernel⟩
theorem h__law_taken {f : Addr} {fd : FuncData} (F : Fun K "_law_taken" "_law_taken" s__law_taken f fd) (m : mg "_law_taken" = some (.ref f)) (b : Binds K fd ["_law_row", "_law_many"] []) (z_int : mg "int" = none) (z_len : mg "len" = none) : Has P w K mg base 1 "_law_taken" C.F__law_taken false := has_mk false F m b sc__law_taken fun _ _ _ _ _ _ hr =>
  ss_cons (ss_if (et_cmp op_gt (opd_cmpI _) (EB.of (ee_sub (hu1 hr) (EB.of (ee_var 0)) (EB.of ee_int))) (EB.of ee_int))
  (ss_cons (ss_set (i := 2) sc__law_taken.nd (ee_op op_mod opd_mod (EB.of (ee_int1 z_int (ebs_cons (EB.of (ee_sub (hu1 hr) (EB.of (ee_var 0)) (EB.of ee_int))) ebs_nil))) (EB.of (ee_var 1))))
  (ss_cons (ss_put (hu1 hr) (ee_op op_fdivW opd_div (EB.of (ee_sub (hu1 hr) (EB.of (ee_var 0)) (EB.of ee_int))) (EB.of (ee_var 1))) (EB.of (ee_var 0)) ee_int)
  (ss_one (ss_ret (ee_var 2)))))
  ss_nil)
  (ss_cons (ss_put (hu1 hr) (ee_op op_addAll opd_add (EB.of (ee_sub (hu1 hr) (EB.of (ee_var 0)) (EB.of ee_int))) (EB.of ee_int)) (EB.of (ee_var 0)) ee_int)
  (ss_cons (ss_if (et_cmp op_gt (opd_cmpI _) (EB.of (ee_sub (hu1 hr) (EB.of (ee_var 0)) (EB.of ee_int))) (EB.of (ee_len z_len (ebs_cons (EB.of (ee_sub (hu1 hr) (EB.of (ee_var 0)) (EB.of ee_int))) ebs_nil))))
  (ss_cons (ss_put (hu1 hr) (ee_op op_mod opd_mod (EB.of (ee_int1 z_int (ebs_cons (EB.of (ee_op op_addAll opd_add (EB.of (ee_op op_mulAll opd_mul (EB.of (ee_sub (hu1 hr) (EB.of (ee_var 0)) (EB.of ee_int))) (EB.of ee_int))) (EB.of ee_int))) ebs_nil))) (EB.of ee_int)) (EB.of (ee_var 0)) ee_int)
  (ss_one (ss_ret (ee_op op_mod opd_mod (EB.of (ee_int1 z_int (ebs_cons (EB.of (ee_op op_fdivW opd_div (EB.of (ee_sub (hu1 hr) (EB.of (ee_var 0)) (EB.of ee_int))) (EB.of ee_int))) ebs_nil))) (EB.of (ee_var 1))))))
  ss_nil)
  (ss_cons (ss_set (i := 3) sc__law_taken.nd (ee_sub (hu1 hr) (EB.of (ee_sub (hu1 hr) (EB.of (ee_var 0)) (EB.of ee_int))) (EB.of (ee_op op_sub opd_sub (EB.of (ee_sub (hu1 hr) (EB.of (ee_var 0)) (EB.of ee_int))) (EB.of ee_int)))))
  (ss_cons (ss_put (hu1 hr) (ee_op op_mod opd_mod (EB.of (ee_int1 z_int (ebs_cons (EB.of (ee_op op_addAll opd_add (EB.of (ee_op op_addAll opd_add (EB.of (ee_op op_mulAll opd_mul (EB.of (ee_sub (hu1 hr) (EB.of (ee_var 0)) (EB.of ee_int))) (EB.of ee_int))) (EB.of (ee_var 3)))) (EB.of ee_int))) ebs_nil))) (EB.of ee_int)) (EB.of (ee_var 0)) ee_int)
  (ss_cons (ss_if (et_cmp op_ge (opd_cmpI _) (EB.of (ee_var 3)) (EB.of (ee_op op_pow opd_pow (EB.of ee_int) (EB.of ee_int))))
  (ss_one (ss_put (hu1 hr) (ee_op op_fdivW opd_div (EB.of (ee_var 3)) (EB.of (ee_var 1))) (EB.of (ee_var 0)) ee_int))
  ss_nil)
  (ss_one (ss_ret (ee_op op_mod opd_mod (EB.of (ee_int1 z_int (ebs_cons (EB.of (ee_var 3)) ebs_nil))) (EB.of (ee_var 1))))))))))
abbrev s__law_alike : Stmt := top 46
theorem sc__law_alike : FnScope ["_law_found", "_law_due", "_law_k"] ["_law_found", "_law_due"] (defScope s__law_alike) := ⟨rfl, rfl, rfl, by decide +kernel, rfl, by decide +kernel, by decide +kernel⟩
theorem r__law_alike {f : Addr} {fd : FuncData} (F : Fun K "_law_alike" "_law_alike" s__law_alike f fd) (m : mg "_law_alike" = some (.ref f)) (b : Binds K fd ["_law_found", "_law_due"] []) (z_bool : mg "bool" = none) (z_int : mg "int" = none) (z_isinstance : mg "isinstance" = none) (z_len : mg "len" = none) (z_list : mg "list" = none) (z_range : mg "range" = none) (z_str : mg "str" = none) (z_tuple : mg "tuple" = none) : ∀ k : Nat, Has P w K mg base (1 + k) "_law_alike" (C.R__law_alike k) false
  | 0 => (has_zero false F m b).mono (by omega)
  | k + 1 => by
    have h__law_alike := r__law_alike F m b z_bool z_int z_isinstance z_len z_list z_range z_str z_tuple k
    refine has_mk false F m b sc__law_alike fun _ _ _ _ _ _ hr => ?_
    show SSs _ _ (sSeq _ _)
    exact ss_cons (ss_if (et_val (ee_isi z_isinstance (ebs_cons (EB.of (ee_var 1)) (ebs_cons (EB.of (ee_tup (ea_cons (ee_ty z_tuple rfl) (ea_cons (ee_ty z_list rfl) ea_nil)))) ebs_nil))))   (ss_cons (ss_if (EW.et (ew_or (et_not (et_val (ee_isi z_isinstance (ebs_cons (EB.of (ee_var 0)) (ebs_cons (EB.of (ee_tup (ea_cons (ee_ty z_tuple rfl) (ea_cons (ee_ty z_list rfl) ea_nil)))) ebs_nil))))) (ew_or1 (et_cmp (op_neD (hu64 hr)) opd_ne (EB.of (ee_isi z_isinstance (ebs_cons (EB.of (ee_var 0)) (ebs_cons (EB.of (ee_ty z_list rfl)) ebs_nil)))) (EB.of (ee_isi z_isinstance (ebs_cons (EB.of (ee_var 1)) (ebs_cons (EB.of (ee_ty z_list rfl)) ebs_nil))))))))   (ss_one (ss_ret ee_bl))   ss_nil)   (ss_cons (ss_if (et_cmp (op_neD (hu64 hr)) opd_ne (EB.of (ee_len z_len (ebs_cons (EB.of (ee_var 0)) ebs_nil))) (EB.of (ee_len z_len (ebs_cons (EB.of (ee_var 1)) ebs_nil))))   (ss_one (ss_ret ee_bl))   ss_nil)   (ss_one (ss_ret (ee_cmp (op_eqD (hu64 hr)) opd_eq (EB.of (EE.ofF (ef_lc (own := [("_law_k", 2)]) sc__law_alike.nd (ei_rg1 z_range (ea_cons (ee_len z_len (ebs_cons (EB.of (ee_var 1)) ebs_nil)) ea_nil)) (blkOk_by (by kernel_rfl)) (fun _ _ _ _ _ => gg_name (i := 2) sc__law_alike.nd) (fun _ _ _ _ _ => ets_one (et_not (et_val (ee_fn h__law_alike hr (ea_cons (ee_sub (hu1 hr) (EB.of (ee_var 0)) (EB.of (ee_var 2))) (ea_cons (ee_sub (hu1 hr) (EB.of (ee_var 1)) (EB.of (ee_var 2))) ea_nil)) (hk := Nat.le_refl _))))) (fun _ _ _ _ _ => ee_var 2)))) (EB.of (EE.ofF (ef_lst ea_nil))))))))   ss_nil)   (ss_cons (ss_if (EW.et (ew_or (et_cmp op_isAll opd_is (EB.of (ee_var 1)) (EB.of ee_non)) (ew_or1 (et_val (ee_isi z_isinstance (ebs_cons (EB.of (ee_var 1)) (ebs_cons (EB.of (ee_ty z_str rfl)) ebs_nil)))))))   (ss_one (ss_ret (ee_and (ee_cmp (op_eqD (hu64 hr)) opd_eq (EB.of (ee_var 0)) (EB.of (ee_var 1))) (ee_one (ee_cmp (op_eqD (hu64 hr)) opd_eq (EB.of (ee_isi z_isinstance (ebs_cons (EB.of (ee_var 0)) (ebs_cons (EB.of (ee_ty z_str rfl)) ebs_nil)))) (EB.of (ee_isi z_isinstance (ebs_cons (EB.of (ee_var 1)) (ebs_cons (EB.of (ee_ty z_str rfl)) ebs_nil)))))))))   ss_nil)   (ss_one (ss_ret (ee_and (ee_isi z_isinstance (ebs_cons (EB.of (ee_var 0)) (ebs_cons (EB.of (ee_ty z_int rfl)) ebs_nil))) (ee_and (ee_cmp (op_eqD (hu64 hr)) opd_eq (EB.of (ee_isi z_isinstance (ebs_cons (EB.of (ee_var 0)) (ebs_cons (EB.of (ee_ty z_bool rfl)) ebs_nil)))) (EB.of (ee_isi z_isinstance (ebs_cons (EB.of (ee_var 1)) (ebs_cons (EB.of (ee_ty z_bool rfl)) ebs_nil))))) (ee_one (ee_cmp (op_eqD (hu64 hr)) opd_eq (EB.of (ee_var 0)) (EB.of (ee_var 1)))))))))
theorem h__law_alike {f : Addr} {fd : FuncData} (F : Fun K "_law_alike" "_law_alike" s__law_alike f fd) (m : mg "_law_alike" = some (.ref f)) (b : Binds K fd ["_law_found", "_law_due"] []) (z_bool : mg "bool" = none) (z_int : mg "int" = none) (z_isinstance : mg "isinstance" = none) (z_len : mg "len" = none) (z_list : mg "list" = none) (z_range : mg "range" = none) (z_str : mg "str" = none) (z_tuple : mg "tuple" = none) : Has P w K mg base 9 "_law_alike" C.F__law_alike false := r__law_alike F m b z_bool z_int z_isinstance z_len z_list z_range z_str z_tuple 8
abbrev s__law_mixed : Stmt := top 47
theorem sc__law_mixed : FnScope ["_law_row", "_law_some", "_law_left", "_law_found", "_law_step"] ["_law_row", "_law_some"] (defScope s__law_mixed) := ⟨rfl, rfl, rfl, by decide +kernel, rfl, by decide +kernel, by decide +kernel⟩
theorem h__law_mixed {f : Addr} {fd : FuncData} (F : Fun K "_law_mixed" "_law_mixed" s__law_mixed f fd) (m : mg "_law_mixed" = some (.ref f)) (b : Binds K fd ["_law_row", "_law_some"] []) (z_len : mg "len" = none) (z_list : mg "list" = none) (z_range : mg "range" = none) (h__law_taken : Has P w K mg base 1 "_law_taken" C.F__law_taken false) : Has P w K mg base 2 "_law_mixed" C.F__law_mixed false := has_mk false F m b sc__law_mixed fun _ _ _ _ _ _ hr =>
  ss_cons (ss_par (i := 2) (j := 3) sc__law_mixed.nd (ex_fr (ef_list z_list (ebs_cons (EB.of (ee_var 1)) ebs_nil)) (ex_fr (ef_lst ea_nil) ex_nil)))
  (ss_cons (ss_for (ei_rg1 z_range (ea_cons (ee_len z_len (ebs_cons (eb_any 2) ebs_nil)) ea_nil)) (gg_name (i := 4) sc__law_mixed.nd)
  (ss_one (ss_expr (ee_append (eb_any 3) (ee_popAt (eb_any 2) (ee_fn h__law_taken hr (ea_cons (ee_var 0) (ea_cons (ee_len z_len (ebs_cons (eb_any 2) ebs_nil)) ea_nil))))))))
  (ss_one (ss_frz 3 (ss_ret (ee_var 3)))))
abbrev s__law_stroke : Stmt := top 48
theorem sc__law_stroke : FnScope ["_law_picture", "_law_line", "_law_at", "_law_told"] ["_law_picture", "_law_line"] (defScope s__law_stroke) := ⟨rfl, rfl, rfl, by decide +kernel, rfl, by decide +kernel, by decide +kernel⟩
theorem h__law_stroke {f : Addr} {fd : FuncData} (F : Fun K "_law_stroke" "_law_stroke" s__law_stroke f fd) (m : mg "_law_stroke" = some (.ref f)) (b : Binds K fd ["_law_picture", "_law_line"] []) (z_len : mg "len" = none) (z_tuple : mg "tuple" = none) : Has P w K mg base 1 "_law_stroke" C.F__law_stroke false := has_mk false F m b sc__law_stroke fun _ _ _ _ _ _ hr =>
  ss_cons (ss_if (et_cmp op_lt (opd_cmpI _) (EB.of (ee_var 1)) (EB.of (ee_len z_len (ebs_cons (EB.of (ee_var 0)) ebs_nil))))
  (ss_one (ss_ret (ee_op op_addAll opd_add (EB.of (ee_op op_addAll opd_add (EB.of (ee_sl (EB.of (ee_var 0)) eo_none (eo_some (ee_var 1)))) (EB.of (ee_tup (ea_cons (ee_op op_mulAll opd_mul (EB.of ee_str) (EB.of (ee_len z_len (ebs_cons (EB.of (ee_sub (hu1 hr) (EB.of (ee_var 0)) (EB.of ee_int))) ebs_nil)))) ea_nil))))) (EB.of (ee_sl (EB.of (ee_var 0)) (eo_some (ee_op op_addAll opd_add (EB.of (ee_var 1)) (EB.of ee_int))) eo_none)))))
  ss_nil)
  (ss_cons (ss_set (i := 2) sc__law_stroke.nd (ee_op op_sub opd_sub (EB.of (ee_var 1)) (EB.of (ee_len z_len (ebs_cons (EB.of (ee_var 0)) ebs_nil)))))
  (ss_one (ss_ret (ee_tuple z_tuple (ebs_cons (EB.of (EE.ofF (ef_lc (own := [("_law_told", 3)]) sc__law_stroke.nd (ei_val (ee_var 0)) (blkOk_by (by kernel_rfl)) (fun _ _ _ _ _ => gg_name (i := 3) sc__law_stroke.nd) (fun _ _ _ _ _ => ets_nil) (fun _ _ _ _ _ => ee_op op_addAll opd_add (EB.of (ee_op op_addAll opd_add (EB.of (ee_sl (EB.of (ee_var 3)) eo_none (eo_some (ee_var 2)))) (EB.of ee_str))) (EB.of (ee_sl (EB.of (ee_var 3)) (eo_some (ee_op op_addAll opd_add (EB.of (ee_var 2)) (EB.of ee_int))) eo_none)))))) ebs_nil)))))
abbrev s__law_strokes : Stmt := top 49
theorem sc__law_strokes : FnScope ["_law_picture", "_law_lines", "_law_line"] ["_law_picture", "_law_lines"] (defScope s__law_strokes) := ⟨rfl, rfl, rfl, by decide +kernel, rfl, by decide +kernel, by decide +kernel⟩
theorem h__law_strokes {f : Addr} {fd : FuncData} (F : Fun K "_law_strokes" "_law_strokes" s__law_strokes f fd) (m : mg "_law_strokes" = some (.ref f)) (b : Binds K fd ["_law_picture", "_law_lines"] []) (h__law_stroke : Has P w K mg base 1 "_law_stroke" C.F__law_stroke false) : Has P w K mg base 2 "_law_strokes" C.F__law_strokes false := has_mk false F m b sc__law_strokes fun _ _ _ _ _ _ hr =>
  ss_cons (ss_for (ei_val (ee_var 1)) (gg_name (i := 2) sc__law_strokes.nd)
  (ss_one (ss_set (i := 0) sc__law_strokes.nd (ee_fn h__law_stroke hr (ea_cons (ee_var 0) (ea_cons (ee_var 2) ea_nil))))))
  (ss_one (ss_ret (ee_var 0)))
abbrev s__law_common : Stmt := top 50
theorem sc__law_common : FnScope ["_law_one", "_law_other"] ["_law_one", "_law_other"] (defScope s__law_common) := ⟨rfl, rfl, rfl, by decide +kernel, rfl, by decide +kernel, by decide +kernel⟩
theorem h__law_common {f : Addr} {fd : FuncData} (F : Fun K "_law_common" "_law_common" s__law_common f fd) (m : mg "_law_common" = some (.ref f)) (b : Binds K fd ["_law_one", "_law_other"] []) (z_abs : mg "abs" = none) : Has P w K mg base 1 "_law_common" C.F__law_common false := has_mk false F m b sc__law_common fun _ _ _ _ _ _ hr =>
  ss_cons (ss_par (i := 0) (j := 1) sc__law_common.nd (ex_pl (ee_abs z_abs (ebs_cons (EB.of (ee_var 0)) ebs_nil)) (ex_pl (ee_abs z_abs (ebs_cons (EB.of (ee_var 1)) ebs_nil)) ex_nil)))
  (ss_cons (ss_while (et_cmp (op_neD (hu64 hr)) opd_ne (EB.of (ee_var 1)) (EB.of ee_int))
  (ss_one (ss_par (i := 0) (j := 1) sc__law_common.nd (ex_pl (ee_var 1) (ex_pl (ee_op op_sub opd_sub (EB.of (ee_var 0)) (EB.of (ee_op op_mulAll opd_mul (EB.of (ee_var 1)) (EB.of (ee_op op_fdivW opd_div (EB.of (ee_var 0)) (EB.of (ee_var 1))))))) ex_nil)))))
  (ss_one (ss_ret (ee_var 0))))
abbrev s__law_share : Stmt := top 51
theorem sc__law_share : FnScope ["_law_above", "_law_low", "_law_shared"] ["_law_above", "_law_low"] (defScope s__law_share) := ⟨rfl, rfl, rfl, by decide +kernel, rfl, by decide +kernel, by decide +kernel⟩
theorem h__law_share {f : Addr} {fd : FuncData} (F : Fun K "_law_share" "_law_share" s__law_share f fd) (m : mg "_law_share" = some (.ref f)) (b : Binds K fd ["_law_above", "_law_low"] []) (h__law_common : Has P w K mg base 1 "_law_common" C.F__law_common false) : Has P w K mg base 2 "_law_share" C.F__law_share false := has_mk false F m b sc__law_share fun _ _ _ _ _ _ hr =>
  ss_cons (ss_set (i := 2) sc__law_share.nd (ee_fn h__law_common hr (ea_cons (ee_var 0) (ea_cons (ee_var 1) ea_nil))))
  (ss_one (ss_ret (ee_tup (ea_cons (ee_op op_fdivW opd_div (EB.of (ee_var 0)) (EB.of (ee_var 2))) (ea_cons (ee_op op_fdivW opd_div (EB.of (ee_var 1)) (EB.of (ee_var 2))) ea_nil)))))
abbrev s__law_plus : Stmt := top 52
theorem sc__law_plus : FnScope ["_law_one", "_law_other"] ["_law_one", "_law_other"] (defScope s__law_plus) := ⟨rfl, rfl, rfl, by decide +kernel, rfl, by decide +kernel, by decide +kernel⟩
theorem h__law_plus {f : Addr} {fd : FuncData} (F : Fun K "_law_plus" "_law_plus" s__law_plus f fd) (m : mg "_law_plus" = some (.ref f)) (b : Binds K fd ["_law_one", "_law_other"] []) (h__law_share : Has P w K mg base 2 "_law_share" C.F__law_share false) : Has P w K mg base 3 "_law_plus" C.F__law_plus false := has_mk false F m b sc__law_plus fun _ _ _ _ _ _ hr =>
  ss_one (ss_ret (ee_fn h__law_share hr (ea_cons (ee_op op_addAll opd_add (EB.of (ee_op op_mulAll opd_mul (EB.of (ee_sub (hu1 hr) (EB.of (ee_var 0)) (EB.of ee_int))) (EB.of (ee_sub (hu1 hr) (EB.of (ee_var 1)) (EB.of ee_int))))) (EB.of (ee_op op_mulAll opd_mul (EB.of (ee_sub (hu1 hr) (EB.of (ee_var 1)) (EB.of ee_int))) (EB.of (ee_sub (hu1 hr) (EB.of (ee_var 0)) (EB.of ee_int)))))) (ea_cons (ee_op op_mulAll opd_mul (EB.of (ee_sub (hu1 hr) (EB.of (ee_var 0)) (EB.of ee_int))) (EB.of (ee_sub (hu1 hr) (EB.of (ee_var 1)) (EB.of ee_int)))) ea_nil))))
abbrev s__law_fact : Stmt := top 53
theorem sc__law_fact : FnScope ["_law_many", "_law_found", "_law_one"] ["_law_many"] (defScope s__law_fact) := ⟨rfl, rfl, rfl, by decide +kernel, rfl, by decide +kernel, by decide +kernel⟩
theorem h__law_fact {f : Addr} {fd : FuncData} (F : Fun K "_law_fact" "_law_fact" s__law_fact f fd) (m : mg "_law_fact" = some (.ref f)) (b : Binds K fd ["_law_many"] []) (z_range : mg "range" = none) : Has P w K mg base 1 "_law_fact" C.F__law_fact false := has_mk false F m b sc__law_fact fun _ _ _ _ _ _ hr =>
  ss_cons (ss_set (i := 1) sc__law_fact.nd ee_int)
  (ss_cons (ss_for (ei_rg2 z_range (ea_cons ee_int (ea_cons (ee_op op_addAll opd_add (EB.of (ee_var 0)) (EB.of ee_int)) ea_nil))) (gg_name (i := 2) sc__law_fact.nd)
  (ss_one (ss_set (i := 1) sc__law_fact.nd (ee_op op_mulAll opd_mul (EB.of (ee_var 1)) (EB.of (ee_var 2))))))
  (ss_one (ss_ret (ee_var 1))))
abbrev s_law : Stmt := top 54
theorem sc_law : FnScope ["_law_script", "_law_row", "_law_high", "_law_wide", "_law_weight", "_law_size", "_law_weights", "_law_order", "_law_goal", "_law_sizes", "_law_rows", "_law_columns", "_law_step", "_law_full", "_law_empty", "_law_ways", "_law_some", "_law_down", "_law_side", "_law_one", "_law_other", "_law_due", "_law_cells", "_law_pairs", "_law_square", "_law_at", "_law_spot"] ["_law_script"] (defScope s_law) := ⟨rfl, rfl, rfl, by decide +kernel, rfl, by decide +kernel, by decide +kernel⟩
theorem g_law {f : Addr} {fd : FuncData} (F : Fun K "law" "law" s_law f fd) (z_len : mg "len" = none) (z_list : mg "list" = none) (z_range : mg "range" = none) (z_sum : mg "sum" = none) (z_tuple : mg "tuple" = none) (h__law_alike : Has P w K mg base 9 "_law_alike" C.F__law_alike false) (h__law_fact : Has P w K mg base 1 "_law_fact" C.F__law_fact false) (h__law_mixed : Has P w K mg base 2 "_law_mixed" C.F__law_mixed false) (h__law_plus : Has P w K mg base 3 "_law_plus" C.F__law_plus false) (h__law_share : Has P w K mg base 2 "_law_share" C.F__law_share false) (h__law_strokes : Has P w K mg base 2 "_law_strokes" C.F__law_strokes false) (h__law_taken : Has P w K mg base 1 "_law_taken" C.F__law_taken false) (h_ahead : Has P w K mg base 6 "ahead" C.F_ahead false) (h_both_share : Has P w K mg base 6 "both_share" C.F_both_share false) (h_cell_share : Has P w K mg base 6 "cell_share" C.F_cell_share false) (h_is_free : Has P w K mg base 2 "is_free" C.F_is_free false) (h_long_share : Has P w K mg base 6 "long_share" C.F_long_share false) (h_mean_black : Has P w K mg base 6 "mean_black" C.F_mean_black false) (h_part_share : Has P w K mg base 6 "part_share" C.F_part_share false) (h_variance_black : Has P w K mg base 6 "variance_black" C.F_variance_black false) : FnOk P w K mg base CX0 10 f fd ["_law_script"] (spD K mg C.F_law_K16 false) := fn_ok F sc_law fun _ _ _ _ _ _ hr =>
  ss_cons (ss_setOb (i := 1) sc_law.nd (ef_lst (ea_cons (ee_var 0) (ea_cons ee_int (ea_cons ee_int (ea_cons ee_int ea_nil))))))
  (ss_cons (ss_par (i := 2) (j := 3) sc_law.nd (ex_pl (ee_op op_addAll opd_add (EB.of ee_int) (EB.of (ee_fn h__law_taken hr (ea_cons (ee_var 1) (ea_cons ee_int ea_nil))))) (ex_pl (ee_op op_addAll opd_add (EB.of ee_int) (EB.of (ee_fn h__law_taken hr (ea_cons (ee_var 1) (ea_cons ee_int ea_nil))))) ex_nil)))
  (ss_cons (ss_par (i := 4) (j := 5) sc_law.nd (ex_pl (ee_op op_addAll opd_add (EB.of ee_int) (EB.of (ee_fn h__law_taken hr (ea_cons (ee_var 1) (ea_cons ee_int ea_nil))))) (ex_pl (ee_op op_addAll opd_add (EB.of (ee_var 2)) (EB.of (ee_var 3))) ex_nil)))
  (ss_cons (ss_set (i := 6) sc_law.nd (ee_op op_mulAll opd_mul (EB.of (ee_tup (ea_cons (ee_var 4) ea_nil))) (EB.of (ee_var 5))))
  (ss_cons (ss_set (i := 7) sc_law.nd (ee_fn h__law_mixed hr (ea_cons (ee_var 1) (ea_cons (EE.ofF (ef_lrg z_list (er_1 z_range (ee_var 5)))) ea_nil))))
  (ss_cons (ss_set (i := 8) sc_law.nd (ee_fn h__law_strokes hr (ea_cons (ee_op op_mulAll opd_mul (EB.of (ee_tup (ea_cons (ee_op op_mulAll opd_mul (EB.of ee_str) (EB.of (ee_var 3))) ea_nil))) (EB.of (ee_var 2))) (ea_cons (ee_var 7) ea_nil))))
  (ss_cons (ss_setF (i := 9) sc_law.nd (ef_lst ea_nil))
  (ss_cons (ss_asgT (is := [10, 11]) (ex_pl (EE.ofF (ef_lrg z_list (er_1 z_range (ee_var 2)))) (ex_pl (EE.ofF (ef_lrg z_list (er_1 z_range (ee_var 3)))) ex_nil)) (pgn_cons (i := 10) sc_law.nd (pgn_cons (i := 11) sc_law.nd pgn_nil)))
  (ss_cons (ss_for (ei_rg1 z_range (ea_cons (ee_var 5) ea_nil)) (gg_name (i := 12) sc_law.nd)
  (ss_cons (ss_set (i := 13) sc_law.nd (EE.ofF (ef_lc (own := [("_law_at", 25)]) sc_law.nd (ei_val (ee_var 10)) (blkOk_by (by kernel_rfl)) (fun _ _ _ _ _ => gg_name (i := 25) sc_law.nd) (fun _ _ _ _ _ => ets_one (et_cmp (op_eqD (hu64 hr)) opd_eq (EB.of (EE.ofF (ef_lc (own := [("_law_spot", 26)]) sc_law.nd (ei_val (ee_var 11)) (blkOk_by (by kernel_rfl)) (fun _ _ _ _ _ => gg_name (i := 26) sc_law.nd) (fun _ _ _ _ _ => ets_one (et_cmp (op_eqD (hu64 hr)) opd_eq (EB.of (ee_sub (hu1 hr) (EB.of (ee_sub (hu1 hr) (EB.of (ee_var 8)) (EB.of (ee_var 25)))) (EB.of (ee_var 26)))) (EB.of ee_str))) (fun _ _ _ _ _ => ee_var 26)))) (EB.of (EE.ofF (ef_lst ea_nil))))) (fun _ _ _ _ _ => ee_var 25))))
  (ss_cons (ss_set (i := 14) sc_law.nd (EE.ofF (ef_lc (own := [("_law_spot", 26)]) sc_law.nd (ei_val (ee_var 11)) (blkOk_by (by kernel_rfl)) (fun _ _ _ _ _ => gg_name (i := 26) sc_law.nd) (fun _ _ _ _ _ => ets_one (et_cmp (op_eqD (hu64 hr)) opd_eq (EB.of (EE.ofF (ef_lc (own := [("_law_at", 25)]) sc_law.nd (ei_val (ee_var 10)) (blkOk_by (by kernel_rfl)) (fun _ _ _ _ _ => gg_name (i := 25) sc_law.nd) (fun _ _ _ _ _ => ets_one (et_cmp (op_eqD (hu64 hr)) opd_eq (EB.of (ee_sub (hu1 hr) (EB.of (ee_sub (hu1 hr) (EB.of (ee_var 8)) (EB.of (ee_var 25)))) (EB.of (ee_var 26)))) (EB.of ee_str))) (fun _ _ _ _ _ => ee_var 25)))) (EB.of (EE.ofF (ef_lst ea_nil))))) (fun _ _ _ _ _ => ee_var 26))))
  (ss_one (ss_if (EW.et (ew_and (et_cmp (op_neD (hu64 hr)) opd_ne (EB.of (ee_var 10)) (EB.of (EE.ofF (ef_lst ea_nil)))) (ew_and1 (et_cmp (op_neD (hu64 hr)) opd_ne (EB.of (ee_var 13)) (EB.of (EE.ofF (ef_lst ea_nil)))))))
  (ss_cons (ss_expr (ee_append (eb_any 9) (ee_len z_len (ebs_cons (EB.of (ee_var 13)) ebs_nil))))
  (ss_one (ss_set (i := 10) sc_law.nd (EE.ofF (ef_lc (own := [("_law_at", 25)]) sc_law.nd (ei_val (ee_var 10)) (blkOk_by (by kernel_rfl)) (fun _ _ _ _ _ => gg_name (i := 25) sc_law.nd) (fun _ _ _ _ _ => ets_one (et_notIn (hu65 hr) (EB.of (ee_var 25)) (EB.of (ee_var 13)))) (fun _ _ _ _ _ => ee_var 25))))))
  (ss_one (ss_if (EW.et (ew_and (et_cmp (op_neD (hu64 hr)) opd_ne (EB.of (ee_var 11)) (EB.of (EE.ofF (ef_lst ea_nil)))) (ew_and1 (et_cmp (op_neD (hu64 hr)) opd_ne (EB.of (ee_var 14)) (EB.of (EE.ofF (ef_lst ea_nil)))))))
  (ss_cons (ss_expr (ee_append (eb_any 9) (ee_len z_len (ebs_cons (EB.of (ee_var 14)) ebs_nil))))
  (ss_one (ss_set (i := 11) sc_law.nd (EE.ofF (ef_lc (own := [("_law_spot", 26)]) sc_law.nd (ei_val (ee_var 11)) (blkOk_by (by kernel_rfl)) (fun _ _ _ _ _ => gg_name (i := 26) sc_law.nd) (fun _ _ _ _ _ => ets_one (et_notIn (hu65 hr) (EB.of (ee_var 26)) (EB.of (ee_var 14)))) (fun _ _ _ _ _ => ee_var 26))))))
  ss_nil)))))))
  (ss_cons (ss_set (i := 15) sc_law.nd ee_int)
  (ss_cons (ss_frz 9 (ss_for (ei_val (ee_var 9)) (gg_name (i := 16) sc_law.nd)
  (ss_one (ss_set (i := 15) sc_law.nd (ee_op op_mulAll opd_mul (EB.of (ee_var 15)) (EB.of (ee_fn h__law_fact hr (ea_cons (ee_var 16) ea_nil))))))))
  (ss_cons (ss_if (EW.et (ew_or (et_cmp (op_neD (hu64 hr)) opd_ne (EB.of (ee_sum z_sum (ebs_cons (eb_any 9) ebs_nil))) (EB.of (ee_var 5))) (ew_or1 (et_cmp op_isnotAll opd_isnot (EB.of (ee_fn h_is_free hr (ea_cons (ee_var 8) ea_nil))) (EB.of ee_bl)))))
  (ss_one (ss_ret ee_bl))
  ss_nil)
  (ss_cons (ss_if (et_not (et_val (ee_fn h__law_alike hr (ea_cons (ee_fn h_long_share hr (ea_cons (ee_var 2) (ea_cons (ee_var 3) (ea_cons (ee_var 6) (ea_cons (ee_var 8) ea_nil))))) (ea_cons (ee_fn h__law_share hr (ea_cons (ee_var 15) (ea_cons (ee_fn h__law_fact hr (ea_cons (ee_var 5) ea_nil)) ea_nil))) ea_nil)))))
  (ss_one (ss_ret ee_bl))
  ss_nil)
  (ss_cons (ss_par (i := 17) (j := 18) sc_law.nd (ex_pl (ee_op op_addAll opd_add (EB.of ee_int) (EB.of (ee_fn h__law_taken hr (ea_cons (ee_var 1) (ea_cons (ee_var 2) ea_nil))))) (ex_pl (ee_op op_addAll opd_add (EB.of ee_int) (EB.of (ee_fn h__law_taken hr (ea_cons (ee_var 1) (ea_cons (ee_var 3) ea_nil))))) ex_nil)))
  (ss_cons (ss_par (i := 19) (j := 20) sc_law.nd (ex_pl (ee_trg z_tuple (er_1 z_range (ee_var 17))) (ex_pl (ee_trg z_tuple (er_2 z_range (ee_var 2) (ee_op op_addAll opd_add (EB.of (ee_var 2)) (EB.of (ee_var 18))))) ex_nil)))
  (ss_cons (ss_set (i := 21) sc_law.nd (ee_fn h__law_share hr (ea_cons (ee_op op_mulAll opd_mul (EB.of (ee_fn h__law_fact hr (ea_cons (ee_var 17) ea_nil))) (EB.of (ee_fn h__law_fact hr (ea_cons (ee_var 18) ea_nil)))) (ea_cons (ee_fn h__law_fact hr (ea_cons (ee_op op_addAll opd_add (EB.of (ee_var 17)) (EB.of (ee_var 18))) ea_nil)) ea_nil))))
  (ss_cons (ss_if (et_cmp (op_neD (hu64 hr)) opd_ne (EB.of (ee_fn h_ahead hr (ea_cons (ee_var 2) (ea_cons (ee_var 3) (ea_cons (ee_var 6) (ea_cons (ee_var 19) (ea_cons (ee_var 20) ea_nil))))))) (EB.of (ee_var 21)))
  (ss_one (ss_ret ee_bl))
  ss_nil)
  (ss_cons (ss_if (et_cmp (op_neD (hu64 hr)) opd_ne (EB.of (ee_fn h_part_share hr (ea_cons (ee_var 2) (ea_cons (ee_var 3) (ea_cons (ee_var 6) (ea_cons (ee_var 19) (ea_cons (ee_var 20) ea_nil))))))) (EB.of (ee_tup (ea_cons (ee_var 21) (ea_cons (ee_var 21) ea_nil)))))
  (ss_one (ss_ret ee_bl))
  ss_nil)
  (ss_cons (ss_if (et_cmp (op_neD (hu64 hr)) opd_ne (EB.of (ee_fn h_cell_share hr (ea_cons (ee_var 2) (ea_cons (ee_var 3) (ea_cons (ee_var 6) (ea_cons (ee_tup (ea_cons ee_int (ea_cons ee_int ea_nil))) ea_nil)))))) (EB.of (ee_tup (ea_cons ee_int (ea_cons ee_int ea_nil)))))
  (ss_one (ss_ret ee_bl))
  ss_nil)
  (ss_cons (ss_if (et_cmp (op_neD (hu64 hr)) opd_ne (EB.of (ee_fn h_mean_black hr (ea_cons (ee_var 2) (ea_cons (ee_var 3) (ea_cons (ee_var 6) ea_nil))))) (EB.of (ee_fn h__law_share hr (ea_cons (ee_op op_mulAll opd_mul (EB.of (ee_var 2)) (EB.of (ee_var 3))) (ea_cons ee_int ea_nil)))))
  (ss_one (ss_ret ee_bl))
  ss_nil)
  (ss_cons (ss_if (EW.et (ew_and (et_cmp op_gt (opd_cmpI _) (EB.of (ee_var 2)) (EB.of ee_int)) (ew_and (et_cmp op_gt (opd_cmpI _) (EB.of (ee_var 3)) (EB.of ee_int)) (ew_and1 (et_cmp (op_neD (hu64 hr)) opd_ne (EB.of (ee_fn h_both_share hr (ea_cons (ee_var 2) (ea_cons (ee_var 3) (ea_cons (ee_var 6) (ea_cons (ee_tup (ea_cons ee_int (ea_cons ee_int ea_nil))) (ea_cons (ee_tup (ea_cons ee_int (ea_cons ee_int ea_nil))) ea_nil))))))) (EB.of (ee_tup (ea_cons ee_int (ea_cons ee_int ea_nil)))))))))
  (ss_one (ss_ret ee_bl))
  ss_nil)
  (ss_cons (ss_set (i := 22) sc_law.nd (ee_op op_mulAll opd_mul (EB.of (ee_var 2)) (EB.of (ee_var 3))))
  (ss_cons (ss_set (i := 23) sc_law.nd (ee_op op_addAll opd_add (EB.of (ee_op op_mulAll opd_mul (EB.of (ee_var 22)) (EB.of (ee_op op_sub opd_sub (EB.of (ee_var 3)) (EB.of ee_int))))) (EB.of (ee_op op_mulAll opd_mul (EB.of (ee_var 22)) (EB.of (ee_op op_sub opd_sub (EB.of (ee_var 2)) (EB.of ee_int)))))))
  (ss_cons (ss_set (i := 24) sc_law.nd (ee_fn h__law_plus hr (ea_cons (ee_fn h__law_share hr (ea_cons (ee_var 22) (ea_cons ee_int ea_nil))) (ea_cons (ee_fn h__law_plus hr (ea_cons (ee_fn h__law_share hr (ea_cons (ee_var 23) (ea_cons ee_int ea_nil))) (ea_cons (ee_fn h__law_share hr (ea_cons (ee_op op_sub opd_sub (EB.of (ee_op op_sub opd_sub (EB.of (ee_op op_mulAll opd_mul (EB.of (ee_var 22)) (EB.of (ee_var 22)))) (EB.of (ee_var 22)))) (EB.of (ee_var 23))) (ea_cons ee_int ea_nil))) ea_nil))) ea_nil))))
  (ss_one (ss_ret (ee_cmp (op_eqD (hu64 hr)) opd_eq (EB.of (ee_fn h_variance_black hr (ea_cons (ee_var 2) (ea_cons (ee_var 3) (ea_cons (ee_var 6) ea_nil))))) (EB.of (ee_fn h__law_plus hr (ea_cons (ee_var 24) (ea_cons (ee_fn h__law_share hr (ea_cons (ee_op op_sub opd_sub (EB.of ee_int) (EB.of (ee_op op_mulAll opd_mul (EB.of (ee_var 22)) (EB.of (ee_var 22))))) (ea_cons ee_int ea_nil))) ea_nil))))))))))))))))))))))))))))))
end K16
namespace PD
open PySem PySem.Spec PyProof.Rows L2

/-! ### what the combinators come to -/
section
variable {α β : Type} {m m' : M}
@[simp] theorem ret_ap (a : α) (m : M) : Co.ret a m = .ok a m := rfl
@[simp] theorem bind_ap (c : Co α) (k : α → Co β) (m : M) : Co.bind c k m = match c m with
  | .ok a m' => k a m'
  | .no => .no := rfl
@[simp] theorem lift_some (a : α) (m : M) : Co.lift (some a) m = .ok a m := by unfold Co.lift; exact Eq.refl _
@[simp] theorem lift_none (m : M) : (Co.lift none : Co α) m = .no := by unfold Co.lift; exact Eq.refl _
@[simp] theorem vPl_ap (i : Nat) (e : List Slot) (o : List (List D)) : vPl i ⟨e, o⟩ = match e[i]? with
  | some (.pl d) => .ok d ⟨e, o⟩
  | _ => .no := rfl
@[simp] theorem vAny_ap (i : Nat) (e : List Slot) (o : List (List D)) : vAny i ⟨e, o⟩ = match e[i]? with
  | some (.ow _) => .ok (.slot i) ⟨e, o⟩
  | some (.pl d) => .ok (.val d) ⟨e, o⟩
  | _ => .no := rfl
@[simp] theorem get_slot (i : Nat) (e : List Slot) (o : List (List D)) : Opd.get ⟨e, o⟩ (.slot i) = match e[i]? with
  | some (.ow d) => some d
  | _ => none := rfl
@[simp] theorem get_int (m : M) (i : Int) : Opd.get m (.val (.int i)) = some (.int i) := rfl
@[simp] theorem get_bl (m : M) (i : Bool) : Opd.get m (.val (.bl i)) = some (.bl i) := rfl
@[simp] theorem get_non (m : M) : Opd.get m (.val .non) = some .non := rfl
@[simp] theorem get_str (m : M) (i : Str) : Opd.get m (.val (.str i)) = some (.str i) := rfl
@[simp] theorem get_tup (m : M) (i : List D) : Opd.get m (.val (.tup i)) = some (.tup i) := rfl
@[simp] theorem get_lst (m : M) (i : List D) : Opd.get m (.val (.lst i)) = some (.lst i) := rfl
@[simp] theorem get_dk (m : M) (i : List (Key × D)) : Opd.get m (.val (.dk i)) = some (.dk i) := rfl
@[simp] theorem get_dt (m : M) (i : List (List Key × D)) : Opd.get m (.val (.dt i)) = some (.dt i) := rfl
@[simp] theorem get_scr (m : M) (i : List Int) : Opd.get m (.val (.scr i)) = some (.scr i) := rfl
@[simp] theorem get_ty (m : M) (i : String) : Opd.get m (.val (.ty i)) = some (.ty i) := rfl
@[simp] theorem get_obj (m : M) (n : Nat) : Opd.get m (.val (.obj n)) = (m.obs[n]?).map D.lst := rfl
@[simp] theorem vB_ap (f : Co D) (m : M) : vB f m = (Co.bind f fun d => Co.ret (.val d)) m := rfl
@[simp] theorem eOp_ap (g : D → D → Option D) (a b : Co Opd) (m : M) : eOp g a b m = (Co.bind a fun o1 => Co.bind b fun o2 => Opd2 g o1 o2) m := rfl
@[simp] theorem Opd2_ap (g : D → D → Option D) (o1 o2 : Opd) (m : M) : Opd2 g o1 o2 m = match o1.get m with
  | some d1 => match o2.get m with
    | some d2 => match g d1 d2 with
      | some d => .ok d m
      | none => .no
    | none => .no
  | none => .no := rfl
@[simp] theorem Opd1_ap (g : D → Option D) (o1 : Opd) (m : M) : Opd1 g o1 m = match o1.get m with
  | some d1 => match g d1 with
    | some d => .ok d m
    | none => .no
  | none => .no := rfl
@[simp] theorem eOp1_ap (g : D → Option D) (a : Co Opd) (m : M) : eOp1 g a m = (Co.bind a fun o1 => Opd1 g o1) m := rfl
@[simp] theorem un1_ap (g : D → Option D) (f : Co D) (m : M) : un1 g f m = (Co.bind f fun d m => match g d with
  | some r => .ok r m
  | none => .no) m := rfl
@[simp] theorem toB_bl (b : Bool) (m : M) : toB (.bl b) m = .ok b m := rfl
@[simp] theorem tB_ap (f : Co D) (m : M) : tB' f m = (Co.bind f toB) m := rfl
@[simp] theorem tAnd_ap (t u : Co Bool) (m : M) : tAnd' t u m = (Co.bind t fun c => if c = true then u else Co.ret false) m := rfl
@[simp] theorem tOr_ap (t u : Co Bool) (m : M) : tOr' t u m = (Co.bind t fun c => if c = true then Co.ret true else u) m := rfl
@[simp] theorem tNot_ap (t : Co Bool) (m : M) : tNot' t m = (Co.bind t fun c => Co.ret !c) m := rfl
@[simp] theorem eCons_ap (f : Co D) (fs : Co (List D)) (m : M) : eCons f fs m = (Co.bind f fun d => Co.bind fs fun ds => Co.ret (d :: ds)) m := rfl
@[simp] theorem bCons_ap (f : Co Opd) (fs : Co (List Opd)) (m : M) : bCons f fs m = (Co.bind f fun d => Co.bind fs fun ds => Co.ret (d :: ds)) m := rfl
@[simp] theorem getAll_nil (m : M) : Opd.getAll m [] = some [] := rfl
@[simp] theorem getAll_cons (m : M) (o : Opd) (os : List Opd) : Opd.getAll m (o :: os) = match o.get m with
  | some d => match Opd.getAll m os with
    | some ds => some (d :: ds)
    | none => none
  | none => none := rfl
@[simp] theorem eCall_ap (g : List D → Option D) (gs : Co (List Opd)) (m : M) : eCall g gs m = (Co.bind gs fun os m => match Opd.getAll m os with
  | some ds => match g ds with
    | some d => .ok d m
    | none => .no
  | none => .no) m := rfl
@[simp] theorem eFn_ap (F : Fd) (fs : Co (List D)) (m : M) : eFn F fs m = (Co.bind fs fun ds m => match F ds m.obs with
  | some (r, obs') => .ok r { m with obs := obs' }
  | none => .no) m := rfl
@[simp] theorem eTup_ap (fs : Co (List D)) (m : M) : eTup fs m = (Co.bind fs fun ds m => if ds.length ≤ sizeLine then .ok (.tup ds) m else .no) m := rfl
@[simp] theorem eLst_ap (fs : Co (List D)) (m : M) : eLst fs m = (Co.bind fs fun ds m => if ds.length ≤ sizeLine then .ok (.lst ds) m else .no) m := rfl
@[simp] theorem sSeq_ap (f g : Co Flow') (m : M) : sSeq f g m = (Co.bind f fun fl => match fl with
  | .nx => g
  | fl => Co.ret fl) m := rfl
@[simp] theorem sNext_ap (m : M) : sNext m = .ok .nx m := rfl
@[simp] theorem sIf_ap (t : Co Bool) (f g : Co Flow') (m : M) : sIf t f g m = (Co.bind t fun c => if c = true then f else g) m := rfl
@[simp] theorem sRet_ap (f : Co D) (m : M) : sRet f m = (Co.bind f fun d => Co.ret (.rt d)) m := rfl
@[simp] theorem sExpr_ap (f : Co D) (m : M) : sExpr f m = (Co.bind f fun _ => Co.ret .nx) m := rfl
@[simp] theorem sNo_ap (m : M) : sNo m = .no := rfl
@[simp] theorem sSet_ap (i : Nat) (f : Co D) (m : M) : sSet i f m = (Co.bind f fun d m => .ok .nx { m with env := m.env.set i (.pl d) }) m := rfl
@[simp] theorem sSetF_ap (i : Nat) (f : Co D) (m : M) : sSetF i f m = (Co.bind f fun d m => if i < m.env.length then .ok .nx { m with env := m.env.set i (.ow d) } else .no) m := rfl
@[simp] theorem sFrz_ap (i : Nat) (g : Co Flow') (e : List Slot) (o : List (List D)) : sFrz i g ⟨e, o⟩ = match e[i]? with
  | some (.ow d) => g ⟨e.set i (.pl d), o⟩
  | _ => g ⟨e, o⟩ := rfl
@[simp] theorem xNil_ap (m : M) : xNil m = .ok [] m := rfl
@[simp] theorem xPl_ap (f : Co D) (fs : Co (List (Bool × D))) (m : M) : xPl f fs m = (Co.bind f fun d => Co.bind fs fun ds => Co.ret ((false, d) :: ds)) m := rfl
@[simp] theorem xFr_ap (f : Co D) (fs : Co (List (Bool × D))) (m : M) : xFr f fs m = (Co.bind f fun d => Co.bind fs fun ds => Co.ret ((true, d) :: ds)) m := rfl
@[simp] theorem sAsg_ap (is : List Nat) (f : Co (List (Bool × D))) (m : M) : sAsg is f m = (Co.bind f fun ls m => match setEnv m.env is ls with
  | some env => .ok .nx { m with env := env }
  | none => .no) m := rfl
@[simp] theorem setEnv_nil (e : List Slot) : setEnv e [] [] = some e := rfl
@[simp] theorem setEnv_pl (e : List Slot) (i : Nat) (is : List Nat) (d : D) (ls : List (Bool × D)) : setEnv e (i :: is) ((false, d) :: ls) = if i < e.length then setEnv (e.set i (.pl d)) is ls else none := rfl
@[simp] theorem setEnv_ow (e : List Slot) (i : Nat) (is : List Nat) (d : D) (ls : List (Bool × D)) : setEnv e (i :: is) ((true, d) :: ls) = if i < e.length then setEnv (e.set i (.ow d)) is ls else none := rfl
end
/-! ### operations on data -/
@[simp] theorem addD_int (i j : Int) : addD (.int i) (.int j) = some (.int (i + j)) := rfl
@[simp] theorem subD_int (i j : Int) : subD (.int i) (.int j) = some (.int (i - j)) := rfl
@[simp] theorem mulD_int (i j : Int) : mulD (.int i) (.int j) = if CMulW i j then some (.int (i * j)) else none := rfl
@[simp] theorem divD_int (i j : Int) : divD (.int i) (.int j) = if CDivW i j then some (.int (i / j)) else none := rfl
@[simp] theorem modD_int (i j : Int) : modD (.int i) (.int j) = if 0 < j then some (.int (i % j)) else none := rfl
@[simp] theorem cmpI_int (p : Int → Int → Bool) (i j : Int) : cmpI p (.int i) (.int j) = some (.bl (p i j)) := rfl
@[simp] theorem absD_int (i : Int) : absD [.int i] = some (.int (if i < 0 then -i else i)) := rfl
theorem atI_nat {α : Type} (xs : List α) (n : Nat) : atI xs (n : Int) = xs[n]? := by
  unfold atI ixN
  rw [if_pos (by omega)]
  by_cases h : n < xs.length
  · rw [if_pos (by omega)]
    simp
  · rw [if_neg (by omega)]
    simp at h
    simp [h]
@[simp] theorem subD'_tup0 (a : D) (as : List D) : subD' (.tup (a :: as)) (.int 0) = some a := by
  show atI (a :: as) 0 = some a
  exact atI_nat (a :: as) 0
@[simp] theorem subD'_tup1 (a b : D) (as : List D) : subD' (.tup (a :: b :: as)) (.int 1) = some b := by
  show atI (a :: b :: as) 1 = some b
  exact atI_nat (a :: b :: as) 1
/-! ### a def -/
theorem runF_rt {nl np : Nat} {body : Co Flow'} {ds : List D} {obs obs' : List (List D)} {d : D} {e : List Slot} (hl : ds.length = np) (h : body ⟨ds.map Slot.pl ++ List.replicate (nl - np) .un, obs⟩ = .ok (.rt d) ⟨e, obs'⟩) : runF nl np body false ds obs = some (d, obs') := by
  unfold runF
  rw [if_pos hl, h]
/-! ### == -/
theorem eqB_of {a b : D} {p q : PyData} (ha : a.toP = some p) (hb : b.toP = some q) (la : p.canLay0 = true) (lb : q.canLay0 = true) (da : p.depth ≤ 64) (db : q.depth ≤ 64) : eqB a b = some (PyData.eqv p q) := by
  unfold eqB
  rw [ha, hb]
  have h1 : SeqAt.shaped p = true := by unfold SeqAt.shaped; rw [la, decide_eq_true da]; rfl
  have h2 : SeqAt.shaped q = true := by unfold SeqAt.shaped; rw [lb, decide_eq_true db]; rfl
  show (if SeqAt.shaped p = true ∧ SeqAt.shaped q = true then some (PyData.eqv p q) else none) = _
  rw [if_pos ⟨h1, h2⟩]
theorem beq_dec {α : Type} [DecidableEq α] [BEq α] [LawfulBEq α] (a b : α) : (a == b) = decide (a = b) := by
  by_cases h : a = b
  · rw [decide_eq_true h, h, beq_self_eq_true]
  · rw [decide_eq_false h]
    exact beq_eq_false_iff_ne.mpr h
theorem eqB_int (i j : Int) : eqB (.int i) (.int j) = some (decide (i = j)) := by
  rw [eqB_of (p := .int i) (q := .int j) rfl rfl rfl rfl (Nat.zero_le _) (Nat.zero_le _)]
  show some (i == j) = _
  rw [beq_dec]
theorem eqB_bl (i j : Bool) : eqB (.bl i) (.bl j) = some (decide (i = j)) := by
  rw [eqB_of (p := .bool i) (q := .bool j) rfl rfl rfl rfl (Nat.zero_le _) (Nat.zero_le _)]
  cases i <;> cases j <;> rfl
@[simp] theorem eqD_int (i j : Int) : eqD (.int i) (.int j) = some (.bl (decide (i = j))) := by unfold eqD; rw [eqB_int]; rfl
@[simp] theorem neD_int (i j : Int) : neD (.int i) (.int j) = some (.bl (!decide (i = j))) := by unfold neD; rw [eqB_int]; rfl
@[simp] theorem eqD_bl (i j : Bool) : eqD (.bl i) (.bl j) = some (.bl (decide (i = j))) := by unfold eqD; rw [eqB_bl]; rfl
@[simp] theorem neD_bl (i j : Bool) : neD (.bl i) (.bl j) = some (.bl (!decide (i = j))) := by unfold neD; rw [eqB_bl]; rfl
theorem eqB_int2 (a b c d : Int) : eqB (.tup [.int a, .int b]) (.tup [.int c, .int d]) = some (decide (a = c) && decide (b = d)) := by
  rw [eqB_of (p := .tuple [.int a, .int b]) (q := .tuple [.int c, .int d]) rfl rfl rfl rfl (by show (max 0 (max 0 0)) + 1 ≤ 64; decide) (by show (max 0 (max 0 0)) + 1 ≤ 64; decide)]
  show some ((a == c) && ((b == d) && true)) = _
  rw [beq_dec, beq_dec, Bool.and_true]
theorem toPs_ints : ∀ (ns : List Int), D.toPs (ns.map D.int) = some (ns.map PyData.int)
  | [] => rfl
  | n :: ns => by
    show (D.toP (.int n)).bind _ = _
    rw [show D.toP (.int n) = some (.int n) from rfl]
    show (D.toPs (ns.map D.int)).map _ = _
    rw [toPs_ints ns]
    rfl
theorem lay_ints : ∀ (ns : List Int), PyData.canLayAll0 (ns.map PyData.int) = true
  | [] => rfl
  | n :: ns => by show (PyData.canLay0 (.int n) && _) = true; rw [lay_ints ns]; rfl
theorem depth_ints : ∀ (ns : List Int), PyData.depthAll (ns.map PyData.int) = 0
  | [] => rfl
  | n :: ns => by show max (PyData.depth (.int n)) _ = 0; rw [depth_ints ns]; rfl
theorem eqvAll_ints : ∀ (ns ms : List Int), PyData.eqvAll (ns.map PyData.int) (ms.map PyData.int) = decide (ns = ms)
  | [], [] => rfl
  | [], m :: ms => by rw [decide_eq_false (fun z => nomatch z)]; rfl
  | n :: ns, [] => by rw [decide_eq_false (fun z => nomatch z)]; rfl
  | n :: ns, m :: ms => by
    show ((n == m) && _) = _
    rw [eqvAll_ints ns ms, beq_dec]
    by_cases h : n = m
    · by_cases h2 : ns = ms
      · rw [decide_eq_true h, decide_eq_true h2, h, h2, decide_eq_true rfl]; rfl
      · rw [decide_eq_true h, decide_eq_false h2, decide_eq_false (fun z => h2 (List.cons.inj z).2)]; rfl
    · rw [decide_eq_false h, decide_eq_false (fun z => h (List.cons.inj z).1)]; rfl
theorem eqB_ints (ns ms : List Int) : eqB (.lst (ns.map D.int)) (.lst (ms.map D.int)) = some (decide (ns = ms)) := by
  rw [eqB_of (p := .list (ns.map .int)) (q := .list (ms.map .int)) (by show (D.toPs _).map _ = _; rw [toPs_ints]; rfl) (by show (D.toPs _).map _ = _; rw [toPs_ints]; rfl) (lay_ints ns) (lay_ints ms)
    (by show PyData.depthAll _ + 1 ≤ 64; rw [depth_ints]; decide) (by show PyData.depthAll _ + 1 ≤ 64; rw [depth_ints]; decide)]
  show some (PyData.eqvAll _ _) = _
  rw [eqvAll_ints]
theorem neD_ints_nil (ns : List Int) : neD (.lst (ns.map D.int)) (.lst []) = some (.bl (!decide (ns = []))) := by unfold neD; rw [show D.lst [] = .lst (([] : List Int).map D.int) from rfl, eqB_ints]; rfl
theorem eqD_ints_nil (ns : List Int) : eqD (.lst (ns.map D.int)) (.lst []) = some (.bl (decide (ns = []))) := by unfold eqD; rw [show D.lst [] = .lst (([] : List Int).map D.int) from rfl, eqB_ints]; rfl
/-! ### dicts, loops -/
@[simp] theorem asSlot_ap (g : Co Opd) (m : M) : asSlot g m = (Co.bind g fun o m => match o with
  | .slot i => .ok i m
  | _ => .no) m := rfl
@[simp] theorem updW_ap (i : Nat) (h : D → Option D) (m : M) : updW i h m = match m.env[i]? with
  | some (.ow d) => match h d with
    | some d' => .ok () { m with env := m.env.set i (.ow d') }
    | none => .no
  | _ => .no := rfl
@[simp] theorem sDPut_ap (g : Co Opd) (fi fe : Co D) (m : M) : sDPut' g fi fe m = (Co.bind fe fun d => Co.bind (asSlot g) fun i => Co.bind fi fun k => Co.bind (updW i (putDD k d)) fun _ => Co.ret .nx) m := rfl
@[simp] theorem sPut_ap (g : Co Opd) (fi fe : Co D) (m : M) : sPut g fi fe m = match sDPut' g fi fe m with
  | .ok fl m' => .ok fl m'
  | .no => sLSet g fi fe m := rfl
@[simp] theorem isD'_ap (g : Co Opd) (m : M) : isD' g m = (Co.bind g fun o m => match o.get m with
  | some (.dk _) => .ok o m
  | some (.dt _) => .ok o m
  | _ => .no) m := rfl
@[simp] theorem eGet2_ap (g : Co Opd) (f fd : Co D) (m : M) : eGet2 g f fd m = (Co.bind (isD' g) fun o => Co.bind f fun k => Co.bind fd fun z m => match o.get m with
  | some d => match dgetD d k with
    | some (some v) => .ok v m
    | some none => .ok z m
    | none => .no
  | none => .no) m := rfl
@[simp] theorem dgetD_dk (kds : List (Key × D)) (k : D) : dgetD (.dk kds) k = (keyD k).map (valD kds) := rfl
@[simp] theorem keyD_int (i : Int) : keyD (.int i) = some (.inl i) := rfl
@[simp] theorem dictD_dk (kds : List (Key × D)) : dictD [.dk kds] = some (.dk kds) := rfl
@[simp] theorem putDD_dk (k v : D) (kds : List (Key × D)) : putDD k v (.dk kds) = match keyD k with
  | some kk => if kds.length < sizeLine then some (.dk (putD kds kk v)) else none
  | none => none := rfl
@[simp] theorem pCons_ap (fk fv : Co D) (r : Co (List (Key × D))) (m : M) : pCons fk fv r m = (Co.bind fk fun dk => Co.bind (Co.lift (keyD dk)) fun k => Co.bind fv fun v => Co.bind r fun t => Co.ret ((k, v) :: t)) m := rfl
@[simp] theorem eDisp_ap (f : Co (List (Key × D))) (m : M) : eDisp f m = (Co.bind f fun kds => if kds.length ≤ 15 then Co.ret (.dk (mergeD kds)) else fun _ => .no) m := rfl
@[simp] theorem sFor_ap (fi : Co (List D)) (t : Bool) (is : List Nat) (b : Co Flow') (m : M) : sFor fi t is b m = (Co.bind fi fun ds => forL t is b ds) m := rfl
@[simp] theorem sForItems_ap (i : Nat) (t : Bool) (is : List Nat) (b : Co Flow') (m : M) : sForItems i t is b m = match m.env[i]? with
  | some (.pl (.dk kds)) => forL t is b (itemsD kds) m
  | _ => .no := rfl
@[simp] theorem iVal_ap (f : Co D) (m : M) : iVal f m = (Co.bind f fun d => Co.lift (itD d)) m := rfl
@[simp] theorem itD_lst (ds : List D) : itD (.lst ds) = some ds := rfl
@[simp] theorem itD_tup (ds : List D) : itD (.tup ds) = some ds := rfl
@[simp] theorem setTg_name (is : List Nat) (d : D) (e : List Slot) : setTg false is d e = setEnv e is [(false, d)] := rfl
@[simp] theorem setTg_tup (is : List Nat) (ds : List D) (e : List Slot) : setTg true is (.tup ds) e = setEnv e is (ds.map fun d => (false, d)) := rfl
@[simp] theorem forL_nil (t : Bool) (is : List Nat) (b : Co Flow') (m : M) : forL t is b [] m = .ok .nx m := rfl
theorem forL_cons (t : Bool) (is : List Nat) (b : Co Flow') (d : D) (ds : List D) (m : M) : forL t is b (d :: ds) m = match setTg t is d m.env with
    | none => .no
    | some env => match b { m with env := env } with
      | .ok .nx m' => forL t is b ds m'
      | .ok .ct m' => forL t is b ds m'
      | .ok .bk m' => .ok .nx m'
      | .ok (.rt d) m' => .ok (.rt d) m'
      | .ok (.rf d) m' => .ok (.rf d) m'
      | .no => .no := rfl
@[simp] theorem sMove_ap (i j : Nat) (m : M) : sMove i j m = match m.env[j]? with
  | some (.ow d) => if i < m.env.length ∧ i ≠ j then .ok .nx { m with env := (m.env.set j .un).set i (.ow d) } else .no
  | _ => .no := rfl
@[simp] theorem sRetOw_ap (i : Nat) (m : M) : sRetOw i m = match m.env[i]? with
  | some (.ow d) => .ok (.rf d) { m with env := m.env.set i .un }
  | _ => .no := rfl
theorem runF_rf {nl np : Nat} {body : Co Flow'} {ds : List D} {obs obs' : List (List D)} {d : D} {e : List Slot} (hl : ds.length = np) (h : body ⟨ds.map Slot.pl ++ List.replicate (nl - np) .un, obs⟩ = .ok (.rf d) ⟨e, obs'⟩) : runF nl np body true ds obs = some (d, obs') := by
  unfold runF
  rw [if_pos hl, h]
theorem runF_nx {nl np : Nat} {body : Co Flow'} {ds : List D} {obs obs' : List (List D)} {e : List Slot} (hl : ds.length = np) (h : body ⟨ds.map Slot.pl ++ List.replicate (nl - np) .un, obs⟩ = .ok .nx ⟨e, obs'⟩) : runF nl np body false ds obs = some (.non, obs') := by
  unfold runF
  rw [if_pos hl, h]
end PD
namespace C
open PySem PySem.Spec PyProof.Rows L2 PD

/-! ### fractions in lowest terms -/
def cf (q : Rat) : D := .tup [.int q.num, .int q.den]
structure Sz (B : Nat) (q : Rat) : Prop where
  n : q.num.natAbs < 2 ^ B
  d : q.den < 2 ^ B
theorem log2_lt' {n B : Nat} (h : n < 2 ^ B) : n.log2 < B + 1 := by
  by_cases h0 : n = 0
  · subst h0; simp
  · have := (Nat.log2_lt h0).mpr h
    omega
theorem mulW {i j : Int} {A B : Nat} (hi : i.natAbs < 2 ^ A) (hj : j.natAbs < 2 ^ B) (h : A + B < 999990 := by decide) : CMulW i j := by
  have h1 := log2_lt' hi
  have h2 := log2_lt' hj
  unfold CMulW
  omega
theorem divW {i : Int} {j : Nat} (h0 : 0 < j) (hj : j < 2 ^ 8990) : CDivW i (j : Int) := by
  refine ⟨by omega, ?_⟩
  have h2 := log2_lt' hj
  simp only [Int.natAbs_natCast]
  omega
theorem size_le {n : Nat} (h : n ≤ 1000) : n ≤ sizeLine := Nat.le_trans h (by rw [sizeLine_eq]; decide)
theorem two_le : 2 ≤ sizeLine := size_le (by decide)
theorem common_loop (obs : List (List D)) : ∀ (b a : Nat), ∃ n, whileN (tB' (eOp gtI (vB (vPl 1)) (vB (Co.ret (.int 0))))) (sAsg [0, 1] (xPl (vPl 1) (xPl (eOp modD (vB (vPl 0)) (vB (vPl 1))) xNil))) n
    ⟨[.pl (.int a), .pl (.int b)], obs⟩ = .ok .nx ⟨[.pl (.int (Nat.gcd a b)), .pl (.int 0)], obs⟩ := by
  intro b
  induction b using Nat.strongRecOn with
  | _ b ih =>
    intro a
    by_cases hb : b = 0
    · subst hb
      refine ⟨1, ?_⟩
      simp [whileN]
    · obtain ⟨n, hn⟩ := ih (a % b) (Nat.mod_lt a (Nat.pos_of_ne_zero hb)) b
      refine ⟨n + 1, ?_⟩
      have h1 : (0 : Int) < (b : Int) := by omega
      have h0 : 0 < b := by omega
      rw [Int.natCast_emod] at hn
      simp only [whileN]
      simp [h1, h0, hn]
      rw [Nat.gcd_comm b, ← Nat.gcd_rec, Nat.gcd_comm]
theorem F_common_nat (a b : Nat) (obs : List (List D)) : F_common [.int a, .int b] obs = some (.int (Nat.gcd a b), obs) := by
  obtain ⟨n, hn⟩ := common_loop obs b a
  have h := sWhile_of hn
  refine runF_rt rfl (e := [.pl (.int (Nat.gcd a b)), .pl (.int 0)]) ?_
  simp [b_common, h]
theorem abs_if (n : Int) : (if n < 0 then -n else n) = (n.natAbs : Int) := by split <;> omega
theorem gcd_lt {n : Int} {d : Nat} (hd : 0 < d) : 0 < Nat.gcd n.natAbs d ∧ Nat.gcd n.natAbs d ≤ d := ⟨Nat.gcd_pos_of_pos_right _ hd, Nat.gcd_le_right _ hd⟩
theorem cf_mk (n : Int) (d : Nat) (hd : 0 < d) : cf (mkRat n d) = .tup [.int (n / (Nat.gcd n.natAbs d : Nat)), .int ((d : Int) / (Nat.gcd n.natAbs d : Nat))] := by
  unfold cf
  rw [Rat.num_mkRat, Rat.den_mkRat, if_neg (by omega), if_neg (by omega), Nat.gcd_comm d, ← Int.natCast_ediv]
theorem F_lowered_mk (n : Int) (d : Nat) (hd : 0 < d) (hz : d < 2 ^ 8990) (obs : List (List D)) : F_lowered [.int n, .int d] obs = some (cf (mkRat n d), obs) := by
  rw [cf_mk n d hd]
  obtain ⟨h1, h2⟩ := gcd_lt (n := n) hd
  have w : ∀ i, CDivW i ((Nat.gcd n.natAbs d : Nat) : Int) := fun i => divW h1 (by omega)
  refine runF_rt rfl (e := [.pl (.int n), .pl (.int d), .pl (.int (Nat.gcd n.natAbs d : Nat))]) ?_
  have hc := F_common_nat n.natAbs d
  simp [b_lowered, abs_if, hc, w, two_le]
theorem F_lowered_q {n m : Int} (hm : 0 < m) (hz : m.natAbs < 2 ^ 8990) (obs : List (List D)) : F_lowered [.int n, .int m] obs = some (cf ((n : Rat) / (m : Rat)), obs) := by
  obtain ⟨d, rfl⟩ := Int.eq_ofNat_of_zero_le (Int.le_of_lt hm)
  rw [F_lowered_mk n d (by omega) (by simpa using hz) obs, Rat.mkRat_eq_div]
  rfl
theorem rat_nd (a : Rat) : a = (a.num : Rat) / ((a.den : Int) : Rat) := by
  have h := Rat.mkRat_self a
  rw [Rat.mkRat_eq_div] at h
  exact h.symm
theorem den_ne (a : Rat) : ((a.den : Int) : Rat) ≠ 0 := by
  have := a.den_nz
  intro h
  have h' : ((a.den : Int) : Rat) = ((0 : Int) : Rat) := h
  rw [Rat.intCast_inj] at h'
  omega
theorem Sz.nd {B : Nat} {q : Rat} (h : Sz B q) : (q.den : Int).natAbs < 2 ^ B := by simpa using h.d
theorem den_pos' (a : Rat) : 0 < (a.den : Int) := by have := a.den_pos; omega
theorem mul_lt_pow {a b A B : Nat} (ha : a < 2 ^ A) (hb : b < 2 ^ B) : a * b < 2 ^ (A + B) := by
  rw [Nat.pow_add]
  exact Nat.mul_lt_mul'' ha hb
theorem mul_lt_pow' {a b : Int} {A B : Nat} (ha : a.natAbs < 2 ^ A) (hb : b.natAbs < 2 ^ B) : (a * b).natAbs < 2 ^ (A + B) := by
  rw [Int.natAbs_mul]
  exact mul_lt_pow ha hb
theorem add_nd (a b : Rat) : ((a.num * b.den + b.num * a.den : Int) : Rat) / ((a.den * b.den : Int) : Rat) = a + b := by
  have e1 := rat_nd a
  have e2 := rat_nd b
  have n1 := den_ne a
  have n2 := den_ne b
  rw [Rat.intCast_add, Rat.intCast_mul, Rat.intCast_mul, Rat.intCast_mul]
  generalize (a.num : Rat) = p at *
  generalize ((a.den : Int) : Rat) = q at *
  generalize (b.num : Rat) = r at *
  generalize ((b.den : Int) : Rat) = s at *
  subst e1 e2
  grind
theorem sub_nd (a b : Rat) : ((a.num * b.den - b.num * a.den : Int) : Rat) / ((a.den * b.den : Int) : Rat) = a - b := by
  have e1 := rat_nd a
  have e2 := rat_nd b
  have n1 := den_ne a
  have n2 := den_ne b
  rw [Rat.intCast_sub, Rat.intCast_mul, Rat.intCast_mul, Rat.intCast_mul]
  generalize (a.num : Rat) = p at *
  generalize ((a.den : Int) : Rat) = q at *
  generalize (b.num : Rat) = r at *
  generalize ((b.den : Int) : Rat) = s at *
  subst e1 e2
  grind
theorem mul_nd (a b : Rat) : ((a.num * b.num : Int) : Rat) / ((a.den * b.den : Int) : Rat) = a * b := by
  have e1 := rat_nd a
  have e2 := rat_nd b
  have n1 := den_ne a
  have n2 := den_ne b
  rw [Rat.intCast_mul, Rat.intCast_mul]
  generalize (a.num : Rat) = p at *
  generalize ((a.den : Int) : Rat) = q at *
  generalize (b.num : Rat) = r at *
  generalize ((b.den : Int) : Rat) = s at *
  subst e1 e2
  grind
theorem den_big {a b : Rat} (ha : Sz 4000 a) (hb : Sz 4000 b) : ((a.den : Int) * (b.den : Int)).natAbs < 2 ^ 8990 :=
  Nat.lt_of_lt_of_le (mul_lt_pow' ha.nd hb.nd) (Nat.pow_le_pow_right (by decide) (by decide))
theorem F_plus_q {a b : Rat} (ha : Sz 4000 a) (hb : Sz 4000 b) (obs : List (List D)) : F_plus [cf a, cf b] obs = some (cf (a + b), obs) := by
  have h1 := mulW ha.n hb.nd
  have h2 := mulW hb.n ha.nd
  have h3 := mulW ha.nd hb.nd
  have hq := fun n => F_lowered_q (n := n) (Int.mul_pos (den_pos' a) (den_pos' b)) (den_big ha hb) obs
  refine runF_rt rfl (e := [.pl (cf a), .pl (cf b)]) ?_
  have hq' := hq (a.num * b.den + b.num * a.den)
  rw [add_nd] at hq'
  simp [b_plus, cf, h1, h2, h3]
  unfold cf at hq'
  simp [hq']
theorem F_minus_q {a b : Rat} (ha : Sz 4000 a) (hb : Sz 4000 b) (obs : List (List D)) : F_minus [cf a, cf b] obs = some (cf (a - b), obs) := by
  have h1 := mulW ha.n hb.nd
  have h2 := mulW hb.n ha.nd
  have h3 := mulW ha.nd hb.nd
  have hq := fun n => F_lowered_q (n := n) (Int.mul_pos (den_pos' a) (den_pos' b)) (den_big ha hb) obs
  refine runF_rt rfl (e := [.pl (cf a), .pl (cf b)]) ?_
  have hq' := hq (a.num * b.den - b.num * a.den)
  rw [sub_nd] at hq'
  simp [b_minus, cf, h1, h2, h3]
  unfold cf at hq'
  simp [hq']
theorem F_times_q {a b : Rat} (ha : Sz 4000 a) (hb : Sz 4000 b) (obs : List (List D)) : F_times [cf a, cf b] obs = some (cf (a * b), obs) := by
  have h1 := mulW ha.n hb.n
  have h3 := mulW ha.nd hb.nd
  have hq := fun n => F_lowered_q (n := n) (Int.mul_pos (den_pos' a) (den_pos' b)) (den_big ha hb) obs
  refine runF_rt rfl (e := [.pl (cf a), .pl (cf b)]) ?_
  have hq' := hq (a.num * b.num)
  rw [mul_nd] at hq'
  simp [b_times, cf, h1, h3]
  unfold cf at hq'
  simp [hq']
/-! ### the law's own -/
theorem lcommon_loop (obs : List (List D)) : ∀ (b a : Nat), b < 2 ^ 8990 → a < 2 ^ 100000 → ∃ n, whileN (tB' (eOp neD (vB (vPl 1)) (vB (Co.ret (.int 0))))) (sAsg [0, 1] (xPl (vPl 1) (xPl (eOp subD (vB (vPl 0)) (vB (eOp mulD (vB (vPl 1)) (vB (eOp divD (vB (vPl 0)) (vB (vPl 1))))))) xNil))) n
    ⟨[.pl (.int a), .pl (.int b)], obs⟩ = .ok .nx ⟨[.pl (.int (Nat.gcd a b)), .pl (.int 0)], obs⟩ := by
  intro b
  induction b using Nat.strongRecOn with
  | _ b ih =>
    intro a hbz haz
    by_cases hb : b = 0
    · subst hb
      refine ⟨1, ?_⟩
      simp [whileN]
    · have hlt := Nat.mod_lt a (Nat.pos_of_ne_zero hb)
      obtain ⟨n, hn⟩ := ih (a % b) hlt b (by omega) (Nat.lt_of_lt_of_le hbz (Nat.pow_le_pow_right (by decide) (by decide)))
      refine ⟨n + 1, ?_⟩
      rw [Int.natCast_emod] at hn
      have h1 : CDivW (a : Int) (b : Int) := divW (by omega) hbz
      have h2 : CMulW (b : Int) ((a : Int) / (b : Int)) := mulW (A := 8990) (B := 100000) (by simpa using hbz) (by
        rw [← Int.natCast_ediv, Int.natAbs_natCast]
        exact Nat.lt_of_le_of_lt (Nat.div_le_self _ _) haz)
      have h3 : (a : Int) - (b : Int) * ((a : Int) / (b : Int)) = (a : Int) % (b : Int) := by rw [Int.emod_def]
      simp only [whileN]
      simp [hb, h1, h2, h3, hn]
      rw [Nat.gcd_comm b, ← Nat.gcd_rec, Nat.gcd_comm]
theorem F__law_common_q (a b : Int) (ha : a.natAbs < 2 ^ 100000) (hb : b.natAbs < 2 ^ 8990) (obs : List (List D)) : F__law_common [.int a, .int b] obs = some (.int (Nat.gcd a.natAbs b.natAbs : Nat), obs) := by
  obtain ⟨n, hn⟩ := lcommon_loop obs b.natAbs a.natAbs hb ha
  have h := sWhile_of hn
  refine runF_rt rfl (e := [.pl (.int (Nat.gcd a.natAbs b.natAbs : Nat)), .pl (.int 0)]) ?_
  simp [b__law_common, abs_if, h]
theorem F__law_share_q {n m : Int} (hm : 0 < m) (hn : n.natAbs < 2 ^ 100000) (hz : m.natAbs < 2 ^ 8990) (obs : List (List D)) : F__law_share [.int n, .int m] obs = some (cf ((n : Rat) / (m : Rat)), obs) := by
  obtain ⟨d, rfl⟩ := Int.eq_ofNat_of_zero_le (Int.le_of_lt hm)
  have hd : 0 < d := by omega
  have e : (n : Rat) / (((d : Nat) : Int) : Rat) = mkRat n d := by rw [Rat.mkRat_eq_div]; rfl
  rw [e, cf_mk n d hd]
  have hz' : d < 2 ^ 8990 := by simpa using hz
  obtain ⟨h1, h2⟩ := gcd_lt (n := n) hd
  have w : ∀ i, CDivW i ((Nat.gcd n.natAbs d : Nat) : Int) := fun i => divW h1 (by omega)
  refine runF_rt rfl (e := [.pl (.int n), .pl (.int d), .pl (.int (Nat.gcd n.natAbs d : Nat))]) ?_
  have hc := F__law_common_q n d hn hz obs
  simp only [Int.natAbs_natCast] at hc
  simp [b__law_share, hc, w, two_le]
theorem F__law_plus_q {a b : Rat} (ha : Sz 4000 a) (hb : Sz 4000 b) (obs : List (List D)) : F__law_plus [cf a, cf b] obs = some (cf (a + b), obs) := by
  have h1 := mulW ha.n hb.nd
  have h2 := mulW hb.n ha.nd
  have h3 := mulW ha.nd hb.nd
  have hs : (a.num * b.den + b.num * a.den).natAbs < 2 ^ 100000 := by
    have e1 := mul_lt_pow' ha.n hb.nd
    have e2 := mul_lt_pow' hb.n ha.nd
    have e3 := Int.natAbs_add_le (a.num * b.den) (b.num * a.den)
    have e5 : (2 : Nat) ^ (8000 + 1) = 2 ^ (4000 + 4000) * 2 := Nat.pow_succ 2 8000
    have e6 : (2 : Nat) ^ (8000 + 1) ≤ 2 ^ 100000 := Nat.pow_le_pow_right (by decide) (by decide)
    rw [e5] at e6
    generalize (2 : Nat) ^ (4000 + 4000) = X at *
    generalize (2 : Nat) ^ 100000 = Y at *
    omega
  have hq' := F__law_share_q (n := a.num * b.den + b.num * a.den) (Int.mul_pos (den_pos' a) (den_pos' b)) hs (den_big ha hb) obs
  rw [add_nd] at hq'
  refine runF_rt rfl (e := [.pl (cf a), .pl (cf b)]) ?_
  simp [b__law_plus, cf, h1, h2, h3]
  unfold cf at hq'
  simp [hq']
/-! ### small fractions -/
theorem Sz.of {n : Int} {d : Nat} {B : Nat} (hd : 0 < d) (hn : n.natAbs < 2 ^ B) (hz : d < 2 ^ B) : Sz B ((n : Rat) / (((d : Nat) : Int) : Rat)) := by
  have e : (n : Rat) / (((d : Nat) : Int) : Rat) = mkRat n d := by rw [Rat.mkRat_eq_div]; rfl
  rw [e]
  have g1 : 0 < d.gcd n.natAbs := Nat.gcd_pos_of_pos_left _ hd
  refine ⟨?_, ?_⟩
  · rw [Rat.num_mkRat, if_neg (by omega)]
    refine Nat.lt_of_le_of_lt ?_ hn
    rw [Int.natAbs_ediv_of_dvd (Int.ofNat_dvd_left.mpr (Nat.gcd_dvd_right _ _))]
    exact Nat.div_le_self _ _
  · rw [Rat.den_mkRat, if_neg (by omega)]
    exact Nat.lt_of_le_of_lt (Nat.div_le_self _ _) hz
theorem cf_inj {a b : Rat} : cf a = cf b ↔ a = b := by
  constructor
  · intro h
    unfold cf at h
    injection h with h
    injection h with h1 h2
    injection h1 with h1
    injection h2 with h2
    injection h2 with h2
    exact Rat.ext h1 (by omega)
  · intro h; rw [h]
theorem eqB_cf (a b : Rat) : eqB (cf a) (cf b) = some (decide (a = b)) := by
  unfold cf
  rw [eqB_int2]
  congr 1
  by_cases h : a = b
  · subst h; simp
  · rw [decide_eq_false h]
    by_cases h1 : a.num = b.num
    · have h2 : ¬ (a.den : Int) = (b.den : Int) := fun z => h (Rat.ext h1 (by omega))
      rw [decide_eq_false h2, Bool.and_false]
    · rw [decide_eq_false h1, Bool.false_and]
theorem eqD_cf (a b : Rat) : eqD (cf a) (cf b) = some (.bl (decide (a = b))) := by unfold eqD; rw [eqB_cf]; rfl
theorem neD_cf (a b : Rat) : neD (cf a) (cf b) = some (.bl (!decide (a = b))) := by unfold neD; rw [eqB_cf]; rfl
/-! ### ranges -/
theorem rgD_nil {lo hi : Int} (h : hi ≤ lo) : rgD lo hi = [] := by
  unfold rgD
  rw [show (hi - lo).toNat = 0 by omega]
  rfl
theorem rgD_cons {lo hi : Int} (h : lo < hi) : rgD lo hi = .int lo :: rgD (lo + 1) hi := by
  unfold rgD
  rw [show (hi - lo).toNat = (hi - (lo + 1)).toNat + 1 by omega, List.range_succ_eq_map, List.map_cons, List.map_map]
  congr 1
  · simp
  · apply List.map_congr_left
    intro a _
    show D.int _ = D.int _
    congr 1
    simp only [Nat.succ_eq_add_one]
    omega
end C
namespace C
open PySem PySem.Spec PyProof.Rows L2 PD

/-! ### a dict of ints to ints -/
def toK (l : List (Int × Int)) : List (Key × D) := l.map fun p => (.inl p.1, .int p.2)
def getI (l : List (Int × Int)) (k : Int) : Int := match l.find? fun p => decide (p.1 = k) with
  | some p => p.2
  | none => 0
def putI (l : List (Int × Int)) (k v : Int) : List (Int × Int) := if l.any (fun p => decide (p.1 = k)) then l.map (fun p => if p.1 = k then (p.1, v) else p) else l ++ [(k, v)]
theorem inl_iff {a b : Int} : ((Sum.inl a : Key) = Sum.inl b) ↔ a = b := ⟨fun h => Sum.inl.inj h, fun h => by rw [h]⟩
theorem valD_toK (k : Int) : ∀ (l : List (Int × Int)), valD (toK l) (Sum.inl k) = (l.find? fun p => decide (p.1 = k)).map fun p => D.int p.2
  | [] => rfl
  | p :: l => by
    have ih := valD_toK k l
    unfold valD toK at ih ⊢
    rw [List.map_cons, List.find?_cons, List.find?_cons]
    by_cases h : p.1 = k
    · simp [h]
    · simp [h]
      simpa using ih
theorem any_toK (k : Int) : ∀ (l : List (Int × Int)), ((toK l).any fun kv => decide (kv.1 = Sum.inl k)) = l.any fun p => decide (p.1 = k)
  | [] => rfl
  | p :: l => by
    have ih := any_toK k l
    unfold toK at ih ⊢
    rw [List.map_cons, List.any_cons, List.any_cons, ih]
    simp
theorem putD_toK (l : List (Int × Int)) (k v : Int) : putD (toK l) (Sum.inl k) (.int v) = toK (putI l k v) := by
  unfold putD putI
  rw [any_toK]
  split
  · unfold toK
    rw [List.map_map, List.map_map]
    apply List.map_congr_left
    intro p _
    simp only [Function.comp_apply]
    by_cases h : p.1 = k
    · simp [h]
    · simp [h]
  · unfold toK; rw [List.map_append]; rfl
/-- the sum of v · g k over the entries -/
def wsum (l : List (Int × Int)) (g : Int → Rat) : Rat := (l.map fun p => (p.2 : Rat) * g p.1).foldr (· + ·) 0
theorem wsum_nil (g : Int → Rat) : wsum [] g = 0 := rfl
theorem wsum_cons (p : Int × Int) (l : List (Int × Int)) (g : Int → Rat) : wsum (p :: l) g = (p.2 : Rat) * g p.1 + wsum l g := rfl
theorem wsum_append (l l' : List (Int × Int)) (g : Int → Rat) : wsum (l ++ l') g = wsum l g + wsum l' g := by
  induction l with
  | nil => rw [List.nil_append, wsum_nil]; grind
  | cons p l ih => rw [List.cons_append, wsum_cons, wsum_cons, ih]; grind
theorem getI_nil (k : Int) : getI [] k = 0 := rfl
theorem getI_cons (p : Int × Int) (l : List (Int × Int)) (k : Int) : getI (p :: l) k = if p.1 = k then p.2 else getI l k := by
  unfold getI
  rw [List.find?_cons]
  by_cases h : p.1 = k <;> simp [h]
theorem getI_none {l : List (Int × Int)} {k : Int} (h : l.any (fun p => decide (p.1 = k)) = false) : getI l k = 0 := by
  induction l with
  | nil => rfl
  | cons p l ih =>
    rw [List.any_cons, Bool.or_eq_false_iff] at h
    rw [getI_cons, if_neg (by simpa using h.1), ih h.2]
theorem wsum_put {l : List (Int × Int)} (hn : (l.map (·.1)).Nodup) (k v : Int) (g : Int → Rat) : wsum (putI l k v) g = wsum l g + ((v : Rat) - (getI l k : Rat)) * g k := by
  unfold putI
  split
  · rename_i h
    induction l with
    | nil => cases h
    | cons p l ih =>
      rw [List.map_cons, wsum_cons, wsum_cons, getI_cons]
      rw [List.map_cons, List.nodup_cons] at hn
      by_cases e : p.1 = k
      · rw [if_pos e, if_pos e]
        have hno : l.map (fun p => if p.1 = k then (p.1, v) else p) = l := by
          conv => rhs; rw [← List.map_id l]
          apply List.map_congr_left
          intro q hq
          have : q.1 ≠ k := fun z => hn.1 (by rw [e, ← z]; exact List.mem_map_of_mem hq)
          rw [if_neg this]; rfl
        rw [hno]
        simp only [e]
        grind
      · rw [if_neg e, if_neg e]
        rw [List.any_cons, decide_eq_false e, Bool.false_or] at h
        rw [ih hn.2 h]
        grind
  · rename_i h
    have h' : l.any (fun p => decide (p.1 = k)) = false := Bool.eq_false_iff.mpr h
    rw [wsum_append, getI_none h', wsum_cons, wsum_nil]
    have : ((0 : Int) : Rat) = 0 := rfl
    grind
theorem putI_keys (l : List (Int × Int)) (k v : Int) : (putI l k v).map (·.1) = if l.any (fun p => decide (p.1 = k)) then l.map (·.1) else l.map (·.1) ++ [k] := by
  unfold putI
  split
  · rw [List.map_map]
    apply List.map_congr_left
    intro p _
    simp only [Function.comp_apply]
    split <;> rfl
  · rw [List.map_append]; rfl
theorem putI_nodup {l : List (Int × Int)} (hn : (l.map (·.1)).Nodup) (k v : Int) : ((putI l k v).map (·.1)).Nodup := by
  rw [putI_keys]
  split
  · exact hn
  · rename_i h
    rw [List.nodup_append]
    refine ⟨hn, by simp, fun a ha b hb => ?_⟩
    rw [List.mem_singleton] at hb
    subst hb
    intro e
    subst e
    obtain ⟨p, hp, e⟩ := List.mem_map.mp ha
    exact h (List.any_eq_true.mpr ⟨p, hp, by simpa using e⟩)
theorem putI_len (l : List (Int × Int)) (k v : Int) : (putI l k v).length ≤ l.length + 1 := by
  unfold putI
  split
  · rw [List.length_map]; omega
  · rw [List.length_append]; exact Nat.le_refl _
/-- one weight more -/
def stepIn (w : Int) (later : List (Int × Int)) (p : Int × Int) : List (Int × Int) := putI later (p.1 + w) (getI later (p.1 + w) - p.2)
def stepS (l : List (Int × Int)) (w : Int) : List (Int × Int) := l.foldl (stepIn w) l
def sumsL (ws : List Int) : List (Int × Int) := ws.foldl stepS [(0, 1)]
theorem stepIn_fold (w : Int) (g : Int → Rat) : ∀ (ps l : List (Int × Int)), (l.map (·.1)).Nodup → ((ps.foldl (stepIn w) l).map (·.1)).Nodup ∧ wsum (ps.foldl (stepIn w) l) g = wsum l g - wsum ps fun x => g (x + w)
  | [], l, hn => ⟨hn, by rw [wsum_nil]; show wsum l g = _; grind⟩
  | p :: ps, l, hn => by
    obtain ⟨h1, h2⟩ := stepIn_fold w g ps (stepIn w l p) (putI_nodup hn _ _)
    refine ⟨h1, ?_⟩
    rw [List.foldl_cons, h2, wsum_cons]
    unfold stepIn
    rw [wsum_put hn, Rat.intCast_sub]
    grind
/-- over all parts of the weights, even parts less odd ones -/
def incl : List Int → (Int → Rat) → Rat
  | [], g => g 0
  | w :: ws, g => incl ws g - incl ws fun x => g (x + w)
theorem sumsL_nodup : ∀ (ws : List Int) (l : List (Int × Int)), (l.map (·.1)).Nodup → ((ws.foldl stepS l).map (·.1)).Nodup
  | [], l, h => h
  | w :: ws, l, h => sumsL_nodup ws _ (stepIn_fold w (fun _ => 0) l l h).1
theorem foldS_wsum (g : Int → Rat) : ∀ (ws : List Int) (l : List (Int × Int)), (l.map (·.1)).Nodup → wsum (ws.foldl stepS l) g = wsum l fun x => incl ws fun y => g (x + y)
  | [], l, h => by
    show wsum l g = wsum l fun x => g (x + 0)
    congr 1
    funext x
    rw [Int.add_zero]
  | w :: ws, l, h => by
    rw [List.foldl_cons]
    show wsum (ws.foldl stepS (l.foldl (stepIn w) l)) g = _
    rw [foldS_wsum g ws _ (stepIn_fold w g l l h).1]
    rw [(stepIn_fold w _ l l h).2]
    have e : ∀ x, (incl ws fun y => g (x + w + y)) = incl ws fun y => g (x + (y + w)) := fun x => by
      congr 1; funext y; congr 1; omega
    have lin : ∀ (l : List (Int × Int)) (f1 f2 : Int → Rat), wsum l f1 - wsum l f2 = wsum l fun x => f1 x - f2 x := by
      intro l f1 f2
      induction l with
      | nil => rw [wsum_nil, wsum_nil, wsum_nil]; grind
      | cons p l ih => rw [wsum_cons, wsum_cons, wsum_cons, ← ih]; grind
    rw [lin]
    congr 1
    funext x
    show _ = incl ws _ - incl ws _
    rw [e]
theorem sumsL_wsum (ws : List Int) (g : Int → Rat) : wsum (sumsL ws) g = incl ws g := by
  unfold sumsL
  rw [foldS_wsum g ws _ (by simp), wsum_cons, wsum_nil]
  have : ((1 : Int) : Rat) = 1 := rfl
  simp only [Int.zero_add]
  grind
end C
namespace C
open PySem PySem.Spec PyProof.Rows L2 PD

theorem stepIn_len (w : Int) : ∀ (ps l : List (Int × Int)), (ps.foldl (stepIn w) l).length ≤ l.length + ps.length
  | [], l => Nat.le_refl _
  | p :: ps, l => by
    have h1 := stepIn_len w ps (stepIn w l p)
    have h2 := putI_len l (p.1 + w) (getI l (p.1 + w) - p.2)
    rw [List.foldl_cons, List.length_cons]
    unfold stepIn at h1 ⊢
    omega
theorem stepS_len (l : List (Int × Int)) (w : Int) : (stepS l w).length ≤ 2 * l.length := by
  have := stepIn_len w l l
  unfold stepS
  omega
theorem toK_len (l : List (Int × Int)) : (toK l).length = l.length := by unfold toK; rw [List.length_map]
/-- the loop over the entries -/
theorem sums_in (some' : D) (w : Int) (found : List (Int × Int)) (obs : List (List D)) : ∀ (ps later : List (Int × Int)) (x4 x5 : Slot), later.length + ps.length < sizeLine → ∃ y4 y5,
    forL true [4, 5] (sPut (vAny 3) (eOp addD (vB (vPl 4)) (vB (vPl 2))) (eOp subD (vB (eGet2 (vAny 3) (eOp addD (vB (vPl 4)) (vB (vPl 2))) (Co.ret (.int 0)))) (vB (vPl 5)))) (itemsD (toK ps))
      ⟨[.pl some', .pl (.dk (toK found)), .pl (.int w), .ow (.dk (toK later)), x4, x5], obs⟩ = .ok .nx ⟨[.pl some', .pl (.dk (toK found)), .pl (.int w), .ow (.dk (toK (ps.foldl (stepIn w) later))), y4, y5], obs⟩
  | [], later, x4, x5, _ => ⟨x4, x5, rfl⟩
  | p :: ps, later, x4, x5, hl => by
    rw [List.length_cons] at hl
    have hl' : (stepIn w later p).length + ps.length < sizeLine := by
      have := putI_len later (p.1 + w) (getI later (p.1 + w) - p.2)
      unfold stepIn
      omega
    obtain ⟨y4, y5, ih⟩ := sums_in some' w found obs ps (stepIn w later p) (.pl (.int p.1)) (.pl (.int p.2)) hl'
    refine ⟨y4, y5, ?_⟩
    rw [List.foldl_cons, ← ih]
    show forL _ _ _ (.tup [.int p.1, .int p.2] :: itemsD (toK ps)) _ = _
    rw [forL_cons]
    have hz : (toK later).length < sizeLine := by rw [toK_len]; omega
    have hv := valD_toK (p.1 + w) later
    have hp : putD (toK later) (Sum.inl (p.1 + w)) (.int (getI later (p.1 + w) - p.2)) = toK (stepIn w later p) := putD_toK _ _ _
    unfold getI at hp
    cases hf : later.find? fun q => decide (q.1 = p.1 + w) with
    | none =>
      rw [hf] at hv hp
      simp at hv hp
      simp [hv, hz, hp]
    | some q =>
      rw [hf] at hv hp
      simp at hv hp
      simp [hv, hz, hp]
/-- the loop over the weights -/
theorem sums_out (some' : D) (obs : List (List D)) : ∀ (ws : List Int) (found : List (Int × Int)) (x2 x4 x5 : Slot), found.length * 2 ^ ws.length < sizeLine → ∃ y2 y3 y4 y5,
    forL false [2] (sSeq (sSetF 3 (eCall dictD (bCons (vAny 1) (Co.ret [])))) (sSeq (sFrz 1 (sForItems 1 true [4, 5] (sPut (vAny 3) (eOp addD (vB (vPl 4)) (vB (vPl 2))) (eOp subD (vB (eGet2 (vAny 3) (eOp addD (vB (vPl 4)) (vB (vPl 2))) (Co.ret (.int 0)))) (vB (vPl 5))))))
      (sMove 1 3))) (ws.map D.int) ⟨[.pl some', .ow (.dk (toK found)), x2, .un, x4, x5], obs⟩ = .ok .nx ⟨[.pl some', .ow (.dk (toK (ws.foldl stepS found))), y2, y3, y4, y5], obs⟩
  | [], found, x2, x4, x5, _ => ⟨x2, .un, x4, x5, rfl⟩
  | w :: ws, found, x2, x4, x5, hl => by
    have e2 : 2 ^ (ws.length + 1) = 2 ^ ws.length * 2 := Nat.pow_succ 2 ws.length
    rw [List.length_cons, e2] at hl
    have h1 := stepS_len found w
    have hp : 0 < 2 ^ ws.length := Nat.two_pow_pos _
    have hl2 : found.length * 2 ≤ found.length * (2 ^ ws.length * 2) := Nat.mul_le_mul_left _ (by omega)
    obtain ⟨y4, y5, hi⟩ := sums_in some' w found obs found found x4 x5 (by omega)
    have hl3 : (stepS found w).length * 2 ^ ws.length < sizeLine := by
      refine Nat.lt_of_le_of_lt (Nat.mul_le_mul_right _ h1) ?_
      rw [show 2 * found.length * 2 ^ ws.length = found.length * (2 ^ ws.length * 2) by rw [Nat.mul_comm 2, Nat.mul_assoc, Nat.mul_comm 2]]
      exact hl
    obtain ⟨z2, z3, z4, z5, ih⟩ := sums_out some' obs ws (stepS found w) (.pl (.int w)) y4 y5 hl3
    refine ⟨z2, z3, z4, z5, ?_⟩
    rw [List.foldl_cons, ← ih, List.map_cons, forL_cons]
    simp [hi]
    rfl
theorem F_sums_of_q (ws : List Int) (hw : ws.length ≤ 23) (obs : List (List D)) : F_sums_of [.lst (ws.map D.int)] obs = some (.dk (toK (sumsL ws)), obs) := by
  have hz : [((0 : Int), (1 : Int))].length * 2 ^ ws.length < sizeLine := by
    rw [sizeLine_eq]
    have : 2 ^ ws.length ≤ 2 ^ 23 := Nat.pow_le_pow_right (by decide) hw
    have e : (2 : Nat) ^ 23 = 8388608 := by decide
    simp only [List.length_singleton]
    omega
  obtain ⟨y2, y3, y4, y5, h⟩ := sums_out (.lst (ws.map D.int)) obs ws [(0, 1)] .un .un .un hz
  refine runF_rf rfl (e := [.pl (.lst (ws.map D.int)), .un, y2, y3, y4, y5]) ?_
  have e0 : mergeD [((Sum.inl 0 : Key), D.int 1)] = toK [(0, 1)] := rfl
  simp [b_sums_of, e0, h]
  rfl
end C
namespace C
open PySem PySem.Spec PyProof.Rows L2 PD

/-! ### comprehensions with one name -/
theorem lcL_fm {i : Nat} {ft : Co Bool} {fe : Co D} {env : List Slot} {obs : List (List D)} (p : D → Bool) (f : D → D) (hl : i < env.length) (hu : env[i]? = some .un) : ∀ (ds : List D),
    (∀ d ∈ ds, ft ⟨env.set i (.pl d), obs⟩ = .ok (p d) ⟨env.set i (.pl d), obs⟩) → (∀ d ∈ ds, p d = true → fe ⟨env.set i (.pl d), obs⟩ = .ok (f d) ⟨env.set i (.pl d), obs⟩) →
    lcL false [i] [i] ft fe ds ⟨env, obs⟩ = .ok ((ds.filter p).map f) ⟨env, obs⟩
  | [], _, _ => rfl
  | d :: ds, ht, he => by
    have ih := lcL_fm p f hl hu ds (fun d h => ht d (List.mem_cons_of_mem _ h)) fun d h => he d (List.mem_cons_of_mem _ h)
    have e1 := ht d List.mem_cons_self
    have hs : setTg false [i] d env = some (env.set i (.pl d)) := by
      show setEnv env [i] [(false, d)] = _
      rw [setEnv_pl, if_pos hl]
      rfl
    have hw : wipeE (env.set i (.pl d)) [i] = env := by
      show (env.set i (.pl d)).set i .un = env
      rw [List.set_set]
      obtain ⟨h1, h2⟩ := List.getElem?_eq_some_iff.mp hu
      conv => lhs; rw [← h2]
      exact List.set_getElem_self h1
    have hno : noOw [i] (env.set i (.pl d)) = true := by
      unfold noOw
      rw [List.all_cons, List.getElem?_set_self hl]
      rfl
    unfold lcL
    simp only [hs]
    rw [e1]
    cases hp : p d with
    | false =>
      simp only [hno, if_true, hw, ih]
      rw [List.filter_cons_of_neg (by rw [hp]; decide)]
    | true =>
      have e2 := he d List.mem_cons_self hp
      simp only [e2, hno, if_true, hw, ih]
      rw [List.filter_cons_of_pos hp, List.map_cons]
theorem set_get {env : List Slot} {i : Nat} (h : i < env.length) : (env.set i .un).set i (env[i]?.getD .un) = env := by
  rw [List.set_set, List.getElem?_eq_getElem h]
  simp
theorem eLc_fm {fi : Co (List D)} {i : Nat} {ft : Co Bool} {fe : Co D} {m : M} {env : List Slot} {obs : List (List D)} {ds : List D} (p : D → Bool) (f : D → D) (hi : fi m = .ok ds ⟨env, obs⟩) (hn : noOw [i] env = true) (hl : i < env.length) (hz : ds.length ≤ sizeLine)
    (ht : ∀ d ∈ ds, ft ⟨env.set i (.pl d), obs⟩ = .ok (p d) ⟨env.set i (.pl d), obs⟩) (he : ∀ d ∈ ds, p d = true → fe ⟨env.set i (.pl d), obs⟩ = .ok (f d) ⟨env.set i (.pl d), obs⟩) :
    eLc fi false [i] [i] ft fe m = .ok (.lst ((ds.filter p).map f)) ⟨env, obs⟩ := by
  have h0 : lcL false [i] [i] ft fe ds ⟨wipeE env [i], obs⟩ = .ok ((ds.filter p).map f) ⟨wipeE env [i], obs⟩ := by
    show lcL false [i] [i] ft fe ds ⟨env.set i .un, obs⟩ = .ok _ ⟨env.set i .un, obs⟩
    refine lcL_fm p f (by simpa using hl) (List.getElem?_set_self hl) ds (fun d h => ?_) fun d h hp => ?_
    · rw [List.set_set]; exact ht d h
    · rw [List.set_set]; exact he d h hp
  unfold eLc Co.bind
  rw [hi]
  simp only [hn, hz, and_self, if_true, h0]
  have hu : PD.unwipe env (wipeE env [i]) [i] = env := set_get hl
  rw [hu]
/-- no test -/
theorem eLc_map {fi : Co (List D)} {i : Nat} {fe : Co D} {m : M} {env : List Slot} {obs : List (List D)} {ds : List D} (f : D → D) (hi : fi m = .ok ds ⟨env, obs⟩) (hn : noOw [i] env = true) (hl : i < env.length) (hz : ds.length ≤ sizeLine)
    (he : ∀ d ∈ ds, fe ⟨env.set i (.pl d), obs⟩ = .ok (f d) ⟨env.set i (.pl d), obs⟩) : eLc fi false [i] [i] (Co.ret true) fe m = .ok (.lst (ds.map f)) ⟨env, obs⟩ := by
  have := eLc_fm (fi := fi) (ft := Co.ret true) (fe := fe) (fun _ => true) f hi hn hl hz (fun _ _ => rfl) fun d h _ => he d h
  rw [this, List.filter_eq_self.mpr fun _ _ => rfl]
/-! ### the chance that all lines of a list come ahead of all of another one -/
theorem eLc_ap' (fi : Co (List D)) (t : Bool) (is vs : List Nat) (ft : Co Bool) (fe : Co D) (m : M) : True := trivial
/-- the weights of some lines -/
def wts (ws : List Int) (ls : List Int) : List Int := ls.map fun l => (ws[l.toNat]?).getD 0
theorem ix_tup {ws : List Int} {l : Int} (h0 : 0 ≤ l) (h1 : l < ws.length) : subD' (.tup (ws.map D.int)) (.int l) = some (.int ((ws[l.toNat]?).getD 0)) := by
  show atI (ws.map D.int) l = _
  obtain ⟨n, rfl⟩ := Int.eq_ofNat_of_zero_le h0
  have hn : n < ws.length := by omega
  rw [PD.atI_nat, List.getElem?_map, Int.toNat_natCast, List.getElem?_eq_getElem hn]
  rfl
/-- terms added up -/
def sumQ (l : List Rat) : Rat := l.foldl (· + ·) 0
theorem plus_loop (f : D → D) : True := trivial
theorem items_loop (wsd one other : D) (rest : Int) (hr : 0 < rest) (hrz : rest.natAbs < 2 ^ 60) (s7 : PD.Slot) (obs : List (List D)) : ∀ (l : List (Int × Int)) (acc : Rat) (x5 x6 : PD.Slot), (∀ p ∈ l, 0 ≤ p.1 ∧ p.1.natAbs < 2 ^ 60 ∧ p.2.natAbs < 2 ^ 200) →
    (∀ k, k < l.length → Sz 4000 (((l.take k).map fun p => ((p.2 * rest : Int) : Rat) / ((rest + p.1 : Int) : Rat)).foldl (· + ·) acc)) → ∃ y5 y6,
    forL true [5, 6] (sSet 4 (eFn F_plus (eCons (vPl 4) (eCons (eFn F_lowered (eCons (eOp mulD (vB (vPl 6)) (vB (vPl 3))) (eCons (eOp addD (vB (vPl 3)) (vB (vPl 5))) (Co.ret [])))) (Co.ret []))))) (itemsD (toK l))
      ⟨[.pl wsd, .pl one, .pl other, .pl (.int rest), .pl (cf acc), x5, x6, s7], obs⟩ =
    .ok .nx ⟨[.pl wsd, .pl one, .pl other, .pl (.int rest), .pl (cf ((l.map fun p => ((p.2 * rest : Int) : Rat) / ((rest + p.1 : Int) : Rat)).foldl (· + ·) acc)), y5, y6, s7], obs⟩
  | [], acc, x5, x6, _, _ => ⟨x5, x6, rfl⟩
  | p :: l, acc, x5, x6, hp, hs => by
    obtain ⟨h0, h1, h2⟩ := hp p List.mem_cons_self
    have hs0 : Sz 4000 acc := hs 0 (Nat.succ_pos _)
    obtain ⟨y5, y6, ih⟩ := items_loop wsd one other rest hr hrz s7 obs l (acc + ((p.2 * rest : Int) : Rat) / ((rest + p.1 : Int) : Rat)) (.pl (.int p.1)) (.pl (.int p.2)) (fun q hq => hp q (List.mem_cons_of_mem _ hq)) fun k hk => hs (k + 1) (by simpa using hk)
    refine ⟨y5, y6, ?_⟩
    rw [List.map_cons, List.foldl_cons, ← ih]
    show forL _ _ _ (.tup [.int p.1, .int p.2] :: itemsD (toK l)) _ = _
    rw [forL_cons]
    have hm : CMulW p.2 rest := mulW h2 hrz
    have hd : 0 < rest + p.1 := by omega
    have hdz : (rest + p.1).natAbs < 2 ^ 61 := by
      have := Int.natAbs_add_le rest p.1
      have e : (2 : Nat) ^ 61 = 2 ^ 60 + 2 ^ 60 := by decide
      omega
    have hl := F_lowered_q (n := p.2 * rest) hd (Nat.lt_of_lt_of_le hdz (Nat.pow_le_pow_right (by decide) (by decide))) obs
    have hq : Sz 4000 (((p.2 * rest : Int) : Rat) / ((rest + p.1 : Int) : Rat)) := by
      obtain ⟨d, ed⟩ := Int.eq_ofNat_of_zero_le (Int.le_of_lt hd)
      rw [ed] at hd hdz ⊢
      exact Sz.of (by omega) (Nat.lt_of_lt_of_le (mul_lt_pow' h2 hrz) (Nat.pow_le_pow_right (by decide) (by decide))) (Nat.lt_of_lt_of_le (m := 2 ^ 61) (by rw [Int.natAbs_natCast] at hdz; exact hdz) (Nat.pow_le_pow_right (by decide) (by decide)))
    have hpl := F_plus_q hs0 hq obs
    clear hs hs0 hp ih hq
    generalize ((p.2 * rest : Int) : Rat) / ((rest + p.1 : Int) : Rat) = Q at *
    simp [hm, hl, hpl]
end C
namespace C
open PySem PySem.Spec PyProof.Rows L2 PD

/-! ### how great the entries are -/
def absum (l : List (Int × Int)) : Nat := (l.map fun p => p.2.natAbs).sum
theorem absum_cons (p : Int × Int) (l : List (Int × Int)) : absum (p :: l) = p.2.natAbs + absum l := by unfold absum; rw [List.map_cons, List.sum_cons]
theorem absum_mem {l : List (Int × Int)} {p : Int × Int} (h : p ∈ l) : p.2.natAbs ≤ absum l := by
  induction l with
  | nil => cases h
  | cons q l ih =>
    rw [absum_cons]
    rcases List.mem_cons.mp h with rfl | h
    · omega
    · have := ih h; omega
theorem absum_put {l : List (Int × Int)} (hn : (l.map (·.1)).Nodup) (k v : Int) : absum (putI l k v) ≤ absum l + (v - getI l k).natAbs := by
  unfold putI
  split
  · rename_i h
    induction l with
    | nil => cases h
    | cons p l ih =>
      rw [List.map_cons, absum_cons, absum_cons, getI_cons]
      rw [List.map_cons, List.nodup_cons] at hn
      by_cases e : p.1 = k
      · rw [if_pos e, if_pos e]
        have hno : l.map (fun p => if p.1 = k then (p.1, v) else p) = l := by
          conv => rhs; rw [← List.map_id l]
          apply List.map_congr_left
          intro q hq
          have : q.1 ≠ k := fun z => hn.1 (by rw [e, ← z]; exact List.mem_map_of_mem hq)
          rw [if_neg this]; rfl
        rw [hno]
        show v.natAbs + _ ≤ _
        omega
      · rw [if_neg e, if_neg e]
        rw [List.any_cons, decide_eq_false e, Bool.false_or] at h
        have := ih hn.2 h
        omega
  · rename_i h
    have h' : l.any (fun p => decide (p.1 = k)) = false := Bool.eq_false_iff.mpr h
    rw [getI_none h']
    unfold absum
    rw [List.map_append, List.sum_append]
    show _ + ([v.natAbs] : List Nat).sum ≤ _
    simp
theorem stepIn_abs (w : Int) : ∀ (ps l : List (Int × Int)), (l.map (·.1)).Nodup → absum (ps.foldl (stepIn w) l) ≤ absum l + absum ps
  | [], l, _ => by show absum l ≤ _; omega
  | p :: ps, l, hn => by
    have h1 := stepIn_abs w ps (stepIn w l p) (putI_nodup hn _ _)
    have h2 := absum_put hn (p.1 + w) (getI l (p.1 + w) - p.2)
    rw [List.foldl_cons, absum_cons]
    have e : (getI l (p.1 + w) - p.2 - getI l (p.1 + w)).natAbs = p.2.natAbs := by omega
    rw [e] at h2
    unfold stepIn at h1 ⊢
    omega
theorem foldS_abs : ∀ (ws : List Int) (l : List (Int × Int)), (l.map (·.1)).Nodup → absum (ws.foldl stepS l) ≤ absum l * 2 ^ ws.length
  | [], l, _ => by show absum l ≤ absum l * 1; omega
  | w :: ws, l, hn => by
    have h0 := stepIn_abs w l l hn
    have h1 := foldS_abs ws (stepS l w) (stepIn_fold w (fun _ => 0) l l hn).1
    rw [List.foldl_cons, List.length_cons, Nat.pow_succ, Nat.mul_comm (2 ^ ws.length) 2, ← Nat.mul_assoc]
    refine Nat.le_trans h1 (Nat.mul_le_mul_right _ ?_)
    unfold stepS
    omega
theorem sumsL_abs (ws : List Int) : absum (sumsL ws) ≤ 2 ^ ws.length := by
  have := foldS_abs ws [(0, 1)] (by simp)
  unfold sumsL
  simpa [absum] using this
/-- where the keys stand -/
theorem putI_mem {l : List (Int × Int)} {k v : Int} {q : Int × Int} (h : q ∈ putI l k v) : q.1 = k ∨ q ∈ l := by
  unfold putI at h
  split at h
  · obtain ⟨p, hp, e⟩ := List.mem_map.mp h
    split at e
    · rename_i e2; subst e; exact .inl e2
    · subst e; exact .inr hp
  · rcases List.mem_append.mp h with h | h
    · exact .inr h
    · rw [List.mem_singleton] at h; subst h; exact .inl rfl
theorem stepIn_keys (w : Int) (T : Int → Prop) : ∀ (ps l : List (Int × Int)), (∀ p ∈ l, T p.1) → (∀ p ∈ ps, T (p.1 + w)) → ∀ p ∈ ps.foldl (stepIn w) l, T p.1
  | [], l, hl, _ => hl
  | p :: ps, l, hl, hp => stepIn_keys w T ps (stepIn w l p) (fun q hq => by
      rcases putI_mem hq with e | hq
      · rw [e]; exact hp p List.mem_cons_self
      · exact hl q hq) fun q hq => hp q (List.mem_cons_of_mem _ hq)
theorem foldS_even (w : Int) : ∀ (ws : List Int) (l : List (Int × Int)) (j : Nat), (∀ x ∈ ws, x = w) → (∀ p ∈ l, ∃ i : Nat, i ≤ j ∧ p.1 = i * w) → ∀ p ∈ ws.foldl stepS l, ∃ i : Nat, i ≤ j + ws.length ∧ p.1 = i * w
  | [], l, j, _, hl => hl
  | x :: ws, l, j, hw, hl => by
    have e : x = w := hw x List.mem_cons_self
    subst e
    have h1 := stepIn_keys x (fun k => ∃ i : Nat, i ≤ j + 1 ∧ k = i * x) l l (fun p hp => let ⟨i, a, b⟩ := hl p hp; ⟨i, by omega, b⟩) fun p hp => let ⟨i, a, b⟩ := hl p hp; ⟨i + 1, by omega, by rw [b]; push_cast; rw [Int.add_mul, Int.one_mul]⟩
    intro p hp
    obtain ⟨i, a, b⟩ := foldS_even x ws (stepS l x) (j + 1) (fun y hy => hw y (List.mem_cons_of_mem _ hy)) h1 p hp
    exact ⟨i, by rw [List.length_cons]; omega, b⟩
theorem foldS_range : ∀ (ws : List Int) (l : List (Int × Int)) (B : Int), (∀ x ∈ ws, 0 ≤ x) → (∀ p ∈ l, 0 ≤ p.1 ∧ p.1 ≤ B) → ∀ p ∈ ws.foldl stepS l, 0 ≤ p.1 ∧ p.1 ≤ B + ws.sum
  | [], l, B, _, hl => fun p hp => by simpa using hl p hp
  | x :: ws, l, B, hw, hl => by
    have hx := hw x List.mem_cons_self
    have h1 := stepIn_keys x (fun k => 0 ≤ k ∧ k ≤ B + x) l l (fun p hp => by have := hl p hp; omega) fun p hp => by have := hl p hp; omega
    intro p hp
    have := foldS_range ws (stepS l x) (B + x) (fun y hy => hw y (List.mem_cons_of_mem _ hy)) h1 p hp
    rw [List.sum_cons]
    omega
theorem nodup_len {α : Type} [DecidableEq α] : ∀ {l r : List α}, l.Nodup → (∀ a ∈ l, a ∈ r) → l.length ≤ r.length
  | [], _, _, _ => Nat.zero_le _
  | a :: l, r, h, hs => by
    rw [List.nodup_cons] at h
    have ha := hs a List.mem_cons_self
    have ih := nodup_len (l := l) (r := r.erase a) h.2 fun b hb => (List.mem_erase_of_ne (fun e => h.1 (by rw [← e]; exact hb))).mpr (hs b (List.mem_cons_of_mem _ hb))
    rw [List.length_erase_of_mem ha] at ih
    have := List.length_pos_of_mem ha
    rw [List.length_cons]
    omega
theorem sumsL_even_len {w : Int} {ws : List Int} (hw : ∀ x ∈ ws, x = w) : (sumsL ws).length ≤ ws.length + 1 := by
  have h1 := foldS_even w ws [(0, 1)] 0 hw (fun p hp => ⟨0, Nat.le_refl _, by rw [List.mem_singleton] at hp; subst hp; simp⟩)
  have h2 := sumsL_nodup ws [(0, 1)] (by simp)
  have h3 := nodup_len (r := (List.range (ws.length + 1)).map fun (i : Nat) => (i : Int) * w) h2 fun a ha => by
    obtain ⟨p, hp, rfl⟩ := List.mem_map.mp ha
    obtain ⟨i, hi, e⟩ := h1 p hp
    rw [e]
    exact List.mem_map.mpr ⟨i, List.mem_range.mpr (by omega), rfl⟩
  rw [List.length_map, List.length_map, List.length_range] at h3
  exact h3
theorem sumsL_range {ws : List Int} (hw : ∀ x ∈ ws, 0 ≤ x) : ∀ p ∈ sumsL ws, 0 ≤ p.1 ∧ p.1 ≤ ws.sum := by
  have := foldS_range ws [(0, 1)] 0 hw (fun p hp => by rw [List.mem_singleton] at hp; subst hp; exact ⟨Int.le_refl _, Int.le_refl _⟩)
  intro p hp
  have := this p hp
  omega
/-! ### sums of few fractions are small -/
theorem Sz.mono {A B : Nat} {q : Rat} (h : Sz A q) (l : A ≤ B) : Sz B q := ⟨Nat.lt_of_lt_of_le h.n (Nat.pow_le_pow_right (by decide) l), Nat.lt_of_lt_of_le h.d (Nat.pow_le_pow_right (by decide) l)⟩
theorem Sz.add {A B : Nat} {a b : Rat} (ha : Sz A a) (hb : Sz B b) : Sz (A + B + 1) (a + b) := by
  rw [← add_nd]
  have e : ((a.den * b.den : Nat) : Int) = (a.den : Int) * (b.den : Int) := by push_cast; rfl
  rw [← e]
  have h1 := mul_lt_pow' ha.n hb.nd
  have h2 := mul_lt_pow' hb.n ha.nd
  have h3 := Int.natAbs_add_le (a.num * b.den) (b.num * a.den)
  have h4 : 2 ^ (A + B + 1) = 2 ^ (A + B) * 2 := Nat.pow_succ 2 (A + B)
  rw [Nat.add_comm B A] at h2
  refine Sz.of (Nat.mul_pos a.den_pos b.den_pos) (by omega) (Nat.lt_of_lt_of_le (mul_lt_pow ha.d hb.d) (Nat.pow_le_pow_right (by decide) (by omega)))
theorem Sz.foldl {B : Nat} : ∀ {l : List Rat} {A : Nat} {acc : Rat}, Sz A acc → (∀ q ∈ l, Sz B q) → Sz (A + l.length * (B + 1)) (l.foldl (· + ·) acc)
  | [], A, acc, h, _ => by simpa using h
  | q :: l, A, acc, h, hl => by
    have := Sz.foldl (l := l) (h.add (hl q List.mem_cons_self)) fun r hr => hl r (List.mem_cons_of_mem _ hr)
    rw [List.foldl_cons, List.length_cons]
    refine this.mono ?_
    rw [Nat.succ_mul]
    omega
theorem Sz.zero {B : Nat} (h : 0 < B) : Sz B 0 := ⟨by show 0 < 2 ^ B; exact Nat.two_pow_pos _, by show 1 < 2 ^ B; exact Nat.one_lt_two_pow (by omega)⟩
theorem foldl_wsum (rest : Int) : ∀ (l : List (Int × Int)) (acc : Rat), (l.map fun p => ((p.2 * rest : Int) : Rat) / ((rest + p.1 : Int) : Rat)).foldl (· + ·) acc = acc + wsum l fun k => (rest : Rat) / ((rest + k : Int) : Rat)
  | [], acc => by rw [wsum_nil]; show acc = _; grind
  | p :: l, acc => by
    rw [List.map_cons, List.foldl_cons, foldl_wsum rest l, wsum_cons, Rat.intCast_mul]
    grind
end C
namespace C
open PySem PySem.Spec PyProof.Rows L2 PD

def fact : Nat → Nat
  | 0 => 1
  | n + 1 => (n + 1) * fact n
theorem fact_pos : ∀ n, 0 < fact n
  | 0 => Nat.one_pos
  | n + 1 => Nat.mul_pos (Nat.succ_pos _) (fact_pos n)
theorem ratN_ne {n : Nat} (h : 0 < n) : ((n : Nat) : Rat) ≠ 0 := by
  intro e
  have e' : (((n : Nat) : Int) : Rat) = ((0 : Int) : Rat) := e
  rw [Rat.intCast_inj] at e'
  omega
/-- the chance that m even lines come ahead of r even lines -/
def aheadQ (m r : Nat) : Rat := ((fact m : Nat) : Rat) * ((fact r : Nat) : Rat) / ((fact (m + r) : Nat) : Rat)
theorem incl_mul (c : Rat) : ∀ (ws : List Int) (g : Int → Rat), (incl ws fun x => c * g x) = c * incl ws g
  | [], g => rfl
  | w :: ws, g => by
    show (incl ws fun x => c * g x) - (incl ws fun x => c * g (x + w)) = c * (incl ws g - incl ws fun x => g (x + w))
    rw [incl_mul c ws g, incl_mul c ws fun x => g (x + w)]
    grind
theorem castN (n : Nat) : ((n : Nat) : Rat) = (((n : Nat) : Int) : Rat) := rfl
theorem castN1 (n : Nat) : (((n + 1 : Nat)) : Rat) = ((n : Nat) : Rat) + 1 := by
  rw [castN, castN]
  push_cast
  rfl
theorem castNm (a b : Nat) : (((a * b : Nat)) : Rat) = ((a : Nat) : Rat) * ((b : Nat) : Rat) := by
  rw [castN, castN, castN]
  push_cast
  rfl
theorem incl_even (w : Int) (hw : 0 < w) : ∀ (m r : Nat), 0 < r → (incl (List.replicate m w) fun x => ((r * w : Int) : Rat) / ((r * w + x : Int) : Rat)) = aheadQ m r
  | 0, r, hr => by
    show ((r * w : Int) : Rat) / ((r * w + 0 : Int) : Rat) = _
    rw [Int.add_zero]
    have h1 : ((r * w : Int) : Rat) ≠ 0 := by
      intro e
      have e' : ((r * w : Int) : Rat) = ((0 : Int) : Rat) := e
      rw [Rat.intCast_inj] at e'
      have := Int.mul_pos (show (0 : Int) < r by omega) hw
      omega
    have h2 := ratN_ne (fact_pos r)
    unfold aheadQ
    rw [Nat.zero_add]
    have h3 : ((fact 0 : Nat) : Rat) = 1 := rfl
    rw [h3]
    grind
  | m + 1, r, hr => by
    rw [List.replicate_succ]
    show (incl (List.replicate m w) fun x => ((r * w : Int) : Rat) / ((r * w + x : Int) : Rat)) - (incl (List.replicate m w) fun x => ((r * w : Int) : Rat) / ((r * w + (x + w) : Int) : Rat)) = _
    rw [incl_even w hw m r hr]
    have e : (fun x : Int => ((r * w : Int) : Rat) / ((r * w + (x + w) : Int) : Rat)) = fun x => (((r : Nat) : Rat) / ((r + 1 : Nat) : Rat)) * ((((r + 1 : Nat) : Int) * w : Int) : Rat) / ((((r + 1 : Nat) : Int) * w + x : Int) : Rat) := by
      funext x
      have e1 : (r : Int) * w + (x + w) = ((r + 1 : Nat) : Int) * w + x := by push_cast; rw [Int.add_mul]; omega
      rw [e1]
      have h2 := ratN_ne (Nat.succ_pos r)
      rw [Rat.intCast_mul, Rat.intCast_mul, castN, castN] at *
      grind
    rw [e]
    have e2 : (fun x : Int => (((r : Nat) : Rat) / ((r + 1 : Nat) : Rat)) * ((((r + 1 : Nat) : Int) * w : Int) : Rat) / ((((r + 1 : Nat) : Int) * w + x : Int) : Rat)) =
        fun x => (((r : Nat) : Rat) / ((r + 1 : Nat) : Rat)) * (((((r + 1 : Nat) : Int) * w : Int) : Rat) / ((((r + 1 : Nat) : Int) * w + x : Int) : Rat)) := by
      funext x; grind
    rw [e2, incl_mul, incl_even w hw m (r + 1) (Nat.succ_pos r)]
    unfold aheadQ
    rw [show m + (r + 1) = (m + r) + 1 by omega, show m + 1 + r = (m + r) + 1 by omega]
    show _ * _ / _ - _ * (_ * (((r + 1) * fact r : Nat) : Rat) / (((m + r + 1) * fact (m + r) : Nat) : Rat)) = ((((m + 1) * fact m : Nat)) : Rat) * _ / (((m + r + 1) * fact (m + r) : Nat) : Rat)
    rw [castNm, castNm, castNm, castN1 r, castN1 m, castN1 (m + r)]
    have n1 := ratN_ne (fact_pos m)
    have n2 := ratN_ne (fact_pos r)
    have n3 := ratN_ne (fact_pos (m + r))
    have n4 := ratN_ne (Nat.succ_pos r)
    have n5 := ratN_ne (Nat.succ_pos (m + r))
    rw [Nat.succ_eq_add_one, castN1] at n4 n5
    have n6 : ((m + r : Nat) : Rat) = (m : Rat) + (r : Rat) := by
      rw [castN, castN, castN]; push_cast; rfl
    rw [n6] at n5 ⊢
    generalize ((fact m : Nat) : Rat) = A at *
    generalize ((fact r : Nat) : Rat) = B at *
    generalize ((fact (m + r) : Nat) : Rat) = E at *
    generalize ((m : Nat) : Rat) = x at *
    generalize ((r : Nat) : Rat) = y at *
    grind
end C
namespace C
open PySem PySem.Spec PyProof.Rows L2 PD

theorem comp_wts {ws ls : List Int} {a b c d e f : PD.Slot} {fi : Co (List D)} {obs : List (List D)} (hi : fi ⟨[.pl (.tup (ws.map D.int)), a, b, c, d, e, f, .un], obs⟩ = .ok (ls.map D.int) ⟨[.pl (.tup (ws.map D.int)), a, b, c, d, e, f, .un], obs⟩)
    (hl : ∀ l ∈ ls, 0 ≤ l ∧ l < ws.length) (hz : ls.length ≤ 1000) :
    eLc fi false [7] [7] (Co.ret true) (eOp subD' (vB (vPl 0)) (vB (vPl 7))) ⟨[.pl (.tup (ws.map D.int)), a, b, c, d, e, f, .un], obs⟩ = .ok (.lst ((wts ws ls).map D.int)) ⟨[.pl (.tup (ws.map D.int)), a, b, c, d, e, f, .un], obs⟩ := by
  have h := eLc_map (i := 7) (fe := eOp subD' (vB (vPl 0)) (vB (vPl 7))) (fun x => match x with
    | .int l => .int ((ws[l.toNat]?).getD 0)
    | _ => .non) hi rfl (by simp) (by rw [List.length_map]; exact size_le hz) (fun x hx => by
      obtain ⟨l, h1, rfl⟩ := List.mem_map.mp hx
      obtain ⟨h2, h3⟩ := hl l h1
      simp [ix_tup h2 h3])
  rw [h]
  unfold wts
  rw [List.map_map, List.map_map]
  rfl
/-- the chance by even weights -/
theorem F_ahead_of_even {w : Int} {ws os ps : List Int} {one other : D} (h1 : itD one = some (os.map D.int)) (h2 : itD other = some (ps.map D.int)) (hw : ∀ x ∈ ws, x = w) (h0 : 0 < w) (hwz : w < 2 ^ 20)
    (ho : ∀ l ∈ os, 0 ≤ l ∧ l < ws.length) (hp : ∀ l ∈ ps, 0 ≤ l ∧ l < ws.length) (hoz : os.length ≤ 23) (hpz : ps.length ≤ 23) (obs : List (List D)) :
    F_ahead_of [.tup (ws.map D.int), one, other] obs = some (cf (if ps.length = 0 then 1 else aheadQ os.length ps.length), obs) := by
  have ev : ∀ ls : List Int, (∀ l ∈ ls, 0 ≤ l ∧ l < ws.length) → wts ws ls = List.replicate ls.length w := fun ls hl => by
    unfold wts
    rw [List.eq_replicate_iff]
    refine ⟨by rw [List.length_map], fun b hb => ?_⟩
    obtain ⟨l, h3, rfl⟩ := List.mem_map.mp hb
    obtain ⟨h4, h5⟩ := hl l h3
    have h6 : l.toNat < ws.length := by omega
    rw [List.getElem?_eq_getElem h6]
    exact hw _ (List.getElem_mem h6)
  have sumr : ∀ n : Nat, (List.replicate n w).sum = n * w := fun n => by
    induction n with
    | zero => simp
    | succ n ih => rw [List.replicate_succ, List.sum_cons, ih]; push_cast; rw [Int.add_mul]; omega
  have c2 := comp_wts (ws := ws) (ls := ps) (a := .pl one) (b := .pl other) (c := .un) (d := .un) (e := .un) (f := .un) (fi := iVal (vPl 2)) (obs := obs) (by simp [h2]) hp (by omega)
  rw [ev ps hp] at c2
  have hs : sumD [.lst ((List.replicate ps.length w).map D.int)] = some (.int (ps.length * w)) := by
    show (toInts _).map _ = _
    rw [toInts_map, Option.map_some, sumr]
  by_cases hr : ps.length = 0
  · rw [if_pos hr]
    refine runF_rt rfl (e := [.pl (.tup (ws.map D.int)), .pl one, .pl other, .pl (.int 0), .un, .un, .un, .un]) ?_
    have hz : ((ps.length : Nat) : Int) * w = 0 := by rw [hr]; simp
    rw [hz] at hs
    have e1 : cf 1 = .tup [.int 1, .int 1] := rfl
    simp only [List.map_replicate] at c2 hs
    simp [b_ahead_of, c2, hs, two_le, e1]
  · rw [if_neg hr]
    have hr' : 0 < ps.length := by omega
    have hrw : (0 : Int) < ps.length * w := Int.mul_pos (by omega) h0
    have c1 := comp_wts (ws := ws) (ls := os) (a := .pl one) (b := .pl other) (c := .pl (.int (ps.length * w))) (d := .pl (.tup [.int 0, .int 1])) (e := .un) (f := .un) (fi := iVal (vPl 1)) (obs := obs) (by simp [h1]) ho (by omega)
    rw [ev os ho] at c1
    have hS := F_sums_of_q (List.replicate os.length w) (by simpa using hoz) obs
    have hlen := sumsL_even_len (w := w) (ws := List.replicate os.length w) fun x hx => List.eq_of_mem_replicate hx
    rw [List.length_replicate] at hlen
    have hab := sumsL_abs (List.replicate os.length w)
    rw [List.length_replicate] at hab
    have hrg := sumsL_range (ws := List.replicate os.length w) fun x hx => by rw [List.eq_of_mem_replicate hx]; omega
    rw [sumr] at hrg
    have hmz : ∀ n : Nat, n ≤ 23 → ((n : Nat) : Int) * w < 2 ^ 60 := fun n hn => by
      have h3 : ((n : Nat) : Int) * w ≤ 23 * w := Int.mul_le_mul_of_nonneg_right (by omega) (by omega)
      have e1 : (2 : Int) ^ 60 = 1152921504606846976 := by decide
      have e2 : (2 : Int) ^ 20 = 1048576 := by decide
      omega
    have hrz : (((ps.length : Nat) : Int) * w).natAbs < 2 ^ 60 := by
      have := hmz ps.length hpz
      have e1 : (2 : Int) ^ 60 = ((2 ^ 60 : Nat) : Int) := by decide
      omega
    have hent : ∀ p ∈ sumsL (List.replicate os.length w), 0 ≤ p.1 ∧ p.1.natAbs < 2 ^ 60 ∧ p.2.natAbs < 2 ^ 200 := fun p hp' => by
      obtain ⟨a1, a2⟩ := hrg p hp'
      have a3 := hmz os.length hoz
      have e1 : (2 : Int) ^ 60 = ((2 ^ 60 : Nat) : Int) := by decide
      refine ⟨a1, by omega, ?_⟩
      have a4 := absum_mem hp'
      have a5 : 2 ^ os.length < 2 ^ 200 := Nat.pow_lt_pow_right (by decide) (by omega)
      omega
    have hterm : ∀ q ∈ (sumsL (List.replicate os.length w)).map (fun p => ((p.2 * (ps.length * w) : Int) : Rat) / (((ps.length * w : Int) + p.1 : Int) : Rat)), Sz 150 q := fun q hq => by
      obtain ⟨p, hp', rfl⟩ := List.mem_map.mp hq
      obtain ⟨a1, a2, a3⟩ := hent p hp'
      have a4 := absum_mem hp'
      have a5 : 2 ^ os.length ≤ 2 ^ 23 := Nat.pow_le_pow_right (by decide) hoz
      obtain ⟨d, ed⟩ := Int.eq_ofNat_of_zero_le (show (0 : Int) ≤ ps.length * w + p.1 by omega)
      rw [ed]
      have hd : d < 2 ^ 61 := by
        have e : (2 : Nat) ^ 61 = 2 ^ 60 + 2 ^ 60 := by decide
        omega
      refine Sz.of (by omega) (Nat.lt_of_lt_of_le (mul_lt_pow' (A := 24) (B := 60) ?_ hrz) (Nat.pow_le_pow_right (by decide) (by decide))) (Nat.lt_of_lt_of_le hd (Nat.pow_le_pow_right (by decide) (by decide)))
      have e : (2 : Nat) ^ 24 = 2 ^ 23 * 2 := by decide
      have : 0 < 2 ^ 23 := by decide
      omega
    obtain ⟨y5, y6, hloop⟩ := items_loop (.tup (ws.map D.int)) one other (ps.length * w) hrw hrz .un obs (sumsL (List.replicate os.length w)) 0 .un .un hent (fun k hk => by
      have := Sz.foldl (B := 150) (A := 1) (acc := 0) (l := ((sumsL (List.replicate os.length w)).take k).map fun p => ((p.2 * (ps.length * w) : Int) : Rat) / (((ps.length * w : Int) + p.1 : Int) : Rat)) (Sz.zero (by decide)) fun q hq => by
        obtain ⟨p, hp', rfl⟩ := List.mem_map.mp hq
        exact hterm _ (List.mem_map.mpr ⟨p, List.mem_of_mem_take hp', rfl⟩)
      refine this.mono ?_
      rw [List.length_map, List.length_take]
      have : min k (sumsL (List.replicate os.length w)).length ≤ 24 := by omega
      omega)
    rw [foldl_wsum, sumsL_wsum, incl_even w h0 os.length ps.length hr'] at hloop
    have e0 : (0 : Rat) + aheadQ os.length ps.length = aheadQ os.length ps.length := by grind
    rw [e0] at hloop
    refine runF_rt rfl (e := [.pl (.tup (ws.map D.int)), .pl one, .pl other, .pl (.int (ps.length * w)), .pl (cf (aheadQ os.length ps.length)), y5, y6, .un]) ?_
    have e1 : cf 0 = .tup [.int 0, .int 1] := rfl
    rw [e1] at hloop
    have hne : ¬ (((ps.length : Nat) : Int) * w = 0) := by omega
    simp only [List.map_replicate] at c2 hs c1 hS
    simp [b_ahead_of, c2, hs, two_le, hne, iItemsF, c1, hS, hloop]
end C
namespace C
open PySem PySem.Spec PyProof.Rows L2 PD

@[simp] theorem isi_int_int (i : Int) : isiD [.int i, .ty "int"] = some (.bl true) := rfl
@[simp] theorem isi_int_bool (i : Int) : isiD [.int i, .ty "bool"] = some (.bl false) := rfl
@[simp] theorem isi_int_str (i : Int) : isiD [.int i, .ty "str"] = some (.bl false) := rfl
@[simp] theorem isi_tup_tuple (i : List D) : isiD [.tup i, .ty "tuple"] = some (.bl true) := rfl
@[simp] theorem isi_lst_list (i : List D) : isiD [.lst i, .ty "list"] = some (.bl true) := rfl
@[simp] theorem isi_str_str (i : Str) : isiD [.str i, .ty "str"] = some (.bl true) := rfl
@[simp] theorem eNot_ap (f : Co D) (m : M) : eNot f m = (Co.bind (tB' f) fun c => Co.ret (.bl !c)) m := rfl
@[simp] theorem eAnd_ap (f g : Co D) (m : M) : eAnd f g m = (Co.bind (tB' f) fun c => if c = true then g else Co.ret (.bl false)) m := rfl
@[simp] theorem eOr_ap (f g : Co D) (m : M) : eOr f g m = (Co.bind (tB' f) fun c => if c = true then Co.ret (.bl true) else g) m := rfl
@[simp] theorem eIf_ap (t : Co Bool) (f g : Co D) (m : M) : eIf t f g m = (Co.bind t fun c => if c = true then f else g) m := rfl
@[simp] theorem eChain_ap (p q : D → D → Option D) (a b c : Co Opd) (m : M) : eChain p q a b c m = (Co.bind a fun o1 => Co.bind b fun o2 => Co.bind (tB' (Opd2 p o1 o2)) fun k => if k = true then Co.bind c fun o3 => Opd2 q o2 o3 else Co.ret (.bl false)) m := rfl
theorem F_is_int_q (i : Int) (obs : List (List D)) : F_is_int [.int i] obs = some (.bl true, obs) := by
  refine runF_rt rfl (e := [.pl (.int i)]) ?_
  simp [b_is_int]
theorem F_is_in_q (i a b : Int) (obs : List (List D)) : F_is_in [.int i, .int a, .int b] obs = some (.bl (decide (a ≤ i ∧ i ≤ b)), obs) := by
  refine runF_rt rfl (e := [.pl (.int i), .pl (.int a), .pl (.int b)]) ?_
  by_cases h1 : a ≤ i <;> by_cases h2 : i ≤ b <;> simp [b_is_in, F_is_int_q, h1, h2]
theorem F_need_number_q {i a b : Int} (h : a ≤ i ∧ i ≤ b) (obs : List (List D)) : F_need_number [.int i, .int a, .int b] obs = some (.non, obs) := by
  refine runF_nx rfl (e := [.pl (.int i), .pl (.int a), .pl (.int b)]) ?_
  simp [b_need_number, F_is_in_q, h]
theorem F_need_board_q {r c : Int} (h1 : 1 ≤ r ∧ r ≤ 12) (h2 : 1 ≤ c ∧ c ≤ 12) (obs : List (List D)) : F_need_board [.int r, .int c] obs = some (.non, obs) := by
  refine runF_nx rfl (e := [.pl (.int r), .pl (.int c)]) ?_
  simp [b_need_board, F_need_number_q h1, F_need_number_q h2]
theorem all_bls (bs : List Bool) : allD [.lst (bs.map D.bl)] = some (.bl (bs.all id)) := by
  show (toBls _).map _ = _
  rw [toBls_map]
  rfl
theorem any_bls (bs : List Bool) : anyD [.lst (bs.map D.bl)] = some (.bl (bs.any id)) := by
  show (toBls _).map _ = _
  rw [toBls_map]
  rfl
@[simp] theorem lenU_tup (xs : List D) : lenU [.tup xs] = some (.int xs.length) := rfl
@[simp] theorem lenU_lst (xs : List D) : lenU [.lst xs] = some (.int xs.length) := rfl
@[simp] theorem lenU_dk (xs : List (Key × D)) : lenU [.dk xs] = some (.int xs.length) := rfl
theorem lenU_str {z : Str} (h : z.length ≤ sizeLine) : lenU [.str z] = some (.int z.length) := by
  have e : lenD [.str z] = some (.int z.length) := by
    show (if z.length ≤ sizeLine then _ else _) = _
    rw [if_pos h]
  show (match lenD [.str z] with | some d => some d | none => lenKD [.str z]) = _
  rw [e]
theorem F_need_weights_q {r c : Int} {ws : List Int} (h1 : 1 ≤ r ∧ r ≤ 12) (h2 : 1 ≤ c ∧ c ≤ 12) (hl : (ws.length : Int) = r + c) (hw : ∀ x ∈ ws, 1 ≤ x ∧ x ≤ 1000) (obs : List (List D)) :
    F_need_weights [.int r, .int c, .tup (ws.map D.int)] obs = some (.non, obs) := by
  refine runF_nx rfl (e := [.pl (.int r), .pl (.int c), .pl (.tup (ws.map D.int)), .un]) ?_
  have hc := eLc_map (i := 3) (fi := iVal (vPl 2)) (fe := eFn F_is_in (eCons (vPl 3) (eCons (Co.ret (.int 1)) (eCons (Co.ret (.int 1000)) (Co.ret []))))) (m := ⟨[.pl (.int r), .pl (.int c), .pl (.tup (ws.map D.int)), .un], obs⟩)
    (env := [.pl (.int r), .pl (.int c), .pl (.tup (ws.map D.int)), .un]) (obs := obs) (ds := ws.map D.int) (fun _ => .bl true) (by simp) rfl (by simp) (by rw [List.length_map]; exact size_le (by omega)) (fun x hx => by
      obtain ⟨l, h3, rfl⟩ := List.mem_map.mp hx
      simp [F_is_in_q, hw l h3])
  have e : (ws.map D.int).map (fun _ => D.bl true) = (List.replicate ws.length true).map D.bl := by
    rw [List.map_map, List.map_replicate, List.eq_replicate_iff]
    refine ⟨by rw [List.length_map], fun b hb => ?_⟩
    obtain ⟨_, _, rfl⟩ := List.mem_map.mp hb
    rfl
  rw [e] at hc
  have ha := all_bls (List.replicate ws.length true)
  have e2 : (List.replicate ws.length true).all id = true := by rw [List.all_eq_true]; intro x hx; exact List.eq_of_mem_replicate hx
  rw [e2] at ha
  simp only [List.map_replicate] at hc ha
  simp [b_need_weights, F_need_board_q h1 h2, hl, hc, ha]
end C
namespace C
open PySem PySem.Spec PyProof.Rows L2 PD

@[simp] theorem sub_lst0 (a : D) (r : List D) : subD' (.lst (a :: r)) (.int 0) = some a := PD.atI_nat (a :: r) 0
@[simp] theorem sub_lst1 (a b : D) (r : List D) : subD' (.lst (a :: b :: r)) (.int 1) = some b := PD.atI_nat (a :: b :: r) 1
@[simp] theorem sub_lst2 (a b c : D) (r : List D) : subD' (.lst (a :: b :: c :: r)) (.int 2) = some c := PD.atI_nat (a :: b :: c :: r) 2
@[simp] theorem sub_lst3 (a b c d : D) (r : List D) : subD' (.lst (a :: b :: c :: d :: r)) (.int 3) = some d := PD.atI_nat (a :: b :: c :: d :: r) 3
theorem sub_scr (ns : List Int) (n : Nat) : subD' (.scr ns) (.int n) = (ns[n]?).map .int := by
  show (atI ns n).map _ = _
  rw [PD.atI_nat]
@[simp] theorem lenU_scr (ns : List Int) : lenU [.scr ns] = some (.int ns.length) := rfl
@[simp] theorem intD_int (i : Int) : intD [.int i] = some (.int i) := rfl
@[simp] theorem sLSet_ap (g : Co Opd) (fi fe : Co D) (m : M) : sLSet g fi fe m = (Co.bind fe fun d => Co.bind g fun o => Co.bind fi fun k => match k with
  | .int i => Co.bind (updO o fun ds => (ixN ds.length i).map fun j => ds.set j d) fun _ => Co.ret .nx
  | _ => fun _ => .no) m := rfl
@[simp] theorem updO_obj (n : Nat) (h : List D → Option (List D)) (m : M) : updO (.val (.obj n)) h m = match m.obs[n]? with
  | some ds => match h ds with
    | some ds' => .ok () { m with obs := m.obs.set n ds' }
    | none => .no
  | none => .no := rfl
@[simp] theorem ix40 : ixN 4 0 = some 0 := rfl
@[simp] theorem ix41 : ixN 4 1 = some 1 := rfl
@[simp] theorem ix42 : ixN 4 2 = some 2 := rfl
@[simp] theorem ix43 : ixN 4 3 = some 3 := rfl
theorem pow1018 : powD (.int 10) (.int 18) = some (.int 1000000000000000000) := by
  have h : CPow 10 18 := by unfold CPow; decide
  show (if CPow 10 18 then some (D.int (10 ^ (18 : Int).toNat)) else none) = _
  rw [if_pos h]
  rfl
/-- a reader of the script that stands well -/
def rowD (ns : List Int) (a b c : Int) : List D := [.scr ns, .int a, .int b, .int c]
structure RowOk (a b : Int) : Prop where
  a : 0 ≤ a
  b : 0 ≤ b ∧ b < 2147483647
theorem divW' {i j : Int} (h0 : 0 < j) (hj : j ≤ 100000) : CDivW i j := by
  obtain ⟨n, rfl⟩ := Int.eq_ofNat_of_zero_le (Int.le_of_lt h0)
  have e : (2 : Nat) ^ 20 = 1048576 := by decide
  have h1 : n < 2 ^ 20 := by omega
  exact divW (by omega) (Nat.lt_of_lt_of_le h1 (Nat.pow_le_pow_right (by decide) (by decide)))
theorem F__law_taken_q (ns : List Int) {a b c many : Int} (r : RowOk a b) (h0 : 0 < many) (hm : many ≤ 100000) : ∃ v a' b' c', F__law_taken [.obj 0, .int many] [rowD ns a b c] = some (.int v, [rowD ns a' b' c']) ∧ RowOk a' b' ∧ 0 ≤ v ∧ v < many := by
  have dw : ∀ i, CDivW i many := fun i => divW' h0 hm
  have md : ∀ i : Int, 0 ≤ i % many ∧ i % many < many := fun i => ⟨Int.emod_nonneg _ (by omega), Int.emod_lt_of_pos _ h0⟩
  have mb : ∀ i : Int, 0 ≤ i % 2147483647 ∧ i % 2147483647 < 2147483647 := fun i => ⟨Int.emod_nonneg _ (by decide), Int.emod_lt_of_pos _ (by decide)⟩
  have mw : CMulW b 48271 := by
    have e : (2 : Nat) ^ 31 = 2147483648 := by decide
    have h1 := r.b
    exact mulW (A := 31) (B := 16) (by omega) (by decide)
  by_cases hc : 0 < c
  · refine ⟨c % many, a, b, c / many, ?_, r, (md c).1, (md c).2⟩
    refine runF_rt rfl (e := [.pl (.obj 0), .pl (.int many), .pl (.int (c % many)), .un]) ?_
    simp [b__law_taken, rowD, hc, h0, dw]
  · have ha : 0 < a + 1 := by have := r.a; omega
    by_cases hl : (ns.length : Int) < a + 1
    · refine ⟨((b * 48271 + 11) % 2147483647) / 7 % many, a + 1, (b * 48271 + 11) % 2147483647, c, ?_, ⟨by omega, mb _⟩, (md _).1, (md _).2⟩
      have d7 : ∀ i, CDivW i 7 := fun i => divW' (by decide) (by decide)
      refine runF_rt rfl (e := [.pl (.obj 0), .pl (.int many), .un, .un]) ?_
      simp [b__law_taken, rowD, hc, hl, h0, mw, d7]
    · have h1 : a.toNat < ns.length := by have := r.a; omega
      have e1 : a + 1 - 1 = ((a.toNat : Nat) : Int) := by have := r.a; omega
      have hs := sub_scr ns a.toNat
      rw [List.getElem?_eq_getElem h1, Option.map_some] at hs
      generalize hx : ns[a.toNat] = x at hs
      rw [← e1] at hs
      by_cases hg : 1000000000000000000 ≤ x
      · refine ⟨x % many, a + 1, (b * 48271 + x + 11) % 2147483647, x / many, ?_, ⟨by omega, mb _⟩, (md _).1, (md _).2⟩
        refine runF_rt rfl (e := [.pl (.obj 0), .pl (.int many), .un, .pl (.int x)]) ?_
        simp only [Int.add_sub_cancel] at hs
        simp [b__law_taken, rowD, hc, hl, h0, mw, dw, hs, hg, pow1018]
      · refine ⟨x % many, a + 1, (b * 48271 + x + 11) % 2147483647, c, ?_, ⟨by omega, mb _⟩, (md _).1, (md _).2⟩
        refine runF_rt rfl (e := [.pl (.obj 0), .pl (.int many), .un, .pl (.int x)]) ?_
        simp only [Int.add_sub_cancel] at hs
        simp [b__law_taken, rowD, hc, hl, h0, mw, dw, hs, hg, pow1018]
end C
namespace C
open PySem PySem.Spec PyProof.Rows L2 PD

@[simp] theorem isLst_ap (g : Co Opd) (m : M) : isLst g m = (Co.bind g fun o m => match o.get m with
  | some (.lst _) => .ok o m
  | _ => .no) m := rfl
@[simp] theorem eAppend_ap (g : Co Opd) (f : Co D) (m : M) : eAppend g f m = (Co.bind (isLst g) fun o => Co.bind f fun d => Co.bind (updO o fun ds => if ds.length < sizeLine then some (ds ++ [d]) else none) fun _ => Co.ret .non) m := rfl
@[simp] theorem ePopAt_ap (g : Co Opd) (f : Co D) (m : M) : ePopAt g f m = (Co.bind (isLst g) fun o => Co.bind f fun k m => match k with
  | .int i => if CIx i then match o.get m with
    | some (.lst ds) => match seqIndex? i ds.length with
      | some j => match ds[j]? with
        | some d => match updO o (fun ds => some (ds.eraseIdx j)) m with
          | .ok _ m' => .ok d m'
          | .no => .no
        | none => .no
      | none => .no
    | _ => .no
    else .no
  | _ => .no) m := rfl
@[simp] theorem updO_slot (i : Nat) (h : List D → Option (List D)) (m : M) : updO (.slot i) h m = match m.env[i]? with
  | some (.ow (.lst ds)) => match h ds with
    | some ds' => .ok () { m with env := m.env.set i (.ow (.lst ds')) }
    | none => .no
  | _ => .no := rfl
@[simp] theorem asL_ap (f : Co D) (m : M) : asL f m = (Co.bind f fun d m => match d with
  | .lst ds => .ok (.lst ds) m
  | _ => .no) m := rfl
@[simp] theorem listU_lst (xs : List D) : listU [.lst xs] = some (.lst xs) := rfl
@[simp] theorem listU_tup (xs : List D) : listU [.tup xs] = some (.lst xs) := rfl
theorem rg1_int {j : Int} (h : -1000000 ≤ j ∧ j ≤ 1000000) : rg1 [.int j] = some (rgD 0 j) := by
  show (if CRg j then _ else _) = _
  rw [if_pos (by unfold CRg; omega)]
theorem rg2_int {i j : Int} (h : -1000000 ≤ i ∧ i ≤ 1000000) (h2 : -1000000 ≤ j ∧ j ≤ 1000000) : rg2 [.int i, .int j] = some (rgD i j) := by
  show (if CRg i ∧ CRg j then _ else _) = _
  rw [if_pos (by unfold CRg; omega)]
theorem iRg1_ok {fs : Co (List D)} {m m1 : M} {j : Int} (h : fs m = .ok [.int j] m1) (hj : -1000000 ≤ j ∧ j ≤ 1000000) : iRg1' fs m = .ok (rgD 0 j) m1 := by
  show Co.bind fs (fun ds => Co.lift (rg1 ds)) m = _
  rw [bind_ap, h]
  show Co.lift (rg1 [.int j]) m1 = _
  rw [rg1_int hj]
  exact Eq.refl _
theorem iRg2_ok {fs : Co (List D)} {m m1 : M} {i j : Int} (h : fs m = .ok [.int i, .int j] m1) (hi : -1000000 ≤ i ∧ i ≤ 1000000) (hj : -1000000 ≤ j ∧ j ≤ 1000000) : iRg2' fs m = .ok (rgD i j) m1 := by
  show Co.bind fs (fun ds => Co.lift (rg2 ds)) m = _
  rw [bind_ap, h]
  show Co.lift (rg2 [.int i, .int j]) m1 = _
  rw [rg2_int hi hj]
  exact Eq.refl _
theorem erase_perm {α : Type} : ∀ (xs : List α) (j : Nat) (d : α), xs[j]? = some d → (d :: xs.eraseIdx j).Perm xs
  | x :: xs, 0, d, h => by
    have e : x = d := by simpa using h
    subst e
    exact List.Perm.refl _
  | x :: xs, j + 1, d, h => by
    have h' : xs[j]? = some d := by simpa using h
    rw [List.eraseIdx_cons_succ]
    exact (List.Perm.swap x d _).trans ((erase_perm xs j d h').cons x)
theorem mixed_loop (ns : List Int) (s : PD.Slot) : ∀ (n : Nat) (lo : Int) (left found : List D) (a b c : Int) (x4 : PD.Slot), left.length = n → n ≤ 1000 → found.length + n ≤ 1000 → RowOk a b → ∃ ys y4 a' b' c', (found ++ left).Perm ys ∧ RowOk a' b' ∧
    forL false [4] (sExpr (eAppend (vAny 3) (ePopAt (vAny 2) (eFn F__law_taken (eCons (vPl 0) (eCons (eCall lenU (bCons (vAny 2) (Co.ret []))) (Co.ret []))))))) (rgD lo (lo + n))
      ⟨[.pl (.obj 0), s, .ow (.lst left), .ow (.lst found), x4], [rowD ns a b c]⟩ = .ok .nx ⟨[.pl (.obj 0), s, .ow (.lst []), .ow (.lst ys), y4], [rowD ns a' b' c']⟩
  | 0, lo, left, found, a, b, c, x4, hl, _, _, r => by
    have e : left = [] := List.eq_nil_of_length_eq_zero hl
    subst e
    refine ⟨found, x4, a, b, c, by rw [List.append_nil], r, ?_⟩
    rw [rgD_nil (by omega)]
    rfl
  | n + 1, lo, left, found, a, b, c, x4, hl, hn, hf, r => by
    obtain ⟨v, a', b', c', ht, r', h0, h1⟩ := F__law_taken_q ns (c := c) (many := (n + 1 : Nat)) r (by omega) (by omega)
    obtain ⟨j, rfl⟩ := Int.eq_ofNat_of_zero_le h0
    have hj : j < left.length := by omega
    have hp := erase_perm left j left[j] (List.getElem?_eq_getElem hj)
    have hle : (left.eraseIdx j).length = n := by rw [List.length_eraseIdx, if_pos hj]; omega
    obtain ⟨ys, y4, a2, b2, c2, p, r2, ih⟩ := mixed_loop ns s n (lo + 1) (left.eraseIdx j) (found ++ [left[j]]) a' b' c' (.pl (.int lo)) hle (by omega) (by rw [List.length_append, List.length_singleton]; omega) r'
    refine ⟨ys, y4, a2, b2, c2, ?_, r2, ?_⟩
    · refine List.Perm.trans ?_ p
      rw [List.append_assoc]
      exact (hp.symm).append_left found
    · rw [rgD_cons (by omega), forL_cons]
      have e : lo + 1 + ((n : Nat) : Int) = lo + ((n + 1 : Nat) : Int) := by omega
      rw [e] at ih
      have hz : found.length < sizeLine := by rw [sizeLine_eq]; omega
      have hci : CIx (j : Int) := by unfold CIx; omega
      have hsi : seqIndex? (j : Int) left.length = some j := by
        unfold seqIndex?
        simp
        omega
      rw [← hl] at ht
      generalize lo + ((n + 1 : Nat) : Int) = hi at *
      clear hn hf h1 p hp hle hl e
      simp [ht, hci, hsi, hj, hz, ih]
theorem seq_nx {f g : Co Flow'} {m m1 : M} {r : Res Flow'} (h1 : f m = .ok .nx m1) (h2 : g m1 = r) : sSeq f g m = r := by
  rw [sSeq_ap, bind_ap, h1]
  exact h2
theorem for_of {fi : Co (List D)} {t : Bool} {is : List Nat} {b : Co Flow'} {m m1 : M} {ds : List D} {r : Res Flow'} (h1 : fi m = .ok ds m1) (h2 : forL t is b ds m1 = r) : sFor fi t is b m = r := by
  rw [sFor_ap, bind_ap, h1]
  exact h2
theorem F__law_mixed_q (ns : List Int) {a b c : Int} (r : RowOk a b) (xs : List D) (hx : xs.length ≤ 1000) : ∃ ys a' b' c', F__law_mixed [.obj 0, .lst xs] [rowD ns a b c] = some (.lst ys, [rowD ns a' b' c']) ∧ RowOk a' b' ∧ xs.Perm ys := by
  obtain ⟨ys, y4, a', b', c', p, r', h⟩ := mixed_loop ns (.pl (.lst xs)) xs.length 0 xs [] a b c .un rfl hx (by simpa using hx) r
  refine ⟨ys, a', b', c', ?_, r', by simpa using p⟩
  refine runF_rt rfl (e := [.pl (.obj 0), .pl (.lst xs), .ow (.lst []), .pl (.lst ys), y4]) ?_
  rw [Int.zero_add] at h
  refine seq_nx (m1 := ⟨[.pl (.obj 0), .pl (.lst xs), .ow (.lst xs), .ow (.lst []), .un], [rowD ns a b c]⟩) (by simp) (seq_nx (for_of (iRg1_ok (j := xs.length) (by simp) (by omega)) h) ?_)
  simp
end C
namespace C
open PySem PySem.Spec PyProof.Rows L2 PD

/-! ### pictures -/
def chN (b : Bool) : Nat := if b then 35 else 46
def rowS (r : List Bool) : Str := ⟨(r.map chN).toArray⟩
def picD (p : List (List Bool)) : D := .tup (p.map fun r => .str (rowS r))
structure Pic (R C : Nat) (p : List (List Bool)) : Prop where
  r : p.length = R
  c : ∀ r ∈ p, r.length = C
theorem str_hash : (Str.ofString "#" : Str) = rowS [true] := by decide +kernel
theorem str_dot : (Str.ofString "." : Str) = rowS [false] := by decide +kernel
theorem rowS_len (r : List Bool) : (rowS r).length = r.length := by
  show (r.map chN).toArray.size = _
  simp
theorem rowS_app (a b : List Bool) : rowS a ++ rowS b = rowS (a ++ b) := by
  show (⟨(a.map chN).toArray ++ (b.map chN).toArray⟩ : Str) = ⟨((a ++ b).map chN).toArray⟩
  congr 1
  simp
theorem rowS_rep (n : Nat) (b : Bool) : repS (rowS [b]) n = rowS (List.replicate n b) := by
  show (⟨(List.replicate (n : Int).toNat [chN b]).flatten.toArray⟩ : Str) = ⟨((List.replicate n b).map chN).toArray⟩
  congr 1
  rw [Int.toNat_natCast, List.map_replicate]
  congr 1
  induction n with
  | zero => rfl
  | succ n ih => rw [List.replicate_succ, List.flatten_cons, ih, List.replicate_succ]; rfl
theorem sl_tup_hi (xs : List D) (k : Nat) : slD (.tup xs) none (some (k : Int)) = some (.tup (xs.take k)) := by
  show some (D.tup ((xs.drop (HT.sIx xs.length 0 none)).take (HT.sIx xs.length xs.length (some (k : Int)) - HT.sIx xs.length 0 none))) = _
  rw [HT.sIx_nat, HT.sIx_none, List.drop_zero, Nat.sub_zero]
  congr 2
  by_cases h : k ≤ xs.length
  · rw [Nat.min_eq_left h]
  · rw [Nat.min_eq_right (by omega), List.take_of_length_le (Nat.le_refl _), List.take_of_length_le (by omega)]
theorem sl_tup_lo (xs : List D) (k : Nat) : slD (.tup xs) (some (k : Int)) none = some (.tup (xs.drop k)) := by
  show some (D.tup ((xs.drop (HT.sIx xs.length 0 (some (k : Int)))).take (HT.sIx xs.length xs.length none - HT.sIx xs.length 0 (some (k : Int))))) = _
  rw [HT.sIx_nat, HT.sIx_none]
  congr 2
  by_cases h : k ≤ xs.length
  · rw [Nat.min_eq_left h, List.take_of_length_le (by rw [List.length_drop]; exact Nat.le_refl _)]
  · rw [Nat.min_eq_right (by omega), List.drop_of_length_le (Nat.le_refl _), List.drop_of_length_le (by omega), List.take_nil]
theorem cut_hi (r : List Bool) (k : Nat) : cutS (rowS r) none (some (k : Int)) = rowS (r.take k) := by
  show (⟨(((r.map chN).toArray.toList.drop (HT.sIx (rowS r).length 0 none)).take (HT.sIx (rowS r).length (rowS r).length (some (k : Int)) - HT.sIx (rowS r).length 0 none)).toArray⟩ : Str) = ⟨((r.take k).map chN).toArray⟩
  rw [rowS_len, HT.sIx_nat, HT.sIx_none, List.drop_zero, Nat.sub_zero]
  congr 2
  rw [List.map_take]
  by_cases h : k ≤ r.length
  · rw [Nat.min_eq_left h]
  · rw [Nat.min_eq_right (by omega), List.take_of_length_le (by simp), List.take_of_length_le (by simp; omega)]
theorem cut_lo (r : List Bool) (k : Nat) : cutS (rowS r) (some (k : Int)) none = rowS (r.drop k) := by
  show (⟨(((r.map chN).toArray.toList.drop (HT.sIx (rowS r).length 0 (some (k : Int)))).take (HT.sIx (rowS r).length (rowS r).length none - HT.sIx (rowS r).length 0 (some (k : Int)))).toArray⟩ : Str) = ⟨((r.drop k).map chN).toArray⟩
  rw [rowS_len, HT.sIx_nat, HT.sIx_none]
  congr 2
  rw [List.map_drop]
  by_cases h : k ≤ r.length
  · rw [Nat.min_eq_left h, List.take_of_length_le (by simp)]
  · rw [Nat.min_eq_right (by omega), List.drop_of_length_le (by simp), List.drop_of_length_le (by simp; omega), List.take_nil]
theorem set_cut {α : Type} (l : List α) (k : Nat) (x : α) (h : k < l.length) : l.take k ++ [x] ++ l.drop (k + 1) = l.set k x := by
  rw [List.set_eq_take_append_cons_drop, if_pos h, List.append_assoc]
  rfl
/-- a line painted -/
def strokeP (p : List (List Bool)) (C l : Nat) : List (List Bool) := if l < p.length then p.set l (List.replicate C true) else p.map fun r => r.set (l - p.length) false
theorem strokeP_pic {R C : Nat} {p : List (List Bool)} (h : Pic R C p) (l : Nat) : Pic R C (strokeP p C l) := by
  unfold strokeP
  split
  · refine ⟨by rw [List.length_set]; exact h.r, fun r hr => ?_⟩
    rcases List.mem_or_eq_of_mem_set hr with hr | rfl
    · exact h.c r hr
    · rw [List.length_replicate]
  · refine ⟨by rw [List.length_map]; exact h.r, fun r hr => ?_⟩
    obtain ⟨q, hq, rfl⟩ := List.mem_map.mp hr
    rw [List.length_set]
    exact h.c q hq
end C
namespace C
open PySem PySem.Spec PyProof.Rows L2 PD

@[simp] theorem eSl_ap (g : Co Opd) (lo hi : Co (Option Int)) (m : M) : eSl g lo hi m = (Co.bind g fun o => Co.bind lo fun l => Co.bind hi fun h => Opd1 (fun d => slD d l h) o) m := rfl
@[simp] theorem ePart_ap (f : Co D) (m : M) : ePart f m = (Co.bind f fun d m => match d with
  | .int i => .ok (some i) m
  | _ => .no) m := rfl
@[simp] theorem tupleD_lst (xs : List D) : tupleD [.lst xs] = some (.tup xs) := rfl
@[simp] theorem tupleD_tup (xs : List D) : tupleD [.tup xs] = some (.tup xs) := rfl
theorem addD_tup {x y : List D} (h : x.length + y.length ≤ 1000) : addD (.tup x) (.tup y) = some (.tup (x ++ y)) := by
  show (if _ then _ else _) = _
  rw [if_pos (size_le h)]
theorem addD_str {x y : List Bool} (h : x.length + y.length ≤ 1000) : addD (.str (rowS x)) (.str (rowS y)) = some (.str (rowS (x ++ y))) := by
  show (if (rowS x).length + (rowS y).length ≤ sizeLine then _ else _) = _
  rw [rowS_len, rowS_len, if_pos (size_le h), rowS_app]
theorem sl_str_hi {r : List Bool} (h : r.length ≤ 1000) (k : Nat) : slD (.str (rowS r)) none (some (k : Int)) = some (.str (rowS (r.take k))) := by
  show (if (rowS r).length ≤ sizeLine then _ else _) = _
  rw [rowS_len, if_pos (size_le h), cut_hi]
theorem sl_str_lo {r : List Bool} (h : r.length ≤ 1000) (k : Nat) : slD (.str (rowS r)) (some (k : Int)) none = some (.str (rowS (r.drop k))) := by
  show (if (rowS r).length ≤ sizeLine then _ else _) = _
  rw [rowS_len, if_pos (size_le h), cut_lo]
theorem mul_hash {n : Nat} (h : n ≤ 1000) (b : Bool) : mulD (.str (rowS [b])) (.int n) = some (.str (rowS (List.replicate n b))) := by
  have hc : CRep (rowS [b]) (n : Int) := by
    unfold CRep
    rw [rowS_len]
    exact ⟨by omega, by omega, by simp⟩
  show (if CRep (rowS [b]) (n : Int) then some (D.str (repS (rowS [b]) n)) else none) = _
  rw [if_pos hc, rowS_rep]
theorem lenU_row {r : List Bool} (h : r.length ≤ 1000) : lenU [.str (rowS r)] = some (.int r.length) := by
  rw [lenU_str (by rw [rowS_len]; exact size_le h), rowS_len]
theorem seq_rt {f g : Co Flow'} {m m1 : M} {d : D} (h1 : f m = .ok (.rt d) m1) : sSeq f g m = .ok (.rt d) m1 := by
  rw [sSeq_ap, bind_ap, h1]
  rfl
theorem if_t {t : Co Bool} {f g : Co Flow'} {m m1 : M} {r : Res Flow'} (h1 : t m = .ok true m1) (h2 : f m1 = r) : sIf t f g m = r := by
  rw [sIf_ap, bind_ap, h1]
  exact h2
theorem if_f {t : Co Bool} {f g : Co Flow'} {m m1 : M} {r : Res Flow'} (h1 : t m = .ok false m1) (h2 : g m1 = r) : sIf t f g m = r := by
  rw [sIf_ap, bind_ap, h1]
  exact h2
theorem ret_of {f : Co D} {m m1 : M} {d : D} (h1 : f m = .ok d m1) : sRet f m = .ok (.rt d) m1 := by
  rw [sRet_ap, bind_ap, h1]
  rfl
theorem F__law_stroke_q {R C : Nat} {p : List (List Bool)} (h : Pic R C p) (hR : 1 ≤ R ∧ R ≤ 12) (hC : 1 ≤ C ∧ C ≤ 12) {l : Nat} (hl : l < R + C) (obs : List (List D)) : F__law_stroke [picD p, .int l] obs = some (picD (strokeP p C l), obs) := by
  have hlen := h.r
  have hlu : lenU [picD p] = some (.int R) := by
    show some (D.int ((p.map fun r => D.str (rowS r)).length : Nat)) = _
    rw [List.length_map, hlen]
  by_cases hb : l < R
  · have e1 : strokeP p C l = p.set l (List.replicate C true) := by unfold strokeP; rw [if_pos (by omega)]
    rw [e1, ← set_cut _ _ _ (by omega)]
    refine runF_rt rfl (e := [.pl (picD p), .pl (.int l), .un, .un]) (seq_rt (if_t (m1 := ⟨[.pl (picD p), .pl (.int l), .un, .un], obs⟩) ?_ (ret_of ?_)))
    · simp only [picD] at hlu
      simp [picD, hlu, hb]
    · obtain ⟨r0, q, rfl⟩ : ∃ r0 q, p = r0 :: q := by
        cases p with
        | nil => simp at hlen; omega
        | cons r0 q => exact ⟨r0, q, rfl⟩
      have hr0 := h.c r0 List.mem_cons_self
      have h1 := lenU_row (r := r0) (by omega)
      rw [hr0] at h1
      have h2 := mul_hash (n := C) (by omega) true
      rw [← str_hash] at h2
      have h3 := sl_tup_hi ((r0 :: q).map fun r => D.str (rowS r)) l
      have h4 := sl_tup_lo ((r0 :: q).map fun r => D.str (rowS r)) (l + 1)
      have e5 : (((l + 1 : Nat)) : Int) = (l : Int) + 1 := by omega
      rw [e5] at h4
      have h6 : addD (.tup (((r0 :: q).map fun r => D.str (rowS r)).take l)) (.tup [.str (rowS (List.replicate C true))]) = some (.tup ((((r0 :: q).map fun r => D.str (rowS r)).take l) ++ [.str (rowS (List.replicate C true))])) :=
        addD_tup (by rw [List.length_take]; simp; omega)
      have h7 : addD (.tup ((((r0 :: q).map fun r => D.str (rowS r)).take l) ++ [.str (rowS (List.replicate C true))])) (.tup (((r0 :: q).map fun r => D.str (rowS r)).drop (l + 1))) =
          some (.tup ((((r0 :: q).map fun r => D.str (rowS r)).take l) ++ [.str (rowS (List.replicate C true))] ++ (((r0 :: q).map fun r => D.str (rowS r)).drop (l + 1)))) :=
        addD_tup (by rw [List.length_append, List.length_take, List.length_drop]; simp at hlen ⊢; omega)
      have e8 : picD (List.take l (r0 :: q) ++ [List.replicate C true] ++ List.drop (l + 1) (r0 :: q)) = .tup ((((r0 :: q).map fun r => D.str (rowS r)).take l) ++ [.str (rowS (List.replicate C true))] ++ (((r0 :: q).map fun r => D.str (rowS r)).drop (l + 1))) := by
        unfold picD
        rw [List.map_append, List.map_append, List.map_take, List.map_drop]
        rfl
      rw [e8]
      have e9 : picD (r0 :: q) = .tup ((r0 :: q).map fun r => D.str (rowS r)) := rfl
      have e10 : subD' (.tup ((r0 :: q).map fun r => D.str (rowS r))) (.int 0) = some (.str (rowS r0)) := subD'_tup0 _ _
      rw [e9]
      generalize (r0 :: q).map (fun r => D.str (rowS r)) = xs at *
      simp only [List.append_assoc] at h7 ⊢
      simp [h1, h2, h3, h4, h6, h7, e10, size_le]
  · have e1 : strokeP p C l = p.map fun r => r.set (l - R) false := by unfold strokeP; rw [if_neg (by omega), hlen]
    rw [e1]
    refine runF_rt rfl (e := [.pl (picD p), .pl (.int l), .pl (.int (l - R : Nat)), .un]) (seq_nx (m1 := ⟨[.pl (picD p), .pl (.int l), .un, .un], obs⟩) (if_f (m1 := ⟨[.pl (picD p), .pl (.int l), .un, .un], obs⟩) ?_ rfl) (seq_nx (m1 := ⟨[.pl (picD p), .pl (.int l), .pl (.int (l - R : Nat)), .un], obs⟩) ?_ (ret_of ?_)))
    · simp only [picD] at hlu
      simp [picD, hlu, hb]
    · have e2 : ((l - R : Nat) : Int) = (l : Int) - R := by omega
      rw [e2]
      simp only [picD] at hlu
      simp [picD, hlu]
    · have hm := eLc_map (i := 3) (fi := iVal (vPl 0)) (fe := eOp addD (vB (eOp addD (vB (eSl (vB (vPl 3)) (Co.ret none) (ePart (vPl 2)))) (vB (Co.ret (.str "."))))) (vB (eSl (vB (vPl 3)) (ePart (eOp addD (vB (vPl 2)) (vB (Co.ret (.int 1))))) (Co.ret none))))
        (m := ⟨[.pl (picD p), .pl (.int l), .pl (.int (l - R : Nat)), .un], obs⟩) (env := [.pl (picD p), .pl (.int l), .pl (.int (l - R : Nat)), .un]) (obs := obs) (ds := p.map fun r => D.str (rowS r))
        (fun d => match d with
          | .str z => .str ⟨(z.cps.toList.set (l - R) 46).toArray⟩
          | _ => .non) (by simp [picD]) rfl (by simp) (by rw [List.length_map]; exact size_le (by omega)) (fun d hd => by
          obtain ⟨r, hr, rfl⟩ := List.mem_map.mp hd
          have hrc := h.c r hr
          have a1 := sl_str_hi (r := r) (by omega) (l - R)
          have a2 := sl_str_lo (r := r) (by omega) (l - R + 1)
          have e5 : (((l - R + 1 : Nat)) : Int) = ((l - R : Nat) : Int) + 1 := by omega
          rw [e5] at a2
          have a3 : addD (.str (rowS (r.take (l - R)))) (.str (rowS [false])) = some (.str (rowS (r.take (l - R) ++ [false]))) := addD_str (by rw [List.length_take]; simp; omega)
          have a4 : addD (.str (rowS (r.take (l - R) ++ [false]))) (.str (rowS (r.drop (l - R + 1)))) = some (.str (rowS (r.take (l - R) ++ [false] ++ r.drop (l - R + 1)))) := addD_str (by rw [List.length_append, List.length_take, List.length_drop]; simp; omega)
          rw [set_cut _ _ _ (by omega)] at a4
          rw [← str_dot] at a3
          have a5 : (⟨((rowS r).cps.toList.set (l - R) 46).toArray⟩ : Str) = rowS (r.set (l - R) false) := by
            show (⟨((r.map chN).toArray.toList.set (l - R) 46).toArray⟩ : Str) = ⟨((r.set (l - R) false).map chN).toArray⟩
            rw [List.map_set]
            rfl
          simp only [a5]
          generalize ((l - R : Nat) : Int) = k at *
          simp [a1, a2, a3, a4])
      have e3 : (p.map fun r => D.str (rowS r)).map (fun d => match d with
          | .str z => .str ⟨(z.cps.toList.set (l - R) 46).toArray⟩
          | _ => .non) = (p.map fun r => r.set (l - R) false).map fun r => D.str (rowS r) := by
        rw [List.map_map, List.map_map]
        apply List.map_congr_left
        intro r _
        show D.str _ = D.str _
        congr 1
        show (⟨((r.map chN).toArray.toList.set (l - R) 46).toArray⟩ : Str) = ⟨((r.set (l - R) false).map chN).toArray⟩
        rw [List.map_set]
        rfl
      rw [e3] at hm
      have e4 : picD (p.map fun r => r.set (l - R) false) = .tup ((p.map fun r => r.set (l - R) false).map fun r => D.str (rowS r)) := rfl
      rw [e4]
      generalize (p.map fun r => r.set (l - R) false).map (fun r => D.str (rowS r)) = X at *
      generalize ((l - R : Nat) : Int) = k at *
      clear e3 e4
      simp [hm]
end C
namespace C
open PySem PySem.Spec PyProof.Rows L2 PD

def natD (l : List Nat) : List D := l.map fun (n : Nat) => D.int (n : Int)
theorem strokes_loop {R C : Nat} (hR : 1 ≤ R ∧ R ≤ 12) (hC : 1 ≤ C ∧ C ≤ 12) (s : PD.Slot) (obs : List (List D)) : ∀ (ls : List Nat) (p : List (List Bool)) (x2 : PD.Slot), Pic R C p → (∀ l ∈ ls, l < R + C) → ∃ y2,
    forL false [2] (sSet 0 (eFn F__law_stroke (eCons (vPl 0) (eCons (vPl 2) (Co.ret []))))) (natD ls) ⟨[.pl (picD p), s, x2], obs⟩ = .ok .nx ⟨[.pl (picD (ls.foldl (fun q l => strokeP q C l) p)), s, y2], obs⟩
  | [], p, x2, _, _ => ⟨x2, rfl⟩
  | l :: ls, p, x2, h, hl => by
    obtain ⟨y2, ih⟩ := strokes_loop hR hC s obs ls (strokeP p C l) (.pl (.int l)) (strokeP_pic h l) fun k hk => hl k (List.mem_cons_of_mem _ hk)
    refine ⟨y2, ?_⟩
    rw [List.foldl_cons, ← ih]
    show forL _ _ _ (.int (l : Int) :: natD ls) _ = _
    rw [forL_cons]
    have hs := F__law_stroke_q h hR hC (hl l List.mem_cons_self) obs
    simp [hs]
theorem strokes_pic {R C : Nat} : ∀ (ls : List Nat) {p : List (List Bool)}, Pic R C p → Pic R C (ls.foldl (fun q l => strokeP q C l) p)
  | [], _, h => h
  | l :: ls, _, h => strokes_pic ls (strokeP_pic h l)
theorem F__law_strokes_q {R C : Nat} {p : List (List Bool)} (h : Pic R C p) (hR : 1 ≤ R ∧ R ≤ 12) (hC : 1 ≤ C ∧ C ≤ 12) {ls : List Nat} (hl : ∀ l ∈ ls, l < R + C) (obs : List (List D)) :
    F__law_strokes [picD p, .lst (natD ls)] obs = some (picD (ls.foldl (fun q l => strokeP q C l) p), obs) := by
  obtain ⟨y2, hloop⟩ := strokes_loop hR hC (.pl (.lst (natD ls))) obs ls p .un h hl
  refine runF_rt rfl (e := [.pl (picD (ls.foldl (fun q l => strokeP q C l) p)), .pl (.lst (natD ls)), y2]) ?_
  refine seq_nx (for_of (m1 := ⟨[.pl (picD p), .pl (.lst (natD ls)), .un], obs⟩) (ds := natD ls) (by simp) hloop) ?_
  simp
/-! ### the cells -/
def cell (p : List (List Bool)) (i j : Nat) : Bool := ((p[i]?).getD [])[j]?.getD false
theorem cell_stroke {R C : Nat} {p : List (List Bool)} (h : Pic R C p) {i j : Nat} (hi : i < R) (hj : j < C) (l : Nat) : cell (strokeP p C l) i j = if l = i then true else if l = R + j then false else cell p i j := by
  have hlen := h.r
  have hip : i < p.length := by omega
  have hc := h.c p[i] (List.getElem_mem hip)
  unfold strokeP cell
  by_cases hl : l < p.length
  · rw [if_pos hl]
    by_cases e : l = i
    · subst e
      rw [if_pos rfl, List.getElem?_set_self hip]
      simp [hj]
    · rw [if_neg e, if_neg (by omega), List.getElem?_set_ne e]
  · rw [if_neg hl, if_neg (by omega), List.getElem?_map, List.getElem?_eq_getElem hip]
    simp only [Option.map_some, Option.getD_some]
    by_cases e : l = R + j
    · subst e
      rw [if_pos rfl, show R + j - p.length = j by omega, List.getElem?_set_self (by omega)]
      rfl
    · rw [if_neg e, List.getElem?_set_ne (by omega)]
/-- the lines painted, the last one first -/
def black (R : Nat) : List Nat → Nat → Nat → Bool
  | [], _, _ => false
  | l :: r, i, j => if l = i then true else if l = R + j then false else black R r i j
theorem cell_strokes {R C : Nat} {i j : Nat} (hi : i < R) (hj : j < C) : ∀ (rev : List Nat) {p : List (List Bool)}, Pic R C p → cell p i j = false → cell (rev.foldr (fun l q => strokeP q C l) p) i j = black R rev i j
  | [], p, _, h0 => h0
  | l :: r, p, h, h0 => by
    have hp : Pic R C (r.foldr (fun l q => strokeP q C l) p) := by
      have := strokes_pic (R := R) (C := C) r.reverse h
      rw [List.foldl_reverse] at this
      exact this
    rw [List.foldr_cons, cell_stroke hp hi hj, cell_strokes hi hj r h h0]
    rfl
theorem progress (R : Nat) : ∀ (rev rows cols : List Nat), (∀ i ∈ rows, i < R ∧ i ∈ rev) → (∀ j ∈ cols, R + j ∈ rev) → (rows ≠ [] ∨ cols ≠ []) →
    (∃ i ∈ rows, ∀ j ∈ cols, black R rev i j = true) ∨ ∃ j ∈ cols, ∀ i ∈ rows, black R rev i j = false
  | [], rows, cols, hr, hc, hne => by
    exfalso
    rcases hne with h | h
    · cases rows with
      | nil => exact h rfl
      | cons i _ => exact absurd (hr i List.mem_cons_self).2 (by simp)
    · cases cols with
      | nil => exact h rfl
      | cons j _ => exact absurd (hc j List.mem_cons_self) (by simp)
  | l :: r, rows, cols, hr, hc, hne => by
    by_cases h1 : l ∈ rows
    · exact .inl ⟨l, h1, fun j _ => if_pos rfl⟩
    · by_cases h2 : ∃ j ∈ cols, l = R + j
      · obtain ⟨j, hj, rfl⟩ := h2
        refine .inr ⟨j, hj, fun i hi => ?_⟩
        have := (hr i hi).1
        unfold black
        rw [if_neg (by omega), if_pos rfl]
      · have e : ∀ i ∈ rows, ∀ j ∈ cols, black R (l :: r) i j = black R r i j := fun i hi j hj => by
          show (if l = i then true else if l = R + j then false else black R r i j) = _
          rw [if_neg (fun e => h1 (by rw [e]; exact hi)), if_neg (fun e => h2 ⟨j, hj, e⟩)]
        have := progress R r rows cols (fun i hi => ⟨(hr i hi).1, (List.mem_cons.mp (hr i hi).2).resolve_left fun e => h1 (by rw [← e]; exact hi)⟩)
          (fun j hj => (List.mem_cons.mp (hc j hj)).resolve_left fun e => h2 ⟨j, hj, e.symm⟩) hne
        rcases this with ⟨i, hi, h⟩ | ⟨j, hj, h⟩
        · exact .inl ⟨i, hi, fun j hj => (e i hi j hj).trans (h j hj)⟩
        · exact .inr ⟨j, hj, fun i hi => (e i hi j hj).trans (h i hi)⟩
/-! ### peeling -/
def fullR (p : List (List Bool)) (rows cols : List Nat) : List Nat := rows.filter fun i => cols.all fun j => cell p i j
def emptyC (p : List (List Bool)) (rows cols : List Nat) : List Nat := cols.filter fun j => rows.all fun i => !cell p i j
/-- what is left of a picture where no round stops -/
def Goes (p : List (List Bool)) (R C : Nat) : Prop := ∀ rows cols : List Nat, (∀ i ∈ rows, i < R) → (∀ j ∈ cols, j < C) → (rows ≠ [] ∨ cols ≠ []) → fullR p rows cols ≠ [] ∨ emptyC p rows cols ≠ []
theorem goes_of {R C : Nat} {order : List Nat} (hall : ∀ l, l < R + C → l ∈ order) : Goes (order.foldl (fun q l => strokeP q C l) (List.replicate R (List.replicate C false))) R C := by
  intro rows cols hr hc hne
  have h0 : Pic R C (List.replicate R (List.replicate C false)) := ⟨List.length_replicate, fun r hr => by rw [List.eq_of_mem_replicate hr, List.length_replicate]⟩
  have e : ∀ i j, i < R → j < C → cell (order.foldl (fun q l => strokeP q C l) (List.replicate R (List.replicate C false))) i j = black R order.reverse i j := fun i j hi hj => by
    rw [← List.foldr_reverse]
    refine cell_strokes hi hj _ h0 ?_
    unfold cell
    rw [List.getElem?_replicate, if_pos hi]
    simp [hj]
  rcases progress R order.reverse rows cols (fun i hi => ⟨hr i hi, by rw [List.mem_reverse]; exact hall i (by have := hr i hi; omega)⟩) (fun j hj => by rw [List.mem_reverse]; exact hall _ (by have := hc j hj; omega)) hne with ⟨i, hi, h⟩ | ⟨j, hj, h⟩
  · refine .inl (List.ne_nil_of_mem (a := i) ?_)
    unfold fullR
    rw [List.mem_filter, List.all_eq_true]
    exact ⟨hi, fun j hj => by rw [e i j (hr i hi) (hc j hj)]; exact h j hj⟩
  · refine .inr (List.ne_nil_of_mem (a := j) ?_)
    unfold emptyC
    rw [List.mem_filter, List.all_eq_true]
    exact ⟨hj, fun i hi => by rw [e i j (hr i hi) (hc j hj), h i hi]; rfl⟩
end C
namespace C
open PySem PySem.Spec PyProof.Rows L2 PD

theorem ix_pic {R C : Nat} {p : List (List Bool)} (h : Pic R C p) {i : Nat} (hi : i < R) : subD' (picD p) (.int i) = some (.str (rowS ((p[i]?).getD []))) := by
  have hip : i < p.length := by have := h.r; omega
  show atI (p.map fun r => D.str (rowS r)) i = _
  rw [PD.atI_nat, List.getElem?_map, List.getElem?_eq_getElem hip]
  rfl
theorem ix_row {r : List Bool} {j : Nat} (hj : j < r.length) (hz : r.length ≤ 1000) : subD' (.str (rowS r)) (.int j) = some (.str (rowS [r[j]?.getD false])) := by
  show (if (rowS r).length ≤ sizeLine then (atI (r.map chN).toArray.toList j).map fun c => D.str ⟨#[c]⟩ else none) = _
  rw [rowS_len, if_pos (size_le hz), PD.atI_nat]
  show ((r.map chN)[j]?).map _ = _
  rw [List.getElem?_map, List.getElem?_eq_getElem hj]
  rfl
theorem eq_sign (a b : Bool) : eqD (.str (rowS [a])) (.str (rowS [b])) = some (.bl (a == b)) := by
  have h : ∀ c : Bool, PyData.canLay0 (.str (rowS [c])) = true := by decide +kernel
  unfold eqD
  rw [eqB_of (p := .str (rowS [a])) (q := .str (rowS [b])) rfl rfl (h a) (h b) (Nat.zero_le _) (Nat.zero_le _)]
  have e : ∀ a b : Bool, PyData.eqv (.str (rowS [a])) (.str (rowS [b])) = (a == b) := by decide +kernel
  rw [e]
  rfl
theorem row_of {R C : Nat} {p : List (List Bool)} (h : Pic R C p) {i : Nat} (hi : i < R) : ((p[i]?).getD []).length = C := by
  have hip : i < p.length := by have := h.r; omega
  rw [List.getElem?_eq_getElem hip]
  exact h.c _ (List.getElem_mem hip)
theorem natD_len (l : List Nat) : (natD l).length = l.length := by unfold natD; rw [List.length_map]
theorem natD_ints (l : List Nat) : natD l = (l.map fun (n : Nat) => (n : Int)).map D.int := by unfold natD; rw [List.map_map]; rfl
theorem neD_natD_nil (l : List Nat) : neD (.lst (natD l)) (.lst []) = some (.bl (!decide (l = []))) := by
  rw [natD_ints, neD_ints_nil]
  congr 3
  by_cases h : l = []
  · subst h; rfl
  · rw [decide_eq_false h, decide_eq_false (by simpa using h)]
theorem eqD_natD_nil (l : List Nat) : eqD (.lst (natD l)) (.lst []) = some (.bl (decide (l = []))) := by
  rw [natD_ints, eqD_ints_nil]
  congr 2
  by_cases h : l = []
  · subst h; rfl
  · rw [decide_eq_false h, decide_eq_false (by simpa using h)]
/-- a filter of numbers -/
def isN (f : Nat → Bool) (d : D) : Bool := match d with
  | .int i => f i.toNat
  | _ => false
theorem filter_natD (f : Nat → Bool) (l : List Nat) : ((natD l).filter (isN f)).map (fun d => d) = natD (l.filter f) := by
  unfold natD
  rw [List.filter_map, List.map_map]
  have e : (isN f ∘ fun (n : Nat) => D.int (n : Int)) = f := by
    funext n
    show f (n : Int).toNat = f n
    rw [Int.toNat_natCast]
  rw [e]
  rfl
theorem map_bl (f : Nat → Bool) (l : List Nat) : (natD l).map (fun d => D.bl (isN f d)) = (l.map f).map D.bl := by
  unfold natD
  rw [List.map_map, List.map_map]
  apply List.map_congr_left
  intro n _
  show D.bl (f (n : Int).toNat) = D.bl (f n)
  rw [Int.toNat_natCast]
section
variable {R C : Nat} {p : List (List Bool)} {rows cols : List Nat} {f x4 x5 x6 x7 : PD.Slot} {obs : List (List D)}
abbrev ENV (p : List (List Bool)) (rows cols : List Nat) (f x4 x5 x6 x7 : PD.Slot) : List PD.Slot := [.pl (picD p), .pl (.lst (natD rows)), .pl (.lst (natD cols)), f, x4, x5, x6, x7]
theorem lay_cmp (h : Pic R C p) (hC : C ≤ 12) {i j : Nat} (hi : i < R) (hj : j < C) (b : Bool) :
    eOp eqD (vB (eOp subD' (vB (eOp subD' (vB (vPl 0)) (vB (vPl 6)))) (vB (vPl 7)))) (vB (Co.ret (.str (rowS [b])))) ⟨ENV p rows cols f x4 x5 (.pl (.int i)) (.pl (.int j)), obs⟩ = .ok (.bl (cell p i j == b)) ⟨ENV p rows cols f x4 x5 (.pl (.int i)) (.pl (.int j)), obs⟩ := by
  have h1 := ix_pic h hi
  have h2 := ix_row (r := (p[i]?).getD []) (j := j) (by rw [row_of h hi]; exact hj) (by rw [row_of h hi]; omega)
  have h3 := eq_sign (((p[i]?).getD [])[j]?.getD false) b
  have e0 : picD p = .tup (p.map fun r => D.str (rowS r)) := rfl
  have hg : Opd.get ⟨ENV p rows cols f x4 x5 (.pl (.int i)) (.pl (.int j)), obs⟩ (.val (picD p)) = some (picD p) := rfl
  unfold cell
  simp only [eOp_ap, vB_ap, bind_ap, vPl_ap, ret_ap, Opd2_ap, ENV, List.getElem?_cons_zero, List.getElem?_cons_succ, get_str, get_int] at hg ⊢
  rw [hg]
  simp only [h1, get_str, get_int, h2, h3, vPl_ap, List.getElem?_cons_zero, List.getElem?_cons_succ]
theorem lay_full (h : Pic R C p) (hC : C ≤ 12) (hr : ∀ i ∈ rows, i < R) (hc : ∀ j ∈ cols, j < C) (hrz : rows.length ≤ 100) (hcz : cols.length ≤ 100) (h6 : noOw [6] (ENV p rows cols f x4 x5 x6 x7) = true) (h7 : noOw [7] (ENV p rows cols f x4 x5 x6 x7) = true) :
    eLc (iVal (vPl 1)) false [6] [6] (tB' (eCall allD (bCons (vB (eLc (iVal (vPl 2)) false [7] [7] (Co.ret true) (eOp eqD (vB (eOp subD' (vB (eOp subD' (vB (vPl 0)) (vB (vPl 6)))) (vB (vPl 7)))) (vB (Co.ret (.str (rowS [true]))))))) (Co.ret [])))) (vPl 6) ⟨ENV p rows cols f x4 x5 x6 x7, obs⟩ =
    .ok (.lst (natD (fullR p rows cols))) ⟨ENV p rows cols f x4 x5 x6 x7, obs⟩ := by
  rw [eLc_fm (i := 6) (env := ENV p rows cols f x4 x5 x6 x7) (obs := obs) (ds := natD rows) (isN fun i => cols.all fun j => cell p i j) (fun d => d) (by simp [ENV]) h6 (by simp [ENV]) (by rw [natD_len]; exact size_le (by omega)) ?_ ?_]
  · rw [filter_natD]; rfl
  · intro d hd
    obtain ⟨i, hi, rfl⟩ := List.mem_map.mp hd
    have hm := eLc_map (i := 7) (fi := iVal (vPl 2)) (fe := eOp eqD (vB (eOp subD' (vB (eOp subD' (vB (vPl 0)) (vB (vPl 6)))) (vB (vPl 7)))) (vB (Co.ret (.str (rowS [true]))))) (m := ⟨ENV p rows cols f x4 x5 (.pl (.int i)) x7, obs⟩)
      (env := ENV p rows cols f x4 x5 (.pl (.int i)) x7) (obs := obs) (ds := natD cols) (fun d => .bl (isN (fun j => cell p i j == true) d)) (by simp [ENV]) h7 (by simp [ENV]) (by rw [natD_len]; exact size_le (by omega)) (fun d hd => by
        obtain ⟨j, hj, rfl⟩ := List.mem_map.mp hd
        have := lay_cmp (rows := rows) (cols := cols) (f := f) (x4 := x4) (x5 := x5) (obs := obs) h hC (hr i hi) (hc j hj) true
        simpa [ENV, isN] using this)
    rw [map_bl] at hm
    have ha := all_bls (cols.map fun j => cell p i j == true)
    show tB' _ ⟨ENV p rows cols f x4 x5 (.pl (.int i)) x7, obs⟩ = _
    simp only [tB_ap, eCall_ap, bind_ap, bCons_ap, vB_ap, hm, ret_ap, getAll_cons, getAll_nil, get_lst, ha, toB_bl]
    congr 1
    show ((cols.map fun j => cell p i j == true).all id) = cols.all fun j => cell p ((i : Nat) : Int).toNat j
    rw [Int.toNat_natCast, List.all_map]
    congr 1
    funext j
    show (cell p i j == true) = cell p i j
    cases cell p i j <;> rfl
  · intro d hd hp
    obtain ⟨i, hi, rfl⟩ := List.mem_map.mp hd
    simp [ENV]
end
end C
namespace C
open PySem PySem.Spec PyProof.Rows L2 PD

theorem notIn_nat (i : Nat) (l : List Nat) : notInU (.int i) (.lst (natD l)) = some (.bl (!l.contains i)) := by
  have h1 : (natD l).all D.flat = true := by
    rw [List.all_eq_true]
    intro d hd
    obtain ⟨n, _, rfl⟩ := List.mem_map.mp hd
    rfl
  have h2 : ((natD l).any fun y => D.eqF y (.int i)) = l.contains i := by
    unfold natD
    rw [List.any_map, List.contains_eq_any_beq]
    congr 1
    funext n
    show ((n : Int) == (i : Int)) = (i == n)
    rw [beq_dec, beq_dec]
    by_cases h : i = n
    · subst h; simp
    · rw [decide_eq_false h, decide_eq_false (by omega)]
  show notInD (.int i) (.lst (natD l)) = _
  unfold notInD
  show (if true = true then inFlat (.int i) (natD l) else none).map _ = _
  rw [if_pos rfl]
  unfold inFlat
  rw [h1]
  show (some ((natD l).any fun y => D.eqF y (.int i))).map _ = _
  rw [h2]
  rfl
theorem ilen (xs : List D) : True := trivial
section
variable {R C : Nat} {p : List (List Bool)} {rows cols : List Nat} {f x4 x5 x6 x7 : PD.Slot} {obs : List (List D)}
theorem lay_empty (h : Pic R C p) (hC : C ≤ 12) (hr : ∀ i ∈ rows, i < R) (hc : ∀ j ∈ cols, j < C) (hrz : rows.length ≤ 100) (hcz : cols.length ≤ 100) (h6 : noOw [6] (ENV p rows cols f x4 x5 x6 x7) = true) (h7 : noOw [7] (ENV p rows cols f x4 x5 x6 x7) = true) :
    eLc (iVal (vPl 2)) false [7] [7] (tB' (eCall allD (bCons (vB (eLc (iVal (vPl 1)) false [6] [6] (Co.ret true) (eOp eqD (vB (eOp subD' (vB (eOp subD' (vB (vPl 0)) (vB (vPl 6)))) (vB (vPl 7)))) (vB (Co.ret (.str (rowS [false]))))))) (Co.ret [])))) (vPl 7) ⟨ENV p rows cols f x4 x5 x6 x7, obs⟩ =
    .ok (.lst (natD (emptyC p rows cols))) ⟨ENV p rows cols f x4 x5 x6 x7, obs⟩ := by
  rw [eLc_fm (i := 7) (env := ENV p rows cols f x4 x5 x6 x7) (obs := obs) (ds := natD cols) (isN fun j => rows.all fun i => !cell p i j) (fun d => d) (by simp [ENV]) h7 (by simp [ENV]) (by rw [natD_len]; exact size_le (by omega)) ?_ ?_]
  · rw [filter_natD]; rfl
  · intro d hd
    obtain ⟨j, hj, rfl⟩ := List.mem_map.mp hd
    have hm := eLc_map (i := 6) (fi := iVal (vPl 1)) (fe := eOp eqD (vB (eOp subD' (vB (eOp subD' (vB (vPl 0)) (vB (vPl 6)))) (vB (vPl 7)))) (vB (Co.ret (.str (rowS [false]))))) (m := ⟨ENV p rows cols f x4 x5 x6 (.pl (.int j)), obs⟩)
      (env := ENV p rows cols f x4 x5 x6 (.pl (.int j))) (obs := obs) (ds := natD rows) (fun d => .bl (isN (fun i => cell p i j == false) d)) (by simp [ENV]) h6 (by simp [ENV]) (by rw [natD_len]; exact size_le (by omega)) (fun d hd => by
        obtain ⟨i, hi, rfl⟩ := List.mem_map.mp hd
        have := lay_cmp (rows := rows) (cols := cols) (f := f) (x4 := x4) (x5 := x5) (obs := obs) h hC (hr i hi) (hc j hj) false
        simpa [ENV, isN] using this)
    rw [map_bl] at hm
    have ha := all_bls (rows.map fun i => cell p i j == false)
    show tB' _ ⟨ENV p rows cols f x4 x5 x6 (.pl (.int j)), obs⟩ = _
    simp only [tB_ap, eCall_ap, bind_ap, bCons_ap, vB_ap, hm, ret_ap, getAll_cons, getAll_nil, get_lst, ha, toB_bl]
    congr 1
    show ((rows.map fun i => cell p i j == false).all id) = rows.all fun i => !cell p i ((j : Nat) : Int).toNat
    rw [Int.toNat_natCast, List.all_map]
    congr 1
    funext i
    show (cell p i j == false) = !cell p i j
    cases cell p i j <;> rfl
  · intro d hd hp
    obtain ⟨i, hi, rfl⟩ := List.mem_map.mp hd
    simp [ENV]
/-- rows that are not in the list of slot 4; columns that are not in that of slot 5 -/
theorem lay_rows {fl : List Nat} (hrz : rows.length ≤ 100) (h6 : noOw [6] (ENV p rows cols f (.pl (.lst (natD fl))) x5 x6 x7) = true) :
    eLc (iVal (vPl 1)) false [6] [6] (tB' (eOp notInU (vB (vPl 6)) (vB (vPl 4)))) (vPl 6) ⟨ENV p rows cols f (.pl (.lst (natD fl))) x5 x6 x7, obs⟩ = .ok (.lst (natD (rows.filter fun i => !fl.contains i))) ⟨ENV p rows cols f (.pl (.lst (natD fl))) x5 x6 x7, obs⟩ := by
  rw [eLc_fm (i := 6) (env := ENV p rows cols f (.pl (.lst (natD fl))) x5 x6 x7) (obs := obs) (ds := natD rows) (isN fun i => !fl.contains i) (fun d => d) (by simp [ENV]) h6 (by simp [ENV]) (by rw [natD_len]; exact size_le (by omega)) ?_ ?_]
  · rw [filter_natD]
  · intro d hd
    obtain ⟨i, hi, rfl⟩ := List.mem_map.mp hd
    have hn := notIn_nat i fl
    simp [ENV, hn, isN]
  · intro d hd hp
    obtain ⟨i, hi, rfl⟩ := List.mem_map.mp hd
    simp [ENV]
theorem lay_cols {fl : List Nat} (hcz : cols.length ≤ 100) (h7 : noOw [7] (ENV p rows cols f x4 (.pl (.lst (natD fl))) x6 x7) = true) :
    eLc (iVal (vPl 2)) false [7] [7] (tB' (eOp notInU (vB (vPl 7)) (vB (vPl 5)))) (vPl 7) ⟨ENV p rows cols f x4 (.pl (.lst (natD fl))) x6 x7, obs⟩ = .ok (.lst (natD (cols.filter fun i => !fl.contains i))) ⟨ENV p rows cols f x4 (.pl (.lst (natD fl))) x6 x7, obs⟩ := by
  rw [eLc_fm (i := 7) (env := ENV p rows cols f x4 (.pl (.lst (natD fl))) x6 x7) (obs := obs) (ds := natD cols) (isN fun i => !fl.contains i) (fun d => d) (by simp [ENV]) h7 (by simp [ENV]) (by rw [natD_len]; exact size_le (by omega)) ?_ ?_]
  · rw [filter_natD]
  · intro d hd
    obtain ⟨i, hi, rfl⟩ := List.mem_map.mp hd
    have hn := notIn_nat i fl
    simp [ENV, hn, isN]
  · intro d hd hp
    obtain ⟨i, hi, rfl⟩ := List.mem_map.mp hd
    simp [ENV]
end
/-! ### the layers -/
def layersL (p : List (List Bool)) (R : Nat) : Nat → List Nat → List Nat → List (List Nat)
  | 0, _, _ => []
  | n + 1, rows, cols => if rows = [] ∧ cols = [] then [] else
    if fullR p rows cols ≠ [] then fullR p rows cols :: layersL p R n (rows.filter fun i => !(fullR p rows cols).contains i) cols
    else (emptyC p rows cols).map (R + ·) :: layersL p R n rows (cols.filter fun j => !(emptyC p rows cols).contains j)
end C
namespace C
open PySem PySem.Spec PyProof.Rows L2 PD

theorem set_of {i : Nat} {f : Co D} {m : M} {d : D} {env : List PD.Slot} {obs : List (List D)} (h : f m = .ok d ⟨env, obs⟩) : sSet i f m = .ok .nx ⟨env.set i (.pl d), obs⟩ := by
  rw [sSet_ap, bind_ap, h]
theorem expr_of {f : Co D} {m m1 : M} {d : D} (h : f m = .ok d m1) : sExpr f m = .ok .nx m1 := by
  rw [sExpr_ap, bind_ap, h]
  rfl
theorem while_step {c : Co Bool} {b : Co Flow'} {n : Nat} {m m1 m2 : M} {r : Res Flow'} (h1 : c m = .ok true m1) (h2 : b m1 = .ok .nx m2) (h3 : whileN c b n m2 = r) : whileN c b (n + 1) m = r := by
  show (match c m with
    | .no => .no
    | .ok false m1 => .ok .nx m1
    | .ok true m1 => match b m1 with
      | .ok .nx m' => whileN c b n m'
      | .ok .ct m' => whileN c b n m'
      | .ok .bk m' => .ok .nx m'
      | .ok (.rt d) m' => .ok (.rt d) m'
      | .ok (.rf d) m' => .ok (.rf d) m'
      | .no => .no) = r
  rw [h1]
  simp only [h2]
  exact h3
theorem while_end {c : Co Bool} {b : Co Flow'} {n : Nat} {m m1 : M} (h1 : c m = .ok false m1) : whileN c b (n + 1) m = .ok .nx m1 := by
  unfold whileN
  rw [h1]
theorem filter_lt {α : Type} {l : List α} {q : α → Bool} (h : ∃ a ∈ l, q a = false) : (l.filter q).length < l.length := by
  obtain ⟨a, ha, hq⟩ := h
  induction l with
  | nil => cases ha
  | cons b l ih =>
    have := List.length_filter_le q l
    rw [List.filter_cons, List.length_cons]
    rcases List.mem_cons.mp ha with rfl | ha
    · rw [if_neg (by rw [hq]; decide)]; omega
    · have := ih ha
      split
      · rw [List.length_cons]; omega
      · omega
theorem less_rows {p : List (List Bool)} {rows cols : List Nat} (h : fullR p rows cols ≠ []) : (rows.filter fun i => !(fullR p rows cols).contains i).length < rows.length := by
  obtain ⟨a, l, e⟩ := List.exists_cons_of_ne_nil h
  have ha : a ∈ fullR p rows cols := by rw [e]; exact List.mem_cons_self
  refine filter_lt ⟨a, ?_, by rw [List.contains_iff_mem.mpr ha]; rfl⟩
  unfold fullR at ha
  exact (List.mem_filter.mp ha).1
theorem less_cols {p : List (List Bool)} {rows cols : List Nat} (h : emptyC p rows cols ≠ []) : (cols.filter fun i => !(emptyC p rows cols).contains i).length < cols.length := by
  obtain ⟨a, l, e⟩ := List.exists_cons_of_ne_nil h
  have ha : a ∈ emptyC p rows cols := by rw [e]; exact List.mem_cons_self
  refine filter_lt ⟨a, ?_, by rw [List.contains_iff_mem.mpr ha]; rfl⟩
  unfold emptyC at ha
  exact (List.mem_filter.mp ha).1
noncomputable abbrev layC : Co Bool := tOr' (tB' (eOp neD (vB (vPl 1)) (vB (eLst (Co.ret []))))) (tB' (eOp neD (vB (vPl 2)) (vB (eLst (Co.ret [])))))
noncomputable abbrev layB : Co Flow' := sSeq (sSet 4 (eLc (iVal (vPl 1)) false [6] [6] (tB' (eCall allD (bCons (vB (eLc (iVal (vPl 2)) false [7] [7] (Co.ret true) (eOp eqD (vB (eOp subD' (vB (eOp subD' (vB (vPl 0)) (vB (vPl 6)))) (vB (vPl 7)))) (vB (Co.ret (.str "#")))))) (Co.ret [])))) (vPl 6)))
  (sSeq (sSet 5 (eLc (iVal (vPl 2)) false [7] [7] (tB' (eCall allD (bCons (vB (eLc (iVal (vPl 1)) false [6] [6] (Co.ret true) (eOp eqD (vB (eOp subD' (vB (eOp subD' (vB (vPl 0)) (vB (vPl 6)))) (vB (vPl 7)))) (vB (Co.ret (.str ".")))))) (Co.ret [])))) (vPl 7)))
  (sIf (tB' (eOp neD (vB (vPl 4)) (vB (eLst (Co.ret [])))))
  (sSeq (sExpr (eAppend (vAny 3) (eCall tupleD (bCons (vB (vPl 4)) (Co.ret [])))))
  (sSet 1 (eLc (iVal (vPl 1)) false [6] [6] (tB' (eOp notInU (vB (vPl 6)) (vB (vPl 4)))) (vPl 6))))
  (sIf (tB' (eOp neD (vB (vPl 5)) (vB (eLst (Co.ret [])))))
  (sSeq (sExpr (eAppend (vAny 3) (eCall tupleD (bCons (vB (eLc (iVal (vPl 5)) false [7] [7] (Co.ret true) (eOp addD (vB (eCall lenU (bCons (vB (vPl 0)) (Co.ret [])))) (vB (vPl 7))))) (Co.ret [])))))
  (sSet 2 (eLc (iVal (vPl 2)) false [7] [7] (tB' (eOp notInU (vB (vPl 7)) (vB (vPl 5)))) (vPl 7))))
  (sRet (Co.ret .non)))))
def tupD (l : List Nat) : D := .tup (natD l)
theorem layC_b {p : List (List Bool)} {rows cols : List Nat} {f x4 x5 x6 x7 : PD.Slot} {obs : List (List D)} (b1 b2 : Bool) (h1 : neD (.lst (natD rows)) (.lst []) = some (.bl b1)) (h2 : neD (.lst (natD cols)) (.lst []) = some (.bl b2)) :
    layC ⟨ENV p rows cols f x4 x5 x6 x7, obs⟩ = .ok (b1 || b2) ⟨ENV p rows cols f x4 x5 x6 x7, obs⟩ := by
  cases b1 <;> simp [layC, ENV, h1, h2]
theorem layC_q {p : List (List Bool)} {rows cols : List Nat} {f x4 x5 x6 x7 : PD.Slot} {obs : List (List D)} : layC ⟨ENV p rows cols f x4 x5 x6 x7, obs⟩ = .ok (!(decide (rows = [] ∧ cols = []))) ⟨ENV p rows cols f x4 x5 x6 x7, obs⟩ := by
  rw [layC_b _ _ (neD_natD_nil rows) (neD_natD_nil cols)]
  congr 1
  by_cases e1 : rows = [] <;> by_cases e2 : cols = [] <;> simp [e1, e2]
theorem layers_loop {R C : Nat} {p : List (List Bool)} (h : Pic R C p) (hR : R ≤ 12) (hC : C ≤ 12) (G : Goes p R C) (obs : List (List D)) : ∀ (n : Nat) (rows cols : List Nat) (found : List D) (x4 x5 : PD.Slot), (∀ i ∈ rows, i < R) → (∀ j ∈ cols, j < C) →
    rows.length + cols.length ≤ n → n + found.length ≤ 100 → ∃ y4 y5, whileN layC layB (n + 1) ⟨ENV p rows cols (.ow (.lst found)) x4 x5 .un .un, obs⟩ =
      .ok .nx ⟨ENV p [] [] (.ow (.lst (found ++ (layersL p R n rows cols).map tupD))) y4 y5 .un .un, obs⟩
  | n, rows, cols, found, x4, x5, hr, hc, hn, hf => by
    by_cases he : rows = [] ∧ cols = []
    · obtain ⟨rfl, rfl⟩ := he
      refine ⟨x4, x5, ?_⟩
      rw [while_end layC_q]
      cases n <;> simp [layersL]
    · have hne : rows ≠ [] ∨ cols ≠ [] := by
        by_cases e1 : rows = []
        · exact .inr fun e2 => he ⟨e1, e2⟩
        · exact .inl e1
      have hcond : layC ⟨ENV p rows cols (.ow (.lst found)) x4 x5 .un .un, obs⟩ = .ok true ⟨ENV p rows cols (.ow (.lst found)) x4 x5 .un .un, obs⟩ := by rw [layC_q, decide_eq_false he]; rfl
      have s4 := lay_full (f := .ow (.lst found)) (x4 := x4) (x5 := x5) (x6 := .un) (x7 := .un) (obs := obs) h hC hr hc (by omega) (by omega) rfl rfl
      have s5 := lay_empty (f := .ow (.lst found)) (x4 := .pl (.lst (natD (fullR p rows cols)))) (x5 := x5) (x6 := .un) (x7 := .un) (obs := obs) h hC hr hc (by omega) (by omega) rfl rfl
      rw [← str_hash] at s4
      rw [← str_dot] at s5
      have hfz : found.length < sizeLine := Nat.lt_of_lt_of_le (show found.length < 1000 by omega) (size_le (Nat.le_refl _))
      cases n with
      | zero =>
        exfalso
        rcases hne with e | e
        · exact e (List.eq_nil_of_length_eq_zero (by omega))
        · exact e (List.eq_nil_of_length_eq_zero (by omega))
      | succ n =>
        by_cases hfu : fullR p rows cols ≠ []
        · have hl := less_rows hfu
          obtain ⟨y4, y5, ih⟩ := layers_loop h hR hC G obs n (rows.filter fun i => !(fullR p rows cols).contains i) cols (found ++ [tupD (fullR p rows cols)]) (.pl (.lst (natD (fullR p rows cols)))) (.pl (.lst (natD (emptyC p rows cols))))
            (fun i hi => hr i (List.mem_filter.mp hi).1) hc (by omega) (by rw [List.length_append, List.length_singleton]; omega)
          refine ⟨y4, y5, ?_⟩
          have eL : layersL p R (n + 1) rows cols = fullR p rows cols :: layersL p R n (rows.filter fun i => !(fullR p rows cols).contains i) cols := by
            show (if rows = [] ∧ cols = [] then _ else _) = _
            rw [if_neg he, if_pos hfu]
          rw [eL, List.map_cons, show found ++ tupD (fullR p rows cols) :: (layersL p R n (rows.filter fun i => !(fullR p rows cols).contains i) cols).map tupD = (found ++ [tupD (fullR p rows cols)]) ++ (layersL p R n (rows.filter fun i => !(fullR p rows cols).contains i) cols).map tupD by simp, ← ih]
          refine while_step hcond (seq_nx (set_of s4) (seq_nx (set_of s5) (if_t (m1 := ⟨ENV p rows cols (.ow (.lst found)) (.pl (.lst (natD (fullR p rows cols)))) (.pl (.lst (natD (emptyC p rows cols)))) .un .un, obs⟩) ?_ (seq_nx (m1 := ⟨ENV p rows cols (.ow (.lst (found ++ [tupD (fullR p rows cols)]))) (.pl (.lst (natD (fullR p rows cols)))) (.pl (.lst (natD (emptyC p rows cols)))) .un .un, obs⟩) (expr_of (d := .non) ?_) (set_of (lay_rows (by omega) rfl)))))) rfl
          · have := neD_natD_nil (fullR p rows cols)
            rw [decide_eq_false hfu] at this
            simp [ENV, this]
          · have : found.length < sizeLine := hfz
            simp [ENV, this, tupD]
        · have hfu' : fullR p rows cols = [] := by
            by_cases e : fullR p rows cols = []
            · exact e
            · exact absurd e hfu
          have hem : emptyC p rows cols ≠ [] := (G rows cols hr hc hne).resolve_left fun z => z hfu'
          have hl := less_cols hem
          obtain ⟨y4, y5, ih⟩ := layers_loop h hR hC G obs n rows (cols.filter fun i => !(emptyC p rows cols).contains i) (found ++ [tupD ((emptyC p rows cols).map (R + ·))]) (.pl (.lst (natD (fullR p rows cols)))) (.pl (.lst (natD (emptyC p rows cols))))
            hr (fun i hi => hc i (List.mem_filter.mp hi).1) (by omega) (by rw [List.length_append, List.length_singleton]; omega)
          refine ⟨y4, y5, ?_⟩
          have eL : layersL p R (n + 1) rows cols = (emptyC p rows cols).map (R + ·) :: layersL p R n rows (cols.filter fun i => !(emptyC p rows cols).contains i) := by
            show (if rows = [] ∧ cols = [] then _ else _) = _
            rw [if_neg he, if_neg hfu]
          rw [eL, List.map_cons, show found ++ tupD ((emptyC p rows cols).map (R + ·)) :: (layersL p R n rows (cols.filter fun i => !(emptyC p rows cols).contains i)).map tupD = (found ++ [tupD ((emptyC p rows cols).map (R + ·))]) ++ (layersL p R n rows (cols.filter fun i => !(emptyC p rows cols).contains i)).map tupD by simp, ← ih]
          refine while_step hcond (seq_nx (set_of s4) (seq_nx (set_of s5) (if_f (m1 := ⟨ENV p rows cols (.ow (.lst found)) (.pl (.lst (natD (fullR p rows cols)))) (.pl (.lst (natD (emptyC p rows cols)))) .un .un, obs⟩) ?_ (if_t (m1 := ⟨ENV p rows cols (.ow (.lst found)) (.pl (.lst (natD (fullR p rows cols)))) (.pl (.lst (natD (emptyC p rows cols)))) .un .un, obs⟩) ?_ (seq_nx (m1 := ⟨ENV p rows cols (.ow (.lst (found ++ [tupD ((emptyC p rows cols).map (R + ·))]))) (.pl (.lst (natD (fullR p rows cols)))) (.pl (.lst (natD (emptyC p rows cols)))) .un .un, obs⟩) (expr_of (d := .non) ?_) (set_of (lay_cols (by omega) rfl))))))) rfl
          · have := neD_natD_nil (fullR p rows cols)
            rw [hfu'] at this
            rw [hfu']
            simp [ENV, this]
          · have := neD_natD_nil (emptyC p rows cols)
            rw [decide_eq_false hem] at this
            simp [ENV, this]
          · have hlu : lenU [picD p] = some (.int R) := by
              show some (D.int ((p.map fun r => D.str (rowS r)).length : Nat)) = _
              rw [List.length_map, h.r]
            have hg : ∀ m : M, Opd.get m (.val (picD p)) = some (picD p) := fun m => rfl
            have hm := eLc_map (i := 7) (fi := iVal (vPl 5)) (fe := eOp addD (vB (eCall lenU (bCons (vB (vPl 0)) (Co.ret [])))) (vB (vPl 7))) (m := ⟨ENV p rows cols (.ow (.lst found)) (.pl (.lst (natD (fullR p rows cols)))) (.pl (.lst (natD (emptyC p rows cols)))) .un .un, obs⟩)
              (env := ENV p rows cols (.ow (.lst found)) (.pl (.lst (natD (fullR p rows cols)))) (.pl (.lst (natD (emptyC p rows cols)))) .un .un) (obs := obs) (ds := natD (emptyC p rows cols)) (fun d => match d with
                | .int j => .int (R + j)
                | _ => .non) (by simp [ENV]) rfl (by simp [ENV]) (by rw [natD_len]; refine size_le (Nat.le_trans (List.length_filter_le _ _) (by omega))) (fun d hd => by
                  obtain ⟨j, hj, rfl⟩ := List.mem_map.mp hd
                  simp [ENV, hg, hlu])
            have e2 : (natD (emptyC p rows cols)).map (fun d => match d with
                | .int j => D.int (R + j)
                | _ => .non) = natD ((emptyC p rows cols).map (R + ·)) := by
              unfold natD
              rw [List.map_map, List.map_map]
              apply List.map_congr_left
              intro j _
              show D.int _ = D.int _
              congr 1
            rw [e2] at hm
            have : found.length < sizeLine := hfz
            simp only [ENV] at hm
            simp [ENV, this, tupD, hm]
end C
namespace C
open PySem PySem.Spec PyProof.Rows L2 PD

theorem rgD_nat (n : Nat) : rgD 0 (n : Int) = natD (List.range n) := by
  unfold rgD natD
  rw [Int.sub_zero, Int.toNat_natCast]
  apply List.map_congr_left
  intro k _
  show D.int _ = D.int _
  rw [Int.zero_add]
theorem lrg_of {f : Co D} {m m1 : M} {n : Nat} (h : f m = .ok (.int n) m1) (hn : n ≤ 1000) : eLRg (rR1 f) m = .ok (.lst (natD (List.range n))) m1 := by
  have e : rR1 f m = .ok (0, (n : Int)) m1 := by
    unfold rR1 toI
    rw [bind_ap, bind_ap, h]
    rfl
  unfold eLRg
  rw [bind_ap, e]
  show (if RgOk 0 (n : Int) then Res.ok (D.lst (rgD 0 (n : Int))) m1 else .no) = _
  rw [if_pos (by unfold RgOk; omega), rgD_nat]
theorem asg_of {is : List Nat} {f : Co (List (Bool × D))} {m : M} {ls : List (Bool × D)} {env env' : List PD.Slot} {obs : List (List D)} (h : f m = .ok ls ⟨env, obs⟩) (h2 : setEnv env is ls = some env') : sAsg is f m = .ok .nx ⟨env', obs⟩ := by
  rw [sAsg_ap, bind_ap, h]
  show (match setEnv env is ls with | some env => Res.ok Flow'.nx ⟨env, obs⟩ | none => .no) = _
  rw [h2]
theorem xpl_of {f : Co D} {fs : Co (List (Bool × D))} {m m1 m2 : M} {d : D} {ls : List (Bool × D)} (h : f m = .ok d m1) (h2 : fs m1 = .ok ls m2) : xPl f fs m = .ok ((false, d) :: ls) m2 := by
  rw [xPl_ap, bind_ap, h]
  show Co.bind fs _ m1 = _
  rw [bind_ap, h2]
  rfl
theorem xfr_of {f : Co D} {fs : Co (List (Bool × D))} {m m1 m2 : M} {d : D} {ls : List (Bool × D)} (h : f m = .ok d m1) (h2 : fs m1 = .ok ls m2) : xFr f fs m = .ok ((true, d) :: ls) m2 := by
  rw [xFr_ap, bind_ap, h]
  show Co.bind fs _ m1 = _
  rw [bind_ap, h2]
  rfl
theorem lenU_pic {R C : Nat} {p : List (List Bool)} (h : Pic R C p) : lenU [picD p] = some (.int R) := by
  show some (D.int ((p.map fun r => D.str (rowS r)).length : Nat)) = _
  rw [List.length_map, h.r]
theorem get_pic (m : M) (p : List (List Bool)) : Opd.get m (.val (picD p)) = some (picD p) := rfl
theorem while_of {c : Co Bool} {b : Co Flow'} {n : Nat} {m m1 : M} {fl : Flow'} (h : whileN c b n m = .ok fl m1) : sWhile c b m = .ok fl m1 := sWhile_of h
theorem frz_of {i : Nat} {g : Co Flow'} {env : List PD.Slot} {obs : List (List D)} {d : D} {r : Res Flow'} (h : env[i]? = some (.ow d)) (h2 : g ⟨env.set i (.pl d), obs⟩ = r) : sFrz i g ⟨env, obs⟩ = r := by
  rw [sFrz_ap, h]
  exact h2
theorem F_layers_of_q {R C : Nat} {p : List (List Bool)} (h : Pic R C p) (hR : 1 ≤ R ∧ R ≤ 12) (hC : C ≤ 12) (G : Goes p R C) (obs : List (List D)) :
    F_layers_of [picD p] obs = some (.lst ((layersL p R (R + C) (List.range R) (List.range C)).map tupD), obs) := by
  obtain ⟨y4, y5, hw⟩ := layers_loop h hR.2 hC G obs (R + C) (List.range R) (List.range C) [] .un .un (fun i hi => List.mem_range.mp hi) (fun i hi => List.mem_range.mp hi) (by rw [List.length_range, List.length_range]; exact Nat.le_refl _) (by simp; omega)
  rw [List.nil_append] at hw
  have hl := lenU_pic h
  have h0 := ix_pic h (i := 0) (by omega)
  have hr0 := row_of h (i := 0) (by omega)
  have hlr := lenU_row (r := (p[0]?).getD []) (by rw [hr0]; omega)
  rw [hr0] at hlr
  refine runF_rt rfl (e := ENV p [] [] (.pl (.lst ((layersL p R (R + C) (List.range R) (List.range C)).map tupD))) y4 y5 .un .un) ?_
  refine seq_nx (m1 := ⟨ENV p (List.range R) (List.range C) (.ow (.lst [])) .un .un .un .un, obs⟩) (asg_of (xpl_of (m1 := ⟨[.pl (picD p), .un, .un, .un, .un, .un, .un, .un], obs⟩) (lrg_of (n := R) ?_ (by omega)) (xpl_of (m1 := ⟨[.pl (picD p), .un, .un, .un, .un, .un, .un, .un], obs⟩) (lrg_of (n := C) ?_ (by omega)) (xfr_of (m1 := ⟨[.pl (picD p), .un, .un, .un, .un, .un, .un, .un], obs⟩) (d := .lst []) ?_ rfl))) rfl) (seq_nx (while_of hw) (frz_of (d := .lst ((layersL p R (R + C) (List.range R) (List.range C)).map tupD)) rfl (ret_of rfl)))
  · simp [get_pic, hl]
  · have h0' : subD' (picD p) (.int 0) = some (.str (rowS ((p[0]?).getD []))) := h0
    simp only [eCall_ap, bCons_ap, bind_ap, vB_ap, eOp_ap, vPl_ap, ret_ap, Opd2_ap, List.getElem?_cons_zero, get_pic, get_int, h0', getAll_cons, getAll_nil, get_str, hlr, List.replicate, List.map_cons, List.map_nil, List.cons_append, List.nil_append]
  · simp
/-! ### what the layers are -/
theorem layers_len {p : List (List Bool)} {R C : Nat} (G : Goes p R C) : ∀ (n : Nat) (rows cols : List Nat), (∀ i ∈ rows, i < R) → (∀ j ∈ cols, j < C) → rows.length + cols.length ≤ n →
    ((layersL p R n rows cols).map List.length).sum = rows.length + cols.length ∧ ∀ l ∈ layersL p R n rows cols, ∀ k ∈ l, k < R + C := by
  have flt : ∀ (l : List Nat) (q : Nat → Bool), (l.filter q).length + (l.filter fun i => !(l.filter q).contains i).length = l.length := by
    intro l q
    have e : (l.filter fun i => !(l.filter q).contains i) = l.filter fun i => !q i := by
      apply List.filter_congr
      intro a ha
      congr 1
      by_cases h : q a = true
      · rw [h]
        exact List.contains_iff_mem.mpr (List.mem_filter.mpr ⟨ha, h⟩)
      · have h' : q a = false := by simpa using h
        rw [h']
        exact Bool.eq_false_iff.mpr fun z => h (List.mem_filter.mp (List.contains_iff_mem.mp z)).2
    rw [e]
    induction l with
    | nil => rfl
    | cons a l ih =>
      have ih' := ih (by
        apply List.filter_congr
        intro b hb
        congr 1
        by_cases h : q b = true
        · rw [h]
          exact List.contains_iff_mem.mpr (List.mem_filter.mpr ⟨hb, h⟩)
        · have h' : q b = false := by simpa using h
          rw [h']
          exact Bool.eq_false_iff.mpr fun z => h (List.mem_filter.mp (List.contains_iff_mem.mp z)).2)
      rw [List.filter_cons, List.filter_cons]
      cases q a <;> simp <;> omega
  intro n
  induction n with
  | zero =>
    intro rows cols _ _ hn
    have e1 : rows = [] := List.eq_nil_of_length_eq_zero (by omega)
    have e2 : cols = [] := List.eq_nil_of_length_eq_zero (by omega)
    subst e1 e2
    exact ⟨rfl, fun l hl => nomatch hl⟩
  | succ n ih =>
    intro rows cols hr hc hn
    by_cases he : rows = [] ∧ cols = []
    · obtain ⟨rfl, rfl⟩ := he
      refine ⟨by simp [layersL], fun l hl => by simp [layersL] at hl⟩
    · have hne : rows ≠ [] ∨ cols ≠ [] := by
        by_cases e1 : rows = []
        · exact .inr fun e2 => he ⟨e1, e2⟩
        · exact .inl e1
      by_cases hfu : fullR p rows cols ≠ []
      · have eL : layersL p R (n + 1) rows cols = fullR p rows cols :: layersL p R n (rows.filter fun i => !(fullR p rows cols).contains i) cols := by
          show (if rows = [] ∧ cols = [] then _ else _) = _
          rw [if_neg he, if_pos hfu]
        have hl := less_rows hfu
        obtain ⟨i1, i2⟩ := ih (rows.filter fun i => !(fullR p rows cols).contains i) cols (fun i hi => hr i (List.mem_filter.mp hi).1) hc (by omega)
        have e := flt rows fun i => cols.all fun j => cell p i j
        rw [eL]
        refine ⟨?_, fun l hl k hk => ?_⟩
        · rw [List.map_cons, List.sum_cons, i1]
          unfold fullR at *
          omega
        · rcases List.mem_cons.mp hl with rfl | hl
          · unfold fullR at hk
            have := hr k (List.mem_filter.mp hk).1
            omega
          · exact i2 l hl k hk
      · have hfu' : fullR p rows cols = [] := by
          by_cases e : fullR p rows cols = []
          · exact e
          · exact absurd e hfu
        have hem : emptyC p rows cols ≠ [] := (G rows cols hr hc hne).resolve_left fun z => z hfu'
        have eL : layersL p R (n + 1) rows cols = (emptyC p rows cols).map (R + ·) :: layersL p R n rows (cols.filter fun i => !(emptyC p rows cols).contains i) := by
          show (if rows = [] ∧ cols = [] then _ else _) = _
          rw [if_neg he, if_neg hfu]
        have hl := less_cols hem
        obtain ⟨i1, i2⟩ := ih rows (cols.filter fun i => !(emptyC p rows cols).contains i) hr (fun i hi => hc i (List.mem_filter.mp hi).1) (by omega)
        have e := flt cols fun j => rows.all fun i => !cell p i j
        rw [eL]
        refine ⟨?_, fun l hl k hk => ?_⟩
        · rw [List.map_cons, List.sum_cons, i1, List.length_map]
          unfold emptyC at *
          omega
        · rcases List.mem_cons.mp hl with rfl | hl
          · obtain ⟨j, hj, rfl⟩ := List.mem_map.mp hk
            unfold emptyC at hj
            have := hc j (List.mem_filter.mp hj).1
            omega
          · exact i2 l hl k hk
end C
namespace C
open PySem PySem.Spec PyProof.Rows L2 PD

/-! ### is_picture, need_picture -/
theorem inU_tup (x : D) (xs : List D) : inU x (.tup xs) = (inB x (.tup xs)).map .bl := rfl
theorem in_signs (b : Bool) : inU (.str (rowS [b])) (.tup [.str "#", .str "."]) = some (.bl true) := by
  rw [inU_tup, str_hash, str_dot]
  have e : inB (.str (rowS [b])) (.tup [.str (rowS [true]), .str (rowS [false])]) = some ([D.str (rowS [true]), .str (rowS [false])].any fun y => D.eqF y (.str (rowS [b]))) := rfl
  rw [e]
  have e2 : ([D.str (rowS [true]), .str (rowS [false])].any fun y => D.eqF y (.str (rowS [b]))) = true := by
    revert b
    decide +kernel
  rw [e2]
  rfl
theorem all_true (n : Nat) : allD [.lst (List.replicate n (.bl true))] = some (.bl true) := by
  have := all_bls (List.replicate n true)
  rw [List.map_replicate] at this
  rw [this]
  congr 2
  rw [List.all_eq_true]
  intro x hx
  exact List.eq_of_mem_replicate hx
theorem map_true (ds : List D) : ds.map (fun _ => D.bl true) = List.replicate ds.length (.bl true) := by
  rw [List.eq_replicate_iff]
  refine ⟨by rw [List.length_map], fun b hb => ?_⟩
  obtain ⟨_, _, rfl⟩ := List.mem_map.mp hb
  rfl
theorem itD_row (r : List Bool) : itD (.str (rowS r)) = some (r.map fun b => D.str (rowS [b])) := by
  show some (((r.map chN).toArray.toList).map fun c => D.str ⟨#[c]⟩) = _
  congr 1
  show ((r.map chN).map fun c => D.str ⟨#[c]⟩) = _
  rw [List.map_map]
  rfl
theorem F_is_picture_q {R C : Nat} {p : List (List Bool)} (h : Pic R C p) (hR : 1 ≤ R ∧ R ≤ 12) (hC : 1 ≤ C ∧ C ≤ 12) (obs : List (List D)) : F_is_picture [picD p] obs = some (.bl true, obs) := by
  have hl := lenU_pic h
  have h0 : subD' (picD p) (.int 0) = some (.str (rowS ((p[0]?).getD []))) := ix_pic h (i := 0) (by omega)
  have hr0 := row_of h (i := 0) (by omega)
  have hlr := lenU_row (r := (p[0]?).getD []) (by rw [hr0]; omega)
  rw [hr0] at hlr
  have hisi : isiD [picD p, .ty "tuple"] = some (.bl true) := rfl
  have hit : itD (picD p) = some (p.map fun r => D.str (rowS r)) := rfl
  have hz : (p.map fun r => D.str (rowS r)).length ≤ sizeLine := by rw [List.length_map, h.r]; exact size_le (by omega)
  have m1 := eLc_map (i := 1) (fi := iVal (vPl 0)) (fe := eCall isiD (bCons (vB (vPl 1)) (bCons (vB (Co.ret (.ty "str"))) (Co.ret [])))) (m := ⟨[.pl (picD p), .un, .un], obs⟩) (env := [.pl (picD p), .un, .un]) (obs := obs) (ds := p.map fun r => D.str (rowS r)) (fun _ => .bl true)
    (by simp [hit]) rfl (by simp) hz (fun d hd => by
      obtain ⟨r, hr, rfl⟩ := List.mem_map.mp hd
      simp)
  rw [map_true, List.length_map] at m1
  have m2 := eLc_map (i := 1) (fi := iVal (vPl 0)) (fe := eAnd (eOp eqD (vB (eCall lenU (bCons (vB (vPl 1)) (Co.ret [])))) (vB (eCall lenU (bCons (vB (eOp subD' (vB (vPl 0)) (vB (Co.ret (.int 0))))) (Co.ret []))))) (eCall allD (bCons (vB (eLc (iVal (vPl 1)) false [2] [2] (Co.ret true) (eOp inU (vB (vPl 2)) (vB (eTup (eCons (Co.ret (.str "#")) (eCons (Co.ret (.str ".")) (Co.ret [])))))))) (Co.ret []))))
    (m := ⟨[.pl (picD p), .un, .un], obs⟩) (env := [.pl (picD p), .un, .un]) (obs := obs) (ds := p.map fun r => D.str (rowS r)) (fun _ => .bl true)
    (by simp [hit]) rfl (by simp) hz (fun d hd => by
      obtain ⟨r, hr, rfl⟩ := List.mem_map.mp hd
      have hrc := h.c r hr
      have hlr2 := lenU_row (r := r) (by omega)
      rw [hrc] at hlr2
      have m3 := eLc_map (i := 2) (fi := iVal (vPl 1)) (fe := eOp inU (vB (vPl 2)) (vB (eTup (eCons (Co.ret (.str "#")) (eCons (Co.ret (.str ".")) (Co.ret [])))))) (m := ⟨[.pl (picD p), .pl (.str (rowS r)), .un], obs⟩) (env := [.pl (picD p), .pl (.str (rowS r)), .un]) (obs := obs)
        (ds := r.map fun b => D.str (rowS [b])) (fun _ => .bl true) (by simp [itD_row]) rfl (by simp) (by rw [List.length_map, hrc]; exact size_le (by omega)) (fun d hd => by
          obtain ⟨b, hb, rfl⟩ := List.mem_map.mp hd
          simp [in_signs, two_le])
      rw [map_true, List.length_map] at m3
      have ha := all_true r.length
      simp [get_pic, h0, hlr, hlr2, m3, ha])
  rw [map_true, List.length_map] at m2
  have ha := all_true p.length
  refine runF_rt rfl (e := [.pl (picD p), .un, .un]) ?_
  refine seq_nx (m1 := ⟨[.pl (picD p), .un, .un], obs⟩) (if_f (m1 := ⟨[.pl (picD p), .un, .un], obs⟩) ?_ rfl) (seq_nx (m1 := ⟨[.pl (picD p), .un, .un], obs⟩) (if_f (m1 := ⟨[.pl (picD p), .un, .un], obs⟩) ?_ rfl) (ret_of ?_))
  · have a1 : (1 : Int) ≤ R := by omega
    have a2 : (R : Int) ≤ 12 := by omega
    simp [get_pic, hisi, hl, a1, a2]
  · have a1 : (1 : Int) ≤ C := by omega
    have a2 : (C : Int) ≤ 12 := by omega
    simp [get_pic, m1, ha, h0, hlr, a1, a2]
  · simp [m2, ha]
theorem F_need_picture_q {R C : Nat} {p : List (List Bool)} (h : Pic R C p) (hR : 1 ≤ R ∧ R ≤ 12) (hC : 1 ≤ C ∧ C ≤ 12) (obs : List (List D)) : F_need_picture [.int R, .int C, picD p] obs = some (.non, obs) := by
  have hl := lenU_pic h
  have h0 : subD' (picD p) (.int 0) = some (.str (rowS ((p[0]?).getD []))) := ix_pic h (i := 0) (by omega)
  have hr0 := row_of h (i := 0) (by omega)
  have hlr := lenU_row (r := (p[0]?).getD []) (by rw [hr0]; omega)
  rw [hr0] at hlr
  have hp := F_is_picture_q h hR hC obs
  refine runF_nx rfl (e := [.pl (.int R), .pl (.int C), .pl (picD p)]) ?_
  refine seq_nx (m1 := ⟨[.pl (.int R), .pl (.int C), .pl (picD p)], obs⟩) (if_f (m1 := ⟨[.pl (.int R), .pl (.int C), .pl (picD p)], obs⟩) ?_ rfl) (if_f (m1 := ⟨[.pl (.int R), .pl (.int C), .pl (picD p)], obs⟩) ?_ rfl)
  · simp [hp]
  · simp [get_pic, hl, h0, hlr]
end C
namespace C
open PySem PySem.Spec PyProof.Rows L2 PD

theorem isnot_lst (LL : List D) : isnotD (.lst LL) .non = some (.bl true) := rfl
theorem efn1_of {F : Fd} {i : Nat} {m : M} {d r : D} (h : m.env[i]? = some (.pl d)) (hF : F [d] m.obs = some (r, m.obs)) : eFn F (eCons (vPl i) (Co.ret [])) m = .ok r m := by
  cases m
  simp at h hF
  simp [h, hF]
theorem isn_of {f : Co D} {m : M} {LL : List D} (h : f m = .ok (.lst LL) m) : eOp isnotD (vB f) (vB (Co.ret .non)) m = .ok (.bl true) m := by
  have hn := isnot_lst LL
  simp [h, hn]
/-! ### is_free, share_of -/
theorem fact_mul : ∀ a b : Nat, fact a * fact b ≤ fact (a + b)
  | a, 0 => by simp [fact]
  | a, b + 1 => by
    have ih := fact_mul a b
    show fact a * ((b + 1) * fact b) ≤ (a + b + 1) * fact (a + b)
    rw [show fact a * ((b + 1) * fact b) = (b + 1) * (fact a * fact b) by rw [Nat.mul_left_comm]]
    exact Nat.mul_le_mul (by omega) ih
theorem fact_mono {a b : Nat} (h : a ≤ b) : fact a ≤ fact b := by
  obtain ⟨c, rfl⟩ := Nat.exists_eq_add_of_le h
  exact Nat.le_trans (Nat.le_mul_of_pos_right _ (fact_pos c)) (fact_mul a c)
/-- the product of the factorials of the layers' sizes -/
def pf : List (List Nat) → Nat
  | [] => 1
  | l :: ls => fact l.length * pf ls
/-- the free cells of a comprehension's two slots -/
theorem lc2_flat {a0 a1 a2 a3 a4 a5 a6 : PD.Slot} {obs : List (List D)} : ∀ (L : List (List Nat)),
    lc2L false [7] [7, 8] (Co.ret true) (iVal (vPl 7)) false [8] [8] (Co.ret true) (vPl 8) (L.map tupD) ⟨[a0, a1, a2, a3, a4, a5, a6, .un, .un], obs⟩ = .ok (natD L.flatten) ⟨[a0, a1, a2, a3, a4, a5, a6, .un, .un], obs⟩
  | [] => rfl
  | l :: L => by
    have ih := lc2_flat (a0 := a0) (a1 := a1) (a2 := a2) (a3 := a3) (a4 := a4) (a5 := a5) (a6 := a6) (obs := obs) L
    have h := lcL_fm (i := 8) (ft := Co.ret true) (fe := vPl 8) (env := [a0, a1, a2, a3, a4, a5, a6, .pl (tupD l), .un]) (obs := obs) (fun _ => true) (fun d => d) (by simp) rfl (natD l) (fun _ _ => rfl) (fun _ _ _ => rfl)
    rw [List.filter_eq_self.mpr fun _ _ => rfl, List.map_id'] at h
    rw [List.map_cons]
    have e1 : setTg false [7] (tupD l) [a0, a1, a2, a3, a4, a5, a6, .un, .un] = some [a0, a1, a2, a3, a4, a5, a6, .pl (tupD l), .un] := rfl
    have e2 : iVal (vPl 7) ⟨[a0, a1, a2, a3, a4, a5, a6, .pl (tupD l), .un], obs⟩ = .ok (natD l) ⟨[a0, a1, a2, a3, a4, a5, a6, .pl (tupD l), .un], obs⟩ := rfl
    have e3 : wipeE [a0, a1, a2, a3, a4, a5, a6, .pl (tupD l), .un] [8] = [a0, a1, a2, a3, a4, a5, a6, .pl (tupD l), .un] := rfl
    have e4 : wipeE [a0, a1, a2, a3, a4, a5, a6, .pl (tupD l), .un] [7, 8] = [a0, a1, a2, a3, a4, a5, a6, .un, .un] := rfl
    have e5 : noOw [8] [a0, a1, a2, a3, a4, a5, a6, .pl (tupD l), .un] = true := rfl
    have e6 : noOw [7, 8] [a0, a1, a2, a3, a4, a5, a6, .pl (tupD l), .un] = true := rfl
    unfold lc2L
    simp only [e1, e2, e3, e4, e5, e6, h, ih, if_true, Co.ret]
    congr 1
    show natD l ++ natD L.flatten = natD (l ++ L.flatten)
    exact (List.map_append ..).symm
theorem natD_int (l : List Nat) : natD l = (l.map fun (n : Nat) => (n : Int)).map D.int := by
  unfold natD
  rw [List.map_map]
  rfl
theorem aheadQ_zero (m : Nat) : aheadQ m 0 = 1 := by
  have := ratN_ne (fact_pos m)
  unfold aheadQ
  show _ * ((1 : Nat) : Rat) / ((fact (m + 0) : Nat) : Rat) = 1
  rw [Nat.add_zero]
  have e : ((1 : Nat) : Rat) = 1 := rfl
  rw [e]
  grind
theorem ahead_nat {w : Int} {ws : List Int} {os ps : List Nat} {one other : D} (h1 : itD one = some (natD os)) (h2 : itD other = some (natD ps)) (hw : ∀ x ∈ ws, x = w) (h0 : 0 < w) (hwz : w < 2 ^ 20)
    (ho : ∀ l ∈ os, l < ws.length) (hp : ∀ l ∈ ps, l < ws.length) (hoz : os.length ≤ 23) (hpz : ps.length ≤ 23) (obs : List (List D)) :
    F_ahead_of [.tup (ws.map D.int), one, other] obs = some (cf (aheadQ os.length ps.length), obs) := by
  rw [natD_int] at h1 h2
  have c : ∀ l : List Nat, (∀ x ∈ l, x < ws.length) → ∀ x ∈ l.map (fun (n : Nat) => (n : Int)), 0 ≤ x ∧ x < ws.length := fun l hl x hx => by
    obtain ⟨y, hy, rfl⟩ := List.mem_map.mp hx
    have := hl y hy
    omega
  have := F_ahead_of_even h1 h2 hw h0 hwz (c os ho) (c ps hp) (by rw [List.length_map]; exact hoz) (by rw [List.length_map]; exact hpz) obs
  rw [this, List.length_map, List.length_map]
  by_cases e : ps.length = 0
  · rw [if_pos e, e, aheadQ_zero]
  · rw [if_neg e]
theorem slD_lst_lo (xs : List D) (k : Nat) : slD (.lst xs) (some (k : Int)) none = some (.lst (xs.drop k)) := by
  have h := sl_tup_lo xs k
  unfold slD at h
  simp only [Option.some.injEq, D.tup.injEq] at h
  exact congrArg (fun z => some (D.lst z)) h
theorem Sz_fact {A r S : Nat} (h : A * fact r ≤ fact S) (hS : S ≤ 24) : Sz 4000 (((A * fact r : Nat) : Rat) / ((fact S : Nat) : Rat)) := by
  have h1 : fact S < 2 ^ 4000 := Nat.lt_of_le_of_lt (fact_mono hS) (Nat.lt_of_lt_of_le (by decide : fact 24 < 2 ^ 80) (Nat.pow_le_pow_right (by decide) (by decide)))
  exact Sz.of (n := ((A * fact r : Nat) : Int)) (d := fact S) (fact_pos S) (by rw [Int.natAbs_natCast]; exact Nat.lt_of_le_of_lt h h1) h1
theorem share_step {A m r S : Nat} : ((A * fact (m + r) : Nat) : Rat) / ((fact S : Nat) : Rat) * aheadQ m r = ((A * fact m * fact r : Nat) : Rat) / ((fact S : Nat) : Rat) := by
  have h1 := ratN_ne (fact_pos S)
  have h2 := ratN_ne (fact_pos (m + r))
  unfold aheadQ
  rw [Rat.natCast_mul, Rat.natCast_mul, Rat.natCast_mul]
  grind
@[reducible] noncomputable def shB : Co Flow' := sSeq (sSet 6 (eLc2 (iVal (eSl (vB (vPl 2)) (ePart (eOp addD (vB (vPl 4)) (vB (Co.ret (.int 1))))) (Co.ret none))) false [7] [7, 8] (Co.ret true) (iVal (vPl 7)) false [8] [8] (Co.ret true) (vPl 8)))
  (sSet 3 (eFn C.F_times (eCons (vPl 3) (eCons (eFn C.F_ahead_of (eCons (vPl 0) (eCons (vPl 5) (eCons (vPl 6) (Co.ret []))))) (Co.ret [])))))
theorem share_loop {w : Int} {ws : List Int} {P : D} (hw : ∀ x ∈ ws, x = w) (h0 : 0 < w) (hwz : w < 2 ^ 20) {S : Nat} (hS : S ≤ 24) (L : List (List Nat)) (hLi : ∀ l ∈ L, ∀ k ∈ l, k < ws.length) (hL0 : ∀ l ∈ L, l ≠ []) (obs : List (List D)) :
    ∀ (rest pre : List (List Nat)) (A : Nat) (x4 x5 x6 : PD.Slot), L = pre ++ rest → A * fact rest.flatten.length ≤ fact S → rest.flatten.length ≤ 24 → (∀ l ∈ rest, l.length ≤ 23) → noOw [4, 5, 6] [.un, .un, .un, .un, x4, x5, x6] = true → ∃ y4 y5 y6,
      forL true [4, 5] shB (enumD pre.length (rest.map tupD)) ⟨[.pl (.tup (ws.map D.int)), .pl P, .pl (.lst (L.map tupD)), .pl (cf (((A * fact rest.flatten.length : Nat) : Rat) / ((fact S : Nat) : Rat))), x4, x5, x6, .un, .un], obs⟩
        = .ok .nx ⟨[.pl (.tup (ws.map D.int)), .pl P, .pl (.lst (L.map tupD)), .pl (cf (((A * pf rest : Nat) : Rat) / ((fact S : Nat) : Rat))), y4, y5, y6, .un, .un], obs⟩
  | [], pre, A, x4, x5, x6, e, hA, _, _, _ => ⟨x4, x5, x6, rfl⟩
  | l :: rest, pre, A, x4, x5, x6, e, hA, hr, hl, _ => by
    have hll := hl l List.mem_cons_self
    have hmem : l ∈ L := by rw [e]; simp
    have hl0 : l.length ≠ 0 := fun h => hL0 l hmem (List.length_eq_zero_iff.mp h)
    have ef : (l :: rest).flatten.length = l.length + rest.flatten.length := by rw [List.flatten_cons, List.length_append]
    rw [ef] at hA hr ⊢
    have hA2 : A * fact l.length * fact rest.flatten.length ≤ fact S := Nat.le_trans (by rw [Nat.mul_assoc]; exact Nat.mul_le_mul_left _ (fact_mul _ _)) hA
    obtain ⟨y4, y5, y6, ih⟩ := share_loop (P := P) hw h0 hwz hS L hLi hL0 obs rest (pre ++ [l]) (A * fact l.length) (.pl (.int (pre.length : Nat))) (.pl (tupD l)) (.pl (.lst (natD rest.flatten))) (by rw [e]; simp) hA2 (by omega) (fun x hx => hl x (List.mem_cons_of_mem _ hx)) rfl
    refine ⟨y4, y5, y6, ?_⟩
    rw [List.map_cons]
    show forL true [4, 5] shB (.tup [.int (pre.length : Nat), tupD l] :: enumD (pre.length + 1) (rest.map tupD)) _ = _
    rw [forL_cons]
    have e1 : setTg true [4, 5] (.tup [.int (pre.length : Nat), tupD l]) [.pl (.tup (ws.map D.int)), .pl P, .pl (.lst (L.map tupD)), .pl (cf (((A * fact (l.length + rest.flatten.length) : Nat) : Rat) / ((fact S : Nat) : Rat))), x4, x5, x6, .un, .un]
      = some [.pl (.tup (ws.map D.int)), .pl P, .pl (.lst (L.map tupD)), .pl (cf (((A * fact (l.length + rest.flatten.length) : Nat) : Rat) / ((fact S : Nat) : Rat))), .pl (.int (pre.length : Nat)), .pl (tupD l), x6, .un, .un] := rfl
    generalize hq : ((A * fact (l.length + rest.flatten.length) : Nat) : Rat) / ((fact S : Nat) : Rat) = q at e1 ⊢
    have hqz : Sz 4000 q := hq ▸ Sz_fact hA hS
    have hlen : L.length = pre.length + (rest.length + 1) := by rw [e, List.length_append, List.length_cons]
    have hdrop : (L.map tupD).drop (pre.length + 1) = rest.map tupD := by
      rw [e, List.map_append, List.map_cons, List.drop_append, List.length_map]
      simp
    have hah := ahead_nat (w := w) (ws := ws) (os := l) (ps := rest.flatten) (one := tupD l) (other := .lst (natD rest.flatten)) rfl rfl hw h0 hwz (hLi l hmem) (fun x hx => by
      obtain ⟨y, hy, hxy⟩ := List.mem_flatten.mp hx
      exact hLi y (by rw [e]; simp [hy]) x hxy) hll (by omega) obs
    have haz : Sz 4000 (aheadQ l.length rest.flatten.length) := by
      have := Sz_fact (A := fact l.length) (r := rest.flatten.length) (S := l.length + rest.flatten.length) (fact_mul _ _) hr
      unfold aheadQ
      rw [Rat.natCast_mul] at this
      exact this
    have hti := F_times_q hqz haz obs
    have hstep : q * aheadQ l.length rest.flatten.length = ((A * fact l.length * fact rest.flatten.length : Nat) : Rat) / ((fact S : Nat) : Rat) := by rw [← hq]; exact share_step
    rw [hstep] at hti
    rw [show (pre ++ [l]).length = pre.length + 1 by simp] at ih
    have epf : A * pf (l :: rest) = A * fact l.length * pf rest := by
      show A * (fact l.length * pf rest) = _
      rw [Nat.mul_assoc]
    rw [epf]
    have hsl : slD (.lst (L.map tupD)) (some ((pre.length : Int) + 1)) none = some (.lst (rest.map tupD)) := by
      rw [← hdrop]
      exact slD_lst_lo (L.map tupD) (pre.length + 1)
    have hc : ∀ x6 : PD.Slot, eLc2 (iVal (eSl (vB (vPl 2)) (ePart (eOp addD (vB (vPl 4)) (vB (Co.ret (.int 1))))) (Co.ret none))) false [7] [7, 8] (Co.ret true) (iVal (vPl 7)) false [8] [8] (Co.ret true) (vPl 8)
      ⟨[.pl (.tup (ws.map D.int)), .pl P, .pl (.lst (L.map tupD)), .pl (cf q), .pl (.int (pre.length : Nat)), .pl (tupD l), x6, .un, .un], obs⟩ = .ok (.lst (natD rest.flatten)) ⟨[.pl (.tup (ws.map D.int)), .pl P, .pl (.lst (L.map tupD)), .pl (cf q), .pl (.int (pre.length : Nat)), .pl (tupD l), x6, .un, .un], obs⟩ := by
      intro x6
      have hi : iVal (eSl (vB (vPl 2)) (ePart (eOp addD (vB (vPl 4)) (vB (Co.ret (.int 1))))) (Co.ret none)) ⟨[.pl (.tup (ws.map D.int)), .pl P, .pl (.lst (L.map tupD)), .pl (cf q), .pl (.int (pre.length : Nat)), .pl (tupD l), x6, .un, .un], obs⟩ = .ok (rest.map tupD) ⟨[.pl (.tup (ws.map D.int)), .pl P, .pl (.lst (L.map tupD)), .pl (cf q), .pl (.int (pre.length : Nat)), .pl (tupD l), x6, .un, .un], obs⟩ := by
        generalize (pre.length : Int) = k at hsl ⊢
        simp [hsl]
      have hf := lc2_flat (a0 := .pl (.tup (ws.map D.int))) (a1 := .pl P) (a2 := .pl (.lst (L.map tupD))) (a3 := .pl (cf q)) (a4 := .pl (.int (pre.length : Nat))) (a5 := .pl (tupD l)) (a6 := x6) (obs := obs) rest
      have hz : (natD rest.flatten).length ≤ sizeLine := by rw [natD_len]; exact size_le (by omega)
      unfold eLc2 Co.bind
      rw [hi]
      have hn : noOw [7, 8] [.pl (.tup (ws.map D.int)), .pl P, .pl (.lst (L.map tupD)), .pl (cf q), .pl (.int (pre.length : Nat)), .pl (tupD l), x6, .un, .un] = true := rfl
      have hwi : wipeE [.pl (.tup (ws.map D.int)), .pl P, .pl (.lst (L.map tupD)), .pl (cf q), .pl (.int (pre.length : Nat)), .pl (tupD l), x6, .un, .un] [7, 8] = [.pl (.tup (ws.map D.int)), .pl P, .pl (.lst (L.map tupD)), .pl (cf q), .pl (.int (pre.length : Nat)), .pl (tupD l), x6, .un, .un] := rfl
      simp only [hn, hwi, hf, hz, if_true]
      rfl
    have hb : shB ⟨[.pl (.tup (ws.map D.int)), .pl P, .pl (.lst (L.map tupD)), .pl (cf q), .pl (.int (pre.length : Nat)), .pl (tupD l), x6, .un, .un], obs⟩
      = .ok .nx ⟨[.pl (.tup (ws.map D.int)), .pl P, .pl (.lst (L.map tupD)), .pl (cf (((A * fact l.length * fact rest.flatten.length : Nat) : Rat) / ((fact S : Nat) : Rat))), .pl (.int (pre.length : Nat)), .pl (tupD l), .pl (.lst (natD rest.flatten)), .un, .un], obs⟩ := by
      have hr3 : (eFn C.F_times (eCons (vPl 3) (eCons (eFn C.F_ahead_of (eCons (vPl 0) (eCons (vPl 5) (eCons (vPl 6) (Co.ret []))))) (Co.ret [])))) ⟨[.pl (.tup (ws.map D.int)), .pl P, .pl (.lst (L.map tupD)), .pl (cf q), .pl (.int (pre.length : Nat)), .pl (tupD l), .pl (.lst (natD rest.flatten)), .un, .un], obs⟩
          = .ok (cf (((A * fact l.length * fact rest.flatten.length : Nat) : Rat) / ((fact S : Nat) : Rat))) ⟨[.pl (.tup (ws.map D.int)), .pl P, .pl (.lst (L.map tupD)), .pl (cf q), .pl (.int (pre.length : Nat)), .pl (tupD l), .pl (.lst (natD rest.flatten)), .un, .un], obs⟩ := by
        generalize ((A * fact l.length * fact rest.flatten.length : Nat) : Rat) / ((fact S : Nat) : Rat) = q2 at hti ⊢
        generalize hk : (pre.length : Int) = k
        simp [hah, hti, -List.length_flatten]
      exact seq_nx (set_of (hc x6)) (set_of hr3)
    simp only [e1, hb]
    exact ih
theorem layers_small {p : List (List Bool)} {R C : Nat} (G : Goes p R C) : ∀ (n : Nat) (rows cols : List Nat), (∀ i ∈ rows, i < R) → (∀ j ∈ cols, j < C) → rows.length ≤ 12 → cols.length ≤ 12 →
    ∀ l ∈ layersL p R n rows cols, l ≠ [] ∧ l.length ≤ 12
  | 0, _, _, _, _, _, _, l, hl => nomatch hl
  | n + 1, rows, cols, hr, hc, zr, zc, l, hl => by
    unfold layersL at hl
    by_cases he : rows = [] ∧ cols = []
    · rw [if_pos he] at hl
      exact nomatch hl
    · rw [if_neg he] at hl
      have hne : rows ≠ [] ∨ cols ≠ [] := by
        by_cases e1 : rows = []
        · exact .inr fun e2 => he ⟨e1, e2⟩
        · exact .inl e1
      by_cases hfu : fullR p rows cols ≠ []
      · rw [if_pos hfu] at hl
        rcases List.mem_cons.mp hl with rfl | hl
        · exact ⟨hfu, Nat.le_trans (List.length_filter_le _ _) zr⟩
        · exact layers_small G n _ cols (fun i hi => hr i (List.mem_filter.mp hi).1) hc (Nat.le_trans (List.length_filter_le _ _) zr) zc l hl
      · rw [if_neg hfu] at hl
        have hem : emptyC p rows cols ≠ [] := by
          rcases G rows cols hr hc hne with h | h
          · exact absurd h hfu
          · exact h
        rcases List.mem_cons.mp hl with rfl | hl
        · exact ⟨fun e => hem (List.map_eq_nil_iff.mp e), by rw [List.length_map]; exact Nat.le_trans (List.length_filter_le _ _) zc⟩
        · exact layers_small G n rows _ hr (fun j hj => hc j (List.mem_filter.mp hj).1) zr (Nat.le_trans (List.length_filter_le _ _) zc) l hl
/-- the layers of a whole picture -/
abbrev LY (p : List (List Bool)) (R C : Nat) : List (List Nat) := layersL p R (R + C) (List.range R) (List.range C)
theorem F_share_of_q {R C : Nat} {p : List (List Bool)} (h : Pic R C p) (hR : 1 ≤ R ∧ R ≤ 12) (hC : C ≤ 12) (G : Goes p R C) {w : Int} {ws : List Int} (hw : ∀ x ∈ ws, x = w) (h0 : 0 < w) (hwz : w < 2 ^ 20) (hl : ws.length = R + C) (obs : List (List D)) :
    F_share_of [.tup (ws.map D.int), picD p] obs = some (cf (((pf (LY p R C) : Nat) : Rat) / ((fact (R + C) : Nat) : Rat)), obs) := by
  have rb : ∀ i ∈ List.range R, i < R := fun i hi => List.mem_range.mp hi
  have cb : ∀ i ∈ List.range C, i < C := fun i hi => List.mem_range.mp hi
  have hL := layers_len G (R + C) (List.range R) (List.range C) rb cb (by rw [List.length_range, List.length_range]; exact Nat.le_refl _)
  have hs := layers_small G (R + C) (List.range R) (List.range C) rb cb (by rw [List.length_range]; omega) (by rw [List.length_range]; omega)
  have hla := F_layers_of_q h hR hC G obs
  have hfl : (LY p R C).flatten.length = R + C := by
    rw [List.length_flatten, hL.1, List.length_range, List.length_range]
  obtain ⟨y4, y5, y6, hlo⟩ := share_loop (P := picD p) hw h0 hwz (S := R + C) (by omega) (LY p R C) (fun l hl2 k hk => by rw [hl]; exact hL.2 l hl2 k hk) (fun l hl2 => (hs l hl2).1) obs (LY p R C) [] 1 .un .un .un rfl (by rw [hfl, Nat.one_mul]; exact Nat.le_refl _) (by omega) (fun l hl2 => Nat.le_trans (hs l hl2).2 (by decide)) rfl
  rw [hfl, Nat.one_mul, Nat.one_mul] at hlo
  have e1 : ((fact (R + C) : Nat) : Rat) / ((fact (R + C) : Nat) : Rat) = 1 := by
    have := ratN_ne (fact_pos (R + C))
    grind
  rw [e1] at hlo
  generalize ((pf (LY p R C) : Nat) : Rat) / ((fact (R + C) : Nat) : Rat) = q at hlo ⊢
  generalize hLL : (LY p R C).map tupD = LL at hlo hla
  refine runF_rt rfl (e := [.pl (.tup (ws.map D.int)), .pl (picD p), .pl (.lst LL), .pl (cf q), y4, y5, y6, .un, .un]) ?_
  refine seq_nx (m1 := ⟨[.pl (.tup (ws.map D.int)), .pl (picD p), .pl (.lst LL), .un, .un, .un, .un, .un, .un], obs⟩) ?_
    (seq_nx (m1 := ⟨[.pl (.tup (ws.map D.int)), .pl (picD p), .pl (.lst LL), .un, .un, .un, .un, .un, .un], obs⟩) (if_f (m1 := ⟨[.pl (.tup (ws.map D.int)), .pl (picD p), .pl (.lst LL), .un, .un, .un, .un, .un, .un], obs⟩) ?_ rfl)
      (seq_nx (m1 := ⟨[.pl (.tup (ws.map D.int)), .pl (picD p), .pl (.lst LL), .pl (cf 1), .un, .un, .un, .un, .un], obs⟩) ?_ (seq_nx (for_of (ds := enumD 0 LL) (m1 := ⟨[.pl (.tup (ws.map D.int)), .pl (picD p), .pl (.lst LL), .pl (cf 1), .un, .un, .un, .un, .un], obs⟩) ?_ hlo) ?_)))
  · exact set_of (efn1_of rfl hla)
  · have hn : isD (.lst LL) .non = some (.bl false) := rfl
    simp [hn]
  · have c1 : cf 1 = .tup [.int 1, .int 1] := rfl
    have e0 : eTup (eCons (Co.ret (.int 1)) (eCons (Co.ret (.int 1)) (Co.ret []))) ⟨[.pl (.tup (ws.map D.int)), .pl (picD p), .pl (.lst LL), .un, .un, .un, .un, .un, .un], obs⟩ = .ok (cf 1) ⟨[.pl (.tup (ws.map D.int)), .pl (picD p), .pl (.lst LL), .un, .un, .un, .un, .un, .un], obs⟩ := by
      rw [c1]
      simp [two_le]
    exact set_of e0
  · simp [iEnu]
  · simp
theorem F_is_free_q {R C : Nat} {p : List (List Bool)} (h : Pic R C p) (hR : 1 ≤ R ∧ R ≤ 12) (hC : 1 ≤ C ∧ C ≤ 12) (G : Goes p R C) (obs : List (List D)) : F_is_free [picD p] obs = some (.bl true, obs) := by
  have hp := F_is_picture_q h hR hC obs
  have hla := F_layers_of_q h hR hC.2 G obs
  generalize (layersL p R (R + C) (List.range R) (List.range C)).map tupD = LL at hla
  refine runF_rt (d := .bl true) rfl (e := [.pl (picD p)]) ?_
  refine seq_nx (m1 := ⟨[.pl (picD p)], obs⟩) (if_f (m1 := ⟨[.pl (picD p)], obs⟩) ?_ rfl) (ret_of ?_)
  · simp [hp]
  · exact isn_of (efn1_of rfl hla)
end C
namespace C
open PySem PySem.Spec PyProof.Rows L2 PD

/-! ### calls, one at a time -/
theorem efn_of {F : Fd} {fs : Co (List D)} {m : M} {env : List PD.Slot} {obs : List (List D)} {ds : List D} {r : D} (h : fs m = .ok ds ⟨env, obs⟩) (hF : F ds obs = some (r, obs)) : eFn F fs m = .ok r ⟨env, obs⟩ := by
  rw [eFn_ap, bind_ap, h]
  simp [hF]
/-! ### long_share -/
theorem F_long_share_q {R C : Nat} {p : List (List Bool)} (h : Pic R C p) (hR : 1 ≤ R ∧ R ≤ 12) (hC : 1 ≤ C ∧ C ≤ 12) (G : Goes p R C) {w : Int} {ws : List Int} (hw : ∀ x ∈ ws, x = w) (h0 : 1 ≤ w ∧ w ≤ 1000) (hl : ws.length = R + C) (obs : List (List D)) :
    F_long_share [.int R, .int C, .tup (ws.map D.int), picD p] obs = some (cf (((pf (LY p R C) : Nat) : Rat) / ((fact (R + C) : Nat) : Rat)), obs) := by
  have hn := F_need_weights_q (r := R) (c := C) (ws := ws) (by omega) (by omega) (by omega) (fun x hx => by rw [hw x hx]; exact h0) obs
  have hp := F_need_picture_q h hR hC obs
  have hs := F_share_of_q h hR hC.2 G hw (by omega) (by omega) hl obs
  refine runF_rt rfl (e := [.pl (.int R), .pl (.int C), .pl (.tup (ws.map D.int)), .pl (picD p)]) ?_
  refine seq_nx (m1 := ⟨[.pl (.int R), .pl (.int C), .pl (.tup (ws.map D.int)), .pl (picD p)], obs⟩) (expr_of (efn_of ?_ hn)) (seq_nx (m1 := ⟨[.pl (.int R), .pl (.int C), .pl (.tup (ws.map D.int)), .pl (picD p)], obs⟩) (expr_of (efn_of ?_ hp)) (ret_of (efn_of ?_ hs)))
  · rfl
  · rfl
  · rfl
end C
namespace C
open PySem PySem.Spec PyProof.Rows L2 PD

/-! ### need_cell -/
theorem ix2_0 (a b : Int) : subD' (.tup [.int a, .int b]) (.int 0) = some (.int a) := rfl
theorem ix2_1 (a b : Int) : subD' (.tup [.int a, .int b]) (.int 1) = some (.int b) := rfl
theorem lenU_two (a b : Int) : lenU [.tup [.int a, .int b]] = some (.int 2) := rfl
theorem F_need_cell_q {r c i j : Int} (h1 : 0 ≤ i ∧ i < r) (h2 : 0 ≤ j ∧ j < c) (obs : List (List D)) : F_need_cell [.int r, .int c, .tup [.int i, .int j]] obs = some (.non, obs) := by
  have a1 : (0 ≤ i ∧ i ≤ r - 1) := by omega
  have a2 : (0 ≤ j ∧ j ≤ c - 1) := by omega
  refine runF_nx rfl (e := [.pl (.int r), .pl (.int c), .pl (.tup [.int i, .int j])]) ?_
  refine seq_nx (m1 := ⟨[.pl (.int r), .pl (.int c), .pl (.tup [.int i, .int j])], obs⟩) (if_f (m1 := ⟨[.pl (.int r), .pl (.int c), .pl (.tup [.int i, .int j])], obs⟩) ?_ rfl) (if_f (m1 := ⟨[.pl (.int r), .pl (.int c), .pl (.tup [.int i, .int j])], obs⟩) ?_ rfl)
  · simp [lenU_two]
  · simp [ix2_0, ix2_1, F_is_in_q, a1, a2]
end C
namespace C
open PySem PySem.Spec PyProof.Rows L2 PD

/-! ### cell_of, cell_share -/
theorem half {w : Int} (h0 : 0 < w) : ((w : Int) : Rat) / ((w + w : Int) : Rat) = 1 / 2 := by
  have h : (w : Rat) ≠ 0 := by
    intro e
    have e' : ((w : Int) : Rat) = ((0 : Int) : Rat) := e
    rw [Rat.intCast_inj] at e'
    omega
  rw [Rat.intCast_add]
  grind
theorem ix_even {w : Int} {ws : List Int} (hw : ∀ x ∈ ws, x = w) {i : Int} (h1 : 0 ≤ i) (h2 : i < ws.length) : subD' (.tup (ws.map D.int)) (.int i) = some (.int w) := by
  rw [ix_tup h1 h2]
  obtain ⟨n, rfl⟩ := Int.eq_ofNat_of_zero_le h1
  rw [Int.toNat_natCast, List.getElem?_eq_getElem (by omega)]
  have := hw _ (List.getElem_mem (l := ws) (n := n) (by omega))
  simp [this]
theorem F_cell_of_q {w r c i j : Int} {ws : List Int} (hw : ∀ x ∈ ws, x = w) (h0 : 1 ≤ w ∧ w ≤ 1000) (hl : (ws.length : Int) = r + c) (h1 : 0 ≤ i ∧ i < r) (h2 : 0 ≤ j ∧ j < c) (obs : List (List D)) :
    F_cell_of [.int r, .tup (ws.map D.int), .tup [.int i, .int j]] obs = some (cf (1 / 2), obs) := by
  have i1 := ix_even hw (i := i) (by omega) (by omega)
  have i2 := ix_even hw (i := r + j) (by omega) (by omega)
  have hlo := F_lowered_q (n := w) (m := w + w) (by omega) (Nat.lt_of_lt_of_le (by omega : (w + w).natAbs < 2 ^ 11) (Nat.pow_le_pow_right (by decide) (by decide))) obs
  rw [half (by omega)] at hlo
  generalize cf (1 / 2) = q at hlo ⊢
  refine runF_rt rfl (e := [.pl (.int r), .pl (.tup (ws.map D.int)), .pl (.tup [.int i, .int j]), .pl (.int w), .pl (.int w)]) ?_
  refine seq_nx (m1 := ⟨[.pl (.int r), .pl (.tup (ws.map D.int)), .pl (.tup [.int i, .int j]), .pl (.int w), .pl (.int w)], obs⟩) ?_ (ret_of (efn_of ?_ hlo))
  · simp [ix2_0, ix2_1, i1, i2]
  · simp
end C
namespace C
open PySem PySem.Spec PyProof.Rows L2 PD

theorem F_cell_share_q {w : Int} {R C i j : Nat} {ws : List Int} (hR : 1 ≤ R ∧ R ≤ 12) (hC : 1 ≤ C ∧ C ≤ 12) (hw : ∀ x ∈ ws, x = w) (h0 : 1 ≤ w ∧ w ≤ 1000) (hl : ws.length = R + C) (h1 : i < R) (h2 : j < C) (obs : List (List D)) :
    F_cell_share [.int R, .int C, .tup (ws.map D.int), .tup [.int i, .int j]] obs = some (cf (1 / 2), obs) := by
  have hn := F_need_weights_q (r := R) (c := C) (ws := ws) (by omega) (by omega) (by omega) (fun x hx => by rw [hw x hx]; exact h0) obs
  have hp := F_need_cell_q (r := R) (c := C) (i := i) (j := j) (by omega) (by omega) obs
  have hs := F_cell_of_q (r := R) (c := C) (i := i) (j := j) hw h0 (by omega) (by omega) (by omega) obs
  refine runF_rt rfl (e := [.pl (.int R), .pl (.int C), .pl (.tup (ws.map D.int)), .pl (.tup [.int i, .int j])]) ?_
  refine seq_nx (m1 := ⟨[.pl (.int R), .pl (.int C), .pl (.tup (ws.map D.int)), .pl (.tup [.int i, .int j])], obs⟩) (expr_of (efn_of ?_ hn)) (seq_nx (m1 := ⟨[.pl (.int R), .pl (.int C), .pl (.tup (ws.map D.int)), .pl (.tup [.int i, .int j])], obs⟩) (expr_of (efn_of ?_ hp)) (ret_of (efn_of ?_ hs)))
  · rfl
  · rfl
  · rfl
end C
namespace PD
open PySem PySem.Spec PyProof.Rows L2

/-! ### what is wanted of a run -/
def WQ {α : Type} (c : Co α) (m : M) (Q : α → M → Prop) : Prop := ∃ a m', c m = .ok a m' ∧ Q a m'
def FQ (F : Fd) (ds : List D) (obs : List (List D)) (Q : D → List (List D) → Prop) : Prop := ∃ r obs', F ds obs = some (r, obs') ∧ Q r obs'
def FlQ (g : Co Flow') (Q : Flow' → M → Prop) (fl : Flow') (m : M) : Prop := match fl with
  | .nx => WQ g m Q
  | fl => Q fl m
section
variable {α β : Type} {m m' : M}
theorem WQ.mono {c : Co α} {Q R : α → M → Prop} (h : WQ c m Q) (i : ∀ a m', Q a m' → R a m') : WQ c m R := let ⟨a, m', e, q⟩ := h; ⟨a, m', e, i a m' q⟩
theorem WQ.of {c : Co α} {Q : α → M → Prop} {a : α} (e : c m = .ok a m') (q : Q a m') : WQ c m Q := ⟨a, m', e, q⟩
theorem WQ.eq {c : Co α} {a : α} (h : WQ c m fun x m2 => x = a ∧ m2 = m') : c m = .ok a m' := by
  obtain ⟨x, m2, e, rfl, rfl⟩ := h
  exact e
@[simp ↓] theorem FlQ_nx (g : Co Flow') (Q : Flow' → M → Prop) : FlQ g Q .nx m = WQ g m Q := by unfold FlQ; exact Eq.refl _
@[simp ↓] theorem FlQ_rt (g : Co Flow') (Q : Flow' → M → Prop) (d : D) : FlQ g Q (.rt d) m = Q (.rt d) m := by unfold FlQ; exact Eq.refl _
@[simp ↓] theorem FlQ_rf (g : Co Flow') (Q : Flow' → M → Prop) (d : D) : FlQ g Q (.rf d) m = Q (.rf d) m := by unfold FlQ; exact Eq.refl _
@[simp ↓] theorem FlQ_bk (g : Co Flow') (Q : Flow' → M → Prop) : FlQ g Q .bk m = Q .bk m := by unfold FlQ; exact Eq.refl _
@[simp ↓] theorem FlQ_ct (g : Co Flow') (Q : Flow' → M → Prop) : FlQ g Q .ct m = Q .ct m := by unfold FlQ; exact Eq.refl _
theorem wq_ret (a : α) (Q : α → M → Prop) : WQ (Co.ret a) m Q ↔ Q a m := ⟨fun ⟨_, _, e, q⟩ => by cases e; exact q, fun q => ⟨a, m, by rfl, q⟩⟩
theorem wq_bind (c : Co α) (k : α → Co β) (Q : β → M → Prop) : WQ (Co.bind c k) m Q ↔ WQ c m fun a m' => WQ (k a) m' Q := by
  constructor
  · rintro ⟨b, m2, e, q⟩
    obtain ⟨a, m1, e1, e2⟩ := Co.bind_ok e
    exact ⟨a, m1, e1, b, m2, e2, q⟩
  · rintro ⟨a, m1, e1, b, m2, e2, q⟩
    refine ⟨b, m2, ?_, q⟩
    rw [bind_ap, e1]
    exact e2
theorem wq_lift (o : Option α) (Q : α → M → Prop) : WQ (Co.lift o) m Q ↔ ∃ a, o = some a ∧ Q a m := by
  constructor
  · rintro ⟨a, m1, e, q⟩
    obtain ⟨h, rfl⟩ := Co.lift_ok e
    exact ⟨a, h, q⟩
  · rintro ⟨a, h, q⟩
    subst h
    exact ⟨a, m, by rw [lift_some], q⟩
theorem wq_no (Q : α → M → Prop) : WQ (fun _ => Res.no) m Q ↔ False := ⟨fun ⟨_, _, e, _⟩ => (nomatch e), False.elim⟩
theorem wq_ok (a : α) (f : M → M) (Q : α → M → Prop) : WQ (fun m => Res.ok a (f m)) m Q ↔ Q a (f m) := ⟨fun ⟨_, _, e, q⟩ => by cases e; exact q, fun q => ⟨a, f m, rfl, q⟩⟩
theorem wq_vPl (i : Nat) (Q : D → M → Prop) : WQ (vPl i) m Q ↔ ∃ d, m.env[i]? = some (.pl d) ∧ Q d m := by
  constructor
  · rintro ⟨a, m1, e, q⟩
    unfold vPl at e
    split at e
    · rename_i d h
      cases e
      exact ⟨_, h, q⟩
    · cases e
  · rintro ⟨d, h, q⟩
    refine ⟨d, m, ?_, q⟩
    unfold vPl
    rw [h]
theorem wq_vAny (i : Nat) (Q : Opd → M → Prop) : WQ (vAny i) m Q ↔ (∃ d, m.env[i]? = some (.ow d) ∧ Q (.slot i) m) ∨ ∃ d, m.env[i]? = some (.pl d) ∧ Q (.val d) m := by
  constructor
  · rintro ⟨a, m1, e, q⟩
    unfold vAny at e
    split at e
    · rename_i d h
      cases e
      exact .inl ⟨_, h, q⟩
    · rename_i d h
      cases e
      exact .inr ⟨_, h, q⟩
    · cases e
  · rintro (⟨d, h, q⟩ | ⟨d, h, q⟩)
    · refine ⟨_, m, ?_, q⟩
      unfold vAny
      rw [h]
    · refine ⟨_, m, ?_, q⟩
      unfold vAny
      rw [h]
theorem wq_vB (f : Co D) (Q : Opd → M → Prop) : WQ (vB f) m Q ↔ WQ f m fun d m' => Q (.val d) m' := by
  unfold vB
  rw [wq_bind]
  exact ⟨fun h => h.mono fun _ _ q => (wq_ret _ _).mp q, fun h => h.mono fun _ _ q => (wq_ret _ _).mpr q⟩
theorem wq_opd2 (g : D → D → Option D) (o1 o2 : Opd) (Q : D → M → Prop) : WQ (Opd2 g o1 o2) m Q ↔ ∃ d1, o1.get m = some d1 ∧ ∃ d2, o2.get m = some d2 ∧ ∃ d, g d1 d2 = some d ∧ Q d m := by
  constructor
  · rintro ⟨a, m1, e, q⟩
    rw [Opd2_ap] at e
    cases h1 : o1.get m with
    | none => rw [h1] at e; cases e
    | some d1 =>
      cases h2 : o2.get m with
      | none => rw [h1, h2] at e; cases e
      | some d2 =>
        cases h3 : g d1 d2 with
        | none => rw [h1, h2] at e; simp only [h3] at e; cases e
        | some d => rw [h1, h2] at e; simp only [h3] at e; cases e; exact ⟨d1, rfl, d2, rfl, _, h3, q⟩
  · rintro ⟨d1, h1, d2, h2, d, h3, q⟩
    refine ⟨d, m, ?_, q⟩
    rw [Opd2_ap, h1, h2]
    simp only [h3]
theorem wq_opd1 (g : D → Option D) (o1 : Opd) (Q : D → M → Prop) : WQ (Opd1 g o1) m Q ↔ ∃ d1, o1.get m = some d1 ∧ ∃ d, g d1 = some d ∧ Q d m := by
  constructor
  · rintro ⟨a, m1, e, q⟩
    rw [Opd1_ap] at e
    cases h1 : o1.get m with
    | none => rw [h1] at e; cases e
    | some d1 =>
      cases h3 : g d1 with
      | none => rw [h1] at e; simp only [h3] at e; cases e
      | some d => rw [h1] at e; simp only [h3] at e; cases e; exact ⟨d1, rfl, _, h3, q⟩
  · rintro ⟨d1, h1, d, h3, q⟩
    refine ⟨d, m, ?_, q⟩
    rw [Opd1_ap, h1]
    simp only [h3]
theorem wq_eOp (g : D → D → Option D) (a b : Co Opd) (Q : D → M → Prop) : WQ (eOp g a b) m Q ↔ WQ a m fun o1 m1 => WQ b m1 fun o2 m2 => ∃ d1, o1.get m2 = some d1 ∧ ∃ d2, o2.get m2 = some d2 ∧ ∃ d, g d1 d2 = some d ∧ Q d m2 := by
  unfold eOp
  simp only [wq_bind, wq_opd2]
theorem wq_eOp1 (g : D → Option D) (a : Co Opd) (Q : D → M → Prop) : WQ (eOp1 g a) m Q ↔ WQ a m fun o1 m1 => ∃ d1, o1.get m1 = some d1 ∧ ∃ d, g d1 = some d ∧ Q d m1 := by
  unfold eOp1
  simp only [wq_bind, wq_opd1]
theorem wq_un1 (g : D → Option D) (f : Co D) (Q : D → M → Prop) : WQ (un1 g f) m Q ↔ WQ f m fun d m1 => ∃ r, g d = some r ∧ Q r m1 := by
  unfold un1
  rw [wq_bind]
  refine ⟨fun h => h.mono fun d m1 q => ?_, fun h => h.mono fun d m1 q => ?_⟩
  · obtain ⟨a, m2, e, q⟩ := q
    cases h3 : g d with
    | none => simp only [h3] at e; cases e
    | some r => simp only [h3] at e; cases e; exact ⟨_, rfl, q⟩
  · obtain ⟨r, h, q⟩ := q
    exact ⟨r, m1, by simp only [h], q⟩
theorem wq_toB (d : D) (Q : Bool → M → Prop) : WQ (toB d) m Q ↔ ∃ b, d = .bl b ∧ Q b m := by
  constructor
  · rintro ⟨a, m1, e, q⟩
    unfold toB at e
    split at e
    · cases e; exact ⟨_, rfl, q⟩
    · cases e
  · rintro ⟨b, rfl, q⟩
    exact ⟨b, m, by rw [toB_bl], q⟩
theorem wq_tB (f : Co D) (Q : Bool → M → Prop) : WQ (tB' f) m Q ↔ WQ f m fun d m' => ∃ b, d = .bl b ∧ Q b m' := by
  unfold tB'
  simp only [wq_bind, wq_toB]
theorem wq_ite (p : Prop) [Decidable p] (f g : Co α) (Q : α → M → Prop) : WQ (if p then f else g) m Q ↔ if p then WQ f m Q else WQ g m Q := by
  by_cases h : p
  · rw [if_pos h, if_pos h]
  · rw [if_neg h, if_neg h]
theorem wq_tAnd (t u : Co Bool) (Q : Bool → M → Prop) : WQ (tAnd' t u) m Q ↔ WQ t m fun c m' => if c = true then WQ u m' Q else Q false m' := by
  unfold tAnd'
  simp only [wq_bind, wq_ite, wq_ret]
theorem wq_tOr (t u : Co Bool) (Q : Bool → M → Prop) : WQ (tOr' t u) m Q ↔ WQ t m fun c m' => if c = true then Q true m' else WQ u m' Q := by
  unfold tOr'
  simp only [wq_bind, wq_ite, wq_ret]
theorem wq_tNot (t : Co Bool) (Q : Bool → M → Prop) : WQ (tNot' t) m Q ↔ WQ t m fun c m' => Q (!c) m' := by
  unfold tNot'
  simp only [wq_bind, wq_ite, wq_ret]
theorem wq_eNot (f : Co D) (Q : D → M → Prop) : WQ (eNot f) m Q ↔ WQ f m fun d m' => ∃ b, d = .bl b ∧ Q (.bl !b) m' := by
  unfold eNot
  simp only [wq_bind, wq_tB, wq_ret]
theorem wq_eAnd (f g : Co D) (Q : D → M → Prop) : WQ (eAnd f g) m Q ↔ WQ f m fun d m' => ∃ b, d = .bl b ∧ if b = true then WQ g m' Q else Q (.bl false) m' := by
  unfold eAnd
  simp only [wq_bind, wq_tB, wq_ret, wq_ite]
theorem wq_eOr (f g : Co D) (Q : D → M → Prop) : WQ (eOr f g) m Q ↔ WQ f m fun d m' => ∃ b, d = .bl b ∧ if b = true then Q (.bl true) m' else WQ g m' Q := by
  unfold eOr
  simp only [wq_bind, wq_tB, wq_ret, wq_ite]
theorem wq_eIf (t : Co Bool) (f g : Co D) (Q : D → M → Prop) : WQ (eIf t f g) m Q ↔ WQ t m fun c m' => if c = true then WQ f m' Q else WQ g m' Q := by
  unfold eIf
  simp only [wq_bind, wq_ite]
theorem wq_eChain (p q : D → D → Option D) (a b c : Co Opd) (Q : D → M → Prop) : WQ (eChain p q a b c) m Q ↔ WQ a m fun o1 m1 => WQ b m1 fun o2 m2 => ∃ d1, o1.get m2 = some d1 ∧ ∃ d2, o2.get m2 = some d2 ∧ ∃ d, p d1 d2 = some d ∧ ∃ k, d = .bl k ∧
    if k = true then WQ c m2 fun o3 m3 => ∃ d2, o2.get m3 = some d2 ∧ ∃ d3, o3.get m3 = some d3 ∧ ∃ d, q d2 d3 = some d ∧ Q d m3 else Q (.bl false) m2 := by
  unfold eChain
  simp only [wq_bind, wq_tB, wq_opd2, wq_ite, wq_ret]
theorem wq_eCons (f : Co D) (fs : Co (List D)) (Q : List D → M → Prop) : WQ (eCons f fs) m Q ↔ WQ f m fun d m1 => WQ fs m1 fun ds m2 => Q (d :: ds) m2 := by
  unfold eCons
  simp only [wq_bind, wq_ret]
theorem wq_bCons (f : Co Opd) (fs : Co (List Opd)) (Q : List Opd → M → Prop) : WQ (bCons f fs) m Q ↔ WQ f m fun d m1 => WQ fs m1 fun ds m2 => Q (d :: ds) m2 := by
  unfold bCons
  simp only [wq_bind, wq_ret]
theorem wq_eCall (g : List D → Option D) (gs : Co (List Opd)) (Q : D → M → Prop) : WQ (eCall g gs) m Q ↔ WQ gs m fun os m' => ∃ ds, Opd.getAll m' os = some ds ∧ ∃ d, g ds = some d ∧ Q d m' := by
  unfold eCall
  rw [wq_bind]
  refine ⟨fun h => h.mono fun os m1 q => ?_, fun h => h.mono fun os m1 q => ?_⟩
  · obtain ⟨a, m2, e, q⟩ := q
    cases h1 : Opd.getAll m1 os with
    | none => simp only [h1] at e; cases e
    | some ds =>
      cases h2 : g ds with
      | none => simp only [h1, h2] at e; cases e
      | some d => simp only [h1, h2] at e; cases e; exact ⟨_, rfl, _, h2, q⟩
  · obtain ⟨ds, h1, d, h2, q⟩ := q
    exact ⟨d, m1, by simp only [h1, h2], q⟩
theorem wq_eFn (F : Fd) (fs : Co (List D)) (Q : D → M → Prop) : WQ (eFn F fs) m Q ↔ WQ fs m fun ds m' => FQ F ds m'.obs fun r obs' => Q r ⟨m'.env, obs'⟩ := by
  unfold eFn
  rw [wq_bind]
  refine ⟨fun h => h.mono fun os m1 q => ?_, fun h => h.mono fun os m1 q => ?_⟩
  · obtain ⟨a, m2, e, q⟩ := q
    cases h1 : F os m1.obs with
    | none => simp only [h1] at e; cases e
    | some ro =>
      obtain ⟨r, o⟩ := ro
      simp only [h1] at e
      cases e
      exact ⟨_, _, h1, q⟩
  · obtain ⟨r, o, h1, q⟩ := q
    exact ⟨r, ⟨m1.env, o⟩, by simp only [h1], q⟩
theorem FQ_of {F : Fd} {ds : List D} {obs obs' : List (List D)} {r : D} (h : F ds obs = some (r, obs')) (Q : D → List (List D) → Prop) : FQ F ds obs Q ↔ Q r obs' :=
  ⟨fun ⟨_, _, e, q⟩ => by rw [h] at e; cases e; exact q, fun q => ⟨r, obs', h, q⟩⟩
theorem wq_eTup (fs : Co (List D)) (Q : D → M → Prop) : WQ (eTup fs) m Q ↔ WQ fs m fun ds m' => ds.length ≤ sizeLine ∧ Q (.tup ds) m' := by
  unfold eTup
  rw [wq_bind]
  refine ⟨fun h => h.mono fun ds m1 q => ?_, fun h => h.mono fun ds m1 q => ?_⟩
  · obtain ⟨a, m2, e, q⟩ := q
    try dsimp only at e
    split at e
    · cases e; exact ⟨by assumption, q⟩
    · cases e
  · exact ⟨_, m1, by simp only [q.1, if_true], q.2⟩
theorem wq_eLst (fs : Co (List D)) (Q : D → M → Prop) : WQ (eLst fs) m Q ↔ WQ fs m fun ds m' => ds.length ≤ sizeLine ∧ Q (.lst ds) m' := by
  unfold eLst
  rw [wq_bind]
  refine ⟨fun h => h.mono fun ds m1 q => ?_, fun h => h.mono fun ds m1 q => ?_⟩
  · obtain ⟨a, m2, e, q⟩ := q
    try dsimp only at e
    split at e
    · cases e; exact ⟨by assumption, q⟩
    · cases e
  · exact ⟨_, m1, by simp only [q.1, if_true], q.2⟩
theorem wq_sSeq (f g : Co Flow') (Q : Flow' → M → Prop) : WQ (sSeq f g) m Q ↔ WQ f m fun fl m' => FlQ g Q fl m' := by
  unfold sSeq
  rw [wq_bind]
  refine ⟨fun h => h.mono fun fl m1 q => ?_, fun h => h.mono fun fl m1 q => ?_⟩
  · cases fl <;> simp only [FlQ_nx, FlQ_rt, FlQ_rf, FlQ_bk, FlQ_ct] <;> first | exact q | exact (wq_ret _ _).mp q
  · cases fl <;> simp only [FlQ_nx, FlQ_rt, FlQ_rf, FlQ_bk, FlQ_ct] at q <;> first | exact q | exact (wq_ret _ _).mpr q
theorem wq_sNext (Q : Flow' → M → Prop) : WQ sNext m Q ↔ Q .nx m := wq_ret _ _
theorem wq_sNo (Q : Flow' → M → Prop) : WQ sNo m Q ↔ False := wq_no _
theorem wq_sIf (t : Co Bool) (f g : Co Flow') (Q : Flow' → M → Prop) : WQ (sIf t f g) m Q ↔ WQ t m fun c m' => if c = true then WQ f m' Q else WQ g m' Q := by
  unfold sIf
  simp only [wq_bind, wq_ite]
theorem wq_sRet (f : Co D) (Q : Flow' → M → Prop) : WQ (sRet f) m Q ↔ WQ f m fun d m' => Q (.rt d) m' := by
  unfold sRet
  simp only [wq_bind, wq_ret]
theorem wq_sExpr (f : Co D) (Q : Flow' → M → Prop) : WQ (sExpr f) m Q ↔ WQ f m fun d m' => Q .nx m' := by
  unfold sExpr
  simp only [wq_bind, wq_ret]
theorem wq_sSet (i : Nat) (f : Co D) (Q : Flow' → M → Prop) : WQ (sSet i f) m Q ↔ WQ f m fun d m' => Q .nx ⟨m'.env.set i (.pl d), m'.obs⟩ := by
  unfold sSet
  rw [wq_bind]
  refine ⟨fun h => h.mono fun ds m1 q => ?_, fun h => h.mono fun ds m1 q => ?_⟩
  · obtain ⟨a, m2, e, q⟩ := q
    cases e; exact q
  · exact ⟨_, _, rfl, q⟩
theorem wq_sSetF (i : Nat) (f : Co D) (Q : Flow' → M → Prop) : WQ (sSetF i f) m Q ↔ WQ f m fun d m' => i < m'.env.length ∧ Q .nx ⟨m'.env.set i (.ow d), m'.obs⟩ := by
  unfold sSetF
  rw [wq_bind]
  refine ⟨fun h => h.mono fun ds m1 q => ?_, fun h => h.mono fun ds m1 q => ?_⟩
  · obtain ⟨a, m2, e, q⟩ := q
    try dsimp only at e
    split at e
    · cases e; exact ⟨by assumption, q⟩
    · cases e
  · exact ⟨_, _, by simp only [q.1, if_true], q.2⟩
def frzM (i : Nat) (m : M) : M := match m.env[i]? with
  | some (.ow d) => ⟨m.env.set i (.pl d), m.obs⟩
  | _ => m
@[simp] theorem frzM_ap (i : Nat) (e : List Slot) (o : List (List D)) : frzM i ⟨e, o⟩ = match e[i]? with
  | some (.ow d) => ⟨e.set i (.pl d), o⟩
  | _ => ⟨e, o⟩ := by unfold frzM; exact Eq.refl _
theorem wq_sFrz (i : Nat) (g : Co Flow') (Q : Flow' → M → Prop) : WQ (sFrz i g) m Q ↔ WQ g (frzM i m) Q := by
  have : sFrz i g m = g (frzM i m) := by
    unfold sFrz frzM
    cases h : m.env[i]? with
    | none => rfl
    | some s => cases s <;> rfl
  unfold WQ
  rw [this]
theorem wq_xNil (Q : List (Bool × D) → M → Prop) : WQ xNil m Q ↔ Q [] m := wq_ret _ _
theorem wq_xPl (f : Co D) (fs : Co (List (Bool × D))) (Q : List (Bool × D) → M → Prop) : WQ (xPl f fs) m Q ↔ WQ f m fun d m1 => WQ fs m1 fun ls m2 => Q ((false, d) :: ls) m2 := by
  unfold xPl
  simp only [wq_bind, wq_ret]
theorem wq_xFr (f : Co D) (fs : Co (List (Bool × D))) (Q : List (Bool × D) → M → Prop) : WQ (xFr f fs) m Q ↔ WQ f m fun d m1 => WQ fs m1 fun ls m2 => Q ((true, d) :: ls) m2 := by
  unfold xFr
  simp only [wq_bind, wq_ret]
theorem wq_sAsg (is : List Nat) (f : Co (List (Bool × D))) (Q : Flow' → M → Prop) : WQ (sAsg is f) m Q ↔ WQ f m fun ls m' => ∃ env, setEnv m'.env is ls = some env ∧ Q .nx ⟨env, m'.obs⟩ := by
  unfold sAsg
  rw [wq_bind]
  refine ⟨fun h => h.mono fun ds m1 q => ?_, fun h => h.mono fun ds m1 q => ?_⟩
  · obtain ⟨a, m2, e, q⟩ := q
    cases h1 : setEnv m1.env is ds with
    | none => simp only [h1] at e; cases e
    | some env => simp only [h1] at e; cases e; exact ⟨_, rfl, q⟩
  · obtain ⟨env, h1, q⟩ := q
    exact ⟨_, _, by simp only [h1], q⟩
@[simp] theorem sEnv_nil (e : List Slot) : setEnv e [] [] = some e := by unfold setEnv; exact Eq.refl _
@[simp] theorem sEnv_pl (e : List Slot) (i : Nat) (is : List Nat) (d : D) (ls : List (Bool × D)) : setEnv e (i :: is) ((false, d) :: ls) = if i < e.length then setEnv (e.set i (.pl d)) is ls else none := by
  conv => lhs; unfold setEnv
  simp only [Bool.false_eq_true, if_false]
@[simp] theorem sEnv_ow (e : List Slot) (i : Nat) (is : List Nat) (d : D) (ls : List (Bool × D)) : setEnv e (i :: is) ((true, d) :: ls) = if i < e.length then setEnv (e.set i (.ow d)) is ls else none := by
  conv => lhs; unfold setEnv
  simp only [if_true]
@[simp] theorem sTg_name (is : List Nat) (d : D) (e : List Slot) : setTg false is d e = setEnv e is [(false, d)] := by unfold setTg; exact Eq.refl _
@[simp] theorem sTg_tup (is : List Nat) (ds : List D) (e : List Slot) : setTg true is (.tup ds) e = setEnv e is (ds.map fun d => (false, d)) := by unfold setTg; exact Eq.refl _
theorem wq_sFor (fi : Co (List D)) (t : Bool) (is : List Nat) (b : Co Flow') (Q : Flow' → M → Prop) : WQ (sFor fi t is b) m Q ↔ WQ fi m fun ds m' => WQ (forL t is b ds) m' Q := by
  unfold sFor
  rw [wq_bind]
theorem wq_iVal (f : Co D) (Q : List D → M → Prop) : WQ (iVal f) m Q ↔ WQ f m fun d m' => ∃ ds, itD d = some ds ∧ Q ds m' := by
  unfold iVal
  simp only [wq_bind, wq_lift]
theorem wq_iZip (f : Co (List D)) (Q : List D → M → Prop) : WQ (iZip f) m Q ↔ WQ f m fun d m' => ∃ ds, zipD d = some ds ∧ Q ds m' := by
  unfold iZip
  simp only [wq_bind, wq_lift]
theorem wq_iEnu (f : Co (List D)) (Q : List D → M → Prop) : WQ (iEnu f) m Q ↔ WQ f m fun d m' => ∃ as, d = [.lst as] ∧ Q (enumD 0 as) m' := by
  unfold iEnu
  simp only [wq_bind, wq_lift]
  refine ⟨fun h => h.mono fun ds m1 q => ?_, fun h => h.mono fun ds m1 q => ?_⟩
  · obtain ⟨a, e, q⟩ := q
    split at e
    · cases e; exact ⟨_, rfl, q⟩
    · cases e
  · obtain ⟨as, rfl, q⟩ := q
    exact ⟨_, rfl, q⟩
theorem wq_iRg1 (f : Co (List D)) (Q : List D → M → Prop) : WQ (iRg1' f) m Q ↔ WQ f m fun d m' => ∃ ds, rg1 d = some ds ∧ Q ds m' := by
  unfold iRg1'
  simp only [wq_bind, wq_lift]
theorem wq_iRg2 (f : Co (List D)) (Q : List D → M → Prop) : WQ (iRg2' f) m Q ↔ WQ f m fun d m' => ∃ ds, rg2 d = some ds ∧ Q ds m' := by
  unfold iRg2'
  simp only [wq_bind, wq_lift]
theorem wq_eSl (g : Co Opd) (lo hi : Co (Option Int)) (Q : D → M → Prop) : WQ (eSl g lo hi) m Q ↔ WQ g m fun o m1 => WQ lo m1 fun l m2 => WQ hi m2 fun h m3 => ∃ d1, o.get m3 = some d1 ∧ ∃ d, slD d1 l h = some d ∧ Q d m3 := by
  unfold eSl
  simp only [wq_bind, wq_opd1]
theorem wq_ePart (f : Co D) (Q : Option Int → M → Prop) : WQ (ePart f) m Q ↔ WQ f m fun d m' => ∃ i, d = .int i ∧ Q (some i) m' := by
  unfold ePart
  rw [wq_bind]
  refine ⟨fun h => h.mono fun ds m1 q => ?_, fun h => h.mono fun ds m1 q => ?_⟩
  · obtain ⟨a, m2, e, q⟩ := q
    try dsimp only at e
    split at e
    · cases e; exact ⟨_, rfl, q⟩
    · cases e
  · obtain ⟨i, rfl, q⟩ := q
    exact ⟨_, _, rfl, q⟩
theorem wq_asL (f : Co D) (Q : D → M → Prop) : WQ (asL f) m Q ↔ WQ f m fun d m' => ∃ ds, d = .lst ds ∧ Q (.lst ds) m' := by
  unfold asL
  rw [wq_bind]
  refine ⟨fun h => h.mono fun ds m1 q => ?_, fun h => h.mono fun ds m1 q => ?_⟩
  · obtain ⟨a, m2, e, q⟩ := q
    try dsimp only at e
    split at e
    · cases e; exact ⟨_, rfl, q⟩
    · cases e
  · obtain ⟨ds, rfl, q⟩ := q
    exact ⟨_, _, rfl, q⟩
theorem wq_toI (f : Co D) (Q : Int → M → Prop) : WQ (toI f) m Q ↔ WQ f m fun d m' => ∃ i, d = .int i ∧ Q i m' := by
  unfold toI
  rw [wq_bind]
  refine ⟨fun h => h.mono fun ds m1 q => ?_, fun h => h.mono fun ds m1 q => ?_⟩
  · obtain ⟨a, m2, e, q⟩ := q
    try dsimp only at e
    split at e
    · cases e; exact ⟨_, rfl, q⟩
    · cases e
  · obtain ⟨i, rfl, q⟩ := q
    exact ⟨_, _, rfl, q⟩
theorem wq_rR1 (f : Co D) (Q : Int × Int → M → Prop) : WQ (rR1 f) m Q ↔ WQ f m fun d m' => ∃ i, d = .int i ∧ Q (0, i) m' := by
  unfold rR1
  simp only [wq_bind, wq_toI, wq_ret]
theorem wq_rR2 (f g : Co D) (Q : Int × Int → M → Prop) : WQ (rR2 f g) m Q ↔ WQ f m fun d m1 => ∃ i, d = .int i ∧ WQ g m1 fun d m' => ∃ j, d = .int j ∧ Q (i, j) m' := by
  unfold rR2
  simp only [wq_bind, wq_toI, wq_ret]
theorem wq_eLRg (r : Co (Int × Int)) (Q : D → M → Prop) : WQ (eLRg r) m Q ↔ WQ r m fun ij m' => RgOk ij.1 ij.2 ∧ Q (.lst (rgD ij.1 ij.2)) m' := by
  unfold eLRg
  rw [wq_bind]
  refine ⟨fun h => h.mono fun ds m1 q => ?_, fun h => h.mono fun ds m1 q => ?_⟩
  · obtain ⟨a, m2, e, q⟩ := q
    try dsimp only at e
    split at e
    · cases e; exact ⟨by assumption, q⟩
    · cases e
  · exact ⟨_, _, by simp only [q.1, if_true], q.2⟩
theorem wq_eTRg (r : Co (Int × Int)) (Q : D → M → Prop) : WQ (eTRg r) m Q ↔ WQ r m fun ij m' => RgOk ij.1 ij.2 ∧ Q (.tup (rgD ij.1 ij.2)) m' := by
  unfold eTRg
  rw [wq_bind]
  refine ⟨fun h => h.mono fun ds m1 q => ?_, fun h => h.mono fun ds m1 q => ?_⟩
  · obtain ⟨a, m2, e, q⟩ := q
    try dsimp only at e
    split at e
    · cases e; exact ⟨by assumption, q⟩
    · cases e
  · exact ⟨_, _, by simp only [q.1, if_true], q.2⟩
theorem wq_sMove (i j : Nat) (Q : Flow' → M → Prop) : WQ (sMove i j) m Q ↔ ∃ d, m.env[j]? = some (.ow d) ∧ (i < m.env.length ∧ i ≠ j) ∧ Q .nx ⟨(m.env.set j .un).set i (.ow d), m.obs⟩ := by
  constructor
  · rintro ⟨a, m1, e, q⟩
    unfold sMove at e
    split at e
    · rename_i d h
      split at e
      · cases e; exact ⟨_, h, by assumption, q⟩
      · cases e
    · cases e
  · rintro ⟨d, h, h2, q⟩
    refine ⟨_, _, ?_, q⟩
    unfold sMove
    rw [h]
    simp only [h2, if_true, and_self, ne_eq, not_false_eq_true]
theorem wq_sRetOw (i : Nat) (Q : Flow' → M → Prop) : WQ (sRetOw i) m Q ↔ ∃ d, m.env[i]? = some (.ow d) ∧ Q (.rf d) ⟨m.env.set i .un, m.obs⟩ := by
  constructor
  · rintro ⟨a, m1, e, q⟩
    unfold sRetOw at e
    split at e
    · rename_i d h
      cases e; exact ⟨_, h, q⟩
    · cases e
  · rintro ⟨d, h, q⟩
    refine ⟨_, _, ?_, q⟩
    unfold sRetOw
    rw [h]
theorem wq_isLst (g : Co Opd) (Q : Opd → M → Prop) : WQ (isLst g) m Q ↔ WQ g m fun o m' => ∃ ds, o.get m' = some (.lst ds) ∧ Q o m' := by
  unfold isLst
  rw [wq_bind]
  refine ⟨fun h => h.mono fun ds m1 q => ?_, fun h => h.mono fun ds m1 q => ?_⟩
  · obtain ⟨a, m2, e, q⟩ := q
    try dsimp only at e
    split at e
    · rename_i h; cases e; exact ⟨_, h, q⟩
    · cases e
  · obtain ⟨ds, h, q⟩ := q
    exact ⟨_, _, by simp only [h], q⟩
theorem wq_updO_slot (i : Nat) (h : List D → Option (List D)) (Q : Unit → M → Prop) : WQ (updO (.slot i) h) m Q ↔ ∃ ds, m.env[i]? = some (.ow (.lst ds)) ∧ ∃ ds', h ds = some ds' ∧ Q () ⟨m.env.set i (.ow (.lst ds')), m.obs⟩ := by
  constructor
  · rintro ⟨a, m1, e, q⟩
    unfold updO at e
    simp only at e
    split at e
    · rename_i ds h1
      split at e
      · rename_i ds' h2
        cases e; exact ⟨_, h1, _, h2, q⟩
      · cases e
    · cases e
  · rintro ⟨ds, h1, ds', h2, q⟩
    refine ⟨_, _, ?_, q⟩
    unfold updO
    simp only [h1, h2]
theorem wq_eAppend (g : Co Opd) (f : Co D) (Q : D → M → Prop) : WQ (eAppend g f) m Q ↔ WQ g m fun o m1 => ∃ ds, o.get m1 = some (.lst ds) ∧ WQ f m1 fun d m2 => WQ (updO o fun ds => if ds.length < sizeLine then some (ds ++ [d]) else none) m2 fun _ m3 => Q .non m3 := by
  unfold eAppend
  simp only [wq_bind, wq_isLst, wq_ret]
end
end PD
namespace PD
open PySem PySem.Spec PyProof.Rows L2

/-! ### loops -/
theorem wq_forL_nil {t : Bool} {is : List Nat} {b : Co Flow'} {m : M} {Q : Flow' → M → Prop} (q : Q .nx m) : WQ (forL t is b []) m Q := ⟨.nx, m, by rfl, q⟩
/-- what stands behind one turn -/
def TurnQ (Q : Flow' → M → Prop) (J : M → Prop) (fl : Flow') (m : M) : Prop := match fl with
  | .nx => J m
  | .ct => J m
  | .bk => Q .nx m
  | fl => Q fl m
@[simp ↓] theorem TurnQ_nx (Q : Flow' → M → Prop) (J : M → Prop) (m : M) : TurnQ Q J .nx m = J m := by unfold TurnQ; exact Eq.refl _
@[simp ↓] theorem TurnQ_ct (Q : Flow' → M → Prop) (J : M → Prop) (m : M) : TurnQ Q J .ct m = J m := by unfold TurnQ; exact Eq.refl _
@[simp ↓] theorem TurnQ_bk (Q : Flow' → M → Prop) (J : M → Prop) (m : M) : TurnQ Q J .bk m = Q .nx m := by unfold TurnQ; exact Eq.refl _
@[simp ↓] theorem TurnQ_rt (Q : Flow' → M → Prop) (J : M → Prop) (d : D) (m : M) : TurnQ Q J (.rt d) m = Q (.rt d) m := by unfold TurnQ; exact Eq.refl _
@[simp ↓] theorem TurnQ_rf (Q : Flow' → M → Prop) (J : M → Prop) (d : D) (m : M) : TurnQ Q J (.rf d) m = Q (.rf d) m := by unfold TurnQ; exact Eq.refl _
theorem wq_forL_cons {t : Bool} {is : List Nat} {b : Co Flow'} {d : D} {ds : List D} {m : M} {Q : Flow' → M → Prop} {env : List Slot} (h : setTg t is d m.env = some env) (q : WQ b ⟨env, m.obs⟩ (TurnQ Q fun m' => WQ (forL t is b ds) m' Q)) : WQ (forL t is b (d :: ds)) m Q := by
  obtain ⟨fl, m1, e, q⟩ := q
  cases fl <;> simp only [TurnQ_nx, TurnQ_ct, TurnQ_bk, TurnQ_rt, TurnQ_rf] at q
  · obtain ⟨fl, m2, e2, q⟩ := q
    exact ⟨fl, m2, by rw [forL_cons, h]; simp only [e]; exact e2, q⟩
  · exact ⟨_, m1, by rw [forL_cons, h]; simp only [e], q⟩
  · exact ⟨_, m1, by rw [forL_cons, h]; simp only [e], q⟩
  · exact ⟨_, m1, by rw [forL_cons, h]; simp only [e], q⟩
  · obtain ⟨fl, m2, e2, q⟩ := q
    exact ⟨fl, m2, by rw [forL_cons, h]; simp only [e]; exact e2, q⟩
/-- a loop by what holds behind its first turns -/
theorem wq_for {β : Type} {t : Bool} {is : List Nat} {b : Co Flow'} {Q : Flow' → M → Prop} (enc : β → D) (xs : List β) (I : List β → M → Prop) {m : M} (h0 : I [] m)
    (hs : ∀ (done : List β) (x : β) (rest : List β) (m : M), xs = done ++ x :: rest → I done m → ∃ env, setTg t is (enc x) m.env = some env ∧ WQ b ⟨env, m.obs⟩ (TurnQ Q (I (done ++ [x]))))
    (hq : ∀ m, I xs m → Q .nx m) : WQ (forL t is b (xs.map enc)) m Q := by
  have key : ∀ (rest done : List β) (m : M), xs = done ++ rest → I done m → WQ (forL t is b (rest.map enc)) m Q := by
    intro rest
    induction rest with
    | nil =>
      intro done m e i
      rw [List.append_nil] at e
      subst e
      exact wq_forL_nil (hq m i)
    | cons x rest ih =>
      intro done m e i
      obtain ⟨env, h1, h2⟩ := hs done x rest m e i
      rw [List.map_cons]
      refine wq_forL_cons h1 (h2.mono fun fl m' q => ?_)
      cases fl <;> simp only [TurnQ_nx, TurnQ_ct, TurnQ_bk, TurnQ_rt, TurnQ_rf] at q ⊢
      · exact ih (done ++ [x]) m' (by rw [e, List.append_assoc]; rfl) q
      · exact q
      · exact q
      · exact q
      · exact ih (done ++ [x]) m' (by rw [e, List.append_assoc]; rfl) q
  exact key xs [] m rfl h0
/-- a loop over numbers from a first one on -/
theorem wq_rg {t : Bool} {is : List Nat} {b : Co Flow'} {Q : Flow' → M → Prop} (lo : Int) (n : Nat) (I : Nat → M → Prop) {m : M} (h0 : I 0 m)
    (hs : ∀ (k : Nat) (m : M), k < n → I k m → ∃ env, setTg t is (.int (lo + k)) m.env = some env ∧ WQ b ⟨env, m.obs⟩ (TurnQ Q (I (k + 1))))
    (hq : ∀ m, I n m → Q .nx m) : WQ (forL t is b (rgD lo (lo + n))) m Q := by
  have e : rgD lo (lo + n) = (List.range n).map fun (i : Nat) => D.int (lo + i) := by
    unfold rgD
    congr 2
    omega
  rw [e]
  refine wq_for (fun (i : Nat) => D.int (lo + i)) (List.range n) (fun done m => I done.length m) h0 (fun done x rest m e i => ?_) (fun m i => hq m (by rw [List.length_range] at i; exact i))
  have hl : done.length < n := by
    have := congrArg List.length e
    rw [List.length_range, List.length_append, List.length_cons] at this
    omega
  have hx : x = done.length := by
    have h1 : (List.range n)[done.length]? = some x := by rw [e]; simp
    rw [List.getElem?_range hl] at h1
    cases h1; rfl
  subst hx
  rw [List.length_append, List.length_singleton]
  exact hs done.length m hl i
/-- while, by a number that falls -/
theorem wq_while {c : Co Bool} {b : Co Flow'} {Q : Flow' → M → Prop} (I : Nat → M → Prop) {n : Nat} {m : M} (h0 : I n m)
    (hs : ∀ n m, I n m → WQ c m fun k m' => if k = true then WQ b m' (TurnQ Q fun m2 => ∃ n', n' < n ∧ I n' m2) else Q .nx m') : WQ (sWhile c b) m Q := by
  have key : ∀ (N n : Nat) (m : M), n ≤ N → I n m → ∃ k, WQ (whileN c b k) m Q := by
    intro N
    induction N with
    | zero =>
      intro n m hn i
      obtain ⟨k, m1, e, q⟩ := hs n m i
      cases k with
      | false => exact ⟨1, .nx, m1, by unfold whileN; rw [e], by simpa using q⟩
      | true =>
        rw [if_pos rfl] at q
        obtain ⟨fl, m2, e2, q⟩ := q
        cases fl <;> simp only [TurnQ_nx, TurnQ_ct, TurnQ_bk, TurnQ_rt, TurnQ_rf] at q
        · obtain ⟨n', h, _⟩ := q; omega
        · exact ⟨1, _, m2, by unfold whileN; rw [e]; simp only [e2], q⟩
        · exact ⟨1, _, m2, by unfold whileN; rw [e]; simp only [e2], q⟩
        · exact ⟨1, _, m2, by unfold whileN; rw [e]; simp only [e2], q⟩
        · obtain ⟨n', h, _⟩ := q; omega
    | succ N ih =>
      intro n m hn i
      obtain ⟨k, m1, e, q⟩ := hs n m i
      cases k with
      | false => exact ⟨1, .nx, m1, by unfold whileN; rw [e], by simpa using q⟩
      | true =>
        rw [if_pos rfl] at q
        obtain ⟨fl, m2, e2, q⟩ := q
        cases fl <;> simp only [TurnQ_nx, TurnQ_ct, TurnQ_bk, TurnQ_rt, TurnQ_rf] at q
        · obtain ⟨n', h, i'⟩ := q
          obtain ⟨k, fl, m3, e3, q⟩ := ih n' m2 (by omega) i'
          exact ⟨k + 1, fl, m3, by unfold whileN; rw [e]; simp only [e2]; exact e3, q⟩
        · exact ⟨1, _, m2, by unfold whileN; rw [e]; simp only [e2], q⟩
        · exact ⟨1, _, m2, by unfold whileN; rw [e]; simp only [e2], q⟩
        · exact ⟨1, _, m2, by unfold whileN; rw [e]; simp only [e2], q⟩
        · obtain ⟨n', h, i'⟩ := q
          obtain ⟨k, fl, m3, e3, q⟩ := ih n' m2 (by omega) i'
          exact ⟨k + 1, fl, m3, by unfold whileN; rw [e]; simp only [e2]; exact e3, q⟩
  obtain ⟨k, fl, m1, e, q⟩ := key n n m (Nat.le_refl _) h0
  exact ⟨fl, m1, sWhile_of e, q⟩
/-! ### comprehensions -/
theorem unwipe_wipe (e0 : List Slot) : ∀ (vs : List Nat) (e : List Slot), e.length = e0.length → (∀ i, i ∉ vs → e[i]? = e0[i]?) → unwipe e0 e vs = e0
  | [], e, hl, h => by
    unfold unwipe
    exact List.ext_getElem? fun i => h i (by simp)
  | v :: vs, e, hl, h => by
    unfold unwipe
    have ih := unwipe_wipe e0 vs (e.set v (e0[v]?.getD .un)) (by rw [List.length_set, hl]) (fun i hi => by
      by_cases hv : v = i
      · subst hv
        rw [List.getElem?_set]
        rw [if_pos rfl]
        split
        · rename_i h1
          rw [hl] at h1
          rw [List.getElem?_eq_getElem h1]
          rfl
        · rename_i h1
          rw [List.getElem?_eq_none (by omega)]
      · rw [List.getElem?_set_ne hv]
        exact h i (by simp [hi, Ne.symm hv]))
    refine List.ext_getElem? fun i => ?_
    have gen : ∀ (vs : List Nat) (e : List Slot), (unwipe e0 e vs)[i]? = if i ∈ vs ∧ i < e.length then some (e0[i]?.getD .un) else e[i]? := by
      intro vs
      induction vs with
      | nil => intro e; simp [unwipe]
      | cons w ws ihw =>
        intro e
        unfold unwipe
        by_cases hw : w = i
        · subst hw
          rw [List.getElem?_set, if_pos rfl, unwipe_len]
          by_cases hl2 : w < e.length
          · rw [if_pos hl2, if_pos ⟨by simp, hl2⟩]
          · rw [if_neg hl2, if_neg (fun z => hl2 z.2), List.getElem?_eq_none (by omega)]
        · rw [List.getElem?_set_ne hw, ihw]
          simp [Ne.symm hw]
    by_cases hv : v = i
    · subst hv
      rw [List.getElem?_set, if_pos rfl, unwipe_len, hl]
      split
      · rename_i h1
        rw [List.getElem?_eq_getElem h1]
        rfl
      · rename_i h1
        rw [List.getElem?_eq_none (by omega)]
    · rw [List.getElem?_set_ne hv, gen]
      by_cases hm : i ∈ vs ∧ i < e.length
      · rw [if_pos hm]
        rw [List.getElem?_eq_getElem (by omega)]
        rfl
      · rw [if_neg hm]
        by_cases h2 : i ∈ vs
        · rw [List.getElem?_eq_none (by have := hm; simp [h2] at this; omega), List.getElem?_eq_none (by have := hm; simp [h2] at this; omega)]
        · exact h i (by simp [h2, Ne.symm hv])
theorem unwipe_self (env : List Slot) (vs : List Nat) : unwipe env (wipeE env vs) vs = env :=
  unwipe_wipe env vs _ (wipeE_len env vs) fun i h => wipeE_out h
/-- a comprehension's turns, the objects told along -/
theorem wq_lcL {β : Type} {t : Bool} {is vs : List Nat} {ft : Co Bool} {fe : Co D} (enc : β → D) (E : List Slot) (xs : List β) (I : List β → List D → List (List D) → Prop) {obs : List (List D)} (h0 : I [] [] obs)
    (hs : ∀ (done : List β) (x : β) (rest : List β) (ys : List D) (obs : List (List D)), xs = done ++ x :: rest → I done ys obs → ∃ env, setTg t is (enc x) E = some env ∧ WQ ft ⟨env, obs⟩ fun k m1 => if k = true
      then WQ fe m1 fun y m2 => noOw vs m2.env = true ∧ wipeE m2.env vs = E ∧ I (done ++ [x]) (ys ++ [y]) m2.obs
      else noOw vs m1.env = true ∧ wipeE m1.env vs = E ∧ I (done ++ [x]) ys m1.obs) :
    WQ (lcL t is vs ft fe (xs.map enc)) ⟨E, obs⟩ fun ys m' => m'.env = E ∧ I xs ys m'.obs := by
  have key : ∀ (rest done : List β) (ys : List D) (obs : List (List D)), xs = done ++ rest → I done ys obs → WQ (lcL t is vs ft fe (rest.map enc)) ⟨E, obs⟩ fun zs m' => m'.env = E ∧ I xs (ys ++ zs) m'.obs := by
    intro rest
    induction rest with
    | nil =>
      intro done ys obs e i
      rw [List.append_nil] at e
      subst e
      exact ⟨[], ⟨E, obs⟩, by rfl, rfl, by rw [List.append_nil]; exact i⟩
    | cons x rest ih =>
      intro done ys obs e i
      obtain ⟨env, h1, k, m1, e1, h2⟩ := hs done x rest ys obs e i
      rw [List.map_cons]
      cases k with
      | true =>
        rw [if_pos rfl] at h2
        obtain ⟨y, m2, e2, n2, w2, i2⟩ := h2
        obtain ⟨zs, m3, e3, q1, q2⟩ := ih (done ++ [x]) (ys ++ [y]) m2.obs (by rw [e, List.append_assoc]; rfl) i2
        refine ⟨y :: zs, m3, ?_, q1, by rw [List.append_assoc] at q2; exact q2⟩
        unfold lcL
        simp only [h1, e1, e2, n2, if_true, w2, e3]
      | false =>
        rw [if_neg (by decide)] at h2
        obtain ⟨n2, w2, i2⟩ := h2
        obtain ⟨zs, m3, e3, q1, q2⟩ := ih (done ++ [x]) ys m1.obs (by rw [e, List.append_assoc]; rfl) i2
        refine ⟨zs, m3, ?_, q1, q2⟩
        unfold lcL
        simp only [h1, e1, n2, if_true, w2, e3]
  have := key xs [] [] obs rfl h0
  refine this.mono fun ys m' q => ⟨q.1, by simpa using q.2⟩
theorem wq_eLc (fi : Co (List D)) (t : Bool) (is vs : List Nat) (ft : Co Bool) (fe : Co D) (m : M) (Q : D → M → Prop) : WQ (eLc fi t is vs ft fe) m Q ↔ WQ fi m fun ds m1 => noOw vs m1.env = true ∧ ds.length ≤ sizeLine ∧
    WQ (lcL t is vs ft fe ds) ⟨wipeE m1.env vs, m1.obs⟩ fun ys m' => Q (.lst ys) ⟨unwipe m1.env m'.env vs, m'.obs⟩ := by
  unfold eLc
  rw [wq_bind]
  refine ⟨fun h => h.mono fun ds m1 q => ?_, fun h => h.mono fun ds m1 q => ?_⟩
  · obtain ⟨a, m2, e, q⟩ := q
    dsimp only at e
    split at e
    · rename_i h1
      refine ⟨h1.1, h1.2, ?_⟩
      split at e
      · rename_i ys m3 h3
        cases e
        exact ⟨ys, m3, h3, q⟩
      · cases e
    · cases e
  · obtain ⟨h1, h2, ys, m', e, q⟩ := q
    exact ⟨_, _, by dsimp only; rw [if_pos ⟨h1, h2⟩]; simp only [e], q⟩
/-- a comprehension that changes no object: tests and values told by functions -/
theorem wq_lc {β : Type} {fi : Co (List D)} {t : Bool} {is vs : List Nat} {ft : Co Bool} {fe : Co D} {m : M} {Q : D → M → Prop} (enc : β → D) (p : β → Bool) (f : β → D) (xs : List β) (env : List Slot) (obs : List (List D))
    (hi : fi m = .ok (xs.map enc) ⟨env, obs⟩) (hn : noOw vs env = true) (hz : xs.length ≤ sizeLine)
    (hs : ∀ x ∈ xs, ∃ e1, setTg t is (enc x) (wipeE env vs) = some e1 ∧ noOw vs e1 = true ∧ wipeE e1 vs = wipeE env vs ∧ ft ⟨e1, obs⟩ = .ok (p x) ⟨e1, obs⟩ ∧ (p x = true → fe ⟨e1, obs⟩ = .ok (f x) ⟨e1, obs⟩))
    (q : Q (.lst ((xs.filter p).map f)) ⟨env, obs⟩) : WQ (eLc fi t is vs ft fe) m Q := by
  rw [wq_eLc]
  refine ⟨_, _, hi, hn, by rw [List.length_map]; exact hz, ?_⟩
  refine (wq_lcL enc (wipeE env vs) xs (fun done ys o => o = obs ∧ ys = (done.filter p).map f) ⟨rfl, rfl⟩ ?_).mono ?_
  · rintro done x rest ys o e ⟨rfl, rfl⟩
    obtain ⟨e1, h1, h2, h3, h4, h5⟩ := hs x (by rw [e]; simp)
    refine ⟨e1, h1, p x, _, h4, ?_⟩
    cases hp : p x with
    | true =>
      rw [if_pos rfl]
      exact ⟨f x, _, h5 hp, h2, h3, rfl, by rw [List.filter_append, List.map_append]; simp [hp]⟩
    | false =>
      rw [if_neg (by decide)]
      exact ⟨h2, h3, rfl, by rw [List.filter_append, List.map_append]; simp [hp]⟩
  · rintro ys m' ⟨h1, h2, h3⟩
    subst h3
    obtain ⟨e', o'⟩ := m'
    simp only at h1 h2 ⊢
    subst h1 h2
    rw [unwipe_self]
    exact q
/-! ### a def -/
theorem run_wq {nl np : Nat} {body : Co Flow'} {ds : List D} {obs : List (List D)} {Q : D → List (List D) → Prop} (hl : ds.length = np)
    (h : WQ body ⟨ds.map Slot.pl ++ List.replicate (nl - np) .un, obs⟩ fun fl m' => match fl with
      | .nx => Q .non m'.obs
      | .rt d => Q d m'.obs
      | _ => False) : FQ (runF nl np body false) ds obs Q := by
  obtain ⟨fl, m', e, q⟩ := h
  unfold FQ runF
  rw [if_pos hl, e]
  cases fl <;> simp only at q ⊢ <;> first
    | exact q.elim
    | exact ⟨_, _, rfl, q⟩
theorem run_wqF {nl np : Nat} {body : Co Flow'} {ds : List D} {obs : List (List D)} {Q : D → List (List D) → Prop} (hl : ds.length = np)
    (h : WQ body ⟨ds.map Slot.pl ++ List.replicate (nl - np) .un, obs⟩ fun fl m' => match fl with
      | .rf d => Q d m'.obs
      | _ => False) : FQ (runF nl np body true) ds obs Q := by
  obtain ⟨fl, m', e, q⟩ := h
  unfold FQ runF
  rw [if_pos hl, e]
  cases fl <;> simp only at q ⊢ <;> first
    | exact q.elim
    | exact ⟨_, _, rfl, q⟩
theorem FQ.eq {F : Fd} {ds : List D} {obs obs' : List (List D)} {r : D} (h : FQ F ds obs fun x o => x = r ∧ o = obs') : F ds obs = some (r, obs') := by
  obtain ⟨x, o, e, rfl, rfl⟩ := h
  exact e
theorem FQ.mono {F : Fd} {ds : List D} {obs : List (List D)} {Q R : D → List (List D) → Prop} (h : FQ F ds obs Q) (i : ∀ d o, Q d o → R d o) : FQ F ds obs R := let ⟨a, m', e, q⟩ := h; ⟨a, m', e, i a m' q⟩
end PD
namespace PD
open PySem PySem.Spec PyProof.Rows L2

theorem wq_eq {α : Type} {c : Co α} {m m' : M} {a : α} : (WQ c m fun x m2 => x = a ∧ m2 = m') ↔ c m = .ok a m' := ⟨WQ.eq, fun h => ⟨a, m', h, rfl, rfl⟩⟩
/-- a comprehension without a test -/
theorem wq_lcm {β : Type} {fi : Co (List D)} {t : Bool} {is vs : List Nat} {fe : Co D} {Q : D → M → Prop} {env : List Slot} {obs : List (List D)} (enc : β → D) (f : β → D) (xs : List β)
    (hi : WQ fi ⟨env, obs⟩ fun ds m1 => ds = xs.map enc ∧ m1 = ⟨env, obs⟩) (hn : noOw vs env = true) (hz : xs.length ≤ sizeLine)
    (hs : ∀ x ∈ xs, ∃ e1, setTg t is (enc x) (wipeE env vs) = some e1 ∧ noOw vs e1 = true ∧ wipeE e1 vs = wipeE env vs ∧ WQ fe ⟨e1, obs⟩ fun y m1 => y = f x ∧ m1 = ⟨e1, obs⟩)
    (q : Q (.lst (xs.map f)) ⟨env, obs⟩) : WQ (eLc fi t is vs (Co.ret true) fe) ⟨env, obs⟩ Q := by
  refine wq_lc enc (fun _ => true) f xs env obs hi.eq hn hz (fun x hx => ?_) (by rw [List.filter_eq_self.mpr fun _ _ => rfl]; exact q)
  obtain ⟨e1, h1, h2, h3, h4⟩ := hs x hx
  exact ⟨e1, h1, h2, h3, rfl, fun _ => h4.eq⟩
/-- with a test -/
theorem wq_lct {β : Type} {fi : Co (List D)} {t : Bool} {is vs : List Nat} {ft : Co Bool} {fe : Co D} {Q : D → M → Prop} {env : List Slot} {obs : List (List D)} (enc : β → D) (p : β → Bool) (f : β → D) (xs : List β)
    (hi : WQ fi ⟨env, obs⟩ fun ds m1 => ds = xs.map enc ∧ m1 = ⟨env, obs⟩) (hn : noOw vs env = true) (hz : xs.length ≤ sizeLine)
    (hs : ∀ x ∈ xs, ∃ e1, setTg t is (enc x) (wipeE env vs) = some e1 ∧ noOw vs e1 = true ∧ wipeE e1 vs = wipeE env vs ∧ (WQ ft ⟨e1, obs⟩ fun y m1 => y = p x ∧ m1 = ⟨e1, obs⟩) ∧ (p x = true → WQ fe ⟨e1, obs⟩ fun y m1 => y = f x ∧ m1 = ⟨e1, obs⟩))
    (q : Q (.lst ((xs.filter p).map f)) ⟨env, obs⟩) : WQ (eLc fi t is vs ft fe) ⟨env, obs⟩ Q := by
  refine wq_lc enc p f xs env obs hi.eq hn hz (fun x hx => ?_) q
  obtain ⟨e1, h1, h2, h3, h4, h5⟩ := hs x hx
  exact ⟨e1, h1, h2, h3, h4.eq, fun hp => (h5 hp).eq⟩
theorem allD_map {β : Type} (f : β → Bool) (xs : List β) : allD [.lst (xs.map fun x => D.bl (f x))] = some (.bl (xs.all f)) := by
  have := C.all_bls (xs.map f)
  rw [List.map_map] at this
  rw [show (xs.map fun x => D.bl (f x)) = xs.map (D.bl ∘ f) from rfl, this]
  congr 2
  rw [List.all_map]
  rfl
theorem anyD_map {β : Type} (f : β → Bool) (xs : List β) : anyD [.lst (xs.map fun x => D.bl (f x))] = some (.bl (xs.any f)) := by
  have := C.any_bls (xs.map f)
  rw [List.map_map] at this
  rw [show (xs.map fun x => D.bl (f x)) = xs.map (D.bl ∘ f) from rfl, this]
  congr 2
  rw [List.any_map]
  rfl
theorem sumD_map {β : Type} (f : β → Int) (xs : List β) : sumD [.lst (xs.map fun x => D.int (f x))] = some (.int (xs.map f).sum) := by
  have h := toInts_map (xs.map f)
  rw [List.map_map] at h
  show (toInts _).map _ = _
  rw [show (xs.map fun x => D.int (f x)) = xs.map (D.int ∘ f) from rfl, h]
  rfl
@[simp] theorem get_cf (m : M) (q : Rat) : Opd.get m (.val (C.cf q)) = some (C.cf q) := by unfold C.cf; exact Eq.refl _
@[simp] theorem get_pic (m : M) (p : List (List Bool)) : Opd.get m (.val (C.picD p)) = some (C.picD p) := by unfold C.picD; exact Eq.refl _
@[simp] theorem cf_0 (q : Rat) : subD' (C.cf q) (.int 0) = some (.int q.num) := by unfold C.cf; exact subD'_tup0 _ _
@[simp] theorem cf_1 (q : Rat) : subD' (C.cf q) (.int 1) = some (.int q.den) := by unfold C.cf; exact subD'_tup1 _ _ _
@[simp] theorem wipeE_nil (env : List Slot) : wipeE env [] = env := by unfold wipeE; exact Eq.refl _
@[simp] theorem wipeE_cons (env : List Slot) (v : Nat) (vs : List Nat) : wipeE env (v :: vs) = (wipeE env vs).set v .un := by conv => lhs; unfold wipeE
@[simp] theorem allD_true (n : Nat) : allD [.lst (List.replicate n (.bl true))] = some (.bl true) := C.all_true n
@[simp] theorem allD_mtrue {β : Type} (xs : List β) : allD [.lst (xs.map fun _ => .bl true)] = some (.bl true) := by rw [allD_map (fun _ => true) xs]; simp
@[simp] theorem anyD_mfalse {β : Type} (xs : List β) : anyD [.lst (xs.map fun _ => .bl false)] = some (.bl false) := by rw [anyD_map (fun _ => false) xs]; simp
theorem cf_zero : D.tup [.int 0, .int 1] = C.cf 0 := by rfl
theorem cf_one : D.tup [.int 1, .int 1] = C.cf 1 := by rfl
theorem rg1_eq {j : Int} (h : -1000000 ≤ j ∧ j ≤ 1000000) : rg1 [.int j] = some (rgD 0 j) := C.rg1_int h
end PD
namespace PD
open PySem PySem.Spec PyProof.Rows L2
theorem wq_pCons {m : M} (fk fv : Co D) (r : Co (List (Key × D))) (Q : List (Key × D) → M → Prop) : WQ (pCons fk fv r) m Q ↔ WQ fk m fun dk m1 => ∃ k, keyD dk = some k ∧ WQ fv m1 fun v m2 => WQ r m2 fun t m3 => Q ((k, v) :: t) m3 := by
  unfold pCons
  simp only [wq_bind, wq_lift, wq_ret]
theorem wq_eDisp {m : M} (f : Co (List (Key × D))) (Q : D → M → Prop) : WQ (eDisp f) m Q ↔ WQ f m fun kds m' => kds.length ≤ 15 ∧ Q (.dk (mergeD kds)) m' := by
  unfold eDisp
  rw [wq_bind]
  refine ⟨fun h => h.mono fun ds m1 q => ?_, fun h => h.mono fun ds m1 q => ?_⟩
  · obtain ⟨a, m2, e, q⟩ := q
    split at e
    · cases e; exact ⟨by assumption, q⟩
    · cases e
  · exact ⟨_, m1, by simp only [q.1, if_true]; rfl, q.2⟩
end PD
namespace PD
open PySem PySem.Spec PyProof.Rows L2

structure Tie {α : Sort u} {β : Sort v} (a : α) (b : β) : Type where
/-- the same, what stands behind being tied: simp does not look into it -/
def WP {α : Type} (c : Co α) (m : M) (Q : α → M → Prop) (t : Tie c Q := ⟨⟩) : Prop := WQ c m Q
def FP (F : Fd) (ds : List D) (obs : List (List D)) (Q : D → List (List D) → Prop) (t : Tie F Q := ⟨⟩) : Prop := FQ F ds obs Q
def FlK (g : Co Flow') (Q : Flow' → M → Prop) (fl : Flow') (m : M) (t : Tie g Q := ⟨⟩) : Prop := FlQ g Q fl m
def Turn (Q : Flow' → M → Prop) (J : M → Prop) (fl : Flow') (m : M) (t : Tie Q J := ⟨⟩) : Prop := TurnQ Q J fl m
section
variable {α : Type} {m m' : M}
theorem WP.mono {c : Co α} {Q R : α → M → Prop} (h : WP c m Q) (i : ∀ a m', Q a m' → R a m') : WP c m R := WQ.mono h i
theorem WP.eq {c : Co α} {a : α} (h : WP c m fun x m2 => x = a ∧ m2 = m') : c m = .ok a m' := WQ.eq h
theorem WP.of {c : Co α} {Q : α → M → Prop} {a : α} (e : c m = .ok a m') (q : Q a m') : WP c m Q := WQ.of e q
@[simp ↓] theorem FlK_nx (g : Co Flow') (Q : Flow' → M → Prop) : FlK g Q .nx m ↔ WP g m Q := by unfold FlK WP; rw [FlQ_nx]
@[simp ↓] theorem FlK_rt (g : Co Flow') (Q : Flow' → M → Prop) (d : D) : FlK g Q (.rt d) m ↔ Q (.rt d) m := by unfold FlK; rw [FlQ_rt]
@[simp ↓] theorem FlK_rf (g : Co Flow') (Q : Flow' → M → Prop) (d : D) : FlK g Q (.rf d) m ↔ Q (.rf d) m := by unfold FlK; rw [FlQ_rf]
@[simp ↓] theorem FlK_bk (g : Co Flow') (Q : Flow' → M → Prop) : FlK g Q .bk m ↔ Q .bk m := by unfold FlK; rw [FlQ_bk]
@[simp ↓] theorem FlK_ct (g : Co Flow') (Q : Flow' → M → Prop) : FlK g Q .ct m ↔ Q .ct m := by unfold FlK; rw [FlQ_ct]
@[simp ↓] theorem Turn_nx (Q : Flow' → M → Prop) (J : M → Prop) : Turn Q J .nx m ↔ J m := by unfold Turn; rw [TurnQ_nx]
@[simp ↓] theorem Turn_ct (Q : Flow' → M → Prop) (J : M → Prop) : Turn Q J .ct m ↔ J m := by unfold Turn; rw [TurnQ_ct]
@[simp ↓] theorem Turn_bk (Q : Flow' → M → Prop) (J : M → Prop) : Turn Q J .bk m ↔ Q .nx m := by unfold Turn; rw [TurnQ_bk]
@[simp ↓] theorem Turn_rt (Q : Flow' → M → Prop) (J : M → Prop) (d : D) : Turn Q J (.rt d) m ↔ Q (.rt d) m := by unfold Turn; rw [TurnQ_rt]
@[simp ↓] theorem Turn_rf (Q : Flow' → M → Prop) (J : M → Prop) (d : D) : Turn Q J (.rf d) m ↔ Q (.rf d) m := by unfold Turn; rw [TurnQ_rf]
theorem FP_of {F : Fd} {ds : List D} {obs obs' : List (List D)} {r : D} (h : F ds obs = some (r, obs')) (Q : D → List (List D) → Prop) : FP F ds obs Q ↔ Q r obs' := FQ_of h Q
theorem FP.eq {F : Fd} {ds : List D} {obs obs' : List (List D)} {r : D} (h : FP F ds obs fun x o => x = r ∧ o = obs') : F ds obs = some (r, obs') := FQ.eq h
theorem FP.mono {F : Fd} {ds : List D} {obs : List (List D)} {Q R : D → List (List D) → Prop} (h : FP F ds obs Q) (i : ∀ d o, Q d o → R d o) : FP F ds obs R := FQ.mono h i
theorem FP.get {F : Fd} {ds : List D} {obs : List (List D)} {Q : D → List (List D) → Prop} (h : FP F ds obs Q) : ∃ r obs', F ds obs = some (r, obs') ∧ Q r obs' := h
theorem FP.mk {F : Fd} {ds : List D} {obs obs' : List (List D)} {r : D} {Q : D → List (List D) → Prop} (h : F ds obs = some (r, obs')) (q : Q r obs') : FP F ds obs Q := ⟨r, obs', h, q⟩
theorem wp_forL_nil {t : Bool} {is : List Nat} {b : Co Flow'} {Q : Flow' → M → Prop} (q : Q .nx m) : WP (forL t is b []) m Q := wq_forL_nil q
theorem wp_forL_cons {t : Bool} {is : List Nat} {b : Co Flow'} {d : D} {ds : List D} {Q : Flow' → M → Prop} {env : List Slot} (h : setTg t is d m.env = some env) (q : WP b ⟨env, m.obs⟩ (Turn Q fun m' => WP (forL t is b ds) m' Q)) : WP (forL t is b (d :: ds)) m Q := wq_forL_cons h q
theorem wp_for {β : Type} {t : Bool} {is : List Nat} {b : Co Flow'} {Q : Flow' → M → Prop} (enc : β → D) (xs : List β) (I : List β → M → Prop) {m : M} (h0 : I [] m)
    (hs : ∀ (done : List β) (x : β) (rest : List β) (m : M), xs = done ++ x :: rest → I done m → ∃ env, setTg t is (enc x) m.env = some env ∧ WP b ⟨env, m.obs⟩ fun fl m' => Turn Q (I (done ++ [x])) fl m')
    (hq : ∀ m, I xs m → Q .nx m) : WP (forL t is b (xs.map enc)) m Q := wq_for enc xs I h0 hs hq
theorem wp_rg {t : Bool} {is : List Nat} {b : Co Flow'} {Q : Flow' → M → Prop} (lo : Int) (n : Nat) (I : Nat → M → Prop) {m : M} (h0 : I 0 m)
    (hs : ∀ (k : Nat) (m : M), k < n → I k m → ∃ env, setTg t is (.int (lo + k)) m.env = some env ∧ WP b ⟨env, m.obs⟩ fun fl m' => Turn Q (I (k + 1)) fl m')
    (hq : ∀ m, I n m → Q .nx m) : WP (forL t is b (rgD lo (lo + n))) m Q := wq_rg lo n I h0 hs hq
theorem wp_while {c : Co Bool} {b : Co Flow'} {Q : Flow' → M → Prop} (I : Nat → M → Prop) {n : Nat} {m : M} (h0 : I n m)
    (hs : ∀ n m, I n m → WP c m fun k m' => if k = true then WP b m' fun fl m3 => Turn Q (fun m2 => ∃ n', n' < n ∧ I n' m2) fl m3 else Q .nx m') : WP (sWhile c b) m Q := wq_while I h0 hs
theorem wp_lcL {β : Type} {t : Bool} {is vs : List Nat} {ft : Co Bool} {fe : Co D} (enc : β → D) (E : List Slot) (xs : List β) (I : List β → List D → List (List D) → Prop) {obs : List (List D)} (h0 : I [] [] obs)
    (hs : ∀ (done : List β) (x : β) (rest : List β) (ys : List D) (obs : List (List D)), xs = done ++ x :: rest → I done ys obs → ∃ env, setTg t is (enc x) E = some env ∧ WP ft ⟨env, obs⟩ fun k m1 => if k = true
      then WP fe m1 fun y m2 => noOw vs m2.env = true ∧ wipeE m2.env vs = E ∧ I (done ++ [x]) (ys ++ [y]) m2.obs
      else noOw vs m1.env = true ∧ wipeE m1.env vs = E ∧ I (done ++ [x]) ys m1.obs) :
    WP (lcL t is vs ft fe (xs.map enc)) ⟨E, obs⟩ fun ys m' => m'.env = E ∧ I xs ys m'.obs := wq_lcL enc E xs I h0 hs
theorem wp_eLc (fi : Co (List D)) (t : Bool) (is vs : List Nat) (ft : Co Bool) (fe : Co D) (m : M) (Q : D → M → Prop) : WP (eLc fi t is vs ft fe) m Q ↔ WP fi m fun ds m1 => noOw vs m1.env = true ∧ ds.length ≤ sizeLine ∧
    WP (lcL t is vs ft fe ds) ⟨wipeE m1.env vs, m1.obs⟩ fun ys m' => Q (.lst ys) ⟨unwipe m1.env m'.env vs, m'.obs⟩ := wq_eLc fi t is vs ft fe m Q
theorem wp_lcm {β : Type} {fi : Co (List D)} {t : Bool} {is vs : List Nat} {fe : Co D} {Q : D → M → Prop} {env : List Slot} {obs : List (List D)} (enc : β → D) (f : β → D) (xs : List β)
    (hi : WP fi ⟨env, obs⟩ fun ds m1 => ds = xs.map enc ∧ m1 = ⟨env, obs⟩) (hn : noOw vs env = true) (hz : xs.length ≤ sizeLine)
    (hs : ∀ x ∈ xs, ∃ e1, setTg t is (enc x) (wipeE env vs) = some e1 ∧ noOw vs e1 = true ∧ wipeE e1 vs = wipeE env vs ∧ WP fe ⟨e1, obs⟩ fun y m1 => y = f x ∧ m1 = ⟨e1, obs⟩)
    (q : Q (.lst (xs.map f)) ⟨env, obs⟩) : WP (eLc fi t is vs (Co.ret true) fe) ⟨env, obs⟩ Q := wq_lcm enc f xs hi hn hz hs q
theorem wp_lct {β : Type} {fi : Co (List D)} {t : Bool} {is vs : List Nat} {ft : Co Bool} {fe : Co D} {Q : D → M → Prop} {env : List Slot} {obs : List (List D)} (enc : β → D) (p : β → Bool) (f : β → D) (xs : List β)
    (hi : WP fi ⟨env, obs⟩ fun ds m1 => ds = xs.map enc ∧ m1 = ⟨env, obs⟩) (hn : noOw vs env = true) (hz : xs.length ≤ sizeLine)
    (hs : ∀ x ∈ xs, ∃ e1, setTg t is (enc x) (wipeE env vs) = some e1 ∧ noOw vs e1 = true ∧ wipeE e1 vs = wipeE env vs ∧ (WP ft ⟨e1, obs⟩ fun y m1 => y = p x ∧ m1 = ⟨e1, obs⟩) ∧ (p x = true → WP fe ⟨e1, obs⟩ fun y m1 => y = f x ∧ m1 = ⟨e1, obs⟩))
    (q : Q (.lst ((xs.filter p).map f)) ⟨env, obs⟩) : WP (eLc fi t is vs ft fe) ⟨env, obs⟩ Q := wq_lct enc p f xs hi hn hz hs q
theorem run_wp {nl np : Nat} {body : Co Flow'} {ds : List D} {obs : List (List D)} {Q : D → List (List D) → Prop} (hl : ds.length = np)
    (h : WP body ⟨ds.map Slot.pl ++ List.replicate (nl - np) .un, obs⟩ fun fl m' => match fl with
      | .nx => Q .non m'.obs
      | .rt d => Q d m'.obs
      | _ => False) : FP (runF nl np body false) ds obs Q := run_wq hl h
theorem run_wpF {nl np : Nat} {body : Co Flow'} {ds : List D} {obs : List (List D)} {Q : D → List (List D) → Prop} (hl : ds.length = np)
    (h : WP body ⟨ds.map Slot.pl ++ List.replicate (nl - np) .un, obs⟩ fun fl m' => match fl with
      | .rf d => Q d m'.obs
      | _ => False) : FP (runF nl np body true) ds obs Q := run_wqF hl h
end
/-! ### one step behind another: what stands behind is looked at last -/
def optK {α : Type} (o : Option α) (k : α → Prop) (t : Tie k k := ⟨⟩) : Prop := ∃ a, o = some a ∧ k a
theorem optK_iff {α : Type} {o : Option α} {k : α → Prop} : optK o k ↔ ∃ a, o = some a ∧ k a := Iff.rfl
@[simp] theorem optK_some {α : Type} (a : α) (k : α → Prop) : optK (some a) k ↔ k a := ⟨fun ⟨_, e, q⟩ => by cases e; exact q, fun q => ⟨a, rfl, q⟩⟩
def slotK (s : Option Slot) (k : D → Prop) (t : Tie k k := ⟨⟩) : Prop := ∃ d, s = some (.pl d) ∧ k d
@[simp] theorem slotK_pl (d : D) (k : D → Prop) : slotK (some (.pl d)) k ↔ k d := ⟨fun ⟨_, e, q⟩ => by cases e; exact q, fun q => ⟨d, rfl, q⟩⟩
def owK (s : Option Slot) (k : D → Prop) (t : Tie k k := ⟨⟩) : Prop := ∃ d, s = some (.ow d) ∧ k d
@[simp] theorem owK_ow (d : D) (k : D → Prop) : owK (some (.ow d)) k ↔ k d := ⟨fun ⟨_, e, q⟩ => by cases e; exact q, fun q => ⟨d, rfl, q⟩⟩
def anyK (s : Option Slot) (i : Nat) (k : Opd → Prop) (t : Tie k k := ⟨⟩) : Prop := (∃ d, s = some (.ow d) ∧ k (.slot i)) ∨ ∃ d, s = some (.pl d) ∧ k (.val d)
@[simp] theorem anyK_ow (d : D) (i : Nat) (k : Opd → Prop) : anyK (some (.ow d)) i k ↔ k (.slot i) := by
  constructor
  · rintro (⟨_, _, q⟩ | ⟨_, e, _⟩)
    · exact q
    · cases e
  · exact fun q => .inl ⟨d, rfl, q⟩
@[simp] theorem anyK_pl (d : D) (i : Nat) (k : Opd → Prop) : anyK (some (.pl d)) i k ↔ k (.val d) := by
  constructor
  · rintro (⟨_, e, _⟩ | ⟨_, e, q⟩)
    · cases e
    · cases e; exact q
  · exact fun q => .inr ⟨d, rfl, q⟩
def blK (d : D) (k : Bool → Prop) (t : Tie k k := ⟨⟩) : Prop := ∃ b, d = .bl b ∧ k b
@[simp] theorem blK_bl (b : Bool) (k : Bool → Prop) : blK (.bl b) k ↔ k b := ⟨fun ⟨_, e, q⟩ => by cases e; exact q, fun q => ⟨b, rfl, q⟩⟩
def intK (d : D) (k : Int → Prop) (t : Tie k k := ⟨⟩) : Prop := ∃ b, d = .int b ∧ k b
@[simp] theorem intK_int (b : Int) (k : Int → Prop) : intK (.int b) k ↔ k b := ⟨fun ⟨_, e, q⟩ => by cases e; exact q, fun q => ⟨b, rfl, q⟩⟩
def lstK (d : D) (k : List D → Prop) (t : Tie k k := ⟨⟩) : Prop := ∃ b, d = .lst b ∧ k b
@[simp] theorem lstK_lst (b : List D) (k : List D → Prop) : lstK (.lst b) k ↔ k b := ⟨fun ⟨_, e, q⟩ => by cases e; exact q, fun q => ⟨b, rfl, q⟩⟩
def stK (m : M) (k : M → Prop) (t : Tie k k := ⟨⟩) : Prop := k m
@[simp] theorem stK_ap (m : M) (k : M → Prop) : stK m k ↔ k m := by unfold stK; exact Iff.refl _
section
variable {α β : Type} {m m' : M}
@[simp ↓] theorem kp_ret (a : α) (Q : α → M → Prop) : WP (Co.ret a) m Q ↔ Q a m := wq_ret a Q
@[simp ↓] theorem kp_bind (c : Co α) (k : α → Co β) (Q : β → M → Prop) : WP (Co.bind c k) m Q ↔ WP c m fun a m' => WP (k a) m' Q := wq_bind c k Q
@[simp ↓] theorem kp_lift (o : Option α) (Q : α → M → Prop) : WP (Co.lift o) m Q ↔ optK o fun a => Q a m := wq_lift o Q
@[simp ↓] theorem kp_vPl (i : Nat) (Q : D → M → Prop) : WP (vPl i) m Q ↔ slotK m.env[i]? fun d => Q d m := wq_vPl i Q
@[simp ↓] theorem kp_vAny (i : Nat) (Q : Opd → M → Prop) : WP (vAny i) m Q ↔ anyK m.env[i]? i fun o => Q o m := wq_vAny i Q
@[simp ↓] theorem kp_vB (f : Co D) (Q : Opd → M → Prop) : WP (vB f) m Q ↔ WP f m fun d m' => Q (.val d) m' := wq_vB f Q
@[simp ↓] theorem kp_opd2 (g : D → D → Option D) (o1 o2 : Opd) (Q : D → M → Prop) : WP (Opd2 g o1 o2) m Q ↔ optK (o1.get m) fun d1 => optK (o2.get m) fun d2 => optK (g d1 d2) fun d => Q d m := wq_opd2 g o1 o2 Q
@[simp ↓] theorem kp_opd1 (g : D → Option D) (o1 : Opd) (Q : D → M → Prop) : WP (Opd1 g o1) m Q ↔ optK (o1.get m) fun d1 => optK (g d1) fun d => Q d m := wq_opd1 g o1 Q
@[simp ↓] theorem kp_eOp (g : D → D → Option D) (a b : Co Opd) (Q : D → M → Prop) : WP (eOp g a b) m Q ↔ WP a m fun o1 m1 => WP b m1 fun o2 m2 => optK (o1.get m2) fun d1 => optK (o2.get m2) fun d2 => optK (g d1 d2) fun d => Q d m2 := wq_eOp g a b Q
@[simp ↓] theorem kp_eOp1 (g : D → Option D) (a : Co Opd) (Q : D → M → Prop) : WP (eOp1 g a) m Q ↔ WP a m fun o1 m1 => optK (o1.get m1) fun d1 => optK (g d1) fun d => Q d m1 := wq_eOp1 g a Q
@[simp ↓] theorem kp_un1 (g : D → Option D) (f : Co D) (Q : D → M → Prop) : WP (un1 g f) m Q ↔ WP f m fun d m1 => optK (g d) fun r => Q r m1 := wq_un1 g f Q
@[simp ↓] theorem kp_toB (d : D) (Q : Bool → M → Prop) : WP (toB d) m Q ↔ blK d fun b => Q b m := wq_toB d Q
@[simp ↓] theorem kp_tB (f : Co D) (Q : Bool → M → Prop) : WP (tB' f) m Q ↔ WP f m fun d m' => blK d fun b => Q b m' := wq_tB f Q
@[simp ↓] theorem kp_ite (p : Prop) [Decidable p] (f g : Co α) (Q : α → M → Prop) : WP (if p then f else g) m Q ↔ if p then WP f m Q else WP g m Q := wq_ite p f g Q
@[simp ↓] theorem kp_tAnd (t u : Co Bool) (Q : Bool → M → Prop) : WP (tAnd' t u) m Q ↔ WP t m fun c m' => if c = true then WP u m' Q else Q false m' := wq_tAnd t u Q
@[simp ↓] theorem kp_tOr (t u : Co Bool) (Q : Bool → M → Prop) : WP (tOr' t u) m Q ↔ WP t m fun c m' => if c = true then Q true m' else WP u m' Q := wq_tOr t u Q
@[simp ↓] theorem kp_tNot (t : Co Bool) (Q : Bool → M → Prop) : WP (tNot' t) m Q ↔ WP t m fun c m' => Q (!c) m' := wq_tNot t Q
@[simp ↓] theorem kp_eNot (f : Co D) (Q : D → M → Prop) : WP (eNot f) m Q ↔ WP f m fun d m' => blK d fun b => Q (.bl !b) m' := wq_eNot f Q
@[simp ↓] theorem kp_eAnd (f g : Co D) (Q : D → M → Prop) : WP (eAnd f g) m Q ↔ WP f m fun d m' => blK d fun b => if b = true then WP g m' Q else Q (.bl false) m' := wq_eAnd f g Q
@[simp ↓] theorem kp_eOr (f g : Co D) (Q : D → M → Prop) : WP (eOr f g) m Q ↔ WP f m fun d m' => blK d fun b => if b = true then Q (.bl true) m' else WP g m' Q := wq_eOr f g Q
@[simp ↓] theorem kp_eIf (t : Co Bool) (f g : Co D) (Q : D → M → Prop) : WP (eIf t f g) m Q ↔ WP t m fun c m' => if c = true then WP f m' Q else WP g m' Q := wq_eIf t f g Q
@[simp ↓] theorem kp_eChain (p q : D → D → Option D) (a b c : Co Opd) (Q : D → M → Prop) : WP (eChain p q a b c) m Q ↔ WP a m fun o1 m1 => WP b m1 fun o2 m2 => optK (o1.get m2) fun d1 => optK (o2.get m2) fun d2 => optK (p d1 d2) fun d => blK d fun k =>
    if k = true then WP c m2 fun o3 m3 => optK (o2.get m3) fun d2 => optK (o3.get m3) fun d3 => optK (q d2 d3) fun d => Q d m3 else Q (.bl false) m2 := wq_eChain p q a b c Q
@[simp ↓] theorem kp_eCons (f : Co D) (fs : Co (List D)) (Q : List D → M → Prop) : WP (eCons f fs) m Q ↔ WP f m fun d m1 => WP fs m1 fun ds m2 => Q (d :: ds) m2 := wq_eCons f fs Q
@[simp ↓] theorem kp_bCons (f : Co Opd) (fs : Co (List Opd)) (Q : List Opd → M → Prop) : WP (bCons f fs) m Q ↔ WP f m fun d m1 => WP fs m1 fun ds m2 => Q (d :: ds) m2 := wq_bCons f fs Q
theorem gAll_nil (m : M) : Opd.getAll m [] = some [] := by unfold Opd.getAll; exact Eq.refl _
@[simp ↓] theorem kp_eCall (g : List D → Option D) (gs : Co (List Opd)) (Q : D → M → Prop) : WP (eCall g gs) m Q ↔ WP gs m fun os m' => optK (Opd.getAll m' os) fun ds => optK (g ds) fun d => Q d m' := wq_eCall g gs Q
@[simp ↓] theorem kp_eFn (F : Fd) (fs : Co (List D)) (Q : D → M → Prop) : WP (eFn F fs) m Q ↔ WP fs m fun ds m' => FP F ds m'.obs fun r obs' => stK ⟨m'.env, obs'⟩ fun m2 => Q r m2 := wq_eFn F fs Q
@[simp ↓] theorem kp_eTup (fs : Co (List D)) (Q : D → M → Prop) : WP (eTup fs) m Q ↔ WP fs m fun ds m' => ds.length ≤ sizeLine ∧ Q (.tup ds) m' := wq_eTup fs Q
@[simp ↓] theorem kp_eLst (fs : Co (List D)) (Q : D → M → Prop) : WP (eLst fs) m Q ↔ WP fs m fun ds m' => ds.length ≤ sizeLine ∧ Q (.lst ds) m' := wq_eLst fs Q
@[simp ↓] theorem kp_sSeq (f g : Co Flow') (Q : Flow' → M → Prop) : WP (sSeq f g) m Q ↔ WP f m fun fl m' => FlK g Q fl m' := wq_sSeq f g Q
@[simp ↓] theorem kp_sNext (Q : Flow' → M → Prop) : WP sNext m Q ↔ Q .nx m := wq_ret _ _
@[simp ↓] theorem kp_sNo (Q : Flow' → M → Prop) : WP sNo m Q ↔ False := wq_no _
@[simp ↓] theorem kp_sIf (t : Co Bool) (f g : Co Flow') (Q : Flow' → M → Prop) : WP (sIf t f g) m Q ↔ WP t m fun c m' => if c = true then WP f m' Q else WP g m' Q := wq_sIf t f g Q
@[simp ↓] theorem kp_sRet (f : Co D) (Q : Flow' → M → Prop) : WP (sRet f) m Q ↔ WP f m fun d m' => Q (.rt d) m' := wq_sRet f Q
@[simp ↓] theorem kp_sExpr (f : Co D) (Q : Flow' → M → Prop) : WP (sExpr f) m Q ↔ WP f m fun d m' => Q .nx m' := wq_sExpr f Q
@[simp ↓] theorem kp_sSet (i : Nat) (f : Co D) (Q : Flow' → M → Prop) : WP (sSet i f) m Q ↔ WP f m fun d m' => stK ⟨m'.env.set i (.pl d), m'.obs⟩ fun m2 => Q .nx m2 := wq_sSet i f Q
@[simp ↓] theorem kp_sSetF (i : Nat) (f : Co D) (Q : Flow' → M → Prop) : WP (sSetF i f) m Q ↔ WP f m fun d m' => i < m'.env.length ∧ stK ⟨m'.env.set i (.ow d), m'.obs⟩ fun m2 => Q .nx m2 := wq_sSetF i f Q
@[simp ↓] theorem kp_sFrz (i : Nat) (g : Co Flow') (Q : Flow' → M → Prop) : WP (sFrz i g) m Q ↔ stK (frzM i m) fun m2 => WP g m2 Q := wq_sFrz i g Q
@[simp ↓] theorem kp_xNil (Q : List (Bool × D) → M → Prop) : WP xNil m Q ↔ Q [] m := wq_ret _ _
@[simp ↓] theorem kp_xPl (f : Co D) (fs : Co (List (Bool × D))) (Q : List (Bool × D) → M → Prop) : WP (xPl f fs) m Q ↔ WP f m fun d m1 => WP fs m1 fun ls m2 => Q ((false, d) :: ls) m2 := wq_xPl f fs Q
@[simp ↓] theorem kp_xFr (f : Co D) (fs : Co (List (Bool × D))) (Q : List (Bool × D) → M → Prop) : WP (xFr f fs) m Q ↔ WP f m fun d m1 => WP fs m1 fun ls m2 => Q ((true, d) :: ls) m2 := wq_xFr f fs Q
@[simp ↓] theorem kp_sAsg (is : List Nat) (f : Co (List (Bool × D))) (Q : Flow' → M → Prop) : WP (sAsg is f) m Q ↔ WP f m fun ls m' => optK (setEnv m'.env is ls) fun env => Q .nx ⟨env, m'.obs⟩ := wq_sAsg is f Q
@[simp ↓] theorem kp_sFor (fi : Co (List D)) (t : Bool) (is : List Nat) (b : Co Flow') (Q : Flow' → M → Prop) : WP (sFor fi t is b) m Q ↔ WP fi m fun ds m' => WP (forL t is b ds) m' Q := wq_sFor fi t is b Q
@[simp ↓] theorem kp_iVal (f : Co D) (Q : List D → M → Prop) : WP (iVal f) m Q ↔ WP f m fun d m' => optK (itD d) fun ds => Q ds m' := wq_iVal f Q
@[simp ↓] theorem kp_iZip (f : Co (List D)) (Q : List D → M → Prop) : WP (iZip f) m Q ↔ WP f m fun d m' => optK (zipD d) fun ds => Q ds m' := wq_iZip f Q
def enuK (d : List D) (k : List D → Prop) (t : Tie k k := ⟨⟩) : Prop := ∃ as, d = [.lst as] ∧ k (enumD 0 as)
@[simp] theorem enuK_lst (as : List D) (k : List D → Prop) : enuK [.lst as] k ↔ k (enumD 0 as) := ⟨fun ⟨_, e, q⟩ => by cases e; exact q, fun q => ⟨as, rfl, q⟩⟩
@[simp ↓] theorem kp_iEnu (f : Co (List D)) (Q : List D → M → Prop) : WP (iEnu f) m Q ↔ WP f m fun d m' => enuK d fun ds => Q ds m' := wq_iEnu f Q
@[simp ↓] theorem kp_iRg1 (f : Co (List D)) (Q : List D → M → Prop) : WP (iRg1' f) m Q ↔ WP f m fun d m' => optK (rg1 d) fun ds => Q ds m' := wq_iRg1 f Q
@[simp ↓] theorem kp_iRg2 (f : Co (List D)) (Q : List D → M → Prop) : WP (iRg2' f) m Q ↔ WP f m fun d m' => optK (rg2 d) fun ds => Q ds m' := wq_iRg2 f Q
@[simp ↓] theorem kp_eSl (g : Co Opd) (lo hi : Co (Option Int)) (Q : D → M → Prop) : WP (eSl g lo hi) m Q ↔ WP g m fun o m1 => WP lo m1 fun l m2 => WP hi m2 fun h m3 => optK (o.get m3) fun d1 => optK (slD d1 l h) fun d => Q d m3 := wq_eSl g lo hi Q
@[simp ↓] theorem kp_ePart (f : Co D) (Q : Option Int → M → Prop) : WP (ePart f) m Q ↔ WP f m fun d m' => intK d fun i => Q (some i) m' := wq_ePart f Q
@[simp ↓] theorem kp_asL (f : Co D) (Q : D → M → Prop) : WP (asL f) m Q ↔ WP f m fun d m' => lstK d fun ds => Q (.lst ds) m' := wq_asL f Q
@[simp ↓] theorem kp_rR1 (f : Co D) (Q : Int × Int → M → Prop) : WP (rR1 f) m Q ↔ WP f m fun d m' => intK d fun i => Q (0, i) m' := wq_rR1 f Q
@[simp ↓] theorem kp_rR2 (f g : Co D) (Q : Int × Int → M → Prop) : WP (rR2 f g) m Q ↔ WP f m fun d m1 => intK d fun i => WP g m1 fun d m' => intK d fun j => Q (i, j) m' := wq_rR2 f g Q
@[simp ↓] theorem kp_eLRg (r : Co (Int × Int)) (Q : D → M → Prop) : WP (eLRg r) m Q ↔ WP r m fun ij m' => RgOk ij.1 ij.2 ∧ Q (.lst (rgD ij.1 ij.2)) m' := wq_eLRg r Q
@[simp ↓] theorem kp_eTRg (r : Co (Int × Int)) (Q : D → M → Prop) : WP (eTRg r) m Q ↔ WP r m fun ij m' => RgOk ij.1 ij.2 ∧ Q (.tup (rgD ij.1 ij.2)) m' := wq_eTRg r Q
@[simp ↓] theorem kp_sMove (i j : Nat) (Q : Flow' → M → Prop) : WP (sMove i j) m Q ↔ owK m.env[j]? fun d => (i < m.env.length ∧ i ≠ j) ∧ stK ⟨(m.env.set j .un).set i (.ow d), m.obs⟩ fun m2 => Q .nx m2 := wq_sMove i j Q
@[simp ↓] theorem kp_sRetOw (i : Nat) (Q : Flow' → M → Prop) : WP (sRetOw i) m Q ↔ owK m.env[i]? fun d => stK ⟨m.env.set i .un, m.obs⟩ fun m2 => Q (.rf d) m2 := wq_sRetOw i Q
def olK (o : Option D) (k : List D → Prop) (t : Tie k k := ⟨⟩) : Prop := ∃ ds, o = some (.lst ds) ∧ k ds
@[simp] theorem olK_lst (as : List D) (k : List D → Prop) : olK (some (.lst as)) k ↔ k as := ⟨fun ⟨_, e, q⟩ => by cases e; exact q, fun q => ⟨as, rfl, q⟩⟩
def solK (o : Option Slot) (k : List D → Prop) (t : Tie k k := ⟨⟩) : Prop := ∃ ds, o = some (.ow (.lst ds)) ∧ k ds
@[simp] theorem solK_lst (as : List D) (k : List D → Prop) : solK (some (.ow (.lst as))) k ↔ k as := ⟨fun ⟨_, e, q⟩ => by cases e; exact q, fun q => ⟨as, rfl, q⟩⟩
@[simp ↓] theorem kp_isLst (g : Co Opd) (Q : Opd → M → Prop) : WP (isLst g) m Q ↔ WP g m fun o m' => olK (o.get m') fun _ => Q o m' := (wq_isLst g Q).trans ⟨fun h => WQ.mono h fun _ _ ⟨ds, a, b⟩ => ⟨ds, a, b⟩, fun h => WQ.mono h fun _ _ ⟨ds, a, b⟩ => ⟨ds, a, b⟩⟩
@[simp ↓] theorem kp_updO_slot (i : Nat) (h : List D → Option (List D)) (Q : Unit → M → Prop) : WP (updO (.slot i) h) m Q ↔ solK m.env[i]? fun ds => optK (h ds) fun ds' => stK ⟨m.env.set i (.ow (.lst ds')), m.obs⟩ fun m2 => Q () m2 := wq_updO_slot i h Q
@[simp ↓] theorem kp_eAppend (g : Co Opd) (f : Co D) (Q : D → M → Prop) : WP (eAppend g f) m Q ↔ WP g m fun o m1 => olK (o.get m1) fun _ => WP f m1 fun d m2 => WP (updO o fun ds => if ds.length < sizeLine then some (ds ++ [d]) else none) m2 fun _ m3 => Q .non m3 := wq_eAppend g f Q
@[simp ↓] theorem kp_pCons (fk fv : Co D) (r : Co (List (Key × D))) (Q : List (Key × D) → M → Prop) : WP (pCons fk fv r) m Q ↔ WP fk m fun dk m1 => optK (keyD dk) fun k => WP fv m1 fun v m2 => WP r m2 fun t m3 => Q ((k, v) :: t) m3 := wq_pCons fk fv r Q
@[simp ↓] theorem kp_eDisp (f : Co (List (Key × D))) (Q : D → M → Prop) : WP (eDisp f) m Q ↔ WP f m fun kds m' => kds.length ≤ 15 ∧ Q (.dk (mergeD kds)) m' := wq_eDisp f Q
end
@[simp] theorem le_size (n : Nat) (h : n ≤ 1000000) : n ≤ sizeLine := Nat.le_trans h (by rw [sizeLine_eq]; decide)
@[simp] theorem lt_size (n : Nat) (h : n ≤ 1000000) : n < sizeLine := Nat.lt_of_le_of_lt h (by rw [sizeLine_eq]; decide)
end PD
namespace PD
open PySem PySem.Spec PyProof.Rows L2
theorem wp_rg0 {t : Bool} {is : List Nat} {b : Co Flow'} {Q : Flow' → M → Prop} (n : Nat) (I : Nat → M → Prop) {m : M} (h0 : I 0 m)
    (hs : ∀ (k : Nat) (m : M), k < n → I k m → ∃ env, setTg t is (.int k) m.env = some env ∧ WP b ⟨env, m.obs⟩ (Turn Q (I (k + 1))))
    (hq : ∀ m, I n m → Q .nx m) : WP (forL t is b (rgD 0 n)) m Q := by
  have := wq_rg (t := t) (is := is) (b := b) (Q := Q) 0 n I h0 (fun k m h i => by rw [Int.zero_add]; exact hs k m h i) hq
  rw [Int.zero_add] at this
  exact this
theorem rg1_nat {n : Nat} (h : n ≤ 1000000) : rg1 [.int n] = some (rgD 0 n) := C.rg1_int (by omega)
end PD
namespace PD
open PySem PySem.Spec PyProof.Rows L2
theorem wq_sSetOb {m : M} (i : Nat) (f : Co D) (Q : Flow' → M → Prop) : WQ (sSetOb i f) m Q ↔ WQ f m fun d m' => ∃ ds, d = .lst ds ∧ Q .nx ⟨m'.env.set i (.pl (.obj m'.obs.length)), m'.obs ++ [ds]⟩ := by
  unfold sSetOb
  rw [wq_bind]
  refine ⟨fun h => WQ.mono h fun ds m1 q => ?_, fun h => WQ.mono h fun ds m1 q => ?_⟩
  · obtain ⟨a, m2, e, q⟩ := q
    try dsimp only at e
    split at e
    · cases e; exact ⟨_, rfl, q⟩
    · cases e
  · obtain ⟨ds, rfl, q⟩ := q
    exact ⟨_, _, rfl, q⟩
@[simp ↓] theorem kp_sSetOb {m : M} (i : Nat) (f : Co D) (Q : Flow' → M → Prop) : WP (sSetOb i f) m Q ↔ WP f m fun d m' => lstK d fun ds => stK ⟨m'.env.set i (.pl (.obj m'.obs.length)), m'.obs ++ [ds]⟩ fun m2 => Q .nx m2 := wq_sSetOb i f Q
theorem FP_taken {ns : List Int} {a b c many : Int} {Q : D → List (List D) → Prop} (r : C.RowOk a b) (h0 : 0 < many) (hm : many ≤ 100000) (h : ∀ (v : Nat) (a' b' c' : Int), C.RowOk a' b' → (v : Int) < many → Q (.int v) [C.rowD ns a' b' c']) :
    FP C.F__law_taken [.obj 0, .int many] [C.rowD ns a b c] Q := by
  obtain ⟨v, a', b', c', ht, r', h1, h2⟩ := C.F__law_taken_q ns (c := c) r h0 hm
  obtain ⟨n, rfl⟩ := Int.eq_ofNat_of_zero_le h1
  exact ⟨_, _, ht, h n a' b' c' r' h2⟩
theorem FP_taken0 {ns : List Int} {a b c many : Int} {Q : D → List (List D) → Prop} (r : C.RowOk a b) (h0 : 0 < many) (hm : many ≤ 100000) (h : ∀ (v : Nat) (a' b' c' : Int), C.RowOk a' b' → (v : Int) < many → Q (.int v) [C.rowD ns a' b' c']) :
    FP C.F__law_taken [.obj 0, .int many] [[.scr ns, .int a, .int b, .int c]] Q := FP_taken r h0 hm h
end PD
namespace C
open PySem PySem.Spec PyProof.Rows L2 PD

/-! ### need_lines -/
theorem zip_natD (l k : List Nat) : zipD [.tup (natD l), .tup (natD k)] = some ((l.zip k).map fun (p : Nat × Nat) => D.tup [.int p.1, .int p.2]) := by
  show some _ = _
  congr 1
  unfold natD
  rw [List.zip_map, List.map_map]
  rfl
theorem sl_natD_tl (l : List Nat) : slD (.tup (natD l)) (some 1) none = some (.tup (natD l.tail)) := by
  have h1 := sl_tup_lo (natD l) 1
  rw [show (1 : Int) = ((1 : Nat) : Int) from rfl, h1]
  congr 2
  unfold natD
  rw [← List.map_drop]
  simp
theorem F_need_lines_q {r c : Nat} {ls : List Nat} (hl : ∀ l ∈ ls, l < r + c) (hz : ls.length ≤ 1000) (hs : ∀ p ∈ ls.zip ls.tail, p.1 < p.2) (obs : List (List D)) : F_need_lines [.int r, .int c, .tup (natD ls)] obs = some (.non, obs) := by
  refine FP.eq (run_wp rfl ?_)
  have hz' := size_le hz
  unfold b_need_lines
  simp
  refine wp_lcm (fun (n : Nat) => D.int n) (fun (n : Nat) => .bl true) ls (by simp [natD]) rfl hz' (fun x hx => ⟨_, rfl, rfl, rfl, ?_⟩) ?_
  · have := hl x hx
    have h : 0 ≤ (x : Int) ∧ (x : Int) ≤ (r : Int) + c - 1 := by omega
    have h2 := F_is_in_q x 0 ((r : Int) + c - 1) obs
    rw [decide_eq_true h] at h2
    simp [FP_of h2]
  simp
  refine wp_lcm (fun (p : Nat × Nat) => D.tup [.int p.1, .int p.2]) (fun p => .bl true) (ls.zip ls.tail) ?_ rfl ?_ (fun x hx => ⟨_, rfl, rfl, rfl, by simp [hs x hx]⟩) ?_
  · simp [sl_natD_tl, zip_natD]
  · rw [List.length_zip]
    exact Nat.le_trans (Nat.min_le_left _ _) hz'
  · simp
theorem in_tup_nat (i : Nat) (l : List Nat) : inU (.int i) (.tup (natD l)) = some (.bl (l.contains i)) := by
  have h1 : (natD l).all D.flat = true := by
    rw [List.all_eq_true]
    intro d hd
    obtain ⟨n, _, rfl⟩ := List.mem_map.mp hd
    rfl
  have h2 : ((natD l).any fun y => D.eqF y (.int i)) = l.contains i := by
    unfold natD
    rw [List.any_map, List.contains_eq_any_beq]
    congr 1
    funext n
    show ((n : Int) == (i : Int)) = (i == n)
    rw [beq_dec, beq_dec]
    by_cases h : i = n
    · subst h; simp
    · rw [decide_eq_false h, decide_eq_false (by omega)]
  rw [inU_tup]
  show (inFlat (.int i) (natD l)).map _ = _
  unfold inFlat
  rw [h1]
  show (some ((natD l).any fun y => D.eqF y (.int i))).map _ = _
  rw [h2]
  rfl
section
variable {w : Int} {R C : Nat} {ws : List Int} {os ps : List Nat}
theorem F_ahead_q (hR : 1 ≤ R ∧ R ≤ 12) (hC : 1 ≤ C ∧ C ≤ 12) (hw : ∀ x ∈ ws, x = w) (h0 : 1 ≤ w ∧ w ≤ 1000) (hl : ws.length = R + C) (ho : ∀ l ∈ os, l < R + C) (hp : ∀ l ∈ ps, l < R + C) (hoz : os.length ≤ 23) (hpz : ps.length ≤ 23)
    (so : ∀ p ∈ os.zip os.tail, p.1 < p.2) (sp : ∀ p ∈ ps.zip ps.tail, p.1 < p.2) (hd : ∀ l ∈ os, l ∉ ps) (obs : List (List D)) :
    F_ahead [.int R, .int C, .tup (ws.map D.int), .tup (natD os), .tup (natD ps)] obs = some (cf (aheadQ os.length ps.length), obs) := by
  have h1 := F_need_weights_q (r := R) (c := C) (ws := ws) (by omega) (by omega) (by omega) (fun x hx => by rw [hw x hx]; exact h0) obs
  have h2 := F_need_lines_q (r := R) (c := C) ho (by omega) so obs
  have h3 := F_need_lines_q (r := R) (c := C) hp (by omega) sp obs
  have h4 := ahead_nat (one := .tup (natD os)) (other := .tup (natD ps)) rfl rfl hw (by omega) (by omega) (by rw [hl]; exact ho) (by rw [hl]; exact hp) hoz hpz obs
  refine FP.eq (run_wp rfl ?_)
  unfold b_ahead
  simp [FP_of h1, FP_of h2, FP_of h3]
  refine wp_lcm (fun (n : Nat) => D.int n) (fun (n : Nat) => .bl false) os (by simp [natD]) rfl (size_le (by omega)) (fun x hx => ⟨_, rfl, rfl, rfl, by simp [in_tup_nat, hd x hx]⟩) ?_
  simp [FP_of h4]
theorem ix_last {l : List Nat} {n : Nat} (h : l.getLast? = some n) : subD' (.tup (natD l)) (.int (-1)) = some (.int n) := by
  show atI (natD l) (-1) = _
  unfold atI ixN
  rw [if_neg (by omega)]
  have hl : l ≠ [] := fun e => by rw [e] at h; cases h
  have h1 : 0 < l.length := List.length_pos_iff.mpr hl
  rw [natD_len, if_pos (by omega)]
  have e : (-1 + (l.length : Int)).toNat = l.length - 1 := by omega
  unfold natD
  rw [List.getLast?_eq_getElem?] at h
  rw [e]
  show (List.map (fun (n : Nat) => D.int (n : Int)) l)[l.length - 1]? = _
  rw [List.getElem?_map, h]
  rfl
theorem ix_head {l : List Nat} {n : Nat} (h : l.head? = some n) : subD' (.tup (natD l)) (.int 0) = some (.int n) := by
  cases l with
  | nil => cases h
  | cons a l =>
    cases h
    exact subD'_tup0 _ _
theorem eqB_tints (ns ms : List Int) : eqB (.tup (ns.map D.int)) (.tup (ms.map D.int)) = some (decide (ns = ms)) := by
  rw [eqB_of (p := .tuple (ns.map .int)) (q := .tuple (ms.map .int)) (by show (D.toPs _).map _ = _; rw [toPs_ints]; rfl) (by show (D.toPs _).map _ = _; rw [toPs_ints]; rfl) (lay_ints ns) (lay_ints ms)
    (by show PyData.depthAll _ + 1 ≤ 64; rw [depth_ints]; decide) (by show PyData.depthAll _ + 1 ≤ 64; rw [depth_ints]; decide)]
  show some (PyData.eqvAll _ _) = _
  rw [eqvAll_ints]
theorem eq_natT_nil {l : List Nat} (h : l ≠ []) : eqD (.tup (natD l)) (.tup []) = some (.bl false) := by
  unfold eqD
  rw [natD_ints, show D.tup [] = .tup (([] : List Int).map D.int) from rfl, eqB_tints, decide_eq_false (by simpa using h)]
  rfl
theorem F_part_share_q (hR : 1 ≤ R ∧ R ≤ 12) (hC : 1 ≤ C ∧ C ≤ 12) (hw : ∀ x ∈ ws, x = w) (h0 : 1 ≤ w ∧ w ≤ 1000) (hl : ws.length = R + C) (ho : ∀ l ∈ os, l < R) (hp : ∀ l ∈ ps, R ≤ l ∧ l < R + C) (hoz : os.length ≤ 23) (hpz : ps.length ≤ 23)
    (so : ∀ p ∈ os.zip os.tail, p.1 < p.2) (sp : ∀ p ∈ ps.zip ps.tail, p.1 < p.2) (ho0 : os ≠ []) (hp0 : ps ≠ []) (obs : List (List D)) :
    F_part_share [.int R, .int C, .tup (ws.map D.int), .tup (natD os), .tup (natD ps)] obs = some (.tup [cf (aheadQ os.length ps.length), cf (aheadQ ps.length os.length)], obs) := by
  have ho' : ∀ l ∈ os, l < R + C := fun l h => by have := ho l h; omega
  have hp' : ∀ l ∈ ps, l < R + C := fun l h => (hp l h).2
  have h1 := F_need_weights_q (r := R) (c := C) (ws := ws) (by omega) (by omega) (by omega) (fun x hx => by rw [hw x hx]; exact h0) obs
  have h2 := F_need_lines_q (r := R) (c := C) ho' (by omega) so obs
  have h3 := F_need_lines_q (r := R) (c := C) hp' (by omega) sp obs
  have h4 := ahead_nat (one := .tup (natD os)) (other := .tup (natD ps)) rfl rfl hw (by omega) (by omega) (by rw [hl]; exact ho') (by rw [hl]; exact hp') hoz hpz obs
  have h5 := ahead_nat (one := .tup (natD ps)) (other := .tup (natD os)) rfl rfl hw (by omega) (by omega) (by rw [hl]; exact hp') (by rw [hl]; exact ho') hpz hoz obs
  have h6 := ix_last (List.getLast?_eq_some_getLast ho0)
  have h7 := ix_head (List.head?_eq_some_head hp0)
  have h8 := ho _ (List.getLast_mem ho0)
  have h9 := (hp _ (List.head_mem hp0)).1
  refine FP.eq (run_wp rfl ?_)
  have h10 : ¬ ((R : Int) ≤ (os.getLast ho0 : Nat)) := by omega
  have h11 : ¬ (((ps.head hp0 : Nat) : Int) < R) := by omega
  unfold b_part_share
  simp [FP_of h1, FP_of h2, FP_of h3, FP_of h4, FP_of h5, eq_natT_nil ho0, eq_natT_nil hp0, h6, h7, h10, h11, negD, two_le]
end
end C
namespace C
open PySem PySem.Spec PyProof.Rows L2 PD

theorem sz_small {n : Int} {d : Nat} (hd : 0 < d) (hn : n.natAbs < 2 ^ 60) (hz : d < 2 ^ 60) : Sz 4000 ((n : Rat) / (((d : Nat) : Int) : Rat)) := (Sz.of hd hn hz).mono (by decide)
theorem rat_i {n m : Int} : ((n : Rat) = (m : Rat)) ↔ n = m := Rat.intCast_inj
theorem rne {n : Int} (h : n ≠ 0) : (n : Rat) ≠ 0 := fun e => h (rat_i.mp (e.trans (by rfl)))
/-- lowered of w and k w -/
theorem low_k {w : Int} (h0 : 1 ≤ w ∧ w ≤ 1000) {k : Nat} (hk : 0 < k) (hk2 : k ≤ 100) (obs : List (List D)) : F_lowered [.int w, .int (k * w)] obs = some (cf (1 / (((k : Nat) : Int) : Rat)), obs) := by
  have h1 : (0 : Int) < k * w := Int.mul_pos (by omega) (by omega)
  have h2 : (k : Int) * w ≤ 100 * 1000 := Int.mul_le_mul (by omega) h0.2 (by omega) (by omega)
  have h := F_lowered_q (n := w) h1 (Nat.lt_of_lt_of_le (by omega : ((k : Int) * w).natAbs < 2 ^ 20) (Nat.pow_le_pow_right (by decide) (by decide))) obs
  rw [h]
  congr 3
  rw [Rat.intCast_mul]
  have := rne (n := w) (by omega)
  have := rne (n := (k : Int)) (by omega)
  grind
theorem sz_inv {k : Nat} (hk : 0 < k) (hk2 : k ≤ 100) : Sz 4000 (1 / (((k : Nat) : Int) : Rat)) := by
  have := sz_small (n := 1) (d := k) hk (by decide) (by omega)
  exact this
theorem F_over_rest_q {w : Int} (h0 : 1 ≤ w ∧ w ≤ 1000) (obs : List (List D)) : F_over_rest [.int w, .int w, .int w, .int (3 * w)] obs = some (cf (1 / 2), obs) := by
  have a1 : F_lowered [.int w, .int (3 * w)] obs = some (cf (1 / 3), obs) := low_k h0 (k := 3) (by decide) (by decide) obs
  have a2 : F_lowered [.int w, .int (2 * w)] obs = some (cf (1 / 2), obs) := low_k h0 (k := 2) (by decide) (by decide) obs
  have s2 : Sz 4000 (1 / 2) := sz_inv (k := 2) (by decide) (by decide)
  have s3 : Sz 4000 (1 / 3) := sz_inv (k := 3) (by decide) (by decide)
  have s6 : Sz 4000 (1 / 6) := sz_inv (k := 6) (by decide) (by decide)
  have a3 := F_times_q s3 s2 obs
  rw [show (1 / 3 * (1 / 2) : Rat) = 1 / 6 by grind] at a3
  have a4 := F_plus_q s3 s6 obs
  rw [show (1 / 3 + 1 / 6 : Rat) = 1 / 2 by grind] at a4
  have e : w + w = 2 * w := by omega
  generalize cf (1 / 3) = q3 at *
  generalize cf (1 / 6) = q6 at *
  generalize cf (1 / 2) = q2 at *
  refine FP.eq (run_wp rfl ?_)
  unfold b_over_rest
  simp [FP_of a1, e, FP_of a2, FP_of a3, FP_of a4]
theorem sorted2 (a b : Int) (v : D) : sortedID [.dk (mergeD [(Sum.inl a, v), (Sum.inl b, v)])] = some (.lst ((sortI (if a = b then [a] else [a, b])).map D.int)) := by
  by_cases h : a = b
  · subst h
    rw [if_pos rfl]
    have e : mergeD [((Sum.inl a : Key), v), (Sum.inl a, v)] = [(Sum.inl a, v)] := by
      unfold mergeD putD
      simp
    rw [e]
    rfl
  · rw [if_neg h]
    have e : mergeD [((Sum.inl a : Key), v), (Sum.inl b, v)] = [(Sum.inl a, v), (Sum.inl b, v)] := by
      unfold mergeD putD
      simp [h]
    rw [e]
    rfl
def bothN (x y : Nat × Nat) : Nat := if x.1 = y.1 then (if x.2 = y.2 then 6 else 4) else if x.2 = y.2 then 4 else 3
theorem insI_len (x : Int) : ∀ l, (insI x l).length = l.length + 1
  | [] => rfl
  | y :: l => by
    unfold insI
    split
    · rfl
    · rw [List.length_cons, insI_len x l]; rfl
theorem sortI_len : ∀ l : List Int, (sortI l).length = l.length
  | [] => rfl
  | x :: l => by
    show (insI x (sortI l)).length = _
    rw [insI_len, sortI_len l]; rfl
theorem mem_sortI {l : List Int} {x : Int} : x ∈ sortI l ↔ x ∈ l := (sortI_perm l).mem_iff
def pairD (x : Nat × Nat) : D := .tup [.int x.1, .int x.2]
theorem pairD_0 (x : Nat × Nat) : subD' (pairD x) (.int 0) = some (.int x.1) := subD'_tup0 _ _
theorem pairD_1 (x : Nat × Nat) : subD' (pairD x) (.int 1) = some (.int x.2) := subD'_tup1 _ _ _
theorem get_pair (m : M) (x : Nat × Nat) : Opd.get m (.val (pairD x)) = some (pairD x) := by unfold pairD; exact Eq.refl _
theorem F_both_of_q {w : Int} {R C : Nat} {ws : List Int} (hw : ∀ x ∈ ws, x = w) (h0 : 1 ≤ w ∧ w ≤ 1000) (hl : ws.length = R + C) {x y : Nat × Nat} (h1 : x.1 < R ∧ x.2 < C) (h2 : y.1 < R ∧ y.2 < C) (obs : List (List D)) :
    F_both_of [.int R, .tup (ws.map D.int), pairD x, pairD y] obs = some (cf ((((bothN x y : Nat) : Int) : Rat) / 12), obs) := by
  have ix : ∀ i : Int, 0 ≤ i → i < R + C → subD' (.tup (ws.map D.int)) (.int i) = some (.int w) := fun i a b => ix_even hw a (by omega)
  have x1 := ix x.1 (by omega) (by omega)
  have x2 := ix (R + x.2) (by omega) (by omega)
  have y1 := ix y.1 (by omega) (by omega)
  have y2 := ix (R + y.2) (by omega) (by omega)
  have s1 := sorted2 (x.1 : Int) y.1 (.bl true)
  have s2 := sorted2 ((R : Int) + x.2) (R + y.2) (.bl true)
  generalize hA : sortI (if (x.1 : Int) = y.1 then [(x.1 : Int)] else [(x.1 : Int), y.1]) = A at s1
  generalize hB : sortI (if (R : Int) + x.2 = R + y.2 then [(R : Int) + x.2] else [(R : Int) + x.2, R + y.2]) = B at s2
  have lA : A.length = if x.1 = y.1 then 1 else 2 := by
    rw [← hA, sortI_len]
    by_cases e : x.1 = y.1
    · rw [if_pos e, if_pos (by omega)]; rfl
    · rw [if_neg e, if_neg (by omega)]; rfl
  have lB : B.length = if x.2 = y.2 then 1 else 2 := by
    rw [← hB, sortI_len]
    by_cases e : x.2 = y.2
    · rw [if_pos e, if_pos (by omega)]; rfl
    · rw [if_neg e, if_neg (by omega)]; rfl
  have mA : ∀ l ∈ A, 0 ≤ l ∧ l < ws.length := fun l h => by
    rw [← hA, mem_sortI] at h
    split at h <;> simp at h <;> omega
  have mB : ∀ l ∈ B, 0 ≤ l ∧ l < ws.length := fun l h => by
    rw [← hB, mem_sortI] at h
    split at h <;> simp at h <;> omega
  have a0 := F_ahead_of_even (os := A) (ps := B) (one := .lst (A.map D.int)) (other := .lst (B.map D.int)) rfl rfl hw (by omega) (by omega) mA mB (by rw [lA]; split <;> decide) (by rw [lB]; split <;> decide) obs
  have a1 : F_lowered [.int w, .int (4 * w)] obs = some (cf (1 / 4), obs) := low_k h0 (k := 4) (by decide) (by decide) obs
  have a2 := F_over_rest_q h0 obs
  have s2' : Sz 4000 (1 / 2) := sz_inv (k := 2) (by decide) (by decide)
  have s4 : Sz 4000 (1 / 4) := sz_inv (k := 4) (by decide) (by decide)
  have s8 : Sz 4000 (1 / 8) := sz_inv (k := 8) (by decide) (by decide)
  have a3 := F_times_q s4 s2' obs
  rw [show (1 / 4 * (1 / 2) : Rat) = 1 / 8 by grind] at a3
  have a4 := F_plus_q s8 s8 obs
  rw [show (1 / 8 + 1 / 8 : Rat) = 1 / 4 by grind] at a4
  have e4 : w + w + w + w = 4 * w := by omega
  have e3 : 4 * w - w = 3 * w := by omega
  have hval : ¬ (x.1 = y.1 ∨ x.2 = y.2) → ((((bothN x y : Nat) : Int) : Rat) / 12) = 1 / 4 := fun h => by
    have : bothN x y = 3 := by
      unfold bothN
      rw [if_neg (fun e => h (.inl e)), if_neg (fun e => h (.inr e))]
    rw [this]
    show (3 : Rat) / 12 = 1 / 4
    grind
  have hval2 : (x.1 = y.1 ∨ x.2 = y.2) → (if B.length = 0 then (1 : Rat) else aheadQ A.length B.length) = ((((bothN x y : Nat) : Int) : Rat) / 12) := fun h => by
    rw [lA, lB]
    unfold bothN
    by_cases e1 : x.1 = y.1
    · by_cases e2 : x.2 = y.2
      · rw [if_pos e1, if_pos e2, if_pos e1, if_pos e2, if_neg (by decide)]
        show (1 : Rat) * 1 / 2 = 6 / 12
        grind
      · rw [if_pos e1, if_neg e2, if_pos e1, if_neg e2, if_neg (by decide)]
        show (1 : Rat) * 2 / 6 = 4 / 12
        grind
    · have e2 : x.2 = y.2 := h.resolve_left e1
      rw [if_neg e1, if_pos e2, if_neg e1, if_pos e2, if_neg (by decide)]
      show (2 : Rat) * 1 / 6 = 4 / 12
      grind
  refine FP.eq (run_wp rfl ?_)
  by_cases hb : x.1 = y.1 ∨ x.2 = y.2
  · rw [hval2 hb] at a0
    have hlt : (A.length : Int) < 2 ∨ (B.length : Int) < 2 := by
      rcases hb with e | e
      · left; rw [lA, if_pos e]; decide
      · right; rw [lB, if_pos e]; decide
    generalize cf ((((bothN x y : Nat) : Int) : Rat) / 12) = q at *
    by_cases h3 : (A.length : Int) < 2
    · unfold b_both_of
      simp [get_pair, pairD_0, pairD_1, s1, s2, h3, FP_of a0]
    · have h4 := hlt.resolve_left h3
      unfold b_both_of
      simp [get_pair, pairD_0, pairD_1, s1, s2, h3, h4, FP_of a0]
  · rw [hval hb]
    have h3 : ¬ (A.length : Int) < 2 := by rw [lA, if_neg (fun e => hb (.inl e))]; decide
    have h4 : ¬ (B.length : Int) < 2 := by rw [lB, if_neg (fun e => hb (.inr e))]; decide
    generalize cf (1 / 2) = q2 at *
    generalize cf (1 / 8) = q8 at *
    generalize cf (1 / 4) = q4 at *
    unfold b_both_of
    simp [get_pair, pairD_0, pairD_1, s1, s2, h3, h4, x1, x2, y1, y2, e4, e3, FP_of a1, FP_of a2, FP_of a3, FP_of a4]
/-- the first two of both -/
theorem F_both_share_q {w : Int} {R C : Nat} {ws : List Int} (hR : 1 ≤ R ∧ R ≤ 12) (hC : 1 ≤ C ∧ C ≤ 12) (hw : ∀ x ∈ ws, x = w) (h0 : 1 ≤ w ∧ w ≤ 1000) (hl : ws.length = R + C) {x y : Nat × Nat} (h1 : x.1 < R ∧ x.2 < C) (h2 : y.1 < R ∧ y.2 < C) (obs : List (List D)) :
    F_both_share [.int R, .int C, .tup (ws.map D.int), pairD x, pairD y] obs = some (cf ((((bothN x y : Nat) : Int) : Rat) / 12), obs) := by
  have a1 := F_need_weights_q (r := R) (c := C) (ws := ws) (by omega) (by omega) (by omega) (fun x hx => by rw [hw x hx]; exact h0) obs
  have a2 : F_need_cell [.int R, .int C, pairD x] obs = _ := F_need_cell_q (r := R) (c := C) (i := x.1) (j := x.2) (by omega) (by omega) obs
  have a3 : F_need_cell [.int R, .int C, pairD y] obs = _ := F_need_cell_q (r := R) (c := C) (i := y.1) (j := y.2) (by omega) (by omega) obs
  have a4 := F_both_of_q hw h0 hl h1 h2 obs
  refine FP.eq (run_wp rfl ?_)
  unfold b_both_share
  simp [FP_of a1, FP_of a2, FP_of a3, FP_of a4]
end C
namespace C
open PySem PySem.Spec PyProof.Rows L2 PD

/-! ### sums over cells -/
def cellsL (R C : Nat) : List (Nat × Nat) := (List.range R).flatMap fun i => (List.range C).map fun j => (i, j)
theorem mem_cells {R C : Nat} {x : Nat × Nat} : x ∈ cellsL R C ↔ x.1 < R ∧ x.2 < C := by
  unfold cellsL
  rw [List.mem_flatMap]
  constructor
  · rintro ⟨i, hi, hx⟩
    obtain ⟨j, hj, rfl⟩ := List.mem_map.mp hx
    exact ⟨List.mem_range.mp hi, List.mem_range.mp hj⟩
  · rintro ⟨h1, h2⟩
    exact ⟨x.1, List.mem_range.mpr h1, List.mem_map.mpr ⟨x.2, List.mem_range.mpr h2, rfl⟩⟩
theorem cells_succ (R C : Nat) : cellsL (R + 1) C = cellsL R C ++ (List.range C).map fun j => (R, j) := by
  unfold cellsL
  rw [List.range_succ, List.flatMap_append]
  simp
theorem cells_len (R C : Nat) : (cellsL R C).length = R * C := by
  induction R with
  | zero => simp [cellsL]
  | succ R ih => rw [cells_succ, List.length_append, ih, List.length_map, List.length_range, Nat.succ_mul]
theorem sum_ite {a b : Nat} : ∀ (C j : Nat), ((List.range C).map fun l => if j = l then a else b).sum + (if j < C then b else 0) = (if j < C then a else 0) + b * C
  | 0, j => by simp
  | C + 1, j => by
    have ih := sum_ite (a := a) (b := b) C j
    rw [List.range_succ, List.map_append, List.sum_append]
    simp only [List.map_cons, List.map_nil, List.sum_cons, List.sum_nil, Nat.mul_succ]
    rcases Nat.lt_trichotomy j C with h | h | h
    · have e1 : j < C + 1 := by omega
      have e2 : ¬ j = C := by omega
      simp only [h, e1, e2, if_true, if_false] at ih ⊢
      omega
    · have e1 : j < C + 1 := by omega
      have e2 : ¬ j < C := by omega
      simp only [h, e1, e2, if_true, if_false, Nat.lt_irrefl, Nat.lt_succ_self] at ih ⊢
      omega
    · have e1 : ¬ j < C + 1 := by omega
      have e2 : ¬ j < C := by omega
      have e3 : ¬ j = C := by omega
      simp only [e1, e2, e3, if_true, if_false] at ih ⊢
      omega
theorem sum_cells (g : Nat × Nat → Nat) (C : Nat) : ∀ R, ((cellsL R C).map g).sum = ((List.range R).map fun i => ((List.range C).map fun j => g (i, j)).sum).sum
  | 0 => rfl
  | R + 1 => by
    rw [cells_succ, List.map_append, List.sum_append, sum_cells g C R, List.range_succ, List.map_append, List.sum_append, List.map_map]
    simp
    rfl
def bothRow (R C : Nat) : Nat := 6 + 4 * (C - 1) + (4 + 3 * (C - 1)) * (R - 1)
theorem both_row {R C : Nat} {x : Nat × Nat} (h : x.1 < R ∧ x.2 < C) : ((cellsL R C).map (bothN x)).sum = bothRow R C := by
  rw [sum_cells]
  have e : ((List.range R).map fun i => ((List.range C).map fun j => bothN x (i, j)).sum) = (List.range R).map fun i => if x.1 = i then 6 + 4 * (C - 1) else 4 + 3 * (C - 1) := by
    refine List.map_congr_left fun i _ => ?_
    by_cases e1 : x.1 = i
    · rw [if_pos e1]
      have h2 := sum_ite (a := 6) (b := 4) C x.2
      rw [if_pos h.2, if_pos h.2] at h2
      have : ((List.range C).map fun j => bothN x (i, j)) = (List.range C).map fun l => if x.2 = l then 6 else 4 := List.map_congr_left fun j _ => by unfold bothN; rw [if_pos e1]
      rw [this]
      omega
    · rw [if_neg e1]
      have h2 := sum_ite (a := 4) (b := 3) C x.2
      rw [if_pos h.2, if_pos h.2] at h2
      have : ((List.range C).map fun j => bothN x (i, j)) = (List.range C).map fun l => if x.2 = l then 4 else 3 := List.map_congr_left fun j _ => by unfold bothN; rw [if_neg e1]
      rw [this]
      omega
  rw [e]
  have h2 := sum_ite (a := 6 + 4 * (C - 1)) (b := 4 + 3 * (C - 1)) R x.1
  rw [if_pos h.1, if_pos h.1] at h2
  obtain ⟨r, rfl⟩ : ∃ r, R = r + 1 := ⟨R - 1, by omega⟩
  unfold bothRow
  rw [Nat.add_sub_cancel] at *
  rw [Nat.mul_succ] at h2
  omega
/-! ### mean_black -/
theorem sz_12 {n : Nat} (h : n < 2 ^ 40) : Sz 4000 (((n : Nat) : Int) / 12 : Rat) := sz_small (n := n) (d := 12) (by decide) (by rw [Int.natAbs_natCast]; exact Nat.lt_trans h (by decide)) (by decide)
theorem sz_2 {n : Nat} (h : n < 2 ^ 40) : Sz 4000 (((n : Nat) : Int) / 2 : Rat) := sz_small (n := n) (d := 2) (by decide) (by rw [Int.natAbs_natCast]; exact Nat.lt_trans h (by decide)) (by decide)
theorem add_div {a b : Nat} {c : Rat} : (((a : Nat) : Int) : Rat) / c + (((b : Nat) : Int) : Rat) / c = (((a + b : Nat) : Int) : Rat) / c := by
  rw [Int.natCast_add, Rat.intCast_add, Rat.div_def, Rat.div_def, Rat.div_def, Rat.add_mul]
def hf (n : Nat) : D := cf (((n : Nat) : Int) / 2 : Rat)
@[simp] theorem get_hf (m : M) (n : Nat) : Opd.get m (.val (hf n)) = some (hf n) := by unfold hf; exact get_cf _ _
theorem hf_0 : D.tup [.int 0, .int 1] = hf 0 := by
  rw [cf_zero]
  unfold hf
  congr 1
  show (0 : Rat) = 0 / 2
  grind
theorem F_plus_half {n : Nat} (h : n < 2 ^ 40) (obs : List (List D)) : F_plus [hf n, cf (1 / 2)] obs = some (hf (n + 1), obs) := by
  have s2 : Sz 4000 (1 / 2) := sz_inv (k := 2) (by decide) (by decide)
  have e : (1 / 2 : Rat) = (((1 : Nat) : Int) : Rat) / 2 := by rfl
  unfold hf
  rw [F_plus_q (sz_2 h) s2 obs, ← add_div, e]
theorem F_mean_black_q {w : Int} {R C : Nat} {ws : List Int} (hR : 1 ≤ R ∧ R ≤ 12) (hC : 1 ≤ C ∧ C ≤ 12) (hw : ∀ x ∈ ws, x = w) (h0 : 1 ≤ w ∧ w ≤ 1000) (hl : ws.length = R + C) (obs : List (List D)) :
    F_mean_black [.int R, .int C, .tup (ws.map D.int)] obs = some (hf (R * C), obs) := by
  have a1 := F_need_weights_q (r := R) (c := C) (ws := ws) (by omega) (by omega) (by omega) (fun x hx => by rw [hw x hx]; exact h0) obs
  refine FP.eq (run_wp rfl ?_)
  have hRC : R * C ≤ 12 * 12 := Nat.mul_le_mul hR.2 hC.2
  unfold b_mean_black
  simp [FP_of a1, hf_0, rg1_nat (show R ≤ 1000000 by omega)]
  refine wp_rg0 R (fun k m => ∃ x4 x5, m = ⟨[.pl (.int R), .pl (.int C), .pl (.tup (ws.map D.int)), .pl (hf (k * C)), x4, x5], obs⟩) ⟨.un, .un, by rw [Nat.zero_mul]⟩ ?_ ?_
  · rintro i m hi ⟨x4, x5, rfl⟩
    refine ⟨_, rfl, ?_⟩
    have hiC : i * C ≤ 12 * 12 := Nat.mul_le_mul (by omega) hC.2
    simp [rg1_nat (show C ≤ 1000000 by omega)]
    refine wp_rg0 C (fun k m => ∃ x5, m = ⟨[.pl (.int R), .pl (.int C), .pl (.tup (ws.map D.int)), .pl (hf (i * C + k)), .pl (.int i), x5], obs⟩) ⟨x5, by rw [Nat.add_zero]⟩ ?_ ?_
    · rintro j m hj ⟨x5, rfl⟩
      refine ⟨_, rfl, ?_⟩
      have a2 := F_cell_of_q (r := R) (c := C) (i := i) (j := j) hw h0 (by omega) (by omega) (by omega) obs
      have a3 := F_plus_half (n := i * C + j) (by omega) obs
      generalize cf (1 / 2) = q2 at *
      simp [FP_of a2, FP_of a3, Nat.add_assoc]
    · rintro m ⟨x5, rfl⟩
      simp [Nat.succ_mul]
  · rintro m ⟨x4, x5, rfl⟩
    simp
/-! ### variance_black -/
def tw (n : Nat) : D := cf (((n : Nat) : Int) / 12 : Rat)
theorem tw_0 : D.tup [.int 0, .int 1] = tw 0 := by
  rw [cf_zero]
  unfold tw
  congr 1
  show (0 : Rat) = 0 / 12
  grind
theorem F_plus_tw {n k : Nat} (h : n < 2 ^ 40) (h2 : k < 2 ^ 40) (obs : List (List D)) : F_plus [tw n, tw k] obs = some (tw (n + k), obs) := by
  unfold tw
  rw [F_plus_q (sz_12 h) (sz_12 h2) obs, ← add_div]
theorem bothN_le (x y : Nat × Nat) : bothN x y ≤ 6 := by
  unfold bothN
  split <;> split <;> decide
theorem sum_le {β : Type} (f : β → Nat) (B : Nat) : ∀ (l : List β), (∀ x ∈ l, f x ≤ B) → (l.map f).sum ≤ l.length * B
  | [], _ => by simp
  | x :: l, h => by
    have := sum_le f B l fun y hy => h y (List.mem_cons_of_mem _ hy)
    have := h x List.mem_cons_self
    rw [List.map_cons, List.sum_cons, List.length_cons, Nat.succ_mul]
    omega
theorem rgD_cells (i C : Nat) : True := trivial
def varD (R C : Nat) : D := cf (((((R * C * bothRow R C : Nat) : Int) / 12 : Rat)) - ((R * C : Nat) : Int) / 2 * (((R * C : Nat) : Int) / 2))
theorem F_variance_black_q {w : Int} {R C : Nat} {ws : List Int} (hR : 1 ≤ R ∧ R ≤ 12) (hC : 1 ≤ C ∧ C ≤ 12) (hw : ∀ x ∈ ws, x = w) (h0 : 1 ≤ w ∧ w ≤ 1000) (hl : ws.length = R + C) (obs : List (List D)) :
    F_variance_black [.int R, .int C, .tup (ws.map D.int)] obs = some (varD R C, obs) := by
  have a1 := F_need_weights_q (r := R) (c := C) (ws := ws) (by omega) (by omega) (by omega) (fun x hx => by rw [hw x hx]; exact h0) obs
  refine FP.eq (run_wp rfl ?_)
  have hRC : R * C ≤ 12 * 12 := Nat.mul_le_mul hR.2 hC.2
  unfold b_variance_black
  simp [FP_of a1, rg1_nat (show R ≤ 1000000 by omega)]
  refine wp_rg0 R (fun k m => ∃ x4, m = ⟨[.pl (.int R), .pl (.int C), .pl (.tup (ws.map D.int)), .pl (.lst ((cellsL k C).map pairD)), x4, .un, .un, .un, .un, .un], obs⟩) ⟨.un, rfl⟩ ?_ ?_
  · rintro i m hi ⟨x4, rfl⟩
    refine ⟨_, rfl, ?_⟩
    simp
    refine wp_lcm (fun (j : Nat) => D.int j) (fun j => pairD (i, j)) (List.range C) ?_ rfl (by rw [List.length_range]; exact size_le (by omega)) (fun j hj => ⟨_, rfl, rfl, rfl, by simp; rfl⟩) ?_
    · simp [rg1_nat (show C ≤ 1000000 by omega)]
      rw [rgD_nat]; rfl
    · have hz : (cellsL i C).length + C ≤ sizeLine := by
        rw [cells_len]
        have hiC : i * C ≤ 12 * 12 := Nat.mul_le_mul (by omega) hC.2
        exact size_le (by omega)
      have ha : addD (.lst ((cellsL i C).map pairD)) (.lst ((List.range C).map fun j => pairD (i, j))) = some (.lst ((cellsL (i + 1) C).map pairD)) := by
        show (if _ then _ else _) = _
        rw [if_pos (by simpa using hz), cells_succ, List.map_append, List.map_map]
        rfl
      simp [ha]
  · rintro m ⟨x4, rfl⟩
    have e2 : D.tup [.int 0, .int 1] = tw 0 := tw_0
    have hit : itD (.lst ((cellsL R C).map pairD)) = some ((cellsL R C).map pairD) := rfl
    have hbr : ∀ n m, n ≤ 144 → m ≤ 1000 → n * m < 2 ^ 40 := fun n m h1 h2 => Nat.lt_of_le_of_lt (Nat.mul_le_mul h1 h2) (by decide)
    have hB : bothRow R C ≤ 1000 := by
      unfold bothRow
      have : (4 + 3 * (C - 1)) * (R - 1) ≤ 37 * 11 := Nat.mul_le_mul (by omega) (by omega)
      omega
    simp
    refine wp_for pairD (cellsL R C) (fun done m => ∃ x4 x7 x8, m = ⟨[.pl (.int R), .pl (.int C), .pl (.tup (ws.map D.int)), .pl (.lst ((cellsL R C).map pairD)), x4, .pl (tw (done.length * bothRow R C)), .pl (hf done.length), x7, x8, .un], obs⟩) ⟨x4, .un, .un, ?_⟩ ?_ ?_
    · simp only [List.length_nil, Nat.zero_mul, ← tw_0, ← hf_0]
    · rintro done x rest m e ⟨x4, x7, x8, rfl⟩
      refine ⟨_, rfl, ?_⟩
      have hx : x.1 < R ∧ x.2 < C := mem_cells.mp (by rw [e]; simp)
      have hdl : done.length < 144 := by
        have := congrArg List.length e
        rw [cells_len, List.length_append, List.length_cons] at this
        omega
      have b2 := F_cell_of_q (r := R) (c := C) (i := x.1) (j := x.2) hw h0 (by omega) (by omega) (by omega) obs
      have b2' : F_cell_of [.int R, .tup (ws.map D.int), pairD x] obs = some (cf (1 / 2), obs) := b2
      have b3 := F_plus_half (n := done.length) (by omega) obs
      generalize cf (1 / 2) = q2 at *
      simp [FP_of b2', FP_of b3]
      refine wp_for pairD (cellsL R C) (fun dn m => ∃ x8, m = ⟨[.pl (.int R), .pl (.int C), .pl (.tup (ws.map D.int)), .pl (.lst ((cellsL R C).map pairD)), x4, .pl (tw (done.length * bothRow R C + (dn.map (bothN x)).sum)), .pl (hf (done.length + 1)), .pl (pairD x), x8, .un], obs⟩) ⟨x8, by simp⟩ ?_ ?_
      · rintro dn y rs m e2 ⟨x8, rfl⟩
        refine ⟨_, rfl, ?_⟩
        have hy : y.1 < R ∧ y.2 < C := mem_cells.mp (by rw [e2]; simp)
        have c1 : F_both_of [.int R, .tup (ws.map D.int), pairD x, pairD y] obs = some (tw (bothN x y), obs) := F_both_of_q hw h0 hl hx hy obs
        have hdn : dn.length ≤ 144 := by
          have := congrArg List.length e2
          rw [cells_len, List.length_append, List.length_cons] at this
          omega
        have hs := sum_le (bothN x) 6 dn fun y _ => bothN_le x y
        have hd := hbr done.length (bothRow R C) (by omega) hB
        have hd2 : done.length * bothRow R C ≤ 144 * 1000 := Nat.mul_le_mul (by omega) hB
        have c2 := F_plus_tw (n := done.length * bothRow R C + (dn.map (bothN x)).sum) (k := bothN x y) (by omega) (by have := bothN_le x y; omega) obs
        simp [FP_of c1, FP_of c2, Nat.add_assoc]
      · rintro m ⟨x8, rfl⟩
        rw [both_row hx]
        simp [Nat.succ_mul]
    · rintro m ⟨x4, x7, x8, rfl⟩
      have d1 : Sz 4000 (((R * C : Nat) : Int) / 2 : Rat) := sz_2 (n := R * C) (by omega)
      have d2 := F_times_q d1 d1 obs
      have d4 : Sz 4000 (((R * C : Nat) : Int) / 2 * (((R * C : Nat) : Int) / 2) : Rat) := by
        have : (((R * C : Nat) : Int) / 2 * (((R * C : Nat) : Int) / 2) : Rat) = (((R * C * (R * C) : Nat) : Int) : Rat) / (((4 : Nat) : Int) : Rat) := by
          rw [Int.natCast_mul (R * C) (R * C), Rat.intCast_mul]
          have e4 : (((4 : Nat) : Int) : Rat) = 4 := by rfl
          rw [e4]
          grind
        rw [this]
        have : R * C * (R * C) ≤ 144 * 144 := Nat.mul_le_mul hRC hRC
        exact sz_small (by decide) (by rw [Int.natAbs_natCast]; omega) (by decide)
      have d3 := F_minus_q (sz_12 (n := R * C * bothRow R C) (hbr _ _ hRC hB)) d4 obs
      rw [cells_len]
      have d2' : F_times [hf (R * C), hf (R * C)] obs = _ := d2
      have d3' : F_minus [tw (R * C * bothRow R C), _] obs = some (varD R C, obs) := d3
      generalize cf (((R * C : Nat) : Int) / 2 * (((R * C : Nat) : Int) / 2) : Rat) = q1 at *
      simp [FP_of d2', FP_of d3']
end C
namespace C
open PySem PySem.Spec PyProof.Rows L2 PD

theorem fact_lt {n : Nat} (h : n ≤ 24) : fact n < 2 ^ 80 := Nat.lt_of_le_of_lt (fact_mono h) (by decide)
theorem fact_step (k : Nat) : fact (k + 1 + 1) = fact (k + 1) * (2 + k) := by
  have h : 2 + k = k + 1 + 1 := by omega
  rw [h]
  exact (fact.eq_2 (k + 1)).trans (Nat.mul_comm _ _)
theorem F__law_fact_q {n : Nat} (h : n ≤ 24) (obs : List (List D)) : F__law_fact [.int n] obs = some (.int (fact n : Nat), obs) := by
  refine FP.eq (run_wp rfl ?_)
  have hr : rg2 [.int 2, .int ((n : Int) + 1)] = some (rgD 2 ((n : Int) + 1)) := rg2_int (by omega) (by omega)
  unfold b__law_fact
  simp [hr]
  cases n with
  | zero =>
    rw [rgD_nil (by decide)]
    exact wp_forL_nil (by simp; rfl)
  | succ n =>
    have e : (((n + 1 : Nat) : Int) + 1) = 2 + (n : Nat) := by omega
    rw [e]
    refine wp_rg 2 n (fun k m => ∃ x2, m = ⟨[.pl (.int (n + 1 : Nat)), .pl (.int (fact (k + 1) : Nat)), x2], obs⟩) ⟨.un, rfl⟩ ?_ ?_
    · rintro k m hk ⟨x2, rfl⟩
      refine ⟨_, rfl, ?_⟩
      have hm : CMulW (fact (k + 1) : Nat) (2 + (k : Int)) := mulW (A := 80) (B := 10) (by rw [Int.natAbs_natCast]; exact fact_lt (by omega)) (by omega)
      have e2 : ((fact (k + 1) : Nat) : Int) * (2 + (k : Int)) = (fact (k + 1 + 1) : Nat) := by
        have e3 : fact (k + 1 + 1) = fact (k + 1) * (2 + k) := fact_step k
        rw [e3]
        exact (Int.natCast_mul _ _).symm
      generalize ((fact (k + 1) : Nat) : Int) = v at *
      generalize ((fact (k + 1 + 1) : Nat) : Int) = v2 at *
      simp [hm, e2]
    · rintro m ⟨x2, rfl⟩
      simp
theorem isi_tl_int (y : Int) : isiD [.int y, .tup [.ty "tuple", .ty "list"]] = some (.bl false) := by rfl
theorem isi_tl_tup (y : List D) : isiD [.tup y, .tup [.ty "tuple", .ty "list"]] = some (.bl true) := by rfl
theorem isi_list_tup (y : List D) : isiD [.tup y, .ty "list"] = some (.bl false) := by rfl
theorem isD_int_non (y : Int) : isD (.int y) .non = some (.bl false) := by rfl
theorem alike_int (k : Nat) (x y : Int) (obs : List (List D)) : R__law_alike (k + 1) [.int x, .int y] obs = some (.bl (decide (x = y)), obs) := by
  refine FP.eq (run_wp rfl ?_)
  unfold b__law_alike
  simp [isi_tl_int, isD_int_non]
theorem alike_cf (k : Nat) (a b : Rat) (obs : List (List D)) : R__law_alike (k + 2) [cf a, cf b] obs = some (.bl (decide (a = b)), obs) := by
  refine FP.eq (run_wp rfl ?_)
  have i1 : isiD [cf b, .tup [.ty "tuple", .ty "list"]] = some (.bl true) := isi_tl_tup _
  have i2 : isiD [cf a, .tup [.ty "tuple", .ty "list"]] = some (.bl true) := isi_tl_tup _
  have i3 : isiD [cf b, .ty "list"] = some (.bl false) := isi_list_tup _
  have i4 : isiD [cf a, .ty "list"] = some (.bl false) := isi_list_tup _
  have l1 : lenU [cf a] = some (.int 2) := by rfl
  have l2 : lenU [cf b] = some (.int 2) := by rfl
  have hr : rg1 [.int 2] = some (rgD 0 2) := rg1_int (by omega)
  have hr2 : rgD 0 2 = natD [0, 1] := rgD_nat 2
  have c0 := FP_of (alike_int k a.num b.num obs)
  have c1 := FP_of (alike_int k a.den b.den obs)
  unfold b__law_alike
  simp [i1, i2, i3, i4, l1, l2]
  refine wp_lct (fun (n : Nat) => D.int n) (fun n => !(if n = 0 then decide (a.num = b.num) else decide ((a.den : Int) = b.den))) (fun (n : Nat) => D.int n) [0, 1] ?_ rfl (by simp) (fun j hj => ?_) ?_
  · simp [l2, hr, hr2, natD]
  · refine ⟨_, rfl, rfl, rfl, ?_, ?_⟩
    · rcases List.mem_cons.mp hj with rfl | hj
      · simp [c0]
      · have : j = 1 := by simpa using hj
        subst this
        simp [c1]
    · intro _
      simp
  · have e := eqD_natD_nil ([0, 1].filter fun n => !(if n = 0 then decide (a.num = b.num) else decide ((a.den : Int) = b.den)))
    unfold natD at e
    have hg : ∀ (m : M) (l : List D), Opd.get m (.val (.lst l)) = some (.lst l) := fun _ _ => rfl
    generalize hL : (List.map (fun (n : Nat) => D.int (n : Int)) ([0, 1].filter fun n => !(if n = 0 then decide (a.num = b.num) else decide ((a.den : Int) = b.den)))) = L at *
    simp [e]
    rw [Bool.eq_iff_iff, Bool.and_eq_true, decide_eq_true_eq, decide_eq_true_eq, decide_eq_true_eq]
    constructor
    · rintro ⟨h1, h2⟩
      exact Rat.ext h1 (by omega)
    · rintro rfl
      exact ⟨rfl, rfl⟩
theorem F__law_alike_cf (a b : Rat) (obs : List (List D)) : F__law_alike [cf a, cf b] obs = some (.bl (decide (a = b)), obs) := alike_cf 6 a b obs
end C
namespace C
open PySem PySem.Spec PyProof.Rows L2 PD

theorem mul_tup1 (d : D) {n : Nat} (h1 : 1 ≤ n) (h : n ≤ 1000) : mulD (.tup [d]) (.int n) = some (.tup (List.replicate n d)) := by
  show (if _ then _ else _) = _
  rw [if_pos ⟨by omega, by omega, by simp, by simp⟩]
  congr 2
  rw [Int.toNat_natCast]
  clear h1 h
  induction n with
  | zero => rfl
  | succ n ih => rw [List.replicate_succ, List.flatten_cons, ih, List.replicate_succ]; rfl
theorem perm_natD {l : List Nat} {ys : List D} (h : (natD l).Perm ys) : ∃ o : List Nat, ys = natD o ∧ l.Perm o := by
  let f : D → Nat := fun d => match d with
    | .int i => i.toNat
    | _ => 0
  have e : ∀ l : List Nat, (natD l).map f = l := fun l => by
    unfold natD
    rw [List.map_map]
    conv => rhs; rw [← List.map_id l]
    rfl
  refine ⟨ys.map f, ?_, ?_⟩
  · unfold natD
    rw [List.map_map]
    conv => lhs; rw [← List.map_id ys]
    refine List.map_congr_left fun d hd => ?_
    obtain ⟨n, _, rfl⟩ := List.mem_map.mp (h.symm.subset hd)
    rfl
  · have := h.map f
    rw [e] at this
    exact this
theorem sum_natD (l : List Nat) : sumD [.lst (natD l)] = some (.int (l.sum : Nat)) := by
  rw [natD_ints]
  show (toInts _).map _ = _
  rw [toInts_map]
  show some (D.int _) = _
  congr 2
  induction l with
  | nil => rfl
  | cons a l ih => rw [List.map_cons, List.sum_cons, List.sum_cons, ih, Int.natCast_add]
theorem aheadQ_comm (a b : Nat) : aheadQ a b = aheadQ b a := by
  unfold aheadQ
  rw [Rat.mul_comm, Nat.add_comm]
theorem eqB_cf2 (a b c d : Rat) : eqB (.tup [cf a, cf b]) (.tup [cf c, cf d]) = some (decide (a = c) && decide (b = d)) := by
  have h : ∀ a : Rat, PyData.canLay0 (.tuple [.int a.num, .int a.den]) = true := fun _ => rfl
  rw [eqB_of (p := .tuple [.tuple [.int a.num, .int a.den], .tuple [.int b.num, .int b.den]]) (q := .tuple [.tuple [.int c.num, .int c.den], .tuple [.int d.num, .int d.den]]) rfl rfl rfl rfl
    (by show (max (max 0 (max 0 0) + 1) (max (max 0 (max 0 0) + 1) 0)) + 1 ≤ 64; decide) (by show (max (max 0 (max 0 0) + 1) (max (max 0 (max 0 0) + 1) 0)) + 1 ≤ 64; decide)]
  show some (((a.num == c.num) && (((a.den : Int) == c.den) && true)) && ((((b.num == d.num) && (((b.den : Int) == d.den) && true))) && true)) = _
  have k : ∀ a b : Rat, ((a.num == b.num) && (((a.den : Int) == b.den) && true)) = decide (a = b) := fun a b => by
    rw [beq_dec, beq_dec, Bool.and_true, Bool.eq_iff_iff, Bool.and_eq_true, decide_eq_true_eq, decide_eq_true_eq, decide_eq_true_eq]
    constructor
    · rintro ⟨h1, h2⟩
      exact Rat.ext h1 (by omega)
    · rintro rfl
      exact ⟨rfl, rfl⟩
  rw [k, k, Bool.and_true]
theorem neD_cf2 (a b c d : Rat) : neD (.tup [cf a, cf b]) (.tup [cf c, cf d]) = some (.bl !(decide (a = c) && decide (b = d))) := by unfold neD; rw [eqB_cf2]; rfl
theorem rgD_off (R n : Nat) : rgD (R : Int) ((R : Int) + n) = natD ((List.range n).map (R + ·)) := by
  unfold rgD natD
  rw [List.map_map]
  have e : ((R : Int) + n - R).toNat = n := by omega
  rw [e]
  refine List.map_congr_left fun i _ => ?_
  show D.int _ = D.int _
  congr 1
/-- the sizes of the layers, told by the law's own peeling -/
def szs (p : List (List Bool)) (R n : Nat) (rows cols : List Nat) : List Nat := (layersL p R n rows cols).map List.length
theorem zip_tail_range (n : Nat) (f : Nat → Nat) (hf : ∀ i, f i < f (i + 1)) : ∀ p ∈ ((List.range n).map f).zip ((List.range n).map f).tail, p.1 < p.2 := by
  intro p hp
  obtain ⟨i, hi, e⟩ := List.mem_iff_getElem.mp hp
  rw [List.length_zip, List.length_tail, List.length_map, List.length_range] at hi
  rw [List.getElem_zip] at e
  subst e
  simp only [List.getElem_map, List.getElem_range, List.getElem_tail]
  exact hf i
theorem pf_szs (L : List (List Nat)) : (L.map List.length).foldr (fun s a => fact s * a) 1 = pf L := by
  induction L with
  | nil => rfl
  | cons l L ih => rw [List.map_cons, List.foldr_cons, ih]; rfl
theorem share_small {n m : Int} (hm : 0 < m) (hn : n.natAbs < 2 ^ 200) (hz : m.natAbs < 2 ^ 200) (obs : List (List D)) : F__law_share [.int n, .int m] obs = some (cf ((n : Rat) / (m : Rat)), obs) :=
  F__law_share_q hm (Nat.lt_of_lt_of_le hn (Nat.pow_le_pow_right (by decide) (by decide))) (Nat.lt_of_lt_of_le hz (Nat.pow_le_pow_right (by decide) (by decide))) obs
theorem sz_200 {n : Int} {d : Nat} (hd : 0 < d) (hn : n.natAbs < 2 ^ 200) (hz : d < 2 ^ 200) : Sz 4000 ((n : Rat) / (((d : Nat) : Int) : Rat)) := (Sz.of hd hn hz).mono (by decide)
theorem var_eq {R C : Nat} (hR : 1 ≤ R) (hC : 1 ≤ C) : ((((R * C * bothRow R C : Nat) : Int) / 12 : Rat)) - ((R * C : Nat) : Int) / 2 * (((R * C : Nat) : Int) / 2)
    = ((((R : Int) * C : Int) : Rat) / ((2 : Int) : Rat) + ((((R : Int) * C * (C - 1) + R * C * (R - 1) : Int) : Rat) / ((3 : Int) : Rat) + (((R : Int) * C * (R * C) - R * C - (R * C * (C - 1) + R * C * (R - 1)) : Int) : Rat) / ((4 : Int) : Rat))) + (((0 : Int) - R * C * (R * C) : Int) : Rat) / ((4 : Int) : Rat) := by
  obtain ⟨r, rfl⟩ : ∃ r, R = r + 1 := ⟨R - 1, by omega⟩
  obtain ⟨c, rfl⟩ : ∃ c, C = c + 1 := ⟨C - 1, by omega⟩
  unfold bothRow
  simp only [Nat.add_sub_cancel]
  have h2 : ((2 : Int) : Rat) = 2 := by rfl
  have h3 : ((3 : Int) : Rat) = 3 := by rfl
  have h4 : ((4 : Int) : Rat) = 4 := by rfl
  have h6 : ((6 : Int) : Rat) = 6 := by rfl
  have h1 : ((1 : Int) : Rat) = 1 := by rfl
  have h0 : ((0 : Int) : Rat) = 0 := by rfl
  simp only [Int.natCast_mul, Int.natCast_add, Rat.intCast_mul, Rat.intCast_add, Rat.intCast_sub, Int.natCast_one, Int.cast_ofNat_Int, h0, h1, h2, h3, h4, h6]
  generalize ((r : Int) : Rat) = x
  generalize ((c : Int) : Rat) = y
  grind
theorem share_ahead {d u : Nat} (h : d + u ≤ 24) (obs : List (List D)) : F__law_share [.int ((fact d : Nat) * (fact u : Nat)), .int (fact (d + u) : Nat)] obs = some (cf (aheadQ d u), obs) := by
  have l1 := fact_lt (n := d) (by omega)
  have l2 := fact_lt (n := u) (by omega)
  have l3 := fact_lt (n := d + u) (by omega)
  have l4 : fact d * fact u < 2 ^ (80 + 80) := mul_lt_pow l1 l2
  have e : ((((fact d : Nat) : Int) * ((fact u : Nat) : Int) : Int) : Rat) / (((fact (d + u) : Nat) : Int) : Rat) = aheadQ d u := by
    unfold aheadQ
    rw [Rat.intCast_mul]
    rfl
  have h1 := share_small (n := ((fact d : Nat) : Int) * ((fact u : Nat) : Int)) (m := (fact (d + u) : Nat)) (by have := fact_pos (d + u); omega) (by rw [← Int.natCast_mul, Int.natAbs_natCast]; exact Nat.lt_of_lt_of_le l4 (by decide)) (by rw [Int.natAbs_natCast]; exact Nat.lt_of_lt_of_le l3 (by decide)) obs
  rw [e] at h1
  exact h1
theorem share_pf {A : Nat} {n : Nat} (h : A ≤ fact n) (hn : n ≤ 24) (obs : List (List D)) : F__law_share [.int (A : Nat), .int (fact n : Nat)] obs = some (cf (((A : Nat) : Rat) / ((fact n : Nat) : Rat)), obs) := by
  have l3 := fact_lt hn
  have h1 := share_small (n := (A : Nat)) (m := (fact n : Nat)) (by have := fact_pos n; omega) (by rw [Int.natAbs_natCast]; exact Nat.lt_of_lt_of_le (Nat.lt_of_le_of_lt h l3) (by decide)) (by rw [Int.natAbs_natCast]; exact Nat.lt_of_lt_of_le l3 (by decide)) obs
  exact h1
theorem pf_le : ∀ (L : List (List Nat)), pf L ≤ fact L.flatten.length
  | [] => Nat.le_refl _
  | l :: L => by
    have e : (l :: L).flatten.length = l.length + L.flatten.length := by rw [List.flatten_cons, List.length_append]
    rw [e]
    exact Nat.le_trans (Nat.mul_le_mul_left _ (pf_le L)) (fact_mul _ _)
theorem foldl_fact : ∀ (l : List Nat) (a : Nat), l.foldl (fun a s => a * fact s) a = a * l.foldr (fun s a => fact s * a) 1
  | [], a => (Nat.mul_one a).symm
  | x :: l, a => by rw [List.foldl_cons, foldl_fact l, List.foldr_cons, Nat.mul_assoc]
theorem foldr_fact_le : ∀ (l : List Nat), l.foldr (fun s a => fact s * a) 1 ≤ fact l.sum
  | [] => Nat.le_refl _
  | x :: l => by
    rw [List.foldr_cons, List.sum_cons]
    exact Nat.le_trans (Nat.mul_le_mul_left _ (foldr_fact_le l)) (fact_mul _ _)
theorem half_pair : D.tup [.int 1, .int 2] = cf (1 / 2) := by
  unfold cf
  rw [show (1 / 2 : Rat).num = 1 by decide +kernel, show (1 / 2 : Rat).den = 2 by decide +kernel]
  rfl
theorem quarter_pair : D.tup [.int 1, .int 4] = cf (1 / 4) := by
  unfold cf
  rw [show (1 / 4 : Rat).num = 1 by decide +kernel, show (1 / 4 : Rat).den = 4 by decide +kernel]
  rfl
end C
namespace C
open PySem PySem.Spec PyProof.Rows L2 PD

theorem K16_law (ns : List Int) (hns : ns.length ≤ 63) : FP F_law_K16 [.scr ns] [] fun r _ => r = .bl true := by
  refine run_wp rfl ?_
  unfold b_law_K16
  simp
  refine FP_taken0 ⟨by decide, by decide⟩ (by decide) (by decide) fun v1 a b c r1 hv1 => ?_
  simp
  refine FP_taken r1 (by decide) (by decide) fun v2 a b c r2 hv2 => ?_
  simp
  refine FP_taken r2 (by decide) (by decide) fun v3 a b c r3 hv3 => ?_
  obtain ⟨R, hR⟩ : ∃ R, R = 1 + v1 := ⟨_, rfl⟩
  obtain ⟨C, hC⟩ : ∃ C, C = 1 + v2 := ⟨_, rfl⟩
  obtain ⟨w, hw⟩ : ∃ w, w = 1 + v3 := ⟨_, rfl⟩
  have eR : (1 : Int) + v1 = (R : Nat) := by omega
  have eC : (1 : Int) + v2 = (C : Nat) := by omega
  have ew : (1 : Int) + v3 = (w : Nat) := by omega
  have bR : 1 ≤ R ∧ R ≤ 12 := by omega
  have bC : 1 ≤ C ∧ C ≤ 12 := by omega
  have bw : 1 ≤ (w : Int) ∧ (w : Int) ≤ 1000 := by omega
  clear hR hC hw hv1 hv2 hv3
  simp [eR, eC, ew]
  have eRC : ((R : Int) + (C : Int)) = ((R + C : Nat) : Int) := by omega
  obtain ⟨ws, hws⟩ : ∃ ws : List Int, ws = List.replicate (R + C) (w : Int) := ⟨_, rfl⟩
  have hw : ∀ x ∈ ws, x = (w : Int) := fun x hx => by rw [hws] at hx; exact List.eq_of_mem_replicate hx
  have hl : ws.length = R + C := by rw [hws, List.length_replicate]
  have m1 : mulD (.tup [.int w]) (.int ((R : Int) + (C : Int))) = some (.tup (ws.map D.int)) := by
    rw [eRC, mul_tup1 _ (by omega) (by omega), hws, List.map_replicate]
  have g1 : rgD 0 ((R : Int) + (C : Int)) = natD (List.range (R + C)) := by rw [eRC, rgD_nat]
  have g2 : rgD 0 (R : Int) = natD (List.range R) := rgD_nat R
  have g3 : rgD 0 (C : Int) = natD (List.range C) := rgD_nat C
  have o1 : RgOk 0 ((R : Int) + (C : Int)) := RgOk.of_le (by omega) (by omega) (by omega) (by omega)
  have o2 : RgOk 0 (R : Int) := RgOk.of_le (by omega) (by omega) (by omega) (by omega)
  have o3 : RgOk 0 (C : Int) := RgOk.of_le (by omega) (by omega) (by omega) (by omega)
  obtain ⟨ys, a, b, c, hmix, r4, hperm⟩ := F__law_mixed_q ns r3 (c := c) (natD (List.range (R + C))) (by rw [natD_len, List.length_range]; omega)
  obtain ⟨order, rfl, hpm⟩ := perm_natD hperm
  have m2 : mulD (.str (Str.ofString ".")) (.int C) = some (.str (rowS (List.replicate C false))) := by rw [str_dot]; exact mul_hash (by omega) false
  obtain ⟨p0, hp0⟩ : ∃ p0, p0 = List.replicate R (List.replicate C false) := ⟨_, rfl⟩
  have P0 : Pic R C p0 := by rw [hp0]; exact ⟨List.length_replicate, fun r hr => by rw [List.eq_of_mem_replicate hr, List.length_replicate]⟩
  have m3 : mulD (.tup [.str (rowS (List.replicate C false))]) (.int R) = some (picD p0) := by
    rw [mul_tup1 _ (by omega) (by omega), hp0]
    unfold picD
    rw [List.map_replicate]
  have hord : ∀ l ∈ order, l < R + C := fun l h => List.mem_range.mp (hpm.symm.subset h)
  have hall : ∀ l, l < R + C → l ∈ order := fun l h => hpm.subset (List.mem_range.mpr h)
  have hst := F__law_strokes_q P0 bR bC hord [rowD ns a b c]
  obtain ⟨p, hp⟩ : ∃ p, p = order.foldl (fun q l => strokeP q C l) p0 := ⟨_, rfl⟩
  have hP : Pic R C p := by rw [hp]; exact strokes_pic order P0
  have G : Goes p R C := by rw [hp, hp0]; exact goes_of hall
  rw [← hp] at hst
  have q1 : rg1 [.int ((R : Int) + (C : Int))] = some (rgD 0 ((R + C : Nat) : Int)) := by rw [eRC]; exact rg1_nat (by omega)
  clear hp0 hp P0 hall hord hperm hpm r1 r2 r3 eR eC ew
  simp [m1, o1, o2, o3, g1, g2, g3, FP_of hmix, q1, m2, m3, FP_of hst]
  obtain ⟨I, hI⟩ : ∃ I : List Nat → M → Prop, I = fun done m => ∃ rows cols sz x12 x13 x14, m = ⟨[.pl (.scr ns), .pl (.obj 0), .pl (.int R), .pl (.int C), .pl (.int w), .pl (.int ((R : Int) + C)), .pl (.tup (ws.map D.int)), .pl (.lst (natD order)), .pl (picD p), .ow (.lst (natD sz)),
      .pl (.lst (natD rows)), .pl (.lst (natD cols)), x12, x13, x14, .un, .un, .un, .un, .un, .un, .un, .un, .un, .un, .un, .un], [rowD ns a b c]⟩ ∧ (∀ i ∈ rows, i < R) ∧ (∀ j ∈ cols, j < C) ∧ rows.length ≤ 12 ∧ cols.length ≤ 12 ∧ sz.length ≤ done.length ∧
      sz ++ szs p R (R + C - done.length) rows cols = szs p R (R + C) (List.range R) (List.range C) := ⟨_, rfl⟩
  refine wp_for (fun (n : Nat) => D.int n) (List.range (R + C)) I ?_ ?_ ?_
  · rw [hI]
    exact ⟨List.range R, List.range C, [], .un, .un, .un, rfl, fun i h => List.mem_range.mp h, fun i h => List.mem_range.mp h, by simp; omega, by simp; omega, by simp, by simp⟩
  · intro done x rest m e hm
    rw [hI] at hm
    obtain ⟨rows, cols, sz, x12, x13, x14, rfl, hr, hc, hrz, hcz, hsz, hlay⟩ := hm
    refine ⟨_, rfl, ?_⟩
    have hdl : done.length < R + C := by
      have := congrArg List.length e
      rw [List.length_range, List.length_append, List.length_cons] at this
      omega
    have hcell : ∀ (i j : Nat), i < R → j < C → ∃ t, subD' (picD p) (.int i) = some t ∧ (∀ m : M, Opd.get m (.val t) = some t) ∧ subD' t (.int j) = some (.str (rowS [cell p i j])) := fun i j hi hj => by
      refine ⟨_, ix_pic hP hi, fun _ => rfl, ?_⟩
      have hrl := row_of hP hi
      rw [ix_row (by rw [hrl]; exact hj) (by rw [hrl]; omega)]
      rfl
    simp
    refine wp_lct (fun (n : Nat) => D.int n) (fun i => cols.all fun j => cell p i j) (fun (n : Nat) => D.int n) rows (by simp [natD]) rfl (size_le (by omega)) (fun i hi => ⟨_, rfl, rfl, rfl, ?_, ?_⟩) ?_
    · simp
      refine wp_lct (fun (n : Nat) => D.int n) (fun j => !cell p i j) (fun (n : Nat) => D.int n) cols (by simp [natD]) rfl (size_le (by omega)) (fun j hj => ⟨_, rfl, rfl, rfl, ?_, ?_⟩) ?_
      · obtain ⟨t, h1, h2, h3⟩ := hcell i j (hr i hi) (hc j hj)
        simp [h1, h2, h3, str_dot, eq_sign]
      · intro _; simp
      · have he := eqD_natD_nil (cols.filter fun j => !cell p i j)
        unfold natD at he
        simp [he]
        rw [Bool.eq_iff_iff, decide_eq_true_eq, List.all_eq_true]
    · intro _; simp
    · have hfu : List.map (fun (n : Nat) => D.int n) (rows.filter fun i => cols.all fun j => cell p i j) = natD (fullR p rows cols) := rfl
      rw [hfu]
      simp
      refine wp_lct (fun (n : Nat) => D.int n) (fun j => rows.all fun i => !cell p i j) (fun (n : Nat) => D.int n) cols (by simp [natD]) rfl (size_le (by omega)) (fun j hj => ⟨_, rfl, rfl, rfl, ?_, ?_⟩) ?_
      · simp
        refine wp_lct (fun (n : Nat) => D.int n) (fun i => cell p i j) (fun (n : Nat) => D.int n) rows (by simp [natD]) rfl (size_le (by omega)) (fun i hi => ⟨_, rfl, rfl, rfl, ?_, ?_⟩) ?_
        · obtain ⟨t, h1, h2, h3⟩ := hcell i j (hr i hi) (hc j hj)
          simp [h1, h2, h3, str_hash, eq_sign]
        · intro _; simp
        · have he := eqD_natD_nil (rows.filter fun i => cell p i j)
          unfold natD at he
          simp [he]
          rw [Bool.eq_iff_iff, decide_eq_true_eq, List.all_eq_true]
          simp
      · intro _; simp
      · have hem : List.map (fun (n : Nat) => D.int n) (cols.filter fun j => rows.all fun i => !cell p i j) = natD (emptyC p rows cols) := rfl
        rw [hem]
        have n1 := neD_natD_nil rows
        have n2 := neD_natD_nil cols
        have n3 := neD_natD_nil (fullR p rows cols)
        have n4 := neD_natD_nil (emptyC p rows cols)
        have hk : R + C - done.length = (R + C - (done.length + 1)) + 1 := by omega
        rw [hk] at hlay
        have hszl : (natD sz).length ≤ 24 := by rw [natD_len]; omega
        by_cases hfull : fullR p rows cols = []
        · by_cases hempt : emptyC p rows cols = []
          · have h0 : rows = [] ∧ cols = [] := by
              by_cases e1 : rows ≠ [] ∨ cols ≠ []
              · rcases G rows cols hr hc e1 with h | h
                · exact absurd hfull h
                · exact absurd hempt h
              · exact ⟨Classical.byContradiction fun z => e1 (.inl z), Classical.byContradiction fun z => e1 (.inr z)⟩
            obtain ⟨rfl, rfl⟩ := h0
            simp [n1, n2, n3, n4]
            rw [hI]
            refine ⟨[], [], sz, _, _, _, rfl, hr, hc, hrz, hcz, by rw [List.length_append]; omega, ?_⟩
            rw [← hlay, List.length_append, List.length_singleton]
            have hz : ∀ n, szs p R n [] [] = [] := fun n => by
              cases n with
              | zero => rfl
              | succ n => unfold szs layersL; rw [if_pos ⟨rfl, rfl⟩]; rfl
            rw [hz, hz]
          · have hc0 : cols ≠ [] := fun e => hempt (by rw [e]; rfl)
            rw [decide_eq_true hfull] at n3
            rw [decide_eq_false hempt] at n4
            rw [decide_eq_false hc0] at n2
            have hap : natD sz ++ [D.int ((natD (emptyC p rows cols)).length : Nat)] = natD (sz ++ [(emptyC p rows cols).length]) := by
              rw [natD_len]; unfold natD; rw [List.map_append]; rfl
            have hlt : (natD sz).length < sizeLine := lt_size _ (by omega)
            have hlay2 : szs p R (R + C - (done.length + 1) + 1) rows cols = (emptyC p rows cols).length :: szs p R (R + C - (done.length + 1)) rows (cols.filter fun i => !(emptyC p rows cols).contains i) := by
              conv => lhs; unfold szs layersL
              rw [if_neg (fun z => hc0 z.2), if_neg (fun z => z hfull), List.map_cons, List.length_map]
              rfl
            rw [hlay2] at hlay
            simp [n1, n2, n3, n4, hlt, hap]
            have hrl := List.length_filter_le (fun i => !(emptyC p rows cols).contains i) cols
            have hrm : ∀ i ∈ cols.filter (fun i => !(emptyC p rows cols).contains i), i < C := fun i h => hc i (List.mem_filter.mp h).1
            refine wp_lct (fun (n : Nat) => D.int n) (fun i => !(emptyC p rows cols).contains i) (fun (n : Nat) => D.int n) cols (by simp [natD]) rfl (size_le (by omega)) (fun i hi => ⟨_, rfl, rfl, rfl, ?_, ?_⟩) ?_
            · simp [notIn_nat]
            · intro _; simp
            · generalize cols.filter (fun i => !(emptyC p rows cols).contains i) = rows' at *
              simp
              rw [hI]
              refine ⟨rows, rows', sz ++ [(emptyC p rows cols).length], _, _, _, rfl, hr, hrm, hrz, by omega, by simp; omega, ?_⟩
              rw [← hlay, List.length_append, List.length_singleton, List.append_assoc]
              rfl
        · have hr0 : rows ≠ [] := fun e => hfull (by rw [e]; rfl)
          rw [decide_eq_false hfull] at n3
          rw [decide_eq_false hr0] at n1
          have hap : natD sz ++ [D.int ((natD (fullR p rows cols)).length : Nat)] = natD (sz ++ [(fullR p rows cols).length]) := by
            rw [natD_len]; unfold natD; rw [List.map_append]; rfl
          have hlt : (natD sz).length < sizeLine := lt_size _ (by omega)
          have hlay2 : szs p R (R + C - (done.length + 1) + 1) rows cols = (fullR p rows cols).length :: szs p R (R + C - (done.length + 1)) (rows.filter fun i => !(fullR p rows cols).contains i) cols := by
            conv => lhs; unfold szs layersL
            rw [if_neg (fun z => hr0 z.1), if_pos hfull]
            rfl
          rw [hlay2] at hlay
          simp [n1, n2, n3, n4, hlt, hap]
          have hrl := List.length_filter_le (fun i => !(fullR p rows cols).contains i) rows
          have hrm : ∀ i ∈ rows.filter (fun i => !(fullR p rows cols).contains i), i < R := fun i h => hr i (List.mem_filter.mp h).1
          refine wp_lct (fun (n : Nat) => D.int n) (fun i => !(fullR p rows cols).contains i) (fun (n : Nat) => D.int n) rows (by simp [natD]) rfl (size_le (by omega)) (fun i hi => ⟨_, rfl, rfl, rfl, ?_, ?_⟩) ?_
          · simp [notIn_nat]
          · intro _; simp
          · generalize rows.filter (fun i => !(fullR p rows cols).contains i) = rows' at *
            simp
            rw [hI]
            refine ⟨rows', cols, sz ++ [(fullR p rows cols).length], _, _, _, rfl, hrm, hc, by omega, hcz, by simp; omega, ?_⟩
            rw [← hlay, List.length_append, List.length_singleton, List.append_assoc]
            rfl
  · intro m hm
    rw [hI] at hm
    obtain ⟨rows, cols, sz, x12, x13, x14, rfl, hr, hc, hrz, hcz, hsz, hlay⟩ := hm
    clear hI I
    rw [List.length_range, Nat.sub_self] at hlay
    have hlay : sz = (LY p R C).map List.length := by
      rw [show szs p R 0 rows cols = [] from rfl, List.append_nil] at hlay
      exact hlay
    have hLL := layers_len G (R + C) (List.range R) (List.range C) (fun i h => List.mem_range.mp h) (fun i h => List.mem_range.mp h) (by simp)
    have hsum : sz.sum = R + C := by
      rw [hlay, hLL.1]; simp
    have hszs : ∀ x ∈ sz, x ≤ 24 := fun x hx => by
      rw [hlay] at hx
      obtain ⟨l, hl1, rfl⟩ := List.mem_map.mp hx
      have := (layers_small G (R + C) (List.range R) (List.range C) (fun i h => List.mem_range.mp h) (fun i h => List.mem_range.mp h) (by simp; omega) (by simp; omega) l hl1).2
      omega
    have hpf : ∀ pre suf : List Nat, sz = pre ++ suf → pre.foldl (fun a s => a * fact s) 1 ≤ fact 24 := fun pre suf e => by
      rw [foldl_fact, Nat.one_mul]
      refine Nat.le_trans (foldr_fact_le pre) (fact_mono ?_)
      rw [e, List.sum_append] at hsum
      omega
    simp
    refine wp_for (fun (n : Nat) => D.int n) sz (fun done m => ∃ x16, m = ⟨[.pl (.scr ns), .pl (.obj 0), .pl (.int R), .pl (.int C), .pl (.int w), .pl (.int ((R : Int) + C)), .pl (.tup (ws.map D.int)), .pl (.lst (natD order)), .pl (picD p), .pl (.lst (natD sz)),
      .pl (.lst (natD rows)), .pl (.lst (natD cols)), x12, x13, x14, .pl (.int (done.foldl (fun a s => a * fact s) 1 : Nat)), x16, .un, .un, .un, .un, .un, .un, .un, .un, .un, .un], [rowD ns a b c]⟩) ⟨.un, rfl⟩ ?_ ?_
    · rintro done x rest m e ⟨x16, rfl⟩
      refine ⟨_, rfl, ?_⟩
      have h1 := F__law_fact_q (hszs x (by rw [e]; simp)) [rowD ns a b c]
      have h2 := hpf done (x :: rest) e
      have hm : CMulW (done.foldl (fun a s => a * fact s) 1 : Nat) (fact x : Nat) := mulW (A := 80) (B := 80) (by rw [Int.natAbs_natCast]; exact Nat.lt_of_le_of_lt h2 (fact_lt (Nat.le_refl _))) (by rw [Int.natAbs_natCast]; exact fact_lt (hszs x (by rw [e]; simp)))
      have e2 : ((done.foldl (fun a s => a * fact s) 1 : Nat) : Int) * (fact x : Nat) = ((done ++ [x]).foldl (fun a s => a * fact s) 1 : Nat) := by
        rw [List.foldl_append]; exact (Int.natCast_mul _ _).symm
      generalize (done ++ [x]).foldl (fun a s => a * fact s) 1 = v2 at *
      generalize done.foldl (fun a s => a * fact s) 1 = v1 at *
      generalize fact x = v3 at *
      simp [FP_of h1, hm, e2]
    · rintro m ⟨x16, rfl⟩
      have hpf2 : sz.foldl (fun a s => a * fact s) 1 = pf (LY p R C) := by rw [foldl_fact, Nat.one_mul, hlay, pf_szs]
      rw [hpf2]
      have hsm := sum_natD sz
      rw [hsum] at hsm
      have hfr := F_is_free_q hP bR bC G [rowD ns a b c]
      have hls := F_long_share_q hP bR bC G hw bw hl [rowD ns a b c]
      have hfa := F__law_fact_q (n := R + C) (by omega) [rowD ns a b c]
      have hlf : (LY p R C).flatten.length = R + C := by rw [List.length_flatten, ← hlay, hsum]
      have hsh := share_pf (A := pf (LY p R C)) (n := R + C) (by have := pf_le (LY p R C); rw [hlf] at this; exact this) (by omega) [rowD ns a b c]
      have hal := F__law_alike_cf (((pf (LY p R C) : Nat) : Rat) / ((fact (R + C) : Nat) : Rat)) (((pf (LY p R C) : Nat) : Rat) / ((fact (R + C) : Nat) : Rat)) [rowD ns a b c]
      rw [decide_eq_true rfl] at hal
      generalize hcf : cf (((pf (LY p R C) : Nat) : Rat) / ((fact (R + C) : Nat) : Rat)) = lq at *
      have hnt : isnotD (.bl true) (.bl true) = some (.bl false) := by rfl
      have eRC2 : D.int (((R + C : Nat) : Int)) = D.int ((R : Int) + C) := by rw [eRC]
      rw [eRC2] at hsm hfa
      generalize pf (LY p R C) = vpf at *

      simp [hsm, FP_of hfr, hnt, FP_of hls, FP_of hfa, FP_of hsh, FP_of hal]

      clear hsm hfr hls hfa hsh hal hcf hpf2 hpf hszs hlf hlay hsum hLL hmix m1 m2 m3 hst q1 hP G
      refine FP_taken r4 (by omega) (by omega) fun v4 a b c r5 hv4 => ?_
      simp
      refine FP_taken r5 (by omega) (by omega) fun v5 a b c r6 hv5 => ?_
      obtain ⟨d, hd⟩ : ∃ d, d = 1 + v4 := ⟨_, rfl⟩
      obtain ⟨u, hu⟩ : ∃ u, u = 1 + v5 := ⟨_, rfl⟩
      have ed : (1 : Int) + v4 = (d : Nat) := by omega
      have eu : (1 : Int) + v5 = (u : Nat) := by omega
      have bd : 1 ≤ d ∧ d ≤ R := by omega
      have bu : 1 ≤ u ∧ u ≤ C := by omega
      clear hd hu hv4 hv5
      have o4 : RgOk 0 (d : Int) := RgOk.of_le (by omega) (by omega) (by omega) (by omega)
      have o5 : RgOk (R : Int) ((R : Int) + u) := RgOk.of_le (by omega) (by omega) (by omega) (by omega)
      have g4 : rgD 0 (d : Int) = natD (List.range d) := rgD_nat d
      have g5 : rgD (R : Int) ((R : Int) + u) = natD ((List.range u).map (R + ·)) := rgD_off R u
      have f1 := F__law_fact_q (n := d) (by omega) [rowD ns a b c]
      have f2 := F__law_fact_q (n := u) (by omega) [rowD ns a b c]
      have f3 := F__law_fact_q (n := d + u) (by omega) [rowD ns a b c]
      rw [Int.natCast_add] at f3
      have mw : CMulW (fact d : Nat) (fact u : Nat) := mulW (A := 80) (B := 80) (by rw [Int.natAbs_natCast]; exact fact_lt (by omega)) (by rw [Int.natAbs_natCast]; exact fact_lt (by omega))
      have f4 := share_ahead (d := d) (u := u) (by omega) [rowD ns a b c]
      have zr : ∀ p ∈ (List.range d).zip (List.range d).tail, p.1 < p.2 := by
        have := zip_tail_range d (fun i => i) (fun i => Nat.lt_succ_self i)
        rw [List.map_id'] at this
        exact this
      have zs := zip_tail_range u (R + ·) (fun i => by omega)
      have mr : ∀ l ∈ List.range d, l < R := fun l h => by have := List.mem_range.mp h; omega
      have ms : ∀ l ∈ (List.range u).map (R + ·), R ≤ l ∧ l < R + C := fun l h => by
        obtain ⟨i, hi, rfl⟩ := List.mem_map.mp h
        have := List.mem_range.mp hi
        omega
      have a1 := F_ahead_q (os := List.range d) (ps := (List.range u).map (R + ·)) bR bC hw bw hl (fun l h => by have := mr l h; omega) (fun l h => (ms l h).2) (by simp; omega) (by simp; omega) zr zs (fun l h1 h2 => by have := mr l h1; have := ms l h2; omega) [rowD ns a b c]
      have a2 := F_part_share_q (os := List.range d) (ps := (List.range u).map (R + ·)) bR bC hw bw hl mr ms (by simp; omega) (by simp; omega) zr zs (by simp; omega) (by simp; omega) [rowD ns a b c]
      rw [List.length_range, List.length_map, List.length_range] at a1 a2
      have e1 := neD_cf (aheadQ d u) (aheadQ d u)
      rw [decide_eq_true rfl] at e1
      have e2 := neD_cf2 (aheadQ d u) (aheadQ u d) (aheadQ d u) (aheadQ d u)
      rw [decide_eq_true rfl, decide_eq_true (aheadQ_comm u d)] at e2
      generalize hos : natD (List.range d) = os at *
      generalize hps : natD ((List.range u).map (R + ·)) = ps at *
      generalize fact d = fd at *
      generalize fact u = fu at *
      generalize fact (d + u) = fdu at *
      simp [ed, eu, o4, o5, g4, g5, FP_of f1, FP_of f2, FP_of f3, mw, FP_of f4, FP_of a1, e1, FP_of a2, e2]
      have hRC : R * C ≤ 12 * 12 := Nat.mul_le_mul bR.2 bC.2
      have k1 : F_cell_share [.int R, .int C, .tup (ws.map D.int), .tup [.int 0, .int 0]] [rowD ns a b c] = _ := F_cell_share_q (i := 0) (j := 0) bR bC hw bw hl (by omega) (by omega) [rowD ns a b c]
      have k2 : neD (cf (1 / 2)) (.tup [.int 1, .int 2]) = some (.bl false) := by rw [half_pair, neD_cf, decide_eq_true rfl]; rfl
      have k3 := F_mean_black_q bR bC hw bw hl [rowD ns a b c]
      have mRC : CMulW (R : Int) (C : Int) := mulW (A := 10) (B := 10) (by omega) (by omega)
      have eI : (R : Int) * (C : Int) = ((R * C : Nat) : Int) := (Int.natCast_mul _ _).symm
      have k4 : F__law_share [.int ((R : Int) * (C : Int)), .int 2] [rowD ns a b c] = some (hf (R * C), [rowD ns a b c]) := by
        rw [eI]
        exact share_small (by decide) (by omega) (by decide) _
      have k5 : neD (hf (R * C)) (hf (R * C)) = some (.bl false) := by unfold hf; rw [neD_cf, decide_eq_true rfl]; rfl
      have k6 : 1 < R → 1 < C → F_both_share [.int R, .int C, .tup (ws.map D.int), .tup [.int 0, .int 0], .tup [.int 1, .int 1]] [rowD ns a b c] = some (cf (1 / 4), [rowD ns a b c]) := fun h1 h2 => by
        have h := F_both_share_q (x := (0, 0)) (y := (1, 1)) bR bC hw bw hl ⟨by show 0 < R; omega, by show 0 < C; omega⟩ ⟨h1, h2⟩ [rowD ns a b c]
        have e : ((((bothN (0, 0) (1, 1) : Nat) : Int) : Rat) / 12) = 1 / 4 := by
          show (3 : Rat) / 12 = 1 / 4
          grind
        rw [e] at h
        exact h
      have k7 : neD (cf (1 / 4)) (.tup [.int 1, .int 4]) = some (.bl false) := by rw [quarter_pair, neD_cf, decide_eq_true rfl]; rfl
      generalize cf (aheadQ d u) = cdu
      clear f1 f2 f3 f4 a1 e1 a2 e2 g4 g5 mw
      generalize hc2 : cf (1 / 2) = c2 at k1 k2
      generalize hc4 : cf (1 / 4) = c4 at k6 k7
      have hgc2 : ∀ m : M, Opd.get m (.val c2) = some c2 := fun m => by rw [← hc2]; exact get_cf _ _
      have hgc4 : ∀ m : M, Opd.get m (.val c4) = some c4 := fun m => by rw [← hc4]; exact get_cf _ _
      have bRC : ∃ n : Nat, (R : Int) * C = n ∧ n ≤ 144 := ⟨R * C, eI, by omega⟩
      have m4 : CMulW ((R : Int) * C) ((C : Int) - 1) := mulW (A := 10) (B := 10) (by obtain ⟨n, e, h⟩ := bRC; rw [e]; omega) (by omega)
      have m5 : CMulW ((R : Int) * C) ((R : Int) - 1) := mulW (A := 10) (B := 10) (by obtain ⟨n, e, h⟩ := bRC; rw [e]; omega) (by omega)
      have m6 : CMulW ((R : Int) * C) ((R : Int) * C) := mulW (A := 10) (B := 10) (by obtain ⟨n, e, h⟩ := bRC; rw [e]; omega) (by obtain ⟨n, e, h⟩ := bRC; rw [e]; omega)
      have c1 : ((R : Int) * C).natAbs ≤ 144 := by obtain ⟨n, e, h⟩ := bRC; rw [e]; omega
      have c2' : ((R : Int) * C * (C - 1)).natAbs ≤ 144 * 12 := by rw [Int.natAbs_mul]; exact Nat.mul_le_mul c1 (by omega)
      have c3 : ((R : Int) * C * (R - 1)).natAbs ≤ 144 * 12 := by rw [Int.natAbs_mul]; exact Nat.mul_le_mul c1 (by omega)
      have c4' : ((R : Int) * C * (R * C)).natAbs ≤ 144 * 144 := by rw [Int.natAbs_mul]; exact Nat.mul_le_mul c1 c1
      have e200 : (1000000 : Nat) < 2 ^ 200 := by decide
      have hve := var_eq bR.1 bC.1
      rw [Int.zero_sub] at hve
      have s1 := share_small (n := (R : Int) * C) (m := 2) (by decide) (by omega) (by decide) [rowD ns a b c]
      have s2 := share_small (n := (R : Int) * C * (C - 1) + R * C * (R - 1)) (m := 3) (by decide) (by omega) (by decide) [rowD ns a b c]
      have s3 := share_small (n := (R : Int) * C * (R * C) - R * C - (R * C * (C - 1) + R * C * (R - 1))) (m := 4) (by decide) (by omega) (by decide) [rowD ns a b c]
      have s4 := share_small (n := -((R : Int) * C * (R * C))) (m := 4) (by decide) (by omega) (by decide) [rowD ns a b c]
      have z1 : Sz 210 ((((R : Int) * C : Int) : Rat) / ((2 : Int) : Rat)) := Sz.of (n := (R : Int) * C) (d := 2) (B := 210) (by decide) (by omega) (by decide)
      have z2 : Sz 210 ((((R : Int) * C * (C - 1) + R * C * (R - 1) : Int) : Rat) / ((3 : Int) : Rat)) := Sz.of (n := (R : Int) * C * (C - 1) + R * C * (R - 1)) (d := 3) (B := 210) (by decide) (by omega) (by decide)
      have z3 : Sz 210 ((((R : Int) * C * (R * C) - R * C - (R * C * (C - 1) + R * C * (R - 1)) : Int) : Rat) / ((4 : Int) : Rat)) := Sz.of (n := (R : Int) * C * (R * C) - R * C - (R * C * (C - 1) + R * C * (R - 1))) (d := 4) (B := 210) (by decide) (by omega) (by decide)
      have z4 : Sz 210 (((-((R : Int) * C * (R * C)) : Int) : Rat) / ((4 : Int) : Rat)) := Sz.of (n := -((R : Int) * C * (R * C))) (d := 4) (B := 210) (by decide) (by omega) (by decide)
      have ht1 : hf (R * C) = cf ((((R : Int) * C : Int) : Rat) / ((2 : Int) : Rat)) := by
        unfold hf
        rw [eI]
        rfl
      generalize (((R : Int) * C : Int) : Rat) / ((2 : Int) : Rat) = t1 at *
      generalize (((R : Int) * C * (C - 1) + R * C * (R - 1) : Int) : Rat) / ((3 : Int) : Rat) = t2 at *
      generalize (((R : Int) * C * (R * C) - R * C - (R * C * (C - 1) + R * C * (R - 1)) : Int) : Rat) / ((4 : Int) : Rat) = t3 at *
      generalize ((-((R : Int) * C * (R * C)) : Int) : Rat) / ((4 : Int) : Rat) = t4 at *
      have p1 := F__law_plus_q (z2.mono (by decide)) (z3.mono (by decide)) [rowD ns a b c]
      have p2 := F__law_plus_q (z1.mono (by decide)) ((z2.add z3).mono (by decide)) [rowD ns a b c]
      have p3 := F__law_plus_q ((z1.add (z2.add z3)).mono (by decide)) (z4.mono (by decide)) [rowD ns a b c]
      rw [← ht1] at p2
      have w1 := F_variance_black_q bR bC hw bw hl [rowD ns a b c]
      have w2 : eqD (varD R C) (cf (t1 + (t2 + t3) + t4)) = some (.bl true) := by
        unfold varD
        rw [eqD_cf, decide_eq_true hve]
      have hgv : ∀ m : M, Opd.get m (.val (varD R C)) = some (varD R C) := fun m => get_cf _ _
      obtain ⟨e4, he4⟩ : ∃ d, d = cf (t1 + (t2 + t3) + t4) := ⟨_, rfl⟩
      have hge4 : ∀ m : M, Opd.get m (.val e4) = some e4 := fun m => by rw [he4]; exact get_cf _ _
      rw [← he4] at p3 w2
      generalize cf (t1 + (t2 + t3)) = e3 at *
      generalize cf (t2 + t3) = e2 at *
      by_cases h1 : (1 : Int) < R
      · by_cases h2 : (1 : Int) < C
        · have k8 := k6 (by omega) (by omega)
          simp [FP_of k1, k2, hgc2, FP_of k3, mRC, FP_of k4, k5, h1, h2, FP_of k8, k7, hgc4, m4, m5, m6, FP_of s2, FP_of s3, FP_of s4, FP_of p1, FP_of p2, FP_of p3, FP_of w1, w2, hgv, hge4]
        · simp [FP_of k1, k2, hgc2, FP_of k3, mRC, FP_of k4, k5, h1, h2, m4, m5, m6, FP_of s2, FP_of s3, FP_of s4, FP_of p1, FP_of p2, FP_of p3, FP_of w1, w2, hgv, hge4]
      · simp [FP_of k1, k2, hgc2, FP_of k3, mRC, FP_of k4, k5, h1, m4, m5, m6, FP_of s2, FP_of s3, FP_of s4, FP_of p1, FP_of p2, FP_of p3, FP_of w1, w2, hgv, hge4]
theorem K16_true (ns : List Int) (hns : ns.length ≤ 63) : ∃ obs, F_law_K16 [.scr ns] [] = some (.bl true, obs) := by
  obtain ⟨r, obs, e, rfl⟩ := K16_law ns hns
  exact ⟨obs, e⟩
end C
theorem K16.law_true : ∀ ns : List Int, ns.length ≤ 63 → ∃ obs, C.F_law_K16 [PD.D.scr ns] [] = some (PD.D.bl true, obs) := C.K16_true
namespace K16
open PySem PySem.Spec PyProof.Rows L2 PD
theorem all_mk {l : PySem.W.OpenLaw} {w : World} {K : PySem.W.Frag} {h : Heap} {mg : Str → Option Value} {fa : Addr} (X : K.In h) (G : h.Ns mainGlobals mg) (hfa : mg "law" = some (.ref fa))
    {f0 : Addr} {od0 an0 : Option Addr} {sl0 : Array (Option Value)} {oc0 kV0 dc0 pm0 cd0 ct0 : Value} (a0 : PySem.W.nsIn K mainGlobals "is_int" = some (some (.ref f0))) (l0 : K.lookup f0 = some ⟨oc0, od0, .func (PySem.W.fnOf "is_int" "is_int" (defArgs s_is_int) (defBody s_is_int) (defScope s_is_int) .none kV0 dc0 pm0 an0 cd0 ct0), sl0⟩) (c0 : PySem.W.codeIn K cd0 "is_int" = true) (k0 : PySem.W.keepIn K (.ref f0) = true)
    {f1 : Addr} {od1 an1 : Option Addr} {sl1 : Array (Option Value)} {oc1 kV1 dc1 pm1 cd1 ct1 : Value} (a1 : PySem.W.nsIn K mainGlobals "is_in" = some (some (.ref f1))) (l1 : K.lookup f1 = some ⟨oc1, od1, .func (PySem.W.fnOf "is_in" "is_in" (defArgs s_is_in) (defBody s_is_in) (defScope s_is_in) .none kV1 dc1 pm1 an1 cd1 ct1), sl1⟩) (c1 : PySem.W.codeIn K cd1 "is_in" = true) (k1 : PySem.W.keepIn K (.ref f1) = true)
    {f2 : Addr} {od2 an2 : Option Addr} {sl2 : Array (Option Value)} {oc2 kV2 dc2 pm2 cd2 ct2 : Value} (a2 : PySem.W.nsIn K mainGlobals "need_number" = some (some (.ref f2))) (l2 : K.lookup f2 = some ⟨oc2, od2, .func (PySem.W.fnOf "need_number" "need_number" (defArgs s_need_number) (defBody s_need_number) (defScope s_need_number) .none kV2 dc2 pm2 an2 cd2 ct2), sl2⟩) (c2 : PySem.W.codeIn K cd2 "need_number" = true) (k2 : PySem.W.keepIn K (.ref f2) = true)
    {f3 : Addr} {od3 an3 : Option Addr} {sl3 : Array (Option Value)} {oc3 kV3 dc3 pm3 cd3 ct3 : Value} (a3 : PySem.W.nsIn K mainGlobals "need_board" = some (some (.ref f3))) (l3 : K.lookup f3 = some ⟨oc3, od3, .func (PySem.W.fnOf "need_board" "need_board" (defArgs s_need_board) (defBody s_need_board) (defScope s_need_board) .none kV3 dc3 pm3 an3 cd3 ct3), sl3⟩) (c3 : PySem.W.codeIn K cd3 "need_board" = true) (k3 : PySem.W.keepIn K (.ref f3) = true)
    {f4 : Addr} {od4 an4 : Option Addr} {sl4 : Array (Option Value)} {oc4 kV4 dc4 pm4 cd4 ct4 : Value} (a4 : PySem.W.nsIn K mainGlobals "is_picture" = some (some (.ref f4))) (l4 : K.lookup f4 = some ⟨oc4, od4, .func (PySem.W.fnOf "is_picture" "is_picture" (defArgs s_is_picture) (defBody s_is_picture) (defScope s_is_picture) .none kV4 dc4 pm4 an4 cd4 ct4), sl4⟩) (c4 : PySem.W.codeIn K cd4 "is_picture" = true) (k4 : PySem.W.keepIn K (.ref f4) = true)
    {f5 : Addr} {od5 an5 : Option Addr} {sl5 : Array (Option Value)} {oc5 kV5 dc5 pm5 cd5 ct5 : Value} (a5 : PySem.W.nsIn K mainGlobals "need_picture" = some (some (.ref f5))) (l5 : K.lookup f5 = some ⟨oc5, od5, .func (PySem.W.fnOf "need_picture" "need_picture" (defArgs s_need_picture) (defBody s_need_picture) (defScope s_need_picture) .none kV5 dc5 pm5 an5 cd5 ct5), sl5⟩) (c5 : PySem.W.codeIn K cd5 "need_picture" = true) (k5 : PySem.W.keepIn K (.ref f5) = true)
    {f6 : Addr} {od6 an6 : Option Addr} {sl6 : Array (Option Value)} {oc6 kV6 dc6 pm6 cd6 ct6 : Value} (a6 : PySem.W.nsIn K mainGlobals "layers_of" = some (some (.ref f6))) (l6 : K.lookup f6 = some ⟨oc6, od6, .func (PySem.W.fnOf "layers_of" "layers_of" (defArgs s_layers_of) (defBody s_layers_of) (defScope s_layers_of) .none kV6 dc6 pm6 an6 cd6 ct6), sl6⟩) (c6 : PySem.W.codeIn K cd6 "layers_of" = true) (k6 : PySem.W.keepIn K (.ref f6) = true)
    {f7 : Addr} {od7 an7 : Option Addr} {sl7 : Array (Option Value)} {oc7 kV7 dc7 pm7 cd7 ct7 : Value} (a7 : PySem.W.nsIn K mainGlobals "is_free" = some (some (.ref f7))) (l7 : K.lookup f7 = some ⟨oc7, od7, .func (PySem.W.fnOf "is_free" "is_free" (defArgs s_is_free) (defBody s_is_free) (defScope s_is_free) .none kV7 dc7 pm7 an7 cd7 ct7), sl7⟩) (c7 : PySem.W.codeIn K cd7 "is_free" = true) (k7 : PySem.W.keepIn K (.ref f7) = true)
    {f8 : Addr} {od8 an8 : Option Addr} {sl8 : Array (Option Value)} {oc8 kV8 dc8 pm8 cd8 ct8 : Value} (a8 : PySem.W.nsIn K mainGlobals "common" = some (some (.ref f8))) (l8 : K.lookup f8 = some ⟨oc8, od8, .func (PySem.W.fnOf "common" "common" (defArgs s_common) (defBody s_common) (defScope s_common) .none kV8 dc8 pm8 an8 cd8 ct8), sl8⟩) (c8 : PySem.W.codeIn K cd8 "common" = true) (k8 : PySem.W.keepIn K (.ref f8) = true)
    {f9 : Addr} {od9 an9 : Option Addr} {sl9 : Array (Option Value)} {oc9 kV9 dc9 pm9 cd9 ct9 : Value} (a9 : PySem.W.nsIn K mainGlobals "lowered" = some (some (.ref f9))) (l9 : K.lookup f9 = some ⟨oc9, od9, .func (PySem.W.fnOf "lowered" "lowered" (defArgs s_lowered) (defBody s_lowered) (defScope s_lowered) .none kV9 dc9 pm9 an9 cd9 ct9), sl9⟩) (c9 : PySem.W.codeIn K cd9 "lowered" = true) (k9 : PySem.W.keepIn K (.ref f9) = true)
    {f10 : Addr} {od10 an10 : Option Addr} {sl10 : Array (Option Value)} {oc10 kV10 dc10 pm10 cd10 ct10 : Value} (a10 : PySem.W.nsIn K mainGlobals "plus" = some (some (.ref f10))) (l10 : K.lookup f10 = some ⟨oc10, od10, .func (PySem.W.fnOf "plus" "plus" (defArgs s_plus) (defBody s_plus) (defScope s_plus) .none kV10 dc10 pm10 an10 cd10 ct10), sl10⟩) (c10 : PySem.W.codeIn K cd10 "plus" = true) (k10 : PySem.W.keepIn K (.ref f10) = true)
    {f11 : Addr} {od11 an11 : Option Addr} {sl11 : Array (Option Value)} {oc11 kV11 dc11 pm11 cd11 ct11 : Value} (a11 : PySem.W.nsIn K mainGlobals "minus" = some (some (.ref f11))) (l11 : K.lookup f11 = some ⟨oc11, od11, .func (PySem.W.fnOf "minus" "minus" (defArgs s_minus) (defBody s_minus) (defScope s_minus) .none kV11 dc11 pm11 an11 cd11 ct11), sl11⟩) (c11 : PySem.W.codeIn K cd11 "minus" = true) (k11 : PySem.W.keepIn K (.ref f11) = true)
    {f12 : Addr} {od12 an12 : Option Addr} {sl12 : Array (Option Value)} {oc12 kV12 dc12 pm12 cd12 ct12 : Value} (a12 : PySem.W.nsIn K mainGlobals "times" = some (some (.ref f12))) (l12 : K.lookup f12 = some ⟨oc12, od12, .func (PySem.W.fnOf "times" "times" (defArgs s_times) (defBody s_times) (defScope s_times) .none kV12 dc12 pm12 an12 cd12 ct12), sl12⟩) (c12 : PySem.W.codeIn K cd12 "times" = true) (k12 : PySem.W.keepIn K (.ref f12) = true)
    {f13 : Addr} {od13 an13 : Option Addr} {sl13 : Array (Option Value)} {oc13 kV13 dc13 pm13 cd13 ct13 : Value} (a13 : PySem.W.nsIn K mainGlobals "need_weights" = some (some (.ref f13))) (l13 : K.lookup f13 = some ⟨oc13, od13, .func (PySem.W.fnOf "need_weights" "need_weights" (defArgs s_need_weights) (defBody s_need_weights) (defScope s_need_weights) .none kV13 dc13 pm13 an13 cd13 ct13), sl13⟩) (c13 : PySem.W.codeIn K cd13 "need_weights" = true) (k13 : PySem.W.keepIn K (.ref f13) = true)
    {f14 : Addr} {od14 an14 : Option Addr} {sl14 : Array (Option Value)} {oc14 kV14 dc14 pm14 cd14 ct14 : Value} (a14 : PySem.W.nsIn K mainGlobals "sums_of" = some (some (.ref f14))) (l14 : K.lookup f14 = some ⟨oc14, od14, .func (PySem.W.fnOf "sums_of" "sums_of" (defArgs s_sums_of) (defBody s_sums_of) (defScope s_sums_of) .none kV14 dc14 pm14 an14 cd14 ct14), sl14⟩) (c14 : PySem.W.codeIn K cd14 "sums_of" = true) (k14 : PySem.W.keepIn K (.ref f14) = true)
    {f15 : Addr} {od15 an15 : Option Addr} {sl15 : Array (Option Value)} {oc15 kV15 dc15 pm15 cd15 ct15 : Value} (a15 : PySem.W.nsIn K mainGlobals "ahead_of" = some (some (.ref f15))) (l15 : K.lookup f15 = some ⟨oc15, od15, .func (PySem.W.fnOf "ahead_of" "ahead_of" (defArgs s_ahead_of) (defBody s_ahead_of) (defScope s_ahead_of) .none kV15 dc15 pm15 an15 cd15 ct15), sl15⟩) (c15 : PySem.W.codeIn K cd15 "ahead_of" = true) (k15 : PySem.W.keepIn K (.ref f15) = true)
    {f16 : Addr} {od16 an16 : Option Addr} {sl16 : Array (Option Value)} {oc16 kV16 dc16 pm16 cd16 ct16 : Value} (a16 : PySem.W.nsIn K mainGlobals "need_lines" = some (some (.ref f16))) (l16 : K.lookup f16 = some ⟨oc16, od16, .func (PySem.W.fnOf "need_lines" "need_lines" (defArgs s_need_lines) (defBody s_need_lines) (defScope s_need_lines) .none kV16 dc16 pm16 an16 cd16 ct16), sl16⟩) (c16 : PySem.W.codeIn K cd16 "need_lines" = true) (k16 : PySem.W.keepIn K (.ref f16) = true)
    {f17 : Addr} {od17 an17 : Option Addr} {sl17 : Array (Option Value)} {oc17 kV17 dc17 pm17 cd17 ct17 : Value} (a17 : PySem.W.nsIn K mainGlobals "ahead" = some (some (.ref f17))) (l17 : K.lookup f17 = some ⟨oc17, od17, .func (PySem.W.fnOf "ahead" "ahead" (defArgs s_ahead) (defBody s_ahead) (defScope s_ahead) .none kV17 dc17 pm17 an17 cd17 ct17), sl17⟩) (c17 : PySem.W.codeIn K cd17 "ahead" = true) (k17 : PySem.W.keepIn K (.ref f17) = true)
    {f18 : Addr} {od18 an18 : Option Addr} {sl18 : Array (Option Value)} {oc18 kV18 dc18 pm18 cd18 ct18 : Value} (a18 : PySem.W.nsIn K mainGlobals "share_of" = some (some (.ref f18))) (l18 : K.lookup f18 = some ⟨oc18, od18, .func (PySem.W.fnOf "share_of" "share_of" (defArgs s_share_of) (defBody s_share_of) (defScope s_share_of) .none kV18 dc18 pm18 an18 cd18 ct18), sl18⟩) (c18 : PySem.W.codeIn K cd18 "share_of" = true) (k18 : PySem.W.keepIn K (.ref f18) = true)
    {f19 : Addr} {od19 an19 : Option Addr} {sl19 : Array (Option Value)} {oc19 kV19 dc19 pm19 cd19 ct19 : Value} (a19 : PySem.W.nsIn K mainGlobals "long_share" = some (some (.ref f19))) (l19 : K.lookup f19 = some ⟨oc19, od19, .func (PySem.W.fnOf "long_share" "long_share" (defArgs s_long_share) (defBody s_long_share) (defScope s_long_share) .none kV19 dc19 pm19 an19 cd19 ct19), sl19⟩) (c19 : PySem.W.codeIn K cd19 "long_share" = true) (k19 : PySem.W.keepIn K (.ref f19) = true)
    {f20 : Addr} {od20 an20 : Option Addr} {sl20 : Array (Option Value)} {oc20 kV20 dc20 pm20 cd20 ct20 : Value} (a20 : PySem.W.nsIn K mainGlobals "need_cell" = some (some (.ref f20))) (l20 : K.lookup f20 = some ⟨oc20, od20, .func (PySem.W.fnOf "need_cell" "need_cell" (defArgs s_need_cell) (defBody s_need_cell) (defScope s_need_cell) .none kV20 dc20 pm20 an20 cd20 ct20), sl20⟩) (c20 : PySem.W.codeIn K cd20 "need_cell" = true) (k20 : PySem.W.keepIn K (.ref f20) = true)
    {f21 : Addr} {od21 an21 : Option Addr} {sl21 : Array (Option Value)} {oc21 kV21 dc21 pm21 cd21 ct21 : Value} (a21 : PySem.W.nsIn K mainGlobals "cell_of" = some (some (.ref f21))) (l21 : K.lookup f21 = some ⟨oc21, od21, .func (PySem.W.fnOf "cell_of" "cell_of" (defArgs s_cell_of) (defBody s_cell_of) (defScope s_cell_of) .none kV21 dc21 pm21 an21 cd21 ct21), sl21⟩) (c21 : PySem.W.codeIn K cd21 "cell_of" = true) (k21 : PySem.W.keepIn K (.ref f21) = true)
    {f22 : Addr} {od22 an22 : Option Addr} {sl22 : Array (Option Value)} {oc22 kV22 dc22 pm22 cd22 ct22 : Value} (a22 : PySem.W.nsIn K mainGlobals "cell_share" = some (some (.ref f22))) (l22 : K.lookup f22 = some ⟨oc22, od22, .func (PySem.W.fnOf "cell_share" "cell_share" (defArgs s_cell_share) (defBody s_cell_share) (defScope s_cell_share) .none kV22 dc22 pm22 an22 cd22 ct22), sl22⟩) (c22 : PySem.W.codeIn K cd22 "cell_share" = true) (k22 : PySem.W.keepIn K (.ref f22) = true)
    {f23 : Addr} {od23 an23 : Option Addr} {sl23 : Array (Option Value)} {oc23 kV23 dc23 pm23 cd23 ct23 : Value} (a23 : PySem.W.nsIn K mainGlobals "mean_black" = some (some (.ref f23))) (l23 : K.lookup f23 = some ⟨oc23, od23, .func (PySem.W.fnOf "mean_black" "mean_black" (defArgs s_mean_black) (defBody s_mean_black) (defScope s_mean_black) .none kV23 dc23 pm23 an23 cd23 ct23), sl23⟩) (c23 : PySem.W.codeIn K cd23 "mean_black" = true) (k23 : PySem.W.keepIn K (.ref f23) = true)
    {f24 : Addr} {od24 an24 : Option Addr} {sl24 : Array (Option Value)} {oc24 kV24 dc24 pm24 cd24 ct24 : Value} (a24 : PySem.W.nsIn K mainGlobals "over_rest" = some (some (.ref f24))) (l24 : K.lookup f24 = some ⟨oc24, od24, .func (PySem.W.fnOf "over_rest" "over_rest" (defArgs s_over_rest) (defBody s_over_rest) (defScope s_over_rest) .none kV24 dc24 pm24 an24 cd24 ct24), sl24⟩) (c24 : PySem.W.codeIn K cd24 "over_rest" = true) (k24 : PySem.W.keepIn K (.ref f24) = true)
    {f25 : Addr} {od25 an25 : Option Addr} {sl25 : Array (Option Value)} {oc25 kV25 dc25 pm25 cd25 ct25 : Value} (a25 : PySem.W.nsIn K mainGlobals "both_of" = some (some (.ref f25))) (l25 : K.lookup f25 = some ⟨oc25, od25, .func (PySem.W.fnOf "both_of" "both_of" (defArgs s_both_of) (defBody s_both_of) (defScope s_both_of) .none kV25 dc25 pm25 an25 cd25 ct25), sl25⟩) (c25 : PySem.W.codeIn K cd25 "both_of" = true) (k25 : PySem.W.keepIn K (.ref f25) = true)
    {f26 : Addr} {od26 an26 : Option Addr} {sl26 : Array (Option Value)} {oc26 kV26 dc26 pm26 cd26 ct26 : Value} (a26 : PySem.W.nsIn K mainGlobals "both_share" = some (some (.ref f26))) (l26 : K.lookup f26 = some ⟨oc26, od26, .func (PySem.W.fnOf "both_share" "both_share" (defArgs s_both_share) (defBody s_both_share) (defScope s_both_share) .none kV26 dc26 pm26 an26 cd26 ct26), sl26⟩) (c26 : PySem.W.codeIn K cd26 "both_share" = true) (k26 : PySem.W.keepIn K (.ref f26) = true)
    {f27 : Addr} {od27 an27 : Option Addr} {sl27 : Array (Option Value)} {oc27 kV27 dc27 pm27 cd27 ct27 : Value} (a27 : PySem.W.nsIn K mainGlobals "variance_black" = some (some (.ref f27))) (l27 : K.lookup f27 = some ⟨oc27, od27, .func (PySem.W.fnOf "variance_black" "variance_black" (defArgs s_variance_black) (defBody s_variance_black) (defScope s_variance_black) .none kV27 dc27 pm27 an27 cd27 ct27), sl27⟩) (c27 : PySem.W.codeIn K cd27 "variance_black" = true) (k27 : PySem.W.keepIn K (.ref f27) = true)
    {f28 : Addr} {od28 an28 : Option Addr} {sl28 : Array (Option Value)} {oc28 kV28 dc28 pm28 cd28 ct28 : Value} (a28 : PySem.W.nsIn K mainGlobals "part_share" = some (some (.ref f28))) (l28 : K.lookup f28 = some ⟨oc28, od28, .func (PySem.W.fnOf "part_share" "part_share" (defArgs s_part_share) (defBody s_part_share) (defScope s_part_share) .none kV28 dc28 pm28 an28 cd28 ct28), sl28⟩) (c28 : PySem.W.codeIn K cd28 "part_share" = true) (k28 : PySem.W.keepIn K (.ref f28) = true)
    {f29 : Addr} {od29 an29 : Option Addr} {sl29 : Array (Option Value)} {oc29 kV29 dc29 pm29 cd29 ct29 : Value} (a29 : PySem.W.nsIn K mainGlobals "_law_taken" = some (some (.ref f29))) (l29 : K.lookup f29 = some ⟨oc29, od29, .func (PySem.W.fnOf "_law_taken" "_law_taken" (defArgs s__law_taken) (defBody s__law_taken) (defScope s__law_taken) .none kV29 dc29 pm29 an29 cd29 ct29), sl29⟩) (c29 : PySem.W.codeIn K cd29 "_law_taken" = true) (k29 : PySem.W.keepIn K (.ref f29) = true)
    {f30 : Addr} {od30 an30 : Option Addr} {sl30 : Array (Option Value)} {oc30 kV30 dc30 pm30 cd30 ct30 : Value} (a30 : PySem.W.nsIn K mainGlobals "_law_alike" = some (some (.ref f30))) (l30 : K.lookup f30 = some ⟨oc30, od30, .func (PySem.W.fnOf "_law_alike" "_law_alike" (defArgs s__law_alike) (defBody s__law_alike) (defScope s__law_alike) .none kV30 dc30 pm30 an30 cd30 ct30), sl30⟩) (c30 : PySem.W.codeIn K cd30 "_law_alike" = true) (k30 : PySem.W.keepIn K (.ref f30) = true)
    {f31 : Addr} {od31 an31 : Option Addr} {sl31 : Array (Option Value)} {oc31 kV31 dc31 pm31 cd31 ct31 : Value} (a31 : PySem.W.nsIn K mainGlobals "_law_mixed" = some (some (.ref f31))) (l31 : K.lookup f31 = some ⟨oc31, od31, .func (PySem.W.fnOf "_law_mixed" "_law_mixed" (defArgs s__law_mixed) (defBody s__law_mixed) (defScope s__law_mixed) .none kV31 dc31 pm31 an31 cd31 ct31), sl31⟩) (c31 : PySem.W.codeIn K cd31 "_law_mixed" = true) (k31 : PySem.W.keepIn K (.ref f31) = true)
    {f32 : Addr} {od32 an32 : Option Addr} {sl32 : Array (Option Value)} {oc32 kV32 dc32 pm32 cd32 ct32 : Value} (a32 : PySem.W.nsIn K mainGlobals "_law_stroke" = some (some (.ref f32))) (l32 : K.lookup f32 = some ⟨oc32, od32, .func (PySem.W.fnOf "_law_stroke" "_law_stroke" (defArgs s__law_stroke) (defBody s__law_stroke) (defScope s__law_stroke) .none kV32 dc32 pm32 an32 cd32 ct32), sl32⟩) (c32 : PySem.W.codeIn K cd32 "_law_stroke" = true) (k32 : PySem.W.keepIn K (.ref f32) = true)
    {f33 : Addr} {od33 an33 : Option Addr} {sl33 : Array (Option Value)} {oc33 kV33 dc33 pm33 cd33 ct33 : Value} (a33 : PySem.W.nsIn K mainGlobals "_law_strokes" = some (some (.ref f33))) (l33 : K.lookup f33 = some ⟨oc33, od33, .func (PySem.W.fnOf "_law_strokes" "_law_strokes" (defArgs s__law_strokes) (defBody s__law_strokes) (defScope s__law_strokes) .none kV33 dc33 pm33 an33 cd33 ct33), sl33⟩) (c33 : PySem.W.codeIn K cd33 "_law_strokes" = true) (k33 : PySem.W.keepIn K (.ref f33) = true)
    {f34 : Addr} {od34 an34 : Option Addr} {sl34 : Array (Option Value)} {oc34 kV34 dc34 pm34 cd34 ct34 : Value} (a34 : PySem.W.nsIn K mainGlobals "_law_common" = some (some (.ref f34))) (l34 : K.lookup f34 = some ⟨oc34, od34, .func (PySem.W.fnOf "_law_common" "_law_common" (defArgs s__law_common) (defBody s__law_common) (defScope s__law_common) .none kV34 dc34 pm34 an34 cd34 ct34), sl34⟩) (c34 : PySem.W.codeIn K cd34 "_law_common" = true) (k34 : PySem.W.keepIn K (.ref f34) = true)
    {f35 : Addr} {od35 an35 : Option Addr} {sl35 : Array (Option Value)} {oc35 kV35 dc35 pm35 cd35 ct35 : Value} (a35 : PySem.W.nsIn K mainGlobals "_law_share" = some (some (.ref f35))) (l35 : K.lookup f35 = some ⟨oc35, od35, .func (PySem.W.fnOf "_law_share" "_law_share" (defArgs s__law_share) (defBody s__law_share) (defScope s__law_share) .none kV35 dc35 pm35 an35 cd35 ct35), sl35⟩) (c35 : PySem.W.codeIn K cd35 "_law_share" = true) (k35 : PySem.W.keepIn K (.ref f35) = true)
    {f36 : Addr} {od36 an36 : Option Addr} {sl36 : Array (Option Value)} {oc36 kV36 dc36 pm36 cd36 ct36 : Value} (a36 : PySem.W.nsIn K mainGlobals "_law_plus" = some (some (.ref f36))) (l36 : K.lookup f36 = some ⟨oc36, od36, .func (PySem.W.fnOf "_law_plus" "_law_plus" (defArgs s__law_plus) (defBody s__law_plus) (defScope s__law_plus) .none kV36 dc36 pm36 an36 cd36 ct36), sl36⟩) (c36 : PySem.W.codeIn K cd36 "_law_plus" = true) (k36 : PySem.W.keepIn K (.ref f36) = true)
    {f37 : Addr} {od37 an37 : Option Addr} {sl37 : Array (Option Value)} {oc37 kV37 dc37 pm37 cd37 ct37 : Value} (a37 : PySem.W.nsIn K mainGlobals "_law_fact" = some (some (.ref f37))) (l37 : K.lookup f37 = some ⟨oc37, od37, .func (PySem.W.fnOf "_law_fact" "_law_fact" (defArgs s__law_fact) (defBody s__law_fact) (defScope s__law_fact) .none kV37 dc37 pm37 an37 cd37 ct37), sl37⟩) (c37 : PySem.W.codeIn K cd37 "_law_fact" = true) (k37 : PySem.W.keepIn K (.ref f37) = true)
    {f38 : Addr} {od38 an38 : Option Addr} {sl38 : Array (Option Value)} {oc38 kV38 dc38 pm38 cd38 ct38 : Value} (a38 : PySem.W.nsIn K mainGlobals "law" = some (some (.ref f38))) (l38 : K.lookup f38 = some ⟨oc38, od38, .func (PySem.W.fnOf "law" "law" (defArgs s_law) (defBody s_law) (defScope s_law) .none kV38 dc38 pm38 an38 cd38 ct38), sl38⟩) (c38 : PySem.W.codeIn K cd38 "law" = true) (k38 : PySem.W.keepIn K (.ref f38) = true)
    (y_abs : PySem.W.nsIn K mainGlobals "abs" = some none)
    (y_all : PySem.W.nsIn K mainGlobals "all" = some none)
    (y_any : PySem.W.nsIn K mainGlobals "any" = some none)
    (y_bool : PySem.W.nsIn K mainGlobals "bool" = some none)
    (y_dict : PySem.W.nsIn K mainGlobals "dict" = some none)
    (y_enumerate : PySem.W.nsIn K mainGlobals "enumerate" = some none)
    (y_int : PySem.W.nsIn K mainGlobals "int" = some none)
    (y_isinstance : PySem.W.nsIn K mainGlobals "isinstance" = some none)
    (y_len : PySem.W.nsIn K mainGlobals "len" = some none)
    (y_list : PySem.W.nsIn K mainGlobals "list" = some none)
    (y_range : PySem.W.nsIn K mainGlobals "range" = some none)
    (y_sorted : PySem.W.nsIn K mainGlobals "sorted" = some none)
    (y_str : PySem.W.nsIn K mainGlobals "str" = some none)
    (y_sum : PySem.W.nsIn K mainGlobals "sum" = some none)
    (y_tuple : PySem.W.nsIn K mainGlobals "tuple" = some none)
    (y_zip : PySem.W.nsIn K mainGlobals "zip" = some none)
    {u_BLACK : Tok} (x_BLACK : PySem.W.nsIn K mainGlobals "BLACK" = some (some (.str "#" u_BLACK)))
    {u_MOST_SIDE : Tok} (x_MOST_SIDE : PySem.W.nsIn K mainGlobals "MOST_SIDE" = some (some (.int 12 u_MOST_SIDE)))
    {u_MOST_WEIGHT : Tok} (x_MOST_WEIGHT : PySem.W.nsIn K mainGlobals "MOST_WEIGHT" = some (some (.int 1000 u_MOST_WEIGHT)))
    {u_WHITE : Tok} (x_WHITE : PySem.W.nsIn K mainGlobals "WHITE" = some (some (.str "." u_WHITE)))
    (hF : ∀ ns : List Int, ns.length ≤ 63 → ∃ obs, C.F_law_K16 [.scr ns] [] = some (.bl true, obs)) :
    ∃ fd : FuncData, (∀ (s : Shared) (v : Value), BindsTo s fd ⟨[v], []⟩ [("_law_script", v)]) ∧ ∀ base : Heap, K.In base → base.Ns mainGlobals mg → FnOk l.prog w K mg base CX0 10 fa fd ["_law_script"] (PD.spLaw K) := by
  have e := hfa.symm.trans (PySem.W.mg_of X G a38)
  cases e
  have z_abs := PySem.W.mg_none_of X G y_abs
  have z_all := PySem.W.mg_none_of X G y_all
  have z_any := PySem.W.mg_none_of X G y_any
  have z_bool := PySem.W.mg_none_of X G y_bool
  have z_dict := PySem.W.mg_none_of X G y_dict
  have z_enumerate := PySem.W.mg_none_of X G y_enumerate
  have z_int := PySem.W.mg_none_of X G y_int
  have z_isinstance := PySem.W.mg_none_of X G y_isinstance
  have z_len := PySem.W.mg_none_of X G y_len
  have z_list := PySem.W.mg_none_of X G y_list
  have z_range := PySem.W.mg_none_of X G y_range
  have z_sorted := PySem.W.mg_none_of X G y_sorted
  have z_str := PySem.W.mg_none_of X G y_str
  have z_sum := PySem.W.mg_none_of X G y_sum
  have z_tuple := PySem.W.mg_none_of X G y_tuple
  have z_zip := PySem.W.mg_none_of X G y_zip
  have c_BLACK := PySem.W.mg_of X G x_BLACK
  have c_MOST_SIDE := PySem.W.mg_of X G x_MOST_SIDE
  have c_MOST_WEIGHT := PySem.W.mg_of X G x_MOST_WEIGHT
  have c_WHITE := PySem.W.mg_of X G x_WHITE
  refine ⟨PySem.W.fnOf "law" "law" (defArgs s_law) (defBody s_law) (defScope s_law) .none kV38 dc38 pm38 an38 cd38 ct38, fun s v => .of_eq rfl, fun base _ _ => ?_⟩
  have F0 := fun_mk (st := s_is_int) l0 c0 k0
  have b0 := F0.binds (ps := ["value"]) fun _ _ _ _ _ _ us hl => match us, hl with | [_], _ => rfl
  have g_is_int := h_is_int (P := l.prog) (w := w) (base := base) F0 (PySem.W.mg_of X G a0) b0 z_bool z_int z_isinstance
  have F1 := fun_mk (st := s_is_in) l1 c1 k1
  have b1 := F1.binds (ps := ["value", "least", "most"]) fun _ _ _ _ _ _ us hl => match us, hl with | [_, _, _], _ => rfl
  have g_is_in := h_is_in (P := l.prog) (w := w) (base := base) F1 (PySem.W.mg_of X G a1) b1 g_is_int
  have F2 := fun_mk (st := s_need_number) l2 c2 k2
  have b2 := F2.binds (ps := ["value", "least", "most"]) fun _ _ _ _ _ _ us hl => match us, hl with | [_, _, _], _ => rfl
  have g_need_number := h_need_number (P := l.prog) (w := w) (base := base) F2 (PySem.W.mg_of X G a2) b2 g_is_in
  have F3 := fun_mk (st := s_need_board) l3 c3 k3
  have b3 := F3.binds (ps := ["rows", "columns"]) fun _ _ _ _ _ _ us hl => match us, hl with | [_, _], _ => rfl
  have g_need_board := h_need_board (P := l.prog) (w := w) (base := base) F3 (PySem.W.mg_of X G a3) b3 c_MOST_SIDE g_need_number
  have F4 := fun_mk (st := s_is_picture) l4 c4 k4
  have b4 := F4.binds (ps := ["value"]) fun _ _ _ _ _ _ us hl => match us, hl with | [_], _ => rfl
  have g_is_picture := h_is_picture (P := l.prog) (w := w) (base := base) F4 (PySem.W.mg_of X G a4) b4 z_all z_isinstance z_len z_str z_tuple c_BLACK c_MOST_SIDE c_WHITE
  have F5 := fun_mk (st := s_need_picture) l5 c5 k5
  have b5 := F5.binds (ps := ["rows", "columns", "value"]) fun _ _ _ _ _ _ us hl => match us, hl with | [_, _, _], _ => rfl
  have g_need_picture := h_need_picture (P := l.prog) (w := w) (base := base) F5 (PySem.W.mg_of X G a5) b5 z_len g_is_picture
  have F6 := fun_mk (st := s_layers_of) l6 c6 k6
  have b6 := F6.binds (ps := ["goal"]) fun _ _ _ _ _ _ us hl => match us, hl with | [_], _ => rfl
  have g_layers_of := h_layers_of (P := l.prog) (w := w) (base := base) F6 (PySem.W.mg_of X G a6) b6 z_all z_len z_list z_range z_tuple c_BLACK c_WHITE
  have F7 := fun_mk (st := s_is_free) l7 c7 k7
  have b7 := F7.binds (ps := ["goal"]) fun _ _ _ _ _ _ us hl => match us, hl with | [_], _ => rfl
  have g_is_free := h_is_free (P := l.prog) (w := w) (base := base) F7 (PySem.W.mg_of X G a7) b7 g_is_picture g_layers_of
  have F8 := fun_mk (st := s_common) l8 c8 k8
  have b8 := F8.binds (ps := ["one", "other"]) fun _ _ _ _ _ _ us hl => match us, hl with | [_, _], _ => rfl
  have g_common := h_common (P := l.prog) (w := w) (base := base) F8 (PySem.W.mg_of X G a8) b8 
  have F9 := fun_mk (st := s_lowered) l9 c9 k9
  have b9 := F9.binds (ps := ["above", "low"]) fun _ _ _ _ _ _ us hl => match us, hl with | [_, _], _ => rfl
  have g_lowered := h_lowered (P := l.prog) (w := w) (base := base) F9 (PySem.W.mg_of X G a9) b9 z_abs g_common
  have F10 := fun_mk (st := s_plus) l10 c10 k10
  have b10 := F10.binds (ps := ["one", "other"]) fun _ _ _ _ _ _ us hl => match us, hl with | [_, _], _ => rfl
  have g_plus := h_plus (P := l.prog) (w := w) (base := base) F10 (PySem.W.mg_of X G a10) b10 g_lowered
  have F11 := fun_mk (st := s_minus) l11 c11 k11
  have b11 := F11.binds (ps := ["one", "other"]) fun _ _ _ _ _ _ us hl => match us, hl with | [_, _], _ => rfl
  have g_minus := h_minus (P := l.prog) (w := w) (base := base) F11 (PySem.W.mg_of X G a11) b11 g_lowered
  have F12 := fun_mk (st := s_times) l12 c12 k12
  have b12 := F12.binds (ps := ["one", "other"]) fun _ _ _ _ _ _ us hl => match us, hl with | [_, _], _ => rfl
  have g_times := h_times (P := l.prog) (w := w) (base := base) F12 (PySem.W.mg_of X G a12) b12 g_lowered
  have F13 := fun_mk (st := s_need_weights) l13 c13 k13
  have b13 := F13.binds (ps := ["rows", "columns", "value"]) fun _ _ _ _ _ _ us hl => match us, hl with | [_, _, _], _ => rfl
  have g_need_weights := h_need_weights (P := l.prog) (w := w) (base := base) F13 (PySem.W.mg_of X G a13) b13 z_all z_isinstance z_len z_tuple c_MOST_WEIGHT g_is_in g_need_board
  have F14 := fun_mk (st := s_sums_of) l14 c14 k14
  have b14 := F14.binds (ps := ["some"]) fun _ _ _ _ _ _ us hl => match us, hl with | [_], _ => rfl
  have g_sums_of := h_sums_of (P := l.prog) (w := w) (base := base) F14 (PySem.W.mg_of X G a14) b14 z_dict
  have F15 := fun_mk (st := s_ahead_of) l15 c15 k15
  have b15 := F15.binds (ps := ["weights", "one", "other"]) fun _ _ _ _ _ _ us hl => match us, hl with | [_, _, _], _ => rfl
  have g_ahead_of := h_ahead_of (P := l.prog) (w := w) (base := base) F15 (PySem.W.mg_of X G a15) b15 z_sum g_lowered g_plus g_sums_of
  have F16 := fun_mk (st := s_need_lines) l16 c16 k16
  have b16 := F16.binds (ps := ["rows", "columns", "value"]) fun _ _ _ _ _ _ us hl => match us, hl with | [_, _, _], _ => rfl
  have g_need_lines := h_need_lines (P := l.prog) (w := w) (base := base) F16 (PySem.W.mg_of X G a16) b16 z_all z_isinstance z_tuple z_zip g_is_in
  have F17 := fun_mk (st := s_ahead) l17 c17 k17
  have b17 := F17.binds (ps := ["rows", "columns", "weights", "one", "other"]) fun _ _ _ _ _ _ us hl => match us, hl with | [_, _, _, _, _], _ => rfl
  have g_ahead := h_ahead (P := l.prog) (w := w) (base := base) F17 (PySem.W.mg_of X G a17) b17 z_any g_ahead_of g_need_lines g_need_weights
  have F18 := fun_mk (st := s_share_of) l18 c18 k18
  have b18 := F18.binds (ps := ["weights", "goal"]) fun _ _ _ _ _ _ us hl => match us, hl with | [_, _], _ => rfl
  have g_share_of := h_share_of (P := l.prog) (w := w) (base := base) F18 (PySem.W.mg_of X G a18) b18 z_enumerate g_ahead_of g_layers_of g_times
  have F19 := fun_mk (st := s_long_share) l19 c19 k19
  have b19 := F19.binds (ps := ["rows", "columns", "weights", "goal"]) fun _ _ _ _ _ _ us hl => match us, hl with | [_, _, _, _], _ => rfl
  have g_long_share := h_long_share (P := l.prog) (w := w) (base := base) F19 (PySem.W.mg_of X G a19) b19 g_need_picture g_need_weights g_share_of
  have F20 := fun_mk (st := s_need_cell) l20 c20 k20
  have b20 := F20.binds (ps := ["rows", "columns", "value"]) fun _ _ _ _ _ _ us hl => match us, hl with | [_, _, _], _ => rfl
  have g_need_cell := h_need_cell (P := l.prog) (w := w) (base := base) F20 (PySem.W.mg_of X G a20) b20 z_isinstance z_len z_tuple g_is_in
  have F21 := fun_mk (st := s_cell_of) l21 c21 k21
  have b21 := F21.binds (ps := ["rows", "weights", "cell"]) fun _ _ _ _ _ _ us hl => match us, hl with | [_, _, _], _ => rfl
  have g_cell_of := h_cell_of (P := l.prog) (w := w) (base := base) F21 (PySem.W.mg_of X G a21) b21 g_lowered
  have F22 := fun_mk (st := s_cell_share) l22 c22 k22
  have b22 := F22.binds (ps := ["rows", "columns", "weights", "cell"]) fun _ _ _ _ _ _ us hl => match us, hl with | [_, _, _, _], _ => rfl
  have g_cell_share := h_cell_share (P := l.prog) (w := w) (base := base) F22 (PySem.W.mg_of X G a22) b22 g_cell_of g_need_cell g_need_weights
  have F23 := fun_mk (st := s_mean_black) l23 c23 k23
  have b23 := F23.binds (ps := ["rows", "columns", "weights"]) fun _ _ _ _ _ _ us hl => match us, hl with | [_, _, _], _ => rfl
  have g_mean_black := h_mean_black (P := l.prog) (w := w) (base := base) F23 (PySem.W.mg_of X G a23) b23 z_range g_cell_of g_need_weights g_plus
  have F24 := fun_mk (st := s_over_rest) l24 c24 k24
  have b24 := F24.binds (ps := ["row", "free", "column", "whole"]) fun _ _ _ _ _ _ us hl => match us, hl with | [_, _, _, _], _ => rfl
  have g_over_rest := h_over_rest (P := l.prog) (w := w) (base := base) F24 (PySem.W.mg_of X G a24) b24 g_lowered g_plus g_times
  have F25 := fun_mk (st := s_both_of) l25 c25 k25
  have b25 := F25.binds (ps := ["rows", "weights", "one", "other"]) fun _ _ _ _ _ _ us hl => match us, hl with | [_, _, _, _], _ => rfl
  have g_both_of := h_both_of (P := l.prog) (w := w) (base := base) F25 (PySem.W.mg_of X G a25) b25 z_len z_sorted g_ahead_of g_lowered g_over_rest g_plus g_times
  have F26 := fun_mk (st := s_both_share) l26 c26 k26
  have b26 := F26.binds (ps := ["rows", "columns", "weights", "one", "other"]) fun _ _ _ _ _ _ us hl => match us, hl with | [_, _, _, _, _], _ => rfl
  have g_both_share := h_both_share (P := l.prog) (w := w) (base := base) F26 (PySem.W.mg_of X G a26) b26 g_both_of g_need_cell g_need_weights
  have F27 := fun_mk (st := s_variance_black) l27 c27 k27
  have b27 := F27.binds (ps := ["rows", "columns", "weights"]) fun _ _ _ _ _ _ us hl => match us, hl with | [_, _, _], _ => rfl
  have g_variance_black := h_variance_black (P := l.prog) (w := w) (base := base) F27 (PySem.W.mg_of X G a27) b27 z_range g_both_of g_cell_of g_minus g_need_weights g_plus g_times
  have F28 := fun_mk (st := s_part_share) l28 c28 k28
  have b28 := F28.binds (ps := ["rows", "columns", "weights", "high", "wide"]) fun _ _ _ _ _ _ us hl => match us, hl with | [_, _, _, _, _], _ => rfl
  have g_part_share := h_part_share (P := l.prog) (w := w) (base := base) F28 (PySem.W.mg_of X G a28) b28 g_ahead_of g_need_lines g_need_weights
  have F29 := fun_mk (st := s__law_taken) l29 c29 k29
  have b29 := F29.binds (ps := ["_law_row", "_law_many"]) fun _ _ _ _ _ _ us hl => match us, hl with | [_, _], _ => rfl
  have g__law_taken := h__law_taken (P := l.prog) (w := w) (base := base) F29 (PySem.W.mg_of X G a29) b29 z_int z_len
  have F30 := fun_mk (st := s__law_alike) l30 c30 k30
  have b30 := F30.binds (ps := ["_law_found", "_law_due"]) fun _ _ _ _ _ _ us hl => match us, hl with | [_, _], _ => rfl
  have g__law_alike := h__law_alike (P := l.prog) (w := w) (base := base) F30 (PySem.W.mg_of X G a30) b30 z_bool z_int z_isinstance z_len z_list z_range z_str z_tuple
  have F31 := fun_mk (st := s__law_mixed) l31 c31 k31
  have b31 := F31.binds (ps := ["_law_row", "_law_some"]) fun _ _ _ _ _ _ us hl => match us, hl with | [_, _], _ => rfl
  have g__law_mixed := h__law_mixed (P := l.prog) (w := w) (base := base) F31 (PySem.W.mg_of X G a31) b31 z_len z_list z_range g__law_taken
  have F32 := fun_mk (st := s__law_stroke) l32 c32 k32
  have b32 := F32.binds (ps := ["_law_picture", "_law_line"]) fun _ _ _ _ _ _ us hl => match us, hl with | [_, _], _ => rfl
  have g__law_stroke := h__law_stroke (P := l.prog) (w := w) (base := base) F32 (PySem.W.mg_of X G a32) b32 z_len z_tuple
  have F33 := fun_mk (st := s__law_strokes) l33 c33 k33
  have b33 := F33.binds (ps := ["_law_picture", "_law_lines"]) fun _ _ _ _ _ _ us hl => match us, hl with | [_, _], _ => rfl
  have g__law_strokes := h__law_strokes (P := l.prog) (w := w) (base := base) F33 (PySem.W.mg_of X G a33) b33 g__law_stroke
  have F34 := fun_mk (st := s__law_common) l34 c34 k34
  have b34 := F34.binds (ps := ["_law_one", "_law_other"]) fun _ _ _ _ _ _ us hl => match us, hl with | [_, _], _ => rfl
  have g__law_common := h__law_common (P := l.prog) (w := w) (base := base) F34 (PySem.W.mg_of X G a34) b34 z_abs
  have F35 := fun_mk (st := s__law_share) l35 c35 k35
  have b35 := F35.binds (ps := ["_law_above", "_law_low"]) fun _ _ _ _ _ _ us hl => match us, hl with | [_, _], _ => rfl
  have g__law_share := h__law_share (P := l.prog) (w := w) (base := base) F35 (PySem.W.mg_of X G a35) b35 g__law_common
  have F36 := fun_mk (st := s__law_plus) l36 c36 k36
  have b36 := F36.binds (ps := ["_law_one", "_law_other"]) fun _ _ _ _ _ _ us hl => match us, hl with | [_, _], _ => rfl
  have g__law_plus := h__law_plus (P := l.prog) (w := w) (base := base) F36 (PySem.W.mg_of X G a36) b36 g__law_share
  have F37 := fun_mk (st := s__law_fact) l37 c37 k37
  have b37 := F37.binds (ps := ["_law_many"]) fun _ _ _ _ _ _ us hl => match us, hl with | [_], _ => rfl
  have g__law_fact := h__law_fact (P := l.prog) (w := w) (base := base) F37 (PySem.W.mg_of X G a37) b37 z_range
  have F38 := fun_mk (st := s_law) l38 c38 k38
  exact law_end (g_law (P := l.prog) (w := w) (base := base) F38 z_len z_list z_range z_sum z_tuple g__law_alike g__law_fact g__law_mixed g__law_plus g__law_share g__law_strokes g__law_taken g_ahead g_both_share g_cell_share g_is_free g_long_share g_mean_black g_part_share g_variance_black) hF
theorem walk {l : PySem.W.OpenLaw} {q : Program} {loose : List Str} {XP : (Str → Option Value) → Heap → Prop} {YP : World → Heap → Prop} {d : DefRec} {K : Params → PySem.W.Frag} (hn : l.most = some 63) (hdf : d.params.defaults = [])
    (hY : ∀ (w : World) (h : Heap), YP w h → (K w.params).In h)
    (F : ∀ (w : World) (mg : Str → Option Value) (fa : Addr) (h : Heap), (K w.params).In h → h.Ns mainGlobals mg → mg d.name = some (.ref fa) →
      ∃ fd : FuncData, (∀ (s : Shared) (u : Value), BindsTo s fd ⟨[u], []⟩ [("_law_script", u)]) ∧ ∀ base : Heap, (K w.params).In base → base.Ns mainGlobals mg → FnOk l.prog w (K w.params) mg base CX0 10 fa fd ["_law_script"] (PD.spLaw (K w.params))) :
    PySem.W.WalkO q loose XP YP l.row.toRowW d [] (fun f vs => PySem.call f vs) :=
  L2.walk_of (n := 63) (k := 10) (x := "_law_script") (CX := fun _ => CX0) (sp := fun w => PD.spLaw (K w.params)) hn (by decide) hdf ⟨rfl, by decide, by decide⟩ hY F (fun _ _ a ns hl _ hS => ⟨a, ns, rfl, hS, hl, fun _ => rfl⟩) fun _ _ _ _ _ z => z
end K16
open PySem PySem.W PyProof.Rows
set_option maxRecDepth 100000 in
set_option maxHeartbeats 0 in
theorem PySem.Challenge.cw_chancestrokes_k16_whole_even_weights_holds : PySem.Challenge.rw_chancestrokes_k16_whole_even_weights.Holds := by
  w_on; o_law; k_head; (case hw => w_witness2)
  k_fill
  refine K16.walk (l := PySem.Challenge.rw_chancestrokes_k16_whole_even_weights) rfl rfl (fun w h Y => PySem.W.kIn_of Y) ?F
  case F =>
    intro w mg fa h KX G hmg
    refine' K16.all_mk KX G hmg ?a0 ?l0 ?c0 ?k0 ?a1 ?l1 ?c1 ?k1 ?a2 ?l2 ?c2 ?k2 ?a3 ?l3 ?c3 ?k3 ?a4 ?l4 ?c4 ?k4 ?a5 ?l5 ?c5 ?k5 ?a6 ?l6 ?c6 ?k6 ?a7 ?l7 ?c7 ?k7 ?a8 ?l8 ?c8 ?k8 ?a9 ?l9 ?c9 ?k9 ?a10 ?l10 ?c10 ?k10 ?a11 ?l11 ?c11 ?k11 ?a12 ?l12 ?c12 ?k12 ?a13 ?l13 ?c13 ?k13 ?a14 ?l14 ?c14 ?k14 ?a15 ?l15 ?c15 ?k15 ?a16 ?l16 ?c16 ?k16 ?a17 ?l17 ?c17 ?k17 ?a18 ?l18 ?c18 ?k18 ?a19 ?l19 ?c19 ?k19 ?a20 ?l20 ?c20 ?k20 ?a21 ?l21 ?c21 ?k21 ?a22 ?l22 ?c22 ?k22 ?a23 ?l23 ?c23 ?k23 ?a24 ?l24 ?c24 ?k24 ?a25 ?l25 ?c25 ?k25 ?a26 ?l26 ?c26 ?k26 ?a27 ?l27 ?c27 ?k27 ?a28 ?l28 ?c28 ?k28 ?a29 ?l29 ?c29 ?k29 ?a30 ?l30 ?c30 ?k30 ?a31 ?l31 ?c31 ?k31 ?a32 ?l32 ?c32 ?k32 ?a33 ?l33 ?c33 ?k33 ?a34 ?l34 ?c34 ?k34 ?a35 ?l35 ?c35 ?k35 ?a36 ?l36 ?c36 ?k36 ?a37 ?l37 ?c37 ?k37 ?a38 ?l38 ?c38 ?k38 ?y_abs ?y_all ?y_any ?y_bool ?y_dict ?y_enumerate ?y_int ?y_isinstance ?y_len ?y_list ?y_range ?y_sorted ?y_str ?y_sum ?y_tuple ?y_zip ?x_BLACK ?x_MOST_SIDE ?x_MOST_WEIGHT ?x_WHITE K16.law_true
    (case a0 => k_is)
    (case l0 => k_is)
    (case c0 => k_is)
    (case k0 => k_is)
    (case a1 => k_is)
    (case l1 => k_is)
    (case c1 => k_is)
    (case k1 => k_is)
    (case a2 => k_is)
    (case l2 => k_is)
    (case c2 => k_is)
    (case k2 => k_is)
    (case a3 => k_is)
    (case l3 => k_is)
    (case c3 => k_is)
    (case k3 => k_is)
    (case a4 => k_is)
    (case l4 => k_is)
    (case c4 => k_is)
    (case k4 => k_is)
    (case a5 => k_is)
    (case l5 => k_is)
    (case c5 => k_is)
    (case k5 => k_is)
    (case a6 => k_is)
    (case l6 => k_is)
    (case c6 => k_is)
    (case k6 => k_is)
    (case a7 => k_is)
    (case l7 => k_is)
    (case c7 => k_is)
    (case k7 => k_is)
    (case a8 => k_is)
    (case l8 => k_is)
    (case c8 => k_is)
    (case k8 => k_is)
    (case a9 => k_is)
    (case l9 => k_is)
    (case c9 => k_is)
    (case k9 => k_is)
    (case a10 => k_is)
    (case l10 => k_is)
    (case c10 => k_is)
    (case k10 => k_is)
    (case a11 => k_is)
    (case l11 => k_is)
    (case c11 => k_is)
    (case k11 => k_is)
    (case a12 => k_is)
    (case l12 => k_is)
    (case c12 => k_is)
    (case k12 => k_is)
    (case a13 => k_is)
    (case l13 => k_is)
    (case c13 => k_is)
    (case k13 => k_is)
    (case a14 => k_is)
    (case l14 => k_is)
    (case c14 => k_is)
    (case k14 => k_is)
    (case a15 => k_is)
    (case l15 => k_is)
    (case c15 => k_is)
    (case k15 => k_is)
    (case a16 => k_is)
    (case l16 => k_is)
    (case c16 => k_is)
    (case k16 => k_is)
    (case a17 => k_is)
    (case l17 => k_is)
    (case c17 => k_is)
    (case k17 => k_is)
    (case a18 => k_is)
    (case l18 => k_is)
    (case c18 => k_is)
    (case k18 => k_is)
    (case a19 => k_is)
    (case l19 => k_is)
    (case c19 => k_is)
    (case k19 => k_is)
    (case a20 => k_is)
    (case l20 => k_is)
    (case c20 => k_is)
    (case k20 => k_is)
    (case a21 => k_is)
    (case l21 => k_is)
    (case c21 => k_is)
    (case k21 => k_is)
    (case a22 => k_is)
    (case l22 => k_is)
    (case c22 => k_is)
    (case k22 => k_is)
    (case a23 => k_is)
    (case l23 => k_is)
    (case c23 => k_is)
    (case k23 => k_is)
    (case a24 => k_is)
    (case l24 => k_is)
    (case c24 => k_is)
    (case k24 => k_is)
    (case a25 => k_is)
    (case l25 => k_is)
    (case c25 => k_is)
    (case k25 => k_is)
    (case a26 => k_is)
    (case l26 => k_is)
    (case c26 => k_is)
    (case k26 => k_is)
    (case a27 => k_is)
    (case l27 => k_is)
    (case c27 => k_is)
    (case k27 => k_is)
    (case a28 => k_is)
    (case l28 => k_is)
    (case c28 => k_is)
    (case k28 => k_is)
    (case a29 => k_is)
    (case l29 => k_is)
    (case c29 => k_is)
    (case k29 => k_is)
    (case a30 => k_is)
    (case l30 => k_is)
    (case c30 => k_is)
    (case k30 => k_is)
    (case a31 => k_is)
    (case l31 => k_is)
    (case c31 => k_is)
    (case k31 => k_is)
    (case a32 => k_is)
    (case l32 => k_is)
    (case c32 => k_is)
    (case k32 => k_is)
    (case a33 => k_is)
    (case l33 => k_is)
    (case c33 => k_is)
    (case k33 => k_is)
    (case a34 => k_is)
    (case l34 => k_is)
    (case c34 => k_is)
    (case k34 => k_is)
    (case a35 => k_is)
    (case l35 => k_is)
    (case c35 => k_is)
    (case k35 => k_is)
    (case a36 => k_is)
    (case l36 => k_is)
    (case c36 => k_is)
    (case k36 => k_is)
    (case a37 => k_is)
    (case l37 => k_is)
    (case c37 => k_is)
    (case k37 => k_is)
    (case a38 => k_is)
    (case l38 => k_is)
    (case c38 => k_is)
    (case k38 => k_is)
    (case y_abs => k_is)
    (case y_all => k_is)
    (case y_any => k_is)
    (case y_bool => k_is)
    (case y_dict => k_is)
    (case y_enumerate => k_is)
    (case y_int => k_is)
    (case y_isinstance => k_is)
    (case y_len => k_is)
    (case y_list => k_is)
    (case y_range => k_is)
    (case y_sorted => k_is)
    (case y_str => k_is)
    (case y_sum => k_is)
    (case y_tuple => k_is)
    (case y_zip => k_is)
    (case x_BLACK => k_is)
    (case x_MOST_SIDE => k_is)
    (case x_MOST_WEIGHT => k_is)
    (case x_WHITE => k_is)
